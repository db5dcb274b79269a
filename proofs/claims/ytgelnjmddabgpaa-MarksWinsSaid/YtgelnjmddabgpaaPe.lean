/-
  Walks: scales, marks, envelopes made of numbers (bateriakit).
  Walks: nights made of numbers (bateriakit).
  Nights made of numbers are nights that may be. The plain law.
  Walks: what is known of a night, or its first error (marks).
  Sorting, as the library does it.
  Walks: rows sorted; the points of a school in a matter (marks).
  Walks: the points of a school in a matter (marks).
  Walks: standings, and which of two is ahead (marks).
  Walks: the judges of whom nothing is known (marks).
-/
import Derived.Test.YtgelnjmddabgpaaPd
import Derived.CallsIn
import Derived.RangeFuncLeaves
import Derived.RangeFuncRecord
import Derived.OrdersIn
import Derived.Below
import Derived.Laws.World
import Derived.Laws.StructEq
import Derived.Laws.Append
import Derived.MapKept
import Derived.ProofKit
import Derived.Carry
import Derived.Handed
import Derived.ChangeCalls
import Derived.RangeFuncIn
import Derived.RangeFuncNested
import Derived.Test.YtgelnjmddabgpaaProg
import Derived.KernelRfl
import Derived.IntWalk
import Derived.Test.YtgelnjmddabgpaaRows
import Derived.Sort.OwnSortedInts
import Derived.Lib.SlicesCompact
import Derived.Shelf.Sort.Plain
import Derived.Shelf.Slices.In.SortNone
import Derived.Shelf.Small.Bits
import Derived.JoinedOf
set_option linter.unusedSimpArgs false
set_option linter.unusedVariables false
namespace Go.Proofs.Ytgelnjmddabgpaa
open Go Go.RowKit
set_option maxRecDepth 100000
theorem mem2 {a b r : Int} (h : r ∈ [a, b]) : r = a ∨ r = b := by simpa using h
theorem mem3 {a b c r : Int} (h : r ∈ [a, b, c]) : r = a ∨ r = b ∨ r = c := by simpa using h
noncomputable def scaleD (n : Int) : D Scale := dbind (mid 1 n) fun a => dbind (mid 1 3) fun mt => dbind (mid 1 3) fun jd => dbind (anyOf [0, 70, 98]) fun lo => dbind (roll jd) fun dr => dbind (anyOf [2, 30]) fun e => dbind (mid lo (min 100 (lo + e))) fun hi => dbind (orderD mt.toNat) fun od => dret ⟨a, mt, jd, dr, lo, hi, od⟩
theorem chkOrd_of {m : Int} : ∀ {l p : List Int}, (∀ x, x ∈ l → 0 ≤ x ∧ x ≤ m - 1) → l.Nodup → (∀ x, x ∈ l → x ∉ p) → chkOrd m p l = 0 := by
  intro l
  induction l with
  | nil => intro p _ _ _; rfl
  | cons n l ih =>
    intro p h1 h2 h3
    obtain ⟨a1, a2⟩ := List.nodup_cons.1 h2
    have hn := h1 n (by simp)
    have hin : inR n 0 (m - 1) = true := by rw [inR_true]; exact hn
    have hh : has p n = false := by
      cases h : has p n with
      | false => rfl
      | true => exact absurd (has_iff.1 h) (h3 n (by simp))
    simp only [chkOrd, hin, hh]
    refine ih (fun x hx => h1 x (by simp [hx])) a2 (fun x hx hp => ?_)
    rcases List.mem_append.1 hp with hp | hp
    · exact h3 x (by simp [hx]) hp
    · simp only [List.mem_singleton] at hp
      subst hp
      exact a1 hx
theorem nodup_range (n : Nat) : ((List.range n).map fun (i : Nat) => (i : Int)).Nodup := by
  rw [List.nodup_iff_pairwise_ne, List.pairwise_map]
  refine List.Pairwise.imp ?_ (List.nodup_range (n := n))
  intro a b h e
  exact h (by omega)
theorem order_ok {mt : Int} {od : List Int} (h : od.Perm ((List.range mt.toNat).map fun (i : Nat) => (i : Int))) : chkOrd mt [] od = 0 := by
  refine chkOrd_of (fun x hx => ?_) (h.nodup_iff.2 (nodup_range _)) (fun x _ hx => by cases hx)
  obtain ⟨i, hi, rfl⟩ := List.mem_map.1 (h.mem_iff.1 hx)
  have := List.mem_range.1 hi
  omega
theorem scaleD_ok (n : Int) (h1 : 1 ≤ n) (h2 : n ≤ 8) : Holds (scaleD n) fun s => chkSc s = 0 ∧ s.schools ≤ n ∧ s.matters ≤ 3 ∧ s.judges ≤ 3 := by
  unfold scaleD
  refine (mid_bd 1 n h1).bind fun a ha => (mid_bd 1 3 (by omega)).bind fun mt hmt => (mid_bd 1 3 (by omega)).bind fun jd hjd => (anyOf_mem [0, 70, 98] (by simp)).bind fun lo hlo => (roll_bd jd).bind fun dr hdr => (anyOf_mem [2, 30] (by simp)).bind fun e he => ?_
  have hlo' : 0 ≤ lo ∧ lo ≤ 98 := by rcases mem3 hlo with h | h | h <;> omega
  have he' : 2 ≤ e ∧ e ≤ 30 := by rcases mem2 he with h | h <;> omega
  refine (mid_bd lo (min 100 (lo + e)) (by omega)).bind fun hi hhi => (orderD_perm mt.toNat).bind fun od hod => .ret ⟨?_, by simp only []; omega, by simp only []; omega, by simp only []; omega⟩
  have hl : od.length = mt.toNat := by rw [hod.length_eq]; simp
  have hr : scRange ⟨a, mt, jd, dr, lo, hi, od⟩ = true := by
    simp only [scRange, Bool.and_eq_true, inR_true]
    omega
  unfold chkSc
  rw [hr]
  simp only [Bool.not_true, Bool.false_eq_true, if_false]
  rw [if_neg (by omega), if_neg (by omega)]
  exact order_ok hod
noncomputable def marksC (s : Scale) : Nat → List Int → D (List Int)
  | 0, acc => dret acc
  | k + 1, acc => dbind (mid s.low s.high) fun m => dbind (anyOf [s.low, s.high, m]) fun x => marksC s k (acc ++ [x])
noncomputable def marksD (s : Scale) : D (List Int) := marksC s s.schools.toNat []
theorem marksC_ok {s : Scale} (h : s.low ≤ s.high) : ∀ (k : Nat) (acc : List Int), (∀ x, x ∈ acc → s.low ≤ x ∧ x ≤ s.high) → Holds (marksC s k acc) fun l => l.length = acc.length + k ∧ ∀ x, x ∈ l → s.low ≤ x ∧ x ≤ s.high := by
  intro k
  induction k with
  | zero => intro acc ha; exact .ret ⟨rfl, ha⟩
  | succ k ih =>
    intro acc ha
    refine (mid_bd s.low s.high h).bind fun m hm => (anyOf_mem [s.low, s.high, m] (by simp)).bind fun x hx => (ih (acc ++ [x]) fun y hy => ?_).mono fun l hl => ⟨by rw [hl.1]; simp; omega, hl.2⟩
    rcases List.mem_append.1 hy with hy | hy
    · exact ha y hy
    · simp only [List.mem_singleton] at hy
      subst hy
      rcases mem3 hx with h | h | h <;> omega
theorem marksD_ok {s : Scale} (hv : s.V) : Holds (marksD s) fun l => (l.length : Int) = s.schools ∧ ∀ x, x ∈ l → s.low ≤ x ∧ x ≤ s.high := by
  have q := hv.sc
  exact (marksC_ok hv.lh s.schools.toNat [] (fun x hx => by cases hx)).mono fun l hl => ⟨by rw [hl.1]; simp; omega, hl.2⟩
def sealedE (s : Scale) (m j : Int) (l : List Int) : Envl := ⟨m, j, l, (sealAns s (m, j) l).1⟩
set_option maxHeartbeats 8000000 in
theorem ScaleOf_pc (Y : YEnv) (σ : Sg) (d : Nat) (b : Int) (hd : σ.store[d]? = some (some [.int .u64 b])) (n : Int) (h1 : 1 ≤ n) (h2 : n ≤ 8) :
    PC Try.prog Y 10 [.ptr d 0, I n] σ (scPV (scaleD n b).1) (σ.setVar d [.int .u64 (scaleD n b).2]) := by
  refine PC_of_W Try.func10 rfl (by kernel_rfl) Try.ntmps10 (by simp) fun hcl hca => ?_
  have hlt := lt_of_get hd
  obtain ⟨a, ha⟩ : ∃ zz, (mid 1 n b).1 = zz := ⟨_, rfl⟩
  obtain ⟨b1, hb1⟩ : ∃ zz, (mid 1 n b).2 = zz := ⟨_, rfl⟩
  have da := mid_bd 1 n h1 b
  simp only [ha] at da
  obtain ⟨mt, hmt⟩ : ∃ zz, (mid 1 3 b1).1 = zz := ⟨_, rfl⟩
  obtain ⟨b2, hb2⟩ : ∃ zz, (mid 1 3 b1).2 = zz := ⟨_, rfl⟩
  have dmt := mid_bd 1 3 (by omega) b1
  simp only [hmt] at dmt
  obtain ⟨jd, hjd⟩ : ∃ zz, (mid 1 3 b2).1 = zz := ⟨_, rfl⟩
  obtain ⟨b3, hb3⟩ : ∃ zz, (mid 1 3 b2).2 = zz := ⟨_, rfl⟩
  have djd := mid_bd 1 3 (by omega) b2
  simp only [hjd] at djd
  obtain ⟨lo, hlo⟩ : ∃ zz, (anyOf [0, 70, 98] b3).1 = zz := ⟨_, rfl⟩
  obtain ⟨b4, hb4⟩ : ∃ zz, (anyOf [0, 70, 98] b3).2 = zz := ⟨_, rfl⟩
  have dlo := anyOf_mem [0, 70, 98] (by simp) b3
  simp only [hlo] at dlo
  obtain ⟨dr, hdr⟩ : ∃ zz, (roll jd b4).1 = zz := ⟨_, rfl⟩
  obtain ⟨b5, hb5⟩ : ∃ zz, (roll jd b4).2 = zz := ⟨_, rfl⟩
  have ddr := roll_bd jd b4
  simp only [hdr] at ddr
  obtain ⟨e, he⟩ : ∃ zz, (anyOf [2, 30] b5).1 = zz := ⟨_, rfl⟩
  obtain ⟨b6, hb6⟩ : ∃ zz, (anyOf [2, 30] b5).2 = zz := ⟨_, rfl⟩
  have de := anyOf_mem [2, 30] (by simp) b5
  simp only [he] at de
  have hlo' : 0 ≤ lo ∧ lo ≤ 98 := by rcases mem3 dlo with h | h | h <;> omega
  have he' : 2 ≤ e ∧ e ≤ 30 := by rcases mem2 de with h | h <;> omega
  obtain ⟨mtn, hmtn⟩ : ∃ z : Nat, mt = z := ⟨mt.toNat, by omega⟩
  subst hmtn
  obtain ⟨hi, hhi⟩ : ∃ zz, (mid lo (min 100 (lo + e)) b6).1 = zz := ⟨_, rfl⟩
  obtain ⟨b7, hb7⟩ : ∃ zz, (mid lo (min 100 (lo + e)) b6).2 = zz := ⟨_, rfl⟩
  have dhi := mid_bd lo (min 100 (lo + e)) (by omega) b6
  simp only [hhi] at dhi
  obtain ⟨od, hod⟩ : ∃ zz, (orderD mtn b7).1 = zz := ⟨_, rfl⟩
  obtain ⟨b8, hb8⟩ : ∃ zz, (orderD mtn b7).2 = zz := ⟨_, rfl⟩
  have dod := orderD_perm mtn b7
  simp only [hod] at dod
  have hmin : (if (100 : Int) ≤ lo + e then 100 else lo + e) = min 100 (lo + e) := by split <;> omega
  have hres : scaleD n b = (⟨a, mtn, jd, dr, lo, hi, od⟩, b8) := by
    simp only [scaleD, dbind, ha, hb1, hmt, hb2, hjd, hb3, hlo, hb4, hdr, hb5, he, hb6, hhi, hb7, Int.toNat_natCast, hod, hb8, dret]
  rw [hres]
  refine W_seq fun kz1 kq1 => ?_
  refine W_region [0, 1, 4] fun R hR => ?_   -- r0
  simp only [go_sem, ldS_at hd, stX_at hd, ldS_sv hlt, stX_sv hlt, sv_ext hlt, sv_ext_sv hlt, ha, hb1, hmt, hb2, hjd, hb3, hlo, hb4, hdr, hb5, he, hb6, hhi, hb7, hod, hb8]
  refine hR _ _ (kq1 _ _ ?_); clear hR R; try clear kq1 kz1
  try simp only [go_sem, ldS_at hd, stX_at hd, ldS_sv hlt, stX_sv hlt, sv_ext hlt, sv_ext_sv hlt, ha, hb1, hmt, hb2, hjd, hb3, hlo, hb4, hdr, hb5, he, hb6, hhi, hb7, hod, hb8]
  refine W_seq fun kz2 kq2 => ?_
  refine W_region [0, 4, 5] fun R hR => ?_   -- r1
  simp only [go_sem, ldS_at hd, stX_at hd, ldS_sv hlt, stX_sv hlt, sv_ext hlt, sv_ext_sv hlt, ha, hb1, hmt, hb2, hjd, hb3, hlo, hb4, hdr, hb5, he, hb6, hhi, hb7, hod, hb8]
  refine GCall_of (Mid_pc Y _ d b (by first | exact hd | exact sv_get hlt | exact get_svx hlt | exact get_extx hd) 1 n (by omega) (by omega) (by omega) (by omega)) ?_   -- t8
  simp only [go_sem, ldS_at hd, stX_at hd, ldS_sv hlt, stX_sv hlt, sv_ext hlt, sv_ext_sv hlt, ha, hb1, hmt, hb2, hjd, hb3, hlo, hb4, hdr, hb5, he, hb6, hhi, hb7, hod, hb8]
  refine GCall_of (Mid_pc Y _ d b1 (by first | exact hd | exact sv_get hlt | exact get_svx hlt | exact get_extx hd) 1 3 (by omega) (by omega) (by omega) (by omega)) ?_   -- t10
  simp only [go_sem, ldS_at hd, stX_at hd, ldS_sv hlt, stX_sv hlt, sv_ext hlt, sv_ext_sv hlt, ha, hb1, hmt, hb2, hjd, hb3, hlo, hb4, hdr, hb5, he, hb6, hhi, hb7, hod, hb8]
  refine GCall_of (Mid_pc Y _ d b2 (by first | exact hd | exact sv_get hlt | exact get_svx hlt | exact get_extx hd) 1 3 (by omega) (by omega) (by omega) (by omega)) ?_   -- t12
  simp only [go_sem, ldS_at hd, stX_at hd, ldS_sv hlt, stX_sv hlt, sv_ext hlt, sv_ext_sv hlt, ha, hb1, hmt, hb2, hjd, hb3, hlo, hb4, hdr, hb5, he, hb6, hhi, hb7, hod, hb8]
  refine GCall_of (Any_pc Y _ d b3 (by first | exact hd | exact sv_get hlt | exact get_svx hlt | exact get_extx hd) [0, 70, 98] (by simp) (by simp)) ?_   -- t15
  simp only [go_sem, ldS_at hd, stX_at hd, ldS_sv hlt, stX_sv hlt, sv_ext hlt, sv_ext_sv hlt, ha, hb1, hmt, hb2, hjd, hb3, hlo, hb4, hdr, hb5, he, hb6, hhi, hb7, hod, hb8]
  refine hR _ _ (kq2 _ _ ?_); clear hR R; try clear kq2 kz2
  try simp only [go_sem, ldS_at hd, stX_at hd, ldS_sv hlt, stX_sv hlt, sv_ext hlt, sv_ext_sv hlt, ha, hb1, hmt, hb2, hjd, hb3, hlo, hb4, hdr, hb5, he, hb6, hhi, hb7, hod, hb8]
  refine W_seq fun kz3 kq3 => ?_
  have hmin2 : min (100 : Int) (lo + e) = min 100 (lo + e) := rfl
  refine W_draw [4, 5] [0, 1, 2, 3, 4, 5, 6, 7, 8, 9, 10, 11, 12, 13, 14, 15, 16, 17, 18, 19, 20, 21, 22, 23, 24] [(4, 3), (4, 14), (5, 3), (5, 14), (6, 3), (6, 14), (7, 3), (7, 14), (8, 3), (8, 14), (9, 3), (10, 3), (15, 3), (15, 11), (15, 14), (16, 3), (16, 11), (16, 14), (17, 3), (17, 11), (17, 14), (19, 11), (19, 14), (19, 18)] [[], [], [1], [0, 1, 2], [], [], [5], [], [7], [], [], [0, 1, 2, 3, 9, 10], [0, 1, 2, 3, 7, 8, 9, 10, 11], [0, 1, 2, 3, 7, 8, 9, 10, 11, 12], [0, 1, 2, 3, 4, 5, 6, 7, 8, 9, 10, 11, 12, 13], [], [], [16], [0, 1, 2, 3, 4, 5, 6, 7, 8, 9, 10, 11, 12, 13, 14, 15, 16, 17], [0, 1, 2, 3, 5, 6, 7, 8, 16, 17], [0, 1, 2, 3, 4, 5, 6, 7, 8, 9, 10, 11, 12, 13, 14, 15, 16, 17, 18, 19], [0, 1, 2, 3, 4, 5, 6, 7, 8, 9, 10, 11, 12, 13, 14, 15, 16, 17, 18, 19, 20], [0, 1, 2, 3, 4, 5, 6, 7, 8, 9, 10, 11, 12, 13, 14, 15, 16, 17, 18, 19, 20, 21], [0, 1, 2, 3, 4, 5, 6, 7, 8, 9, 10, 11, 12, 13, 14, 15, 16, 17, 18, 19, 20, 21, 22], [0, 1, 2, 3, 4, 5, 6, 7, 8, 9, 10, 11, 12, 13, 14, 15, 16, 17, 18, 19, 20, 21, 22, 23]] mixed (by kernel_rfl) fun R hR => ?_   -- r2
  simp only [go_sem, ldS_at hd, stX_at hd, ldS_sv hlt, stX_sv hlt, sv_ext hlt, sv_ext_sv hlt, ha, hb1, hmt, hb2, hjd, hb3, hlo, hb4, hdr, hb5, he, hb6, hhi, hb7, hod, hb8]
  refine GCall_of (Roll_pc Y _ d b4 (by first | exact hd | exact sv_get hlt | exact get_svx hlt | exact get_extx hd) jd (by omega)) ?_   -- t20
  simp only [go_sem, ldS_at hd, stX_at hd, ldS_sv hlt, stX_sv hlt, sv_ext hlt, sv_ext_sv hlt, ha, hb1, hmt, hb2, hjd, hb3, hlo, hb4, hdr, hb5, he, hb6, hhi, hb7, hod, hb8]
  refine GCall_of (Any_pc Y _ d b5 (by first | exact hd | exact sv_get hlt | exact get_svx hlt | exact get_extx hd) [2, 30] (by simp) (by simp)) ?_   -- t28
  simp only [go_sem, ldS_at hd, stX_at hd, ldS_sv hlt, stX_sv hlt, sv_ext hlt, sv_ext_sv hlt, ha, hb1, hmt, hb2, hjd, hb3, hlo, hb4, hdr, hb5, he, hb6, hhi, hb7, hod, hb8]
  try simp (disch := omega) only [wrapI]
  try simp only [hmin, hmin2]
  try simp (disch := omega) only [wrapI, wrapU]
  refine GCall_of (Mid_pc Y _ d b6 (by first | exact hd | exact sv_get hlt | exact get_svx hlt | exact get_extx hd) lo (min 100 (lo + e)) (by omega) (by omega) (by omega) (by omega)) ?_   -- t31
  simp only [go_sem, ldS_at hd, stX_at hd, ldS_sv hlt, stX_sv hlt, sv_ext hlt, sv_ext_sv hlt, ha, hb1, hmt, hb2, hjd, hb3, hlo, hb4, hdr, hb5, he, hb6, hhi, hb7, hod, hb8]
  try simp (disch := omega) only [wrapI, wrapU]
  refine GCall_of (Order_pc Y _ d b7 (by first | exact hd | exact sv_get hlt | exact get_svx hlt | exact get_extx hd) mtn (by omega)) ?_   -- t35
  simp only [go_sem, ldS_at hd, stX_at hd, ldS_sv hlt, stX_sv hlt, sv_ext hlt, sv_ext_sv hlt, ha, hb1, hmt, hb2, hjd, hb3, hlo, hb4, hdr, hb5, he, hb6, hhi, hb7, hod, hb8]
  try simp (disch := omega) only [wrapI, wrapU]
  try refine And.intro (by repeat' (first | refine And.intro ?_ ?_ | exact GOr_right (fun _ => by simp only [go_sem, ldS_at hd, stX_at hd, ldS_sv hlt, stX_sv hlt, sv_ext hlt, sv_ext_sv hlt, ha, hb1, hmt, hb2, hjd, hb3, hlo, hb4, hdr, hb5, he, hb6, hhi, hb7, hod, hb8]))) ?_
  refine hR _ _ (kq3 _ _ ?_); clear hR R; try clear kq3 kz3
  try simp only [go_sem, ldS_at hd, stX_at hd, ldS_sv hlt, stX_sv hlt, sv_ext hlt, sv_ext_sv hlt, ha, hb1, hmt, hb2, hjd, hb3, hlo, hb4, hdr, hb5, he, hb6, hhi, hb7, hod, hb8]
  refine W_seq fun kz4 kq4 => ?_
  refine W_region [4] fun R hR => ?_   -- r3
  simp only [go_sem, ldS_at hd, stX_at hd, ldS_sv hlt, stX_sv hlt, sv_ext hlt, sv_ext_sv hlt, ha, hb1, hmt, hb2, hjd, hb3, hlo, hb4, hdr, hb5, he, hb6, hhi, hb7, hod, hb8]
  refine hR _ _ (kq4 _ _ ?_); clear hR R; try clear kq4 kz4
  try simp only [go_sem, ldS_at hd, stX_at hd, ldS_sv hlt, stX_sv hlt, sv_ext hlt, sv_ext_sv hlt, ha, hb1, hmt, hb2, hjd, hb3, hlo, hb4, hdr, hb5, he, hb6, hhi, hb7, hod, hb8]
  refine W_ret ?_
  simp only [go_sem, ldS_at hd, stX_at hd, ldS_sv hlt, stX_sv hlt, sv_ext hlt, sv_ext_sv hlt, ha, hb1, hmt, hb2, hjd, hb3, hlo, hb4, hdr, hb5, he, hb6, hhi, hb7, hod, hb8]
  refine ⟨.inr (by trivial), ?_⟩
  first | refine Fin_set hcl (by simp only [go_sem]) (by show resPV Try.prog _ _ [.cell 4 26] = some _; simp only [resPV, go_sem]; rfl) (Wk_eq ?_ (by simp only [go_sem])) | refine Fin_set0 hcl (by simp only [go_sem]) (by show resPV Try.prog _ _ [.cell 4 26] = some _; simp only [resPV, go_sem]; rfl) (Wk_eq ?_ (by simp only [go_sem]))
  try simp only [go_sem]
  all_goals
    skip
set_option maxHeartbeats 2000000 in
theorem MarksOf_pc (Y : YEnv) (σ : Sg) (d : Nat) (b : Int) (hd : σ.store[d]? = some (some [.int .u64 b])) (s : Scale) (hv : s.V) :
    PC Try.prog Y 25 [.ptr d 0, scPV s] σ (ints (marksD s b).1) (σ.setVar d [.int .u64 (marksD s b).2]) := by
  refine PC_of_W Try.func25 rfl (by kernel_rfl) Try.ntmps25 (by simp) fun hcl hca => ?_
  have hlt := lt_of_get hd
  have q3 := hv.sc
  have q4 := hv.lo
  have q5 := hv.hi
  have q6 := hv.lh
  obtain ⟨N, hN⟩ : ∃ z : Nat, s.schools = z := ⟨s.schools.toNat, by omega⟩
  have hNi : (s.schools : Int) = (N : Int) := hN
  obtain ⟨res, hres⟩ : ∃ r, marksD s b = r := ⟨_, rfl⟩
  rw [hres]
  unfold marksD at hres
  rw [hN, Int.toNat_natCast] at hres
  refine W_seq fun kz1 kq1 => ?_
  refine W_region [0, 3] fun R hR => ?_   -- r0
  simp only [go_sem, ldS_at hd, stX_at hd, ldS_sv hlt, stX_sv hlt, sv_ext hlt, sv_ext_sv hlt]
  refine hR _ _ (kq1 _ _ ?_); clear hR R; try clear kq1 kz1
  try simp only [go_sem, ldS_at hd, stX_at hd, ldS_sv hlt, stX_sv hlt, sv_ext hlt, sv_ext_sv hlt]
  refine W_seq fun kz2 kq2 => ?_
  refine W_region [0, 3, 5] fun R hR => ?_   -- r1
  simp only [go_sem, ldS_at hd, stX_at hd, ldS_sv hlt, stX_sv hlt, sv_ext hlt, sv_ext_sv hlt]
  refine hR _ _ (kq2 _ _ ?_); clear hR R; try clear kq2 kz2
  try simp only [go_sem, ldS_at hd, stX_at hd, ldS_sv hlt, stX_sv hlt, sv_ext hlt, sv_ext_sv hlt]
  refine W_seq fun kz3 kq3 => ?_
  refine W_seq fun kz4 kq4 => ?_
  refine W_region [0, 3, 5, 6] fun R hR => ?_   -- r2
  simp only [go_sem, ldS_at hd, stX_at hd, ldS_sv hlt, stX_sv hlt, sv_ext hlt, sv_ext_sv hlt]
  refine hR _ _ (kq4 _ _ ?_); clear hR R; try clear kq4 kz4
  try simp only [go_sem, ldS_at hd, stX_at hd, ldS_sv hlt, stX_sv hlt, sv_ext hlt, sv_ext_sv hlt]
  refine W_block ?_
  refine W_weak (Weak.room (t := 5) (es := 1) rfl (by simp)) ?_
  refine W_weak (Weak.keep [0, 3, 5, 6]) ?_
  simp only [go_sem, ldS_at hd, stX_at hd, ldS_sv hlt, stX_sv hlt, sv_ext hlt, sv_ext_sv hlt]
  refine W_loopT (α := Nat × (List Int) × Int) (fun ⟨i, acc, b⟩ => [(5, .isl (acc.map I) (.tok σ.rooms.length acc.length 1)), (6, I i)]) (fun ⟨i, acc, b⟩ => (σ.setVar d [.int .u64 b]).ext [some (scCells s)] [acc.length]) (fun ⟨i, acc, b⟩ => i ≤ N ∧ acc.length = i ∧ res = marksC s (N - i) acc b) (fun ⟨i, acc, b⟩ => N - i) ((0, [], b)) rfl (by simp only [go_sem, sv_self hd]) (⟨Nat.zero_le _, rfl, hres.symm⟩) ?_
  rintro ⟨i, acc, b⟩ ⟨hi, hal, hinv⟩
  refine W_seq fun kz5 kq5 => ?_
  refine W_seq fun kz6 kq6 => ?_
  refine W_region [0, 3, 5, 6, 10] fun R hR => ?_   -- r3
  simp only [go_sem, ldS_at hd, stX_at hd, ldS_sv hlt, stX_sv hlt, sv_ext hlt, sv_ext_sv hlt]
  refine hR _ _ (kq6 _ _ ?_); clear hR R; try clear kq6 kz6
  try simp only [go_sem, ldS_at hd, stX_at hd, ldS_sv hlt, stX_sv hlt, sv_ext hlt, sv_ext_sv hlt]
  refine W_cond rfl (fun c1 => ?_) (fun c1 => ?_)
  · -- c1 true
    try simp only [nrm] at c1
    have hiN : i < N := by first | omega | (simp at c1; omega)
    rw [show N - i = (N - (i + 1)) + 1 by omega] at hinv
    simp only [marksC, dbind] at hinv
    obtain ⟨m, hm⟩ : ∃ zz, (mid s.low s.high b).1 = zz := ⟨_, rfl⟩
    obtain ⟨b1, hb1⟩ : ∃ zz, (mid s.low s.high b).2 = zz := ⟨_, rfl⟩
    have dm := mid_bd s.low s.high q6 b
    simp only [hm] at dm
    obtain ⟨x, hx⟩ : ∃ zz, (anyOf [s.low, s.high, m] b1).1 = zz := ⟨_, rfl⟩
    obtain ⟨b2, hb2⟩ : ∃ zz, (anyOf [s.low, s.high, m] b1).2 = zz := ⟨_, rfl⟩
    simp only [hm, hb1, hx, hb2] at hinv
    refine W_skip (kq5 _ _ ?_)
    refine W_seq fun kz7 kq7 => ?_
    refine W_block ?_
    refine W_draw [0, 3, 5, 6] [0, 1, 2, 3, 4, 5, 6, 7, 8, 9, 10, 11, 12, 13, 14, 15, 16] [(0, 13), (0, 15), (1, 13), (2, 13), (3, 13), (4, 13), (5, 13)] [[], [], [], [2], [], [4], [], [], [7], [], [9], [6, 7, 8, 9, 10], [2, 3, 4, 5, 6, 7, 8, 9, 10, 11], [1, 2, 3, 4, 5, 6, 7, 8, 9, 10, 11, 12], [1, 2, 3, 4, 5, 6, 7, 8, 9, 10, 11, 12, 13], [0, 1, 2, 3, 4, 5, 6, 7, 8, 9, 10, 11, 12, 13, 14], [0, 1, 2, 3, 4, 5, 6, 7, 8, 9, 10, 11, 12, 13, 14, 15]] mixed (by kernel_rfl) fun R hR => ?_   -- r5
    simp only [go_sem, ldS_at hd, stX_at hd, ldS_sv hlt, stX_sv hlt, sv_ext hlt, sv_ext_sv hlt, hm, hb1, hx, hb2]
    refine GCall_of (Mid_pc Y _ d b (by first | exact hd | exact sv_get hlt | exact get_svx hlt | exact get_extx hd) s.low s.high (by omega) (by omega) (by omega) (by omega)) ?_   -- t24
    simp only [go_sem, ldS_at hd, stX_at hd, ldS_sv hlt, stX_sv hlt, sv_ext hlt, sv_ext_sv hlt, hm, hb1, hx, hb2]
    refine GCall_of (Any_pc Y _ d b1 (by first | exact hd | exact sv_get hlt | exact get_svx hlt | exact get_extx hd) [s.low, s.high, m] (by simp) (by simp)) ?_   -- t26
    simp only [go_sem, ldS_at hd, stX_at hd, ldS_sv hlt, stX_sv hlt, sv_ext hlt, sv_ext_sv hlt, hm, hb1, hx, hb2]
    try simp (disch := first | omega | (simp only [go_sem] <;> omega)) only [wrapI, wrapU, appX_exact, appX_tok]
    try simp only [go_sem, ldS_at hd, stX_at hd, ldS_sv hlt, stX_sv hlt, sv_ext hlt, sv_ext_sv hlt, hm, hb1, hx, hb2]
    try refine And.intro (by repeat' (first | refine And.intro ?_ ?_ | exact GOr_right (fun _ => by simp only [go_sem, ldS_at hd, stX_at hd, ldS_sv hlt, stX_sv hlt, sv_ext hlt, sv_ext_sv hlt, hm, hb1, hx, hb2]))) ?_
    refine hR _ _ (kq7 _ _ ?_); clear hR R; try clear kq7 kz7
    try simp only [go_sem, ldS_at hd, stX_at hd, ldS_sv hlt, stX_sv hlt, sv_ext hlt, sv_ext_sv hlt, hm, hb1, hx, hb2]
    refine W_region [0, 3, 5, 6] fun R hR => ?_   -- r4
    simp only [go_sem, ldS_at hd, stX_at hd, ldS_sv hlt, stX_sv hlt, sv_ext hlt, sv_ext_sv hlt, hm, hb1, hx, hb2]
    try simp (disch := omega) only [wrapI, wrapU]
    refine hR _ _ ?_; clear hR R
    try simp only [go_sem, ldS_at hd, stX_at hd, ldS_sv hlt, stX_sv hlt, sv_ext hlt, sv_ext_sv hlt, hm, hb1, hx, hb2]
    refine ⟨(i + 1, acc ++ [x], b2), ?_, by (try simp only []); omega, ?_⟩
    · first | exact Weak.refl | exact Weak.eq (by first | rfl | (simp only [go_sem]; done) | (simp only [go_sem]; rfl) | (simp [go_sem]; done) | (simp [go_sem]; omega)) (by first | rfl | (simp only [go_sem]; done) | (simp [go_sem]; done))
    · try dsimp only
      exact ⟨by omega, by simp [hal], hinv⟩
  · -- c1 false
    try simp only [nrm] at c1
    have hie : N = i := by first | omega | (simp at c1; omega)
    subst hie
    rw [Nat.sub_self] at hinv
    simp only [marksC, dret] at hinv
    refine W_exit ?_
    simp only [go_sem, ldS_at hd, stX_at hd, ldS_sv hlt, stX_sv hlt, sv_ext hlt, sv_ext_sv hlt]
    refine kq3 _ _ ?_
    refine W_seq fun kz8 kq8 => ?_
    refine W_region [4] fun R hR => ?_   -- r6
    simp only [go_sem, ldS_at hd, stX_at hd, ldS_sv hlt, stX_sv hlt, sv_ext hlt, sv_ext_sv hlt]
    refine hR _ _ (kq8 _ _ ?_); clear hR R; try clear kq8 kz8
    try simp only [go_sem, ldS_at hd, stX_at hd, ldS_sv hlt, stX_sv hlt, sv_ext hlt, sv_ext_sv hlt]
    refine W_ret ?_
    simp only [go_sem, ldS_at hd, stX_at hd, ldS_sv hlt, stX_sv hlt, sv_ext hlt, sv_ext_sv hlt]
    refine ⟨.inr (by trivial), ?_⟩
    rw [hinv]; refine Fin_set hcl (by simp only [go_sem]) rfl (Wk.ro (by simp only [go_sem]) ?_)
    try simp only [go_sem]
    all_goals
      simp only [go_sem]
set_option maxHeartbeats 2000000 in
theorem Sealed_pc (Y : YEnv) (σ : Sg) (s : Scale) (m j : Int) (l : List Int) (hl : l.length < 2 ^ 40) (hs : s.Ok) :
    PC Try.prog Y 24 [scPV s, I m, I j, ints l] σ (evPV (sealedE s m j l)) (σ) := by
  refine PC_of_W Try.func24 rfl (by kernel_rfl) Try.ntmps24 (by simp) fun hcl hca => ?_
  refine W_seq fun kz1 kq1 => ?_
  refine W_region [1, 2, 3, 4, 8] fun R hR => ?_   -- r0
  simp only [go_sem, sealedE]
  refine hR _ _ (kq1 _ _ ?_); clear hR R; try clear kq1 kz1
  try simp only [go_sem, sealedE]
  refine W_seq fun kz2 kq2 => ?_
  refine W_region [1, 2, 3, 8, 9] fun R hR => ?_   -- r1
  simp only [go_sem, sealedE]
  refine GCall_of (rSeal_pc Y _ s m j l .ro hl hs) ?_   -- t16
  simp only [go_sem, sealedE]
  refine hR _ _ (kq2 _ _ ?_); clear hR R; try clear kq2 kz2
  try simp only [go_sem, sealedE]
  refine W_seq fun kz3 kq3 => ?_
  refine W_region [8] fun R hR => ?_   -- r2
  simp only [go_sem, sealedE]
  refine hR _ _ (kq3 _ _ ?_); clear hR R; try clear kq3 kz3
  try simp only [go_sem, sealedE]
  refine W_ret ?_
  simp only [go_sem, sealedE]
  refine ⟨.inr (by trivial), ?_⟩
  first | refine Fin_same hcl (by show resPV Try.prog _ _ [.cell 8 37] = some _; simp only [resPV, go_sem]; rfl) (Wk_eq ?_ (by simp only [go_sem])) | refine Fin_same hcl rfl (Wk_eq ?_ (by simp only [go_sem]))
  try simp only [go_sem]
  all_goals
    first | rfl | simp [sealedE]
end Go.Proofs.Ytgelnjmddabgpaa
namespace Go.Proofs.Ytgelnjmddabgpaa
open Go Go.RowKit
set_option maxRecDepth 100000
theorem W_regionT {P : Program} {Y : YEnv} {N : Nat} {rd : Option Nat} {lo : Nat × Nat} {id : Nat} {ops : Array Oper} {E : Env} {σ : Sg} {Q : Exit → Env → Sg → Prop} (ks : List Nat) (upd : Env) (σ' : Sg)
    (rest : Q .normal (keep ks (upd ++ E)) σ') (h : ∀ K : Env → Sg → Prop, (∀ E' ρ, keep ks E' = keep ks (upd ++ E) → ρ = σ' → K E' ρ) → GL P Y N ops ops.toList E σ K) : W P Y N rd lo (.region id ops false) E σ Q :=
  W_region ks fun K hK => h K fun E' ρ e e2 => hK E' ρ (by rw [e, e2]; exact rest)
theorem ite_at {α β : Type} {c : Prop} [Decidable c] {f g : α → β} {x : α} : (if c then f else g) x = if c then f x else g x := by split <;> rfl
abbrev Rows2 := List Envl × List (Int × Int)
noncomputable def nightJ (s : Scale) (dec : Bool) (J m : Nat) : Nat → Int → List Envl → List (Int × Int) → D Rows2
  | 0, _, op, ab => dret (op, ab)
  | k + 1, here, op, ab => dbind (rare 5) fun a =>
    if a = true ∧ (0 < here ∨ ((J - (k + 1) : Nat) : Int) < (J : Int) - 1) then nightJ s dec J m k here op (ab ++ [((m : Int), ((J - (k + 1) : Nat) : Int))])
    else if dec = true then dbind (marksD s) fun l => nightJ s dec J m k (here + 1) (op ++ [sealedE s m ((J - (k + 1) : Nat) : Int) l]) ab
    else dbind (rare 3) fun r => if r = true then nightJ s dec J m k (here + 1) op ab else dbind (marksD s) fun l => nightJ s dec J m k (here + 1) (op ++ [sealedE s m ((J - (k + 1) : Nat) : Int) l]) ab
noncomputable def nightM (s : Scale) (dec : Bool) (M J : Nat) : Nat → List Envl → List (Int × Int) → D Rows2
  | 0, op, ab => dret (op, ab)
  | k + 1, op, ab => dbind (nightJ s dec J (M - (k + 1)) J 0 op ab) fun p => nightM s dec M J k p.1 p.2
noncomputable def finesC (sc : Int) : Nat → List (Int × Int) → D (List (Int × Int))
  | 0, fi => dret fi
  | k + 1, fi => dbind (roll sc) fun a => dbind (anyOf [3, 100]) fun y => dbind (roll y) fun p => finesC sc k (fi ++ [(a, p)])
noncomputable def finesD (sc : Int) : D (List (Int × Int)) := dbind (roll 4) fun q => dbind (anyOf [0, 0, q]) fun n => finesC sc n.toNat []
def pickE (op : List Envl) (od : List Int) : List Envl := od.map fun i => (op[i.toNat]?).getD ⟨0, 0, [], 0⟩
noncomputable def nightD (s : Scale) (dec : Bool) : D Night := dbind (nightM s dec s.matters.toNat s.judges.toNat s.matters.toNat [] []) fun p => dbind (finesD s.schools) fun fi => dbind (orderD p.1.length) fun od => dret ⟨pickE p.1 od, p.2, fi⟩
set_option maxHeartbeats 16000000 in
theorem NightOf_pc (Y : YEnv) (σ : Sg) (d : Nat) (b : Int) (hd : σ.store[d]? = some (some [.int .u64 b])) (s : Scale) (hv : s.V) (hs : s.Ok) (dec : Bool) :
    PC Try.prog Y 11 [.ptr d 0, scPV s, .bool dec] σ (ngPV (nightD s dec b).1) (σ.setVar d [.int .u64 (nightD s dec b).2]) := by
  refine PC_of_W Try.func11 rfl (by kernel_rfl) Try.ntmps11 (by simp) fun hcl hca => ?_
  have hlt := lt_of_get hd
  have q1 := hv.mt
  have q2 := hv.jd
  have q3 := hv.sc
  obtain ⟨M, hM⟩ : ∃ z : Nat, s.matters = z := ⟨s.matters.toNat, by omega⟩
  obtain ⟨J, hJ⟩ : ∃ z : Nat, s.judges = z := ⟨s.judges.toNat, by omega⟩
  have hMi : (s.matters : Int) = (M : Int) := hM
  have hJi : (s.judges : Int) = (J : Int) := hJ
  obtain ⟨res, hres⟩ : ∃ r, nightD s dec b = r := ⟨_, rfl⟩
  rw [hres]
  unfold nightD at hres
  simp only [hM, hJ, Int.toNat_natCast, dbind] at hres
  obtain ⟨R0, hR0⟩ : ∃ r, nightM s dec M J M [] [] b = r := ⟨_, rfl⟩
  rw [hR0] at hres
  refine W_seq fun kz1 kq1 => ?_
  refine W_region [0, 2, 4, 6] fun R hR => ?_   -- r0
  simp only [go_sem, ldS_at hd, stX_at hd, ldS_sv hlt, stX_sv hlt, sv_ext hlt, sv_ext_sv hlt]
  refine hR _ _ (kq1 _ _ ?_); clear hR R; try clear kq1 kz1
  try simp only [go_sem, ldS_at hd, stX_at hd, ldS_sv hlt, stX_sv hlt, sv_ext hlt, sv_ext_sv hlt]
  refine W_seq fun kz2 kq2 => ?_
  refine W_region [0, 2, 4, 6, 7] fun R hR => ?_   -- r1
  simp only [go_sem, ldS_at hd, stX_at hd, ldS_sv hlt, stX_sv hlt, sv_ext hlt, sv_ext_sv hlt]
  refine hR _ _ (kq2 _ _ ?_); clear hR R; try clear kq2 kz2
  try simp only [go_sem, ldS_at hd, stX_at hd, ldS_sv hlt, stX_sv hlt, sv_ext hlt, sv_ext_sv hlt]
  refine W_seq fun kz3 kq3 => ?_
  refine W_seq fun kz4 kq4 => ?_
  refine W_region [0, 2, 4, 6, 7, 8] fun R hR => ?_   -- r2
  simp only [go_sem, ldS_at hd, stX_at hd, ldS_sv hlt, stX_sv hlt, sv_ext hlt, sv_ext_sv hlt]
  refine hR _ _ (kq4 _ _ ?_); clear hR R; try clear kq4 kz4
  try simp only [go_sem, ldS_at hd, stX_at hd, ldS_sv hlt, stX_sv hlt, sv_ext hlt, sv_ext_sv hlt]
  refine W_block ?_
  refine W_weak (Weak.roomX (j := 2) (off := 0) (es := 4) rfl rfl (by simp)) ?_
  simp only [go_sem]
  refine W_weak (Weak.roomX (j := 2) (off := 1) (es := 2) rfl rfl (by simp)) ?_
  simp only [go_sem]
  refine W_weak (Weak.roomX (j := 2) (off := 2) (es := 2) rfl rfl (by simp)) ?_
  simp only [go_sem]
  refine W_loopT (α := Nat × (List Envl) × (List (Int × Int)) × Int) (fun ⟨i, op, ab, b⟩ => [(8, I i)]) (fun ⟨i, op, ab, b⟩ => (σ.setVar d [.int .u64 b]).ext [some (scCells s), some [.isl [] .exact, .isl [] .exact, .isl [] .exact], some [.isl (op.map evPV) (.tok σ.rooms.length op.length 4), .isl (ab.map stPV) (.tok (σ.rooms.length + 1) ab.length 2), .isl (([] : List (Int × Int)).map stPV) (.tok (σ.rooms.length + 2) ([] : List (Int × Int)).length 2)]] [op.length, ab.length, ([] : List (Int × Int)).length]) (fun ⟨i, op, ab, b⟩ => i ≤ M ∧ op.length ≤ 5 * i ∧ ab.length ≤ 5 * i ∧ R0 = nightM s dec M J (M - i) op ab b) (fun ⟨i, op, ab, b⟩ => M - i) ((0, [], [], b)) rfl (by simp only [go_sem, sv_self hd]) (⟨Nat.zero_le _, Nat.zero_le _, Nat.zero_le _, hR0.symm⟩) ?_
  rintro ⟨i, op, ab, b⟩ ⟨hi, hl1, hl2, hinv⟩
  refine W_seq fun kz5 kq5 => ?_
  refine W_seq fun kz6 kq6 => ?_
  refine W_region [0, 2, 4, 6, 7, 8, 18] fun R hR => ?_   -- r3
  simp only [go_sem, ldS_at hd, stX_at hd, ldS_sv hlt, stX_sv hlt, sv_ext hlt, sv_ext_sv hlt]
  refine hR _ _ (kq6 _ _ ?_); clear hR R; try clear kq6 kz6
  try simp only [go_sem, ldS_at hd, stX_at hd, ldS_sv hlt, stX_sv hlt, sv_ext hlt, sv_ext_sv hlt]
  refine W_cond rfl (fun c1 => ?_) (fun c1 => ?_)
  · -- c1 true
    try simp only [nrm] at c1
    have hiM : i < M := by first | omega | (simp at c1; omega)
    rw [show M - i = (M - (i + 1)) + 1 by omega] at hinv
    simp only [nightM, dbind] at hinv
    rw [show (M - (M - (i + 1) + 1) : Nat) = i by omega] at hinv
    obtain ⟨R1, hR1⟩ : ∃ z, nightJ s dec J i J 0 op ab b = z := ⟨_, rfl⟩
    rw [hR1] at hinv
    refine W_skip (kq5 _ _ ?_)
    refine W_seq fun kz7 kq7 => ?_
    refine W_block ?_
    refine W_seq fun kz8 kq8 => ?_
    refine W_region [0, 2, 4, 6, 7, 8, 9] fun R hR => ?_   -- r5
    simp only [go_sem, ldS_at hd, stX_at hd, ldS_sv hlt, stX_sv hlt, sv_ext hlt, sv_ext_sv hlt]
    refine hR _ _ (kq8 _ _ ?_); clear hR R; try clear kq8 kz8
    try simp only [go_sem, ldS_at hd, stX_at hd, ldS_sv hlt, stX_sv hlt, sv_ext hlt, sv_ext_sv hlt]
    refine W_seq fun kz9 kq9 => ?_
    refine W_region [0, 2, 4, 6, 7, 8, 9, 10] fun R hR => ?_   -- r6
    simp only [go_sem, ldS_at hd, stX_at hd, ldS_sv hlt, stX_sv hlt, sv_ext hlt, sv_ext_sv hlt]
    refine hR _ _ (kq9 _ _ ?_); clear hR R; try clear kq9 kz9
    try simp only [go_sem, ldS_at hd, stX_at hd, ldS_sv hlt, stX_sv hlt, sv_ext hlt, sv_ext_sv hlt]
    refine W_block ?_
    refine W_loopT (α := Nat × Nat × (List Envl) × (List (Int × Int)) × Int) (fun ⟨j, here, op2, ab2, b⟩ => [(9, I here), (10, I j)]) (fun ⟨j, here, op2, ab2, b⟩ => (σ.setVar d [.int .u64 b]).ext [some (scCells s), some [.isl [] .exact, .isl [] .exact, .isl [] .exact], some [.isl (op2.map evPV) (.tok σ.rooms.length op2.length 4), .isl (ab2.map stPV) (.tok (σ.rooms.length + 1) ab2.length 2), .isl (([] : List (Int × Int)).map stPV) (.tok (σ.rooms.length + 2) ([] : List (Int × Int)).length 2)]] [op2.length, ab2.length, ([] : List (Int × Int)).length]) (fun ⟨j, here, op2, ab2, b⟩ => j ≤ J ∧ here ≤ j ∧ op2.length ≤ 5 * i + j ∧ ab2.length ≤ 5 * i + j ∧ R1 = nightJ s dec J i (J - j) here op2 ab2 b) (fun ⟨j, here, op2, ab2, b⟩ => J - j) ((0, 0, op, ab, b)) rfl (by first | rfl | (simp only [go_sem]; done) | (simp only [go_sem]; rfl)) (⟨Nat.zero_le _, Nat.le_refl _, by omega, by omega, hR1.symm⟩) ?_
    rintro ⟨j, here, op2, ab2, b⟩ ⟨hj, hhe, hl3, hl4, hinv2⟩
    refine W_seq fun kz10 kq10 => ?_
    refine W_seq fun kz11 kq11 => ?_
    refine W_region [0, 2, 4, 6, 7, 8, 9, 10, 24] fun R hR => ?_   -- r7
    simp only [go_sem, ldS_at hd, stX_at hd, ldS_sv hlt, stX_sv hlt, sv_ext hlt, sv_ext_sv hlt]
    refine hR _ _ (kq11 _ _ ?_); clear hR R; try clear kq11 kz11
    try simp only [go_sem, ldS_at hd, stX_at hd, ldS_sv hlt, stX_sv hlt, sv_ext hlt, sv_ext_sv hlt]
    refine W_cond rfl (fun c2 => ?_) (fun c2 => ?_)
    · -- c2 true
      try simp only [nrm] at c2
      have hjJ : j < J := by first | omega | (simp at c2; omega)
      rw [show J - j = (J - (j + 1)) + 1 by omega] at hinv2
      simp only [nightJ, dbind, ite_at] at hinv2
      rw [show (J - (J - (j + 1) + 1) : Nat) = j by omega] at hinv2
      obtain ⟨a5, ha5⟩ : ∃ zz, (rare 5 b).1 = zz := ⟨_, rfl⟩
      obtain ⟨b1, hb1⟩ : ∃ zz, (rare 5 b).2 = zz := ⟨_, rfl⟩
      simp only [ha5, hb1] at hinv2
      refine W_skip (kq10 _ _ ?_)
      refine W_seq fun kz12 kq12 => ?_
      refine W_block ?_
      refine W_seq fun kz13 kq13 => ?_
      refine W_block ?_
      refine W_seq fun kz14 kq14 => ?_
      refine W_regionT [0, 2, 4, 6, 7, 8, 9, 10, 27] [(27, .bool (a5 && (decide ((0 : Int) < (here : Int)) || decide ((j : Int) < (J : Int) - 1))))] ((σ.setVar d [.int .u64 b1]).ext [some (scCells s), some [.isl [] .exact, .isl [] .exact, .isl [] .exact], some [.isl (op2.map evPV) (.tok σ.rooms.length op2.length 4), .isl (ab2.map stPV) (.tok (σ.rooms.length + 1) ab2.length 2), .isl (([] : List (Int × Int)).map stPV) (.tok (σ.rooms.length + 2) ([] : List (Int × Int)).length 2)]] [op2.length, ab2.length, ([] : List (Int × Int)).length]) ?_ fun R hR => ?_   -- r9
      · refine kq14 _ _ ?_
        simp only [go_sem, ldS_at hd, stX_at hd, ldS_sv hlt, stX_sv hlt, sv_ext hlt, sv_ext_sv hlt, ha5, hb1]
        refine W_cond rfl (fun c3 => ?_) (fun c3 => ?_)
        · -- c3 true
          try simp only [nrm] at c3
          refine W_seq fun kz15 kq15 => ?_
          refine W_region [0, 2, 4, 6, 7, 8, 9, 10] fun R hR => ?_   -- r10
          simp only [go_sem, ldS_at hd, stX_at hd, ldS_sv hlt, stX_sv hlt, sv_ext hlt, sv_ext_sv hlt, ha5, hb1]
          try simp (disch := first | omega | (simp only [go_sem] <;> omega)) only [wrapI, wrapU, appX_exact, appX_tok]
          try simp only [go_sem, ldS_at hd, stX_at hd, ldS_sv hlt, stX_sv hlt, sv_ext hlt, sv_ext_sv hlt, ha5, hb1]
          refine hR _ _ (kq15 _ _ ?_); clear hR R; try clear kq15 kz15
          try simp only [go_sem, ldS_at hd, stX_at hd, ldS_sv hlt, stX_sv hlt, sv_ext hlt, sv_ext_sv hlt, ha5, hb1]
          refine W_exit ?_
          simp only [go_sem, ldS_at hd, stX_at hd, ldS_sv hlt, stX_sv hlt, sv_ext hlt, sv_ext_sv hlt, ha5, hb1]
          refine kq12 _ _ ?_
          refine W_region [0, 2, 4, 6, 7, 8, 9, 10] fun R hR => ?_   -- r8
          simp only [go_sem, ldS_at hd, stX_at hd, ldS_sv hlt, stX_sv hlt, sv_ext hlt, sv_ext_sv hlt, ha5, hb1]
          try simp (disch := omega) only [wrapI, wrapU]
          refine hR _ _ ?_; clear hR R
          try simp only [go_sem, ldS_at hd, stX_at hd, ldS_sv hlt, stX_sv hlt, sv_ext hlt, sv_ext_sv hlt, ha5, hb1]
          refine ⟨(j + 1, here, op2, ab2 ++ [((i : Int), (j : Int))], b1), ?_, by (try simp only []); omega, ?_⟩
          · first | exact Weak.refl | exact Weak.eq (by first | rfl | (simp only [go_sem]; done) | (simp only [go_sem]; rfl) | (simp [go_sem]; done) | (simp [go_sem]; omega)) (by first | rfl | (simp only [go_sem]; done) | (simp [go_sem]; done))
          · try dsimp only
            refine ⟨by omega, by omega, ?_, ?_, ?_⟩
            · first | omega | (simp; omega)
            · first | omega | (simp; omega)
            · first
              | (rw [hinv2, if_pos (by simpa using c3)]; done)
              | (rw [hinv2, if_neg (by simpa using c3)]; simp [g1]; done)
              | (rw [hinv2, if_neg (by simpa using c3)]; simp [g1, c4]; done)
        · -- c3 false
          try simp only [nrm] at c3
          refine W_seq fun kz16 kq16 => ?_
          refine W_region [0, 2, 4, 6, 7, 8, 9, 10, 49] fun R hR => ?_   -- r11
          simp only [go_sem, ldS_at hd, stX_at hd, ldS_sv hlt, stX_sv hlt, sv_ext hlt, sv_ext_sv hlt, ha5, hb1]
          refine GWant_split (fun g1 => ?_) (fun g1 => ?_)
          · try simp only [Bool.not_eq_true', Bool.not_eq_false'] at g1
            have n1 := g1; try simp only [nrm] at n1
            obtain ⟨a3, ha3⟩ : ∃ zz, (rare 3 b1).1 = zz := ⟨_, rfl⟩
            obtain ⟨b2, hb2⟩ : ∃ zz, (rare 3 b1).2 = zz := ⟨_, rfl⟩
            simp only [ha3, hb2] at hinv2
            simp only [go_sem, ldS_at hd, stX_at hd, ldS_sv hlt, stX_sv hlt, sv_ext hlt, sv_ext_sv hlt, ha5, hb1, ha3, hb2, g1]
            refine GCall_of (Rare_pc Y _ d b1 (by first | exact hd | exact sv_get hlt | exact get_svx hlt | exact get_extx hd) 3 (by omega)) ?_   -- t53
            simp only [go_sem, ldS_at hd, stX_at hd, ldS_sv hlt, stX_sv hlt, sv_ext hlt, sv_ext_sv hlt, ha5, hb1, ha3, hb2, g1]
            refine hR _ _ (kq16 _ _ ?_); clear hR R; try clear kq16 kz16
            try simp only [go_sem, ldS_at hd, stX_at hd, ldS_sv hlt, stX_sv hlt, sv_ext hlt, sv_ext_sv hlt, ha5, hb1, ha3, hb2]
            refine W_cond rfl (fun c4 => ?_) (fun c4 => ?_)
            · -- c4 true
              try simp only [nrm] at c4
              obtain ⟨ml, hml⟩ : ∃ zz, (marksD s b2).1 = zz := ⟨_, rfl⟩
              obtain ⟨b4, hb4⟩ : ∃ zz, (marksD s b2).2 = zz := ⟨_, rfl⟩
              have dml := marksD_ok hv b2
              simp only [hml] at dml
              have hmln : ml.length < 2 ^ 40 := by have := dml.1; omega
              try simp only [hml, hb4] at hinv2
              refine W_draw [0, 2, 4, 6, 7, 8, 9, 10] [0, 1, 2, 3, 4, 5, 6, 7, 8, 9, 10, 11, 12] [(0, 8), (0, 10), (1, 8), (1, 10), (2, 8), (3, 8), (4, 8)] [[], [0], [], [], [], [], [], [5, 6], [2, 3, 4, 5, 6, 7], [2, 3, 4, 5, 6, 7, 8], [0, 1, 2, 3, 4, 5, 6, 7, 8, 9], [0, 1, 2, 3, 4, 5, 6, 7, 8, 9, 10], [0, 1, 2, 3, 4, 5, 6, 7, 8, 9, 10, 11]] mixed (by kernel_rfl) fun R hR => ?_   -- r12
              simp only [go_sem, ldS_at hd, stX_at hd, ldS_sv hlt, stX_sv hlt, sv_ext hlt, sv_ext_sv hlt, ha5, hb1, ha3, hb2, hml, hb4]
              refine GCall_of (MarksOf_pc Y _ d _ (by first | exact hd | exact sv_get hlt | exact get_svx hlt | exact get_extx hd) s hv) ?_   -- t63
              simp only [go_sem, ldS_at hd, stX_at hd, ldS_sv hlt, stX_sv hlt, sv_ext hlt, sv_ext_sv hlt, ha5, hb1, ha3, hb2, hml, hb4]
              refine GCall_of (Sealed_pc Y _ s i j ml (by omega) hs) ?_   -- t64
              simp only [go_sem, ldS_at hd, stX_at hd, ldS_sv hlt, stX_sv hlt, sv_ext hlt, sv_ext_sv hlt, ha5, hb1, ha3, hb2, hml, hb4]
              try simp (disch := first | omega | (simp only [go_sem] <;> omega)) only [wrapI, wrapU, appX_exact, appX_tok]
              try simp only [go_sem, ldS_at hd, stX_at hd, ldS_sv hlt, stX_sv hlt, sv_ext hlt, sv_ext_sv hlt, ha5, hb1, ha3, hb2, hml, hb4]
              try refine And.intro (by repeat' (first | refine And.intro ?_ ?_ | exact GOr_right (fun _ => by simp only [go_sem, ldS_at hd, stX_at hd, ldS_sv hlt, stX_sv hlt, sv_ext hlt, sv_ext_sv hlt, ha5, hb1, ha3, hb2, hml, hb4]))) ?_
              refine hR _ _ (kq13 _ _ ?_); clear hR R; try clear kq13 kz13
              try simp only [go_sem, ldS_at hd, stX_at hd, ldS_sv hlt, stX_sv hlt, sv_ext hlt, sv_ext_sv hlt, ha5, hb1, ha3, hb2, hml, hb4]
              refine W_region [0, 2, 4, 6, 7, 8, 9, 10] fun R hR => ?_   -- r13
              simp only [go_sem, ldS_at hd, stX_at hd, ldS_sv hlt, stX_sv hlt, sv_ext hlt, sv_ext_sv hlt, ha5, hb1, ha3, hb2, hml, hb4]
              try simp (disch := omega) only [wrapI, wrapU]
              refine hR _ _ (kq12 _ _ ?_); clear hR R; try clear kq12 kz12
              try simp only [go_sem, ldS_at hd, stX_at hd, ldS_sv hlt, stX_sv hlt, sv_ext hlt, sv_ext_sv hlt, ha5, hb1, ha3, hb2, hml, hb4]
              refine W_region [0, 2, 4, 6, 7, 8, 9, 10] fun R hR => ?_   -- r8
              simp only [go_sem, ldS_at hd, stX_at hd, ldS_sv hlt, stX_sv hlt, sv_ext hlt, sv_ext_sv hlt, ha5, hb1, ha3, hb2, hml, hb4]
              try simp (disch := omega) only [wrapI, wrapU]
              refine hR _ _ ?_; clear hR R
              try simp only [go_sem, ldS_at hd, stX_at hd, ldS_sv hlt, stX_sv hlt, sv_ext hlt, sv_ext_sv hlt, ha5, hb1, ha3, hb2, hml, hb4]
              refine ⟨(j + 1, here + 1, op2 ++ [sealedE s i j ml], ab2, b4), ?_, by (try simp only []); omega, ?_⟩
              · first | exact Weak.refl | exact Weak.eq (by first | rfl | (simp only [go_sem]; done) | (simp only [go_sem]; rfl) | (simp [go_sem]; done) | (simp [go_sem]; omega)) (by first | rfl | (simp only [go_sem]; done) | (simp [go_sem]; done))
              · try dsimp only
                refine ⟨by omega, by omega, ?_, ?_, ?_⟩
                · first | omega | (simp; omega)
                · first | omega | (simp; omega)
                · first
                  | (rw [hinv2, if_pos (by simpa using c3)]; done)
                  | (rw [hinv2, if_neg (by simpa using c3)]; simp [g1]; done)
                  | (rw [hinv2, if_neg (by simpa using c3)]; simp [g1, c4]; done)
            · -- c4 false
              try simp only [nrm] at c4
              refine W_skip (kq13 _ _ ?_)
              refine W_region [0, 2, 4, 6, 7, 8, 9, 10] fun R hR => ?_   -- r13
              simp only [go_sem, ldS_at hd, stX_at hd, ldS_sv hlt, stX_sv hlt, sv_ext hlt, sv_ext_sv hlt, ha5, hb1, ha3, hb2]
              try simp (disch := omega) only [wrapI, wrapU]
              refine hR _ _ (kq12 _ _ ?_); clear hR R; try clear kq12 kz12
              try simp only [go_sem, ldS_at hd, stX_at hd, ldS_sv hlt, stX_sv hlt, sv_ext hlt, sv_ext_sv hlt, ha5, hb1, ha3, hb2]
              refine W_region [0, 2, 4, 6, 7, 8, 9, 10] fun R hR => ?_   -- r8
              simp only [go_sem, ldS_at hd, stX_at hd, ldS_sv hlt, stX_sv hlt, sv_ext hlt, sv_ext_sv hlt, ha5, hb1, ha3, hb2]
              try simp (disch := omega) only [wrapI, wrapU]
              refine hR _ _ ?_; clear hR R
              try simp only [go_sem, ldS_at hd, stX_at hd, ldS_sv hlt, stX_sv hlt, sv_ext hlt, sv_ext_sv hlt, ha5, hb1, ha3, hb2]
              refine ⟨(j + 1, here + 1, op2, ab2, b2), ?_, by (try simp only []); omega, ?_⟩
              · first | exact Weak.refl | exact Weak.eq (by first | rfl | (simp only [go_sem]; done) | (simp only [go_sem]; rfl) | (simp [go_sem]; done) | (simp [go_sem]; omega)) (by first | rfl | (simp only [go_sem]; done) | (simp [go_sem]; done))
              · try dsimp only
                refine ⟨by omega, by omega, ?_, ?_, ?_⟩
                · first | omega | (simp; omega)
                · first | omega | (simp; omega)
                · first
                  | (rw [hinv2, if_pos (by simpa using c3)]; done)
                  | (rw [hinv2, if_neg (by simpa using c3)]; simp [g1]; done)
                  | (rw [hinv2, if_neg (by simpa using c3)]; simp [g1, c4]; done)
          · try simp only [Bool.not_eq_true', Bool.not_eq_false'] at g1
            have n1 := g1; try simp only [nrm] at n1
            obtain ⟨ml, hml⟩ : ∃ zz, (marksD s b1).1 = zz := ⟨_, rfl⟩
            obtain ⟨b4, hb4⟩ : ∃ zz, (marksD s b1).2 = zz := ⟨_, rfl⟩
            have dml := marksD_ok hv b1
            simp only [hml] at dml
            have hmln : ml.length < 2 ^ 40 := by have := dml.1; omega
            try simp only [hml, hb4] at hinv2
            simp only [go_sem, ldS_at hd, stX_at hd, ldS_sv hlt, stX_sv hlt, sv_ext hlt, sv_ext_sv hlt, ha5, hb1, hml, hb4, g1]
            refine hR _ _ (kq16 _ _ ?_); clear hR R; try clear kq16 kz16
            try simp only [go_sem, ldS_at hd, stX_at hd, ldS_sv hlt, stX_sv hlt, sv_ext hlt, sv_ext_sv hlt, ha5, hb1, hml, hb4]
            refine W_cond_true rfl ?_
            refine W_draw [0, 2, 4, 6, 7, 8, 9, 10] [0, 1, 2, 3, 4, 5, 6, 7, 8, 9, 10, 11, 12] [(0, 8), (0, 10), (1, 8), (1, 10), (2, 8), (3, 8), (4, 8)] [[], [0], [], [], [], [], [], [5, 6], [2, 3, 4, 5, 6, 7], [2, 3, 4, 5, 6, 7, 8], [0, 1, 2, 3, 4, 5, 6, 7, 8, 9], [0, 1, 2, 3, 4, 5, 6, 7, 8, 9, 10], [0, 1, 2, 3, 4, 5, 6, 7, 8, 9, 10, 11]] mixed (by kernel_rfl) fun R hR => ?_   -- r12
            simp only [go_sem, ldS_at hd, stX_at hd, ldS_sv hlt, stX_sv hlt, sv_ext hlt, sv_ext_sv hlt, ha5, hb1, hml, hb4]
            refine GCall_of (MarksOf_pc Y _ d _ (by first | exact hd | exact sv_get hlt | exact get_svx hlt | exact get_extx hd) s hv) ?_   -- t63
            simp only [go_sem, ldS_at hd, stX_at hd, ldS_sv hlt, stX_sv hlt, sv_ext hlt, sv_ext_sv hlt, ha5, hb1, hml, hb4]
            refine GCall_of (Sealed_pc Y _ s i j ml (by omega) hs) ?_   -- t64
            simp only [go_sem, ldS_at hd, stX_at hd, ldS_sv hlt, stX_sv hlt, sv_ext hlt, sv_ext_sv hlt, ha5, hb1, hml, hb4]
            try simp (disch := first | omega | (simp only [go_sem] <;> omega)) only [wrapI, wrapU, appX_exact, appX_tok]
            try simp only [go_sem, ldS_at hd, stX_at hd, ldS_sv hlt, stX_sv hlt, sv_ext hlt, sv_ext_sv hlt, ha5, hb1, hml, hb4]
            try refine And.intro (by repeat' (first | refine And.intro ?_ ?_ | exact GOr_right (fun _ => by simp only [go_sem, ldS_at hd, stX_at hd, ldS_sv hlt, stX_sv hlt, sv_ext hlt, sv_ext_sv hlt, ha5, hb1, hml, hb4]))) ?_
            refine hR _ _ (kq13 _ _ ?_); clear hR R; try clear kq13 kz13
            try simp only [go_sem, ldS_at hd, stX_at hd, ldS_sv hlt, stX_sv hlt, sv_ext hlt, sv_ext_sv hlt, ha5, hb1, hml, hb4]
            refine W_region [0, 2, 4, 6, 7, 8, 9, 10] fun R hR => ?_   -- r13
            simp only [go_sem, ldS_at hd, stX_at hd, ldS_sv hlt, stX_sv hlt, sv_ext hlt, sv_ext_sv hlt, ha5, hb1, hml, hb4]
            try simp (disch := omega) only [wrapI, wrapU]
            refine hR _ _ (kq12 _ _ ?_); clear hR R; try clear kq12 kz12
            try simp only [go_sem, ldS_at hd, stX_at hd, ldS_sv hlt, stX_sv hlt, sv_ext hlt, sv_ext_sv hlt, ha5, hb1, hml, hb4]
            refine W_region [0, 2, 4, 6, 7, 8, 9, 10] fun R hR => ?_   -- r8
            simp only [go_sem, ldS_at hd, stX_at hd, ldS_sv hlt, stX_sv hlt, sv_ext hlt, sv_ext_sv hlt, ha5, hb1, hml, hb4]
            try simp (disch := omega) only [wrapI, wrapU]
            refine hR _ _ ?_; clear hR R
            try simp only [go_sem, ldS_at hd, stX_at hd, ldS_sv hlt, stX_sv hlt, sv_ext hlt, sv_ext_sv hlt, ha5, hb1, hml, hb4]
            refine ⟨(j + 1, here + 1, op2 ++ [sealedE s i j ml], ab2, b4), ?_, by (try simp only []); omega, ?_⟩
            · first | exact Weak.refl | exact Weak.eq (by first | rfl | (simp only [go_sem]; done) | (simp only [go_sem]; rfl) | (simp [go_sem]; done) | (simp [go_sem]; omega)) (by first | rfl | (simp only [go_sem]; done) | (simp [go_sem]; done))
            · try dsimp only
              refine ⟨by omega, by omega, ?_, ?_, ?_⟩
              · first | omega | (simp; omega)
              · first | omega | (simp; omega)
              · first
                | (rw [hinv2, if_pos (by simpa using c3)]; done)
                | (rw [hinv2, if_neg (by simpa using c3)]; simp [g1]; done)
                | (rw [hinv2, if_neg (by simpa using c3)]; simp [g1, c4]; done)
      · simp only [go_sem, ldS_at hd, stX_at hd, ldS_sv hlt, stX_sv hlt, sv_ext hlt, sv_ext_sv hlt, ha5, hb1]
        refine GCall_of (Rare_pc Y _ d b (by first | exact hd | exact sv_get hlt | exact get_svx hlt | exact get_extx hd) 5 (by omega)) ?_   -- t29
        simp only [go_sem, ldS_at hd, stX_at hd, ldS_sv hlt, stX_sv hlt, sv_ext hlt, sv_ext_sv hlt, ha5, hb1]
        refine GWant_split (fun g2 => ?_) (fun g2 => ?_)
        · try simp only [Bool.not_eq_true', Bool.not_eq_false'] at g2
          have n2 := g2; try simp only [nrm] at n2
          simp only [go_sem, ldS_at hd, stX_at hd, ldS_sv hlt, stX_sv hlt, sv_ext hlt, sv_ext_sv hlt, ha5, hb1, g2]
          refine GWant_split (fun g3 => ?_) (fun g3 => ?_)
          · try simp only [Bool.not_eq_true', Bool.not_eq_false'] at g3
            have n3 := g3; try simp only [nrm] at n3
            simp only [go_sem, ldS_at hd, stX_at hd, ldS_sv hlt, stX_sv hlt, sv_ext hlt, sv_ext_sv hlt, ha5, hb1, g2, g3]
            try simp (disch := omega) only [wrapI, wrapU]
            refine hR _ _ ?_ ?_
            all_goals try simp only [go_sem, ldS_at hd, stX_at hd, ldS_sv hlt, stX_sv hlt, sv_ext hlt, sv_ext_sv hlt, ha5, hb1]
            all_goals
              first | rfl | (simp [*]; done) | (simp [*]; omega)
          · try simp only [Bool.not_eq_true', Bool.not_eq_false'] at g3
            have n3 := g3; try simp only [nrm] at n3
            simp only [go_sem, ldS_at hd, stX_at hd, ldS_sv hlt, stX_sv hlt, sv_ext hlt, sv_ext_sv hlt, ha5, hb1, g2, g3]
            try simp (disch := omega) only [wrapI, wrapU]
            refine hR _ _ ?_ ?_
            all_goals try simp only [go_sem, ldS_at hd, stX_at hd, ldS_sv hlt, stX_sv hlt, sv_ext hlt, sv_ext_sv hlt, ha5, hb1]
            all_goals
              first | rfl | (simp [*]; done) | (simp [*]; omega)
        · try simp only [Bool.not_eq_true', Bool.not_eq_false'] at g2
          have n2 := g2; try simp only [nrm] at n2
          simp only [go_sem, ldS_at hd, stX_at hd, ldS_sv hlt, stX_sv hlt, sv_ext hlt, sv_ext_sv hlt, ha5, hb1, g2]
          try simp (disch := omega) only [wrapI, wrapU]
          refine hR _ _ ?_ ?_
          all_goals try simp only [go_sem, ldS_at hd, stX_at hd, ldS_sv hlt, stX_sv hlt, sv_ext hlt, sv_ext_sv hlt, ha5, hb1]
          all_goals
            first | rfl | (simp [*]; done) | (simp [*]; omega)
    · -- c2 false
      try simp only [nrm] at c2
      have hje : J = j := by first | omega | (simp at c2; omega)
      subst hje
      rw [Nat.sub_self] at hinv2
      simp only [nightJ, dret] at hinv2
      refine W_exit ?_
      simp only [go_sem, ldS_at hd, stX_at hd, ldS_sv hlt, stX_sv hlt, sv_ext hlt, sv_ext_sv hlt]
      refine kq7 _ _ ?_
      refine W_region [0, 2, 4, 6, 7, 8] fun R hR => ?_   -- r4
      simp only [go_sem, ldS_at hd, stX_at hd, ldS_sv hlt, stX_sv hlt, sv_ext hlt, sv_ext_sv hlt]
      try simp (disch := omega) only [wrapI, wrapU]
      refine hR _ _ ?_; clear hR R
      try simp only [go_sem, ldS_at hd, stX_at hd, ldS_sv hlt, stX_sv hlt, sv_ext hlt, sv_ext_sv hlt]
      refine ⟨(i + 1, op2, ab2, b), ?_, by (try simp only []); omega, ?_⟩
      · first | exact Weak.refl | exact Weak.eq (by first | rfl | (simp only [go_sem]; done) | (simp only [go_sem]; rfl) | (simp [go_sem]; done) | (simp [go_sem]; omega)) (by first | rfl | (simp only [go_sem]; done) | (simp [go_sem]; done))
      · try dsimp only
        exact ⟨by omega, by omega, by omega, by rw [hinv, hinv2]⟩
  · -- c1 false
    try simp only [nrm] at c1
    have hie : M = i := by first | omega | (simp at c1; omega)
    subst hie
    rw [Nat.sub_self] at hinv
    simp only [nightM, dret] at hinv
    rw [hinv] at hres
    simp only [finesD, dbind] at hres
    obtain ⟨q4, hq4⟩ : ∃ zz, (roll 4 b).1 = zz := ⟨_, rfl⟩
    obtain ⟨b1, hb1⟩ : ∃ zz, (roll 4 b).2 = zz := ⟨_, rfl⟩
    have dq4 := roll_bd 4 b
    simp only [hq4] at dq4
    obtain ⟨nf, hnf⟩ : ∃ zz, (anyOf [0, 0, q4] b1).1 = zz := ⟨_, rfl⟩
    obtain ⟨b2, hb2⟩ : ∃ zz, (anyOf [0, 0, q4] b1).2 = zz := ⟨_, rfl⟩
    have dnf := anyOf_mem [0, 0, q4] (by simp) b1
    simp only [hnf] at dnf
    simp only [hq4, hb1, hnf, hb2] at hres
    have hnf3 : 0 ≤ nf ∧ nf ≤ 3 := by rcases mem3 dnf with h | h | h <;> omega
    obtain ⟨n4, hn4⟩ : ∃ z : Nat, nf = z := ⟨nf.toNat, by omega⟩
    subst hn4
    simp only [Int.toNat_natCast] at hres
    refine W_exit ?_
    simp only [go_sem, ldS_at hd, stX_at hd, ldS_sv hlt, stX_sv hlt, sv_ext hlt, sv_ext_sv hlt, hq4, hb1, hnf, hb2]
    refine kq3 _ _ ?_
    refine W_seq fun kz17 kq17 => ?_
    refine W_seq fun kz18 kq18 => ?_
    refine W_region [0, 4, 6, 7, 11] fun R hR => ?_   -- r14
    simp only [go_sem, ldS_at hd, stX_at hd, ldS_sv hlt, stX_sv hlt, sv_ext hlt, sv_ext_sv hlt, hq4, hb1, hnf, hb2]
    refine GCall_of (Roll_pc Y _ d b (by first | exact hd | exact sv_get hlt | exact get_svx hlt | exact get_extx hd) 4 (by omega)) ?_   -- t72
    simp only [go_sem, ldS_at hd, stX_at hd, ldS_sv hlt, stX_sv hlt, sv_ext hlt, sv_ext_sv hlt, hq4, hb1, hnf, hb2]
    refine GCall_of (Any_pc Y _ d b1 (by first | exact hd | exact sv_get hlt | exact get_svx hlt | exact get_extx hd) [0, 0, q4] (by simp) (by simp)) ?_   -- t74
    simp only [go_sem, ldS_at hd, stX_at hd, ldS_sv hlt, stX_sv hlt, sv_ext hlt, sv_ext_sv hlt, hq4, hb1, hnf, hb2]
    refine hR _ _ (kq18 _ _ ?_); clear hR R; try clear kq18 kz18
    try simp only [go_sem, ldS_at hd, stX_at hd, ldS_sv hlt, stX_sv hlt, sv_ext hlt, sv_ext_sv hlt, hq4, hb1, hnf, hb2]
    refine W_block ?_
    obtain ⟨R2, hR2⟩ : ∃ z, finesC s.schools n4 [] b2 = z := ⟨_, rfl⟩
    rw [hR2] at hres
    refine W_loopT (α := Nat × (List (Int × Int)) × Int) (fun ⟨k, fi, b⟩ => [(11, I k)]) (fun ⟨k, fi, b⟩ => (σ.setVar d [.int .u64 b]).ext [some (scCells s), some [.isl [] .exact, .isl [] .exact, .isl [] .exact], some [.isl (op.map evPV) (.tok σ.rooms.length op.length 4), .isl (ab.map stPV) (.tok (σ.rooms.length + 1) ab.length 2), .isl (fi.map stPV) (.tok (σ.rooms.length + 2) fi.length 2)]] [op.length, ab.length, fi.length]) (fun ⟨k, fi, b⟩ => fi.length + k ≤ 3 ∧ R2 = finesC s.schools k fi b) (fun ⟨k, fi, b⟩ => k) ((n4, [], b2)) rfl (by first | rfl | (simp only [go_sem]; done) | (simp only [go_sem]; rfl)) (⟨by simp; omega, hR2.symm⟩) ?_
    rintro ⟨k, fi, b⟩ ⟨hk, hinv3⟩
    refine W_seq fun kz19 kq19 => ?_
    refine W_seq fun kz20 kq20 => ?_
    refine W_region [0, 4, 6, 7, 11, 76] fun R hR => ?_   -- r15
    simp only [go_sem, ldS_at hd, stX_at hd, ldS_sv hlt, stX_sv hlt, sv_ext hlt, sv_ext_sv hlt, hq4, hb1, hnf, hb2]
    refine hR _ _ (kq20 _ _ ?_); clear hR R; try clear kq20 kz20
    try simp only [go_sem, ldS_at hd, stX_at hd, ldS_sv hlt, stX_sv hlt, sv_ext hlt, sv_ext_sv hlt, hq4, hb1, hnf, hb2]
    refine W_cond rfl (fun c5 => ?_) (fun c5 => ?_)
    · -- c5 true
      try simp only [nrm] at c5
      obtain ⟨k, rfl⟩ : ∃ z, k = z + 1 := ⟨k - 1, by first | omega | (simp at c5; omega)⟩
      simp only [finesC, dbind] at hinv3
      obtain ⟨fa, hfa⟩ : ∃ zz, (roll s.schools b).1 = zz := ⟨_, rfl⟩
      obtain ⟨b1, hb1⟩ : ∃ zz, (roll s.schools b).2 = zz := ⟨_, rfl⟩
      have dfa := roll_bd s.schools b
      simp only [hfa] at dfa
      obtain ⟨fy, hfy⟩ : ∃ zz, (anyOf [3, 100] b1).1 = zz := ⟨_, rfl⟩
      obtain ⟨b2, hb2⟩ : ∃ zz, (anyOf [3, 100] b1).2 = zz := ⟨_, rfl⟩
      have dfy := anyOf_mem [3, 100] (by simp) b1
      simp only [hfy] at dfy
      obtain ⟨fp, hfp⟩ : ∃ zz, (roll fy b2).1 = zz := ⟨_, rfl⟩
      obtain ⟨b3, hb3⟩ : ∃ zz, (roll fy b2).2 = zz := ⟨_, rfl⟩
      have dfp := roll_bd fy b2
      simp only [hfp] at dfp
      simp only [hfa, hb1, hfy, hb2, hfp, hb3] at hinv3
      have hfyb : 0 ≤ fy ∧ fy ≤ 100 := by rcases mem2 dfy with h | h <;> omega
      refine W_skip (kq19 _ _ ?_)
      refine W_seq fun kz21 kq21 => ?_
      refine W_block ?_
      refine W_draw [0, 4, 6, 7, 11] [0, 1, 2, 3, 4, 5, 6, 7, 8, 9, 10, 11, 12, 13, 14, 15] [(0, 9), (0, 10), (0, 13), (1, 9), (1, 10), (1, 13), (6, 5), (6, 10), (7, 5), (8, 5)] [[], [0], [], [], [3], [2, 3, 4], [], [], [], [2, 3, 4, 5, 7, 8], [2, 3, 4, 5, 6, 7, 8, 9], [2, 3, 4, 5, 6, 7, 8, 9, 10], [2, 3, 4, 5, 6, 7, 8, 9, 10, 11], [0, 1, 2, 3, 4, 5, 6, 7, 8, 9, 10, 11, 12], [0, 1, 2, 3, 4, 5, 6, 7, 8, 9, 10, 11, 12, 13], [0, 1, 2, 3, 4, 5, 6, 7, 8, 9, 10, 11, 12, 13, 14]] mixed (by kernel_rfl) fun R hR => ?_   -- r17
      simp only [go_sem, ldS_at hd, stX_at hd, ldS_sv hlt, stX_sv hlt, sv_ext hlt, sv_ext_sv hlt, hq4, hb1, hnf, hb2, hfa, hb1, hfy, hb2, hfp, hb3]
      refine GCall_of (Roll_pc Y _ d b (by first | exact hd | exact sv_get hlt | exact get_svx hlt | exact get_extx hd) s.schools (by omega)) ?_   -- t84
      simp only [go_sem, ldS_at hd, stX_at hd, ldS_sv hlt, stX_sv hlt, sv_ext hlt, sv_ext_sv hlt, hq4, hb1, hnf, hb2, hfa, hb1, hfy, hb2, hfp, hb3]
      refine GCall_of (Any_pc Y _ d b1 (by first | exact hd | exact sv_get hlt | exact get_svx hlt | exact get_extx hd) [3, 100] (by simp) (by simp)) ?_   -- t88
      simp only [go_sem, ldS_at hd, stX_at hd, ldS_sv hlt, stX_sv hlt, sv_ext hlt, sv_ext_sv hlt, hq4, hb1, hnf, hb2, hfa, hb1, hfy, hb2, hfp, hb3]
      refine GCall_of (Roll_pc Y _ d b2 (by first | exact hd | exact sv_get hlt | exact get_svx hlt | exact get_extx hd) fy (by omega)) ?_   -- t89
      simp only [go_sem, ldS_at hd, stX_at hd, ldS_sv hlt, stX_sv hlt, sv_ext hlt, sv_ext_sv hlt, hq4, hb1, hnf, hb2, hfa, hb1, hfy, hb2, hfp, hb3]
      try simp (disch := first | omega | (simp only [go_sem] <;> omega)) only [wrapI, wrapU, appX_exact, appX_tok]
      try simp only [go_sem, ldS_at hd, stX_at hd, ldS_sv hlt, stX_sv hlt, sv_ext hlt, sv_ext_sv hlt, hq4, hb1, hnf, hb2, hfa, hb1, hfy, hb2, hfp, hb3]
      try refine And.intro (by repeat' (first | refine And.intro ?_ ?_ | exact GOr_right (fun _ => by simp only [go_sem, ldS_at hd, stX_at hd, ldS_sv hlt, stX_sv hlt, sv_ext hlt, sv_ext_sv hlt, hq4, hb1, hnf, hb2, hfa, hb1, hfy, hb2, hfp, hb3]))) ?_
      refine hR _ _ (kq21 _ _ ?_); clear hR R; try clear kq21 kz21
      try simp only [go_sem, ldS_at hd, stX_at hd, ldS_sv hlt, stX_sv hlt, sv_ext hlt, sv_ext_sv hlt, hq4, hb1, hnf, hb2, hfa, hb1, hfy, hb2, hfp, hb3]
      refine W_region [0, 4, 6, 7, 11] fun R hR => ?_   -- r16
      simp only [go_sem, ldS_at hd, stX_at hd, ldS_sv hlt, stX_sv hlt, sv_ext hlt, sv_ext_sv hlt, hq4, hb1, hnf, hb2, hfa, hb1, hfy, hb2, hfp, hb3]
      try simp (disch := omega) only [wrapI, wrapU]
      refine hR _ _ ?_; clear hR R
      try simp only [go_sem, ldS_at hd, stX_at hd, ldS_sv hlt, stX_sv hlt, sv_ext hlt, sv_ext_sv hlt, hq4, hb1, hnf, hb2, hfa, hb1, hfy, hb2, hfp, hb3]
      refine ⟨(k, fi ++ [(fa, fp)], b3), ?_, by (try simp only []); omega, ?_⟩
      · first | exact Weak.refl | exact Weak.eq (by first | rfl | (simp only [go_sem]; done) | (simp only [go_sem]; rfl) | (simp [go_sem]; done) | (simp [go_sem]; omega)) (by first | rfl | (simp only [go_sem]; done) | (simp [go_sem]; done))
      · try dsimp only
        exact ⟨by simp; omega, hinv3⟩
    · -- c5 false
      try simp only [nrm] at c5
      have hke : k = 0 := by first | omega | (simp at c5; omega)
      subst hke
      simp only [finesC, dret] at hinv3
      rw [hinv3] at hres
      simp only [] at hres
      obtain ⟨od, hod⟩ : ∃ zz, (orderD op.length b).1 = zz := ⟨_, rfl⟩
      obtain ⟨b1, hb1⟩ : ∃ zz, (orderD op.length b).2 = zz := ⟨_, rfl⟩
      have dod := orderD_perm op.length b
      simp only [hod] at dod
      simp only [hod, hb1, dret] at hres
      refine W_exit ?_
      simp only [go_sem, ldS_at hd, stX_at hd, ldS_sv hlt, stX_sv hlt, sv_ext hlt, sv_ext_sv hlt, hq4, hb1, hnf, hb2, hod, hb1]
      refine kq17 _ _ ?_
      refine W_seq fun kz22 kq22 => ?_
      refine W_region [6, 7, 12] fun R hR => ?_   -- r18
      simp only [go_sem, ldS_at hd, stX_at hd, ldS_sv hlt, stX_sv hlt, sv_ext hlt, sv_ext_sv hlt, hq4, hb1, hnf, hb2, hod, hb1]
      refine GCall_of (Order_pc Y _ d b (by first | exact hd | exact sv_get hlt | exact get_svx hlt | exact get_extx hd) op.length (by omega)) ?_   -- t98
      simp only [go_sem, ldS_at hd, stX_at hd, ldS_sv hlt, stX_sv hlt, sv_ext hlt, sv_ext_sv hlt, hq4, hb1, hnf, hb2, hod, hb1]
      refine hR _ _ (kq22 _ _ ?_); clear hR R; try clear kq22 kz22
      try simp only [go_sem, ldS_at hd, stX_at hd, ldS_sv hlt, stX_sv hlt, sv_ext hlt, sv_ext_sv hlt, hq4, hb1, hnf, hb2, hod, hb1]
      refine W_seq fun kz23 kq23 => ?_
      refine W_region [6, 7, 12, 13] fun R hR => ?_   -- r19
      simp only [go_sem, ldS_at hd, stX_at hd, ldS_sv hlt, stX_sv hlt, sv_ext hlt, sv_ext_sv hlt, hq4, hb1, hnf, hb2, hod, hb1]
      refine hR _ _ (kq23 _ _ ?_); clear hR R; try clear kq23 kz23
      try simp only [go_sem, ldS_at hd, stX_at hd, ldS_sv hlt, stX_sv hlt, sv_ext hlt, sv_ext_sv hlt, hq4, hb1, hnf, hb2, hod, hb1]
      refine W_seq fun kz24 kq24 => ?_
      refine W_seq fun kz25 kq25 => ?_
      refine W_region [6, 7, 12, 13, 14] fun R hR => ?_   -- r20
      simp only [go_sem, ldS_at hd, stX_at hd, ldS_sv hlt, stX_sv hlt, sv_ext hlt, sv_ext_sv hlt, hq4, hb1, hnf, hb2, hod, hb1]
      refine hR _ _ (kq25 _ _ ?_); clear hR R; try clear kq25 kz25
      try simp only [go_sem, ldS_at hd, stX_at hd, ldS_sv hlt, stX_sv hlt, sv_ext hlt, sv_ext_sv hlt, hq4, hb1, hnf, hb2, hod, hb1]
      refine W_block ?_
      have hol : od.length = op.length := by rw [dod.length_eq]; simp
      refine W_weak (Weak.room (t := 13) (es := 4) rfl (by simp)) ?_
      refine W_weak (Weak.keep [6, 7, 12, 13, 14]) ?_
      simp only [go_sem, ldS_at hd, stX_at hd, ldS_sv hlt, stX_sv hlt, sv_ext hlt, sv_ext_sv hlt, hq4, hb1, hnf, hb2, hod, hb1]
      refine W_loopT (α := Nat) (fun (i : Nat) => [(13, .isl ((pickE op (od.take i)).map evPV) (.tok (σ.rooms.length + 3) i 4)), (14, I i)]) (fun (i : Nat) => (σ.setVar d [.int .u64 b1]).ext [some (scCells s), some [.isl [] .exact, .isl [] .exact, .isl [] .exact], some [.isl (op.map evPV) (.tok σ.rooms.length op.length 4), .isl (ab.map stPV) (.tok (σ.rooms.length + 1) ab.length 2), .isl (fi.map stPV) (.tok (σ.rooms.length + 2) fi.length 2)]] [op.length, ab.length, fi.length, i]) (fun (i : Nat) => i ≤ od.length) (fun (i : Nat) => od.length - i) (0) rfl (by first | rfl | (simp only [go_sem]; done) | (simp only [go_sem]; rfl)) (Nat.zero_le _) ?_
      rintro i hi
      refine W_seq fun kz26 kq26 => ?_
      refine W_seq fun kz27 kq27 => ?_
      refine W_region [6, 7, 12, 13, 14, 102] fun R hR => ?_   -- r21
      simp only [go_sem, ldS_at hd, stX_at hd, ldS_sv hlt, stX_sv hlt, sv_ext hlt, sv_ext_sv hlt, hq4, hb1, hnf, hb2, hod, hb1]
      refine hR _ _ (kq27 _ _ ?_); clear hR R; try clear kq27 kz27
      try simp only [go_sem, ldS_at hd, stX_at hd, ldS_sv hlt, stX_sv hlt, sv_ext hlt, sv_ext_sv hlt, hq4, hb1, hnf, hb2, hod, hb1]
      refine W_cond rfl (fun c6 => ?_) (fun c6 => ?_)
      · -- c6 true
        try simp only [nrm] at c6
        have hi' : i < od.length := by first | omega | (simp at c6; omega)
        obtain ⟨x, hx⟩ : ∃ x, od[i]? = some x := ⟨od[i], by simp [hi']⟩
        obtain ⟨y, rfl, hy⟩ : ∃ y : Nat, x = y ∧ y < op.length := by
          obtain ⟨y, h1, h2⟩ := List.mem_map.1 (dod.mem_iff.1 (List.mem_of_getElem? hx))
          exact ⟨y, h2.symm, List.mem_range.1 h1⟩
        obtain ⟨e, he⟩ : ∃ e, op[y]? = some e := ⟨op[y], by simp [hy]⟩
        have hpl : (pickE op (od.take i)).length = i := by simp [pickE]; omega
        have hpk : pickE op (od.take (i + 1)) = pickE op (od.take i) ++ [e] := by rw [List.take_add_one, hx]; simp [pickE, he]
        refine W_skip (kq26 _ _ ?_)
        refine W_seq fun kz28 kq28 => ?_
        refine W_block ?_
        refine W_draw [6, 7, 12, 13, 14] [0, 1, 2, 3, 4, 5, 6, 7, 8, 9, 10, 11] [] [[], [], [1], [], [], [3, 4], [3, 4, 5], [1, 2, 3, 4, 5, 6], [1, 2, 3, 4, 5, 6, 7], [1, 2, 3, 4, 5, 6, 7, 8], [0, 1, 2, 3, 4, 5, 6, 7, 8, 9], [0, 1, 2, 3, 4, 5, 6, 7, 8, 9, 10]] mixed (by kernel_rfl) fun R hR => ?_   -- r23
        simp only [go_sem, ldS_at hd, stX_at hd, ldS_sv hlt, stX_sv hlt, sv_ext hlt, sv_ext_sv hlt, hq4, hb1, hnf, hb2, hod, hb1, hx, he]
        try simp (disch := first | omega | (simp only [go_sem] <;> omega)) only [wrapI, wrapU, appX_exact, appX_tok]
        try simp only [go_sem, ldS_at hd, stX_at hd, ldS_sv hlt, stX_sv hlt, sv_ext hlt, sv_ext_sv hlt, hq4, hb1, hnf, hb2, hod, hb1, hx, he]
        try refine And.intro (by repeat' (first | refine And.intro ?_ ?_ | exact GOr_right (fun _ => by simp only [go_sem, ldS_at hd, stX_at hd, ldS_sv hlt, stX_sv hlt, sv_ext hlt, sv_ext_sv hlt, hq4, hb1, hnf, hb2, hod, hb1, hx, he]))) ?_
        refine hR _ _ (kq28 _ _ ?_); clear hR R; try clear kq28 kz28
        try simp only [go_sem, ldS_at hd, stX_at hd, ldS_sv hlt, stX_sv hlt, sv_ext hlt, sv_ext_sv hlt, hq4, hb1, hnf, hb2, hod, hb1, hx, he]
        refine W_region [6, 7, 12, 13, 14] fun R hR => ?_   -- r22
        simp only [go_sem, ldS_at hd, stX_at hd, ldS_sv hlt, stX_sv hlt, sv_ext hlt, sv_ext_sv hlt, hq4, hb1, hnf, hb2, hod, hb1, hx, he]
        try simp (disch := omega) only [wrapI, wrapU]
        refine hR _ _ ?_; clear hR R
        try simp only [go_sem, ldS_at hd, stX_at hd, ldS_sv hlt, stX_sv hlt, sv_ext hlt, sv_ext_sv hlt, hq4, hb1, hnf, hb2, hod, hb1, hx, he]
        refine ⟨i + 1, ?_, by (try simp only []); omega, ?_⟩
        · refine Weak.eq (by first | rfl | (simp only [go_sem, hpk, hpl, List.map_append]; done) | (simp [go_sem, hpk, hpl]; done)) ?_
          simp only [go_sem, hpl]
        · try dsimp only
          omega
      · -- c6 false
        try simp only [nrm] at c6
        have hie : od.length = i := by first | omega | (simp at c6; omega)
        subst hie
        simp only [List.take_length, hol]
        refine W_exit ?_
        simp only [go_sem, ldS_at hd, stX_at hd, ldS_sv hlt, stX_sv hlt, sv_ext hlt, sv_ext_sv hlt, hq4, hb1, hnf, hb2, hod, hb1]
        refine kq24 _ _ ?_
        refine W_seq fun kz29 kq29 => ?_
        refine W_region [6, 7] fun R hR => ?_   -- r24
        simp only [go_sem, ldS_at hd, stX_at hd, ldS_sv hlt, stX_sv hlt, sv_ext hlt, sv_ext_sv hlt, hq4, hb1, hnf, hb2, hod, hb1]
        refine hR _ _ (kq29 _ _ ?_); clear hR R; try clear kq29 kz29
        try simp only [go_sem, ldS_at hd, stX_at hd, ldS_sv hlt, stX_sv hlt, sv_ext hlt, sv_ext_sv hlt, hq4, hb1, hnf, hb2, hod, hb1]
        refine W_seq fun kz30 kq30 => ?_
        refine W_region [6] fun R hR => ?_   -- r25
        simp only [go_sem, ldS_at hd, stX_at hd, ldS_sv hlt, stX_sv hlt, sv_ext hlt, sv_ext_sv hlt, hq4, hb1, hnf, hb2, hod, hb1]
        refine hR _ _ (kq30 _ _ ?_); clear hR R; try clear kq30 kz30
        try simp only [go_sem, ldS_at hd, stX_at hd, ldS_sv hlt, stX_sv hlt, sv_ext hlt, sv_ext_sv hlt, hq4, hb1, hnf, hb2, hod, hb1]
        refine W_ret ?_
        simp only [go_sem, ldS_at hd, stX_at hd, ldS_sv hlt, stX_sv hlt, sv_ext hlt, sv_ext_sv hlt, hq4, hb1, hnf, hb2, hod, hb1]
        refine ⟨.inr (by trivial), ?_⟩
        rw [← hres]; refine Fin_set hcl (by simp only [go_sem]) (by show resPV Try.prog _ _ [.cell 6 32] = some _; simp only [resPV, go_sem]; rfl) (Wk.ro (by simp only [go_sem]) ?_)
        try simp only [go_sem]
        all_goals
          rw [← hol, List.take_length]
end Go.Proofs.Ytgelnjmddabgpaa
namespace Go.Proofs.Ytgelnjmddabgpaa
set_option maxRecDepth 100000
def Bef (m j : Nat) (p : Int × Int) : Prop := p.1 < m ∨ (p.1 = m ∧ p.2 < j)
structure RInv (s : Scale) (dec : Bool) (m j : Nat) (here : Int) (op : List Envl) (ab : List (Int × Int)) : Prop where
  go : ∀ x, x ∈ op → GoodE s x ∧ Bef m j (jdE x)
  ga : ∀ a, a ∈ ab → ofSc s a = true ∧ Bef m j a
  nd : (op.map jdE ++ ab).Nodup
  sh : ∀ m' : Int, 0 ≤ m' → m' < m → ∃ q, (0 ≤ q ∧ q < s.judges) ∧ (m', q) ∉ ab
  he : 0 < here → ∃ q : Int, (0 ≤ q ∧ q < j) ∧ ((m : Int), q) ∉ ab
  h0 : 0 ≤ here
  dc : dec = true → ∀ p, ofSc s p = true → Bef m j p → p ∈ ab ∨ ∃ x, x ∈ op ∧ jdE x = p
  l1 : op.length ≤ 5 * m + j
  l2 : ab.length ≤ 5 * m + j
theorem Bef.mono {m j : Nat} {p : Int × Int} (h : Bef m j p) : Bef m (j + 1) p := by
  unfold Bef at *; omega
theorem sealed_good {s : Scale} (hc : chkSc s = 0) {m j : Int} {l : List Int} (hj : ofSc s (m, j) = true) (hl : (l.length : Int) = s.schools ∧ ∀ x, x ∈ l → s.low ≤ x ∧ x ≤ s.high) : GoodE s (sealedE s m j l) := by
  have hm : marked s (m, j) l = 0 := marked_of hj hl.1 hl.2
  refine ⟨hm, ?_⟩
  show (sealAns s (m, j) l).1 = sealOf (m, j) l
  unfold sealAns
  rw [if_neg (by simp [hc]), if_neg (by simp [hm])]
section
variable {s : Scale} {dec : Bool} {m j : Nat} {here : Int} {op : List Envl} {ab : List (Int × Int)}
theorem RInv.absent (h : RInv s dec m j here op ab) (hj : ofSc s ((m : Int), (j : Int)) = true) : RInv s dec m (j + 1) here op (ab ++ [((m : Int), (j : Int))]) where
  go := fun x hx => ⟨(h.go x hx).1, (h.go x hx).2.mono⟩
  ga := fun a ha => by
    rcases List.mem_append.1 ha with ha | ha
    · exact ⟨(h.ga a ha).1, (h.ga a ha).2.mono⟩
    · simp at ha; subst ha; exact ⟨hj, .inr ⟨rfl, by simp; omega⟩⟩
  nd := by
    rw [← List.append_assoc, List.nodup_append]
    refine ⟨h.nd, by simp, fun a ha b hb e => ?_⟩
    simp at hb
    subst hb e
    rcases List.mem_append.1 ha with ha | ha
    · obtain ⟨x, hx, e⟩ := List.mem_map.1 ha
      have := (h.go x hx).2
      rw [e] at this
      unfold Bef at this; simp at this
    · have := (h.ga _ ha).2
      unfold Bef at this; simp at this
  sh := fun m' a b => by
    obtain ⟨q, h1, h2⟩ := h.sh m' a b
    refine ⟨q, h1, fun hq => ?_⟩
    rcases List.mem_append.1 hq with hq | hq
    · exact h2 hq
    · simp at hq; omega
  he := fun hh => by
    obtain ⟨q, h1, h2⟩ := h.he hh
    refine ⟨q, by omega, fun hq => ?_⟩
    rcases List.mem_append.1 hq with hq | hq
    · exact h2 hq
    · simp at hq; omega
  h0 := h.h0
  dc := fun hd p hp hb => by
    by_cases e : p = ((m : Int), (j : Int))
    · exact .inl (by simp [e])
    · have : Bef m j p := by
        unfold Bef at *
        have : ¬ (p.1 = m ∧ p.2 = j) := fun ⟨a, b⟩ => e (Prod.ext a b)
        omega
      rcases h.dc hd p hp this with k | k
      · exact .inl (by simp [k])
      · exact .inr k
  l1 := by have := h.l1; omega
  l2 := by have := h.l2; simp; omega
theorem RInv.skip (h : RInv s dec m j here op ab) (hd : dec = false) : RInv s dec m (j + 1) (here + 1) op ab where
  go := fun x hx => ⟨(h.go x hx).1, (h.go x hx).2.mono⟩
  ga := fun a ha => ⟨(h.ga a ha).1, (h.ga a ha).2.mono⟩
  nd := h.nd
  sh := h.sh
  he := fun _ => ⟨j, by omega, fun ha => by have := (h.ga _ ha).2; unfold Bef at this; simp at this⟩
  h0 := by have := h.h0; omega
  dc := fun e => by rw [hd] at e; cases e
  l1 := by have := h.l1; omega
  l2 := by have := h.l2; omega
theorem RInv.opened (h : RInv s dec m j here op ab) (hc : chkSc s = 0) (hj : ofSc s ((m : Int), (j : Int)) = true) {l : List Int} (hl : (l.length : Int) = s.schools ∧ ∀ x, x ∈ l → s.low ≤ x ∧ x ≤ s.high) : RInv s dec m (j + 1) (here + 1) (op ++ [sealedE s m j l]) ab where
  go := fun x hx => by
    rcases List.mem_append.1 hx with hx | hx
    · exact ⟨(h.go x hx).1, (h.go x hx).2.mono⟩
    · simp at hx; subst hx; exact ⟨sealed_good hc hj hl, .inr ⟨rfl, by simp [jdE, sealedE]; omega⟩⟩
  ga := fun a ha => ⟨(h.ga a ha).1, (h.ga a ha).2.mono⟩
  nd := by
    have hnew : ((m : Int), (j : Int)) ∉ op.map jdE ++ ab := fun ha => by
      rcases List.mem_append.1 ha with ha | ha
      · obtain ⟨x, hx, e⟩ := List.mem_map.1 ha
        have := (h.go x hx).2
        rw [e] at this
        unfold Bef at this; simp at this
      · have := (h.ga _ ha).2
        unfold Bef at this; simp at this
    rw [List.map_append, List.append_assoc]
    show (op.map jdE ++ ([((m : Int), (j : Int))] ++ ab)).Nodup
    have : (op.map jdE ++ ([((m : Int), (j : Int))] ++ ab)).Perm (((m : Int), (j : Int)) :: (op.map jdE ++ ab)) := List.perm_middle
    rw [this.nodup_iff, List.nodup_cons]
    exact ⟨hnew, h.nd⟩
  sh := h.sh
  he := fun _ => ⟨j, by omega, fun ha => by have := (h.ga _ ha).2; unfold Bef at this; simp at this⟩
  h0 := by have := h.h0; omega
  dc := fun hd p hp hb => by
    by_cases e : p = ((m : Int), (j : Int))
    · exact .inr ⟨_, List.mem_append.2 (.inr (List.mem_singleton.2 rfl)), e.symm⟩
    · have : Bef m j p := by
        unfold Bef at *
        have : ¬ (p.1 = m ∧ p.2 = j) := fun ⟨a, b⟩ => e (Prod.ext a b)
        omega
      rcases h.dc hd p hp this with k | ⟨x, k1, k2⟩
      · exact .inl k
      · exact .inr ⟨x, by simp [k1], k2⟩
  l1 := by have := h.l1; simp; omega
  l2 := by have := h.l2; omega
theorem RInv.next (h : RInv s dec m j here op ab) (hv : s.V) (hJ : s.judges = j) (hh : 0 < here) : RInv s dec (m + 1) 0 0 op ab where
  go := fun x hx => ⟨(h.go x hx).1, by have := (h.go x hx).2; unfold Bef at *; omega⟩
  ga := fun a ha => ⟨(h.ga a ha).1, by have := (h.ga a ha).2; unfold Bef at *; omega⟩
  nd := h.nd
  sh := fun m' a b => by
    by_cases e : m' < m
    · exact h.sh m' a e
    · obtain ⟨q, h1, h2⟩ := h.he hh
      have e2 : m' = m := by omega
      subst e2
      exact ⟨q, by omega, h2⟩
  he := fun a => absurd a (by omega)
  h0 := Int.le_refl _
  dc := fun hd p hp hb => h.dc hd p hp (by
    obtain ⟨_, h2⟩ := ofSc_true.1 hp
    unfold Bef at *
    omega)
  l1 := by have := h.l1; have := hv.jd; omega
  l2 := by have := h.l2; have := hv.jd; omega
end
theorem nightJ_ok {s : Scale} {dec : Bool} (hc : chkSc s = 0) {J m : Nat} (hJ : s.judges = J) (hm : (m : Int) < s.matters) : ∀ (k : Nat) (here : Int) (op : List Envl) (ab : List (Int × Int)), k ≤ J → RInv s dec m (J - k) here op ab → (k = 0 → 0 < here) → Holds (nightJ s dec J m k here op ab) fun p => RInv s dec (m + 1) 0 0 p.1 p.2 := by
  have hv := Scale.v hc
  have hjd := hv.jd
  intro k
  induction k with
  | zero =>
    intro here op ab _ h h0
    exact .ret (h.next hv (by simpa using hJ) (h0 rfl))
  | succ k ih =>
    intro here op ab hk h _
    have e : J - k = (J - (k + 1)) + 1 := by omega
    have hj : ofSc s ((m : Int), ((J - (k + 1) : Nat) : Int)) = true := by rw [ofSc_true]; constructor <;> simp <;> omega
    have hh := h.h0
    simp only [nightJ]
    have hr : Holds (rare 5) fun _ => True := fun _ => trivial
    refine hr.bind fun a _ => ?_
    split
    · rename_i hcond
      refine ih _ _ _ (by omega) (by rw [e]; exact h.absent hj) fun hk0 => ?_
      subst hk0
      omega
    · split
      · exact (marksD_ok hv).bind fun l hl => ih _ _ _ (by omega) (by rw [e]; exact h.opened hc hj hl) fun _ => by omega
      · rename_i hd
        have hr : Holds (rare 3) fun _ => True := fun _ => trivial
        refine hr.bind fun r _ => ?_
        split
        · exact ih _ _ _ (by omega) (by rw [e]; exact h.skip (by simpa using hd)) fun _ => by omega
        · exact (marksD_ok hv).bind fun l hl => ih _ _ _ (by omega) (by rw [e]; exact h.opened hc hj hl) fun _ => by omega
theorem nightM_ok {s : Scale} {dec : Bool} (hc : chkSc s = 0) {M J : Nat} (hM : s.matters = M) (hJ : s.judges = J) : ∀ (k : Nat) (op : List Envl) (ab : List (Int × Int)), k ≤ M → RInv s dec (M - k) 0 0 op ab → Holds (nightM s dec M J k op ab) fun p => RInv s dec M 0 0 p.1 p.2 := by
  have hjd := (Scale.v hc).jd
  intro k
  induction k with
  | zero => intro op ab _ h; exact .ret h
  | succ k ih =>
    intro op ab hk h
    simp only [nightM]
    refine (nightJ_ok hc hJ (by omega) J 0 op ab (Nat.le_refl _) (by rw [Nat.sub_self]; exact h) (fun e => by omega)).bind fun p hp => ih _ _ (by omega) ?_
    rw [show M - k = M - (k + 1) + 1 by omega]
    exact hp
def FinesIn (sc : Int) (l : List (Int × Int)) : Prop := ∀ f, f ∈ l → (0 ≤ f.1 ∧ f.1 ≤ sc - 1) ∧ 0 ≤ f.2 ∧ f.2 ≤ 1000
theorem finesC_ok {sc : Int} (hs : 1 ≤ sc) : ∀ (k : Nat) (fi : List (Int × Int)), FinesIn sc fi → Holds (finesC sc k fi) fun l => FinesIn sc l ∧ l.length = fi.length + k := by
  intro k
  induction k with
  | zero => intro fi h; exact .ret ⟨h, rfl⟩
  | succ k ih =>
    intro fi h
    simp only [finesC]
    refine (roll_bd sc).bind fun a ha => (anyOf_mem [3, 100] (by simp)).bind fun y hy => (roll_bd y).bind fun p hp => (ih (fi ++ [(a, p)]) fun f hf => ?_).mono fun l hl => ⟨hl.1, by rw [hl.2]; simp; omega⟩
    rcases List.mem_append.1 hf with hf | hf
    · exact h f hf
    · simp at hf
      subst hf
      simp only
      rcases mem2 hy with rfl | rfl <;> omega
theorem finesD_ok {sc : Int} (hs : 1 ≤ sc) : Holds (finesD sc) fun l => FinesIn sc l ∧ l.length ≤ 3 := by
  unfold finesD
  refine (roll_bd 4).bind fun q hq => (anyOf_mem [0, 0, q] (by simp)).bind fun n hn => (finesC_ok hs n.toNat [] (fun f hf => by cases hf)).mono fun l hl => ⟨hl.1, ?_⟩
  have : 0 ≤ n ∧ n ≤ 3 := by rcases mem3 hn with rfl | rfl | rfl <;> omega
  rw [hl.2]; simp; omega
theorem finesR_zero {s : Scale} : ∀ {l : List (Int × Int)}, finesR s l = 0 ↔ FinesIn s.schools l := by
  intro l
  induction l with
  | nil => simp [finesR, FinesIn]
  | cons f l ih =>
    simp only [finesR]
    by_cases h1 : inR f.1 0 (s.schools - 1) = true
    · rw [h1]
      simp only [Bool.not_true, Bool.false_eq_true, if_false]
      by_cases h2 : inR f.2 0 1000 = true
      · rw [h2]
        simp only [Bool.not_true, Bool.false_eq_true, if_false]
        rw [ih]
        constructor
        · intro h g hg
          rcases List.mem_cons.1 hg with rfl | hg
          · exact ⟨inR_true.1 h1, inR_true.1 h2⟩
          · exact h g hg
        · intro h g hg; exact h g (by simp [hg])
      · have e : inR f.2 0 1000 = false := by simpa using h2
        rw [e]
        constructor
        · intro h; exact absurd h (by simp)
        · intro h; exact absurd (inR_true.2 (h f (by simp)).2) h2
    · have e : inR f.1 0 (s.schools - 1) = false := by simpa using h1
      rw [e]
      constructor
      · intro h; exact absurd h (by simp)
      · intro h; exact absurd (inR_true.2 (h f (by simp)).1) h1
theorem pickE_perm {op : List Envl} {od : List Int} (h : od.Perm ((List.range op.length).map fun (i : Nat) => (i : Int))) : (pickE op od).Perm op := by
  have h1 := h.map fun i : Int => (op[i.toNat]?).getD ⟨0, 0, [], 0⟩
  refine h1.trans ?_
  rw [List.map_map]
  have : (List.range op.length).map ((fun i : Int => (op[i.toNat]?).getD ⟨0, 0, [], 0⟩) ∘ fun (i : Nat) => (i : Int)) = op := by
    apply List.ext_getElem?
    intro i
    by_cases hi : i < op.length
    · simp [hi]
    · simp [hi]
  rw [this]
theorem sameE_of_nodup : ∀ {l : List Envl}, (l.map jdE).Nodup → SameE l := by
  intro l
  induction l with
  | nil => intro _ x hx; cases hx
  | cons a l ih =>
    intro h x hx y hy e
    rw [List.map_cons, List.nodup_cons] at h
    rcases List.mem_cons.1 hx with rfl | hx'
    · rcases List.mem_cons.1 hy with rfl | hy
      · rfl
      · exact absurd (List.mem_map.2 ⟨y, hy, e.symm⟩) h.1
    · rcases List.mem_cons.1 hy with rfl | hy
      · exact absurd (List.mem_map.2 ⟨x, hx', e⟩) h.1
      · exact ih h.2 x hx' y hy e
structure NightM (s : Scale) (dec : Bool) (n : Night) : Prop where
  v : NightV s n
  l1 : n.opened.length ≤ 30
  l2 : n.absent.length ≤ 30
  l3 : n.fines.length ≤ 3
  nd : (n.opened.map jdE).Nodup
  fi : FinesIn s.schools n.fines
  dc : dec = true → ∀ p, ofSc s p = true → p ∈ n.absent ∨ ∃ x, x ∈ n.opened ∧ jdE x = p
theorem nightD_ok {s : Scale} (hc : chkSc s = 0) (dec : Bool) : Holds (nightD s dec) (NightM s dec) := by
  have hv := Scale.v hc
  have q1 := hv.mt
  have q2 := hv.jd
  have q3 := hv.sc
  unfold nightD
  have h0 : RInv s dec (s.matters.toNat - s.matters.toNat) 0 0 [] [] := by
    rw [Nat.sub_self]
    exact ⟨(fun x hx => by cases hx), (fun x hx => by cases hx), by simp, (fun m' a b => by omega), (fun h => absurd h (by omega)), Int.le_refl _, (fun _ p hp hb => by
      obtain ⟨h1, _⟩ := ofSc_true.1 hp
      unfold Bef at hb; omega), by simp, by simp⟩
  refine (nightM_ok hc (by omega) (by omega) s.matters.toNat [] [] (Nat.le_refl _) h0).bind fun p hp => (finesD_ok q3.1).bind fun fi hfi => (orderD_perm p.1.length).bind fun od hod => .ret ?_
  have hpm := pickE_perm hod
  have hmem : ∀ x, x ∈ pickE p.1 od ↔ x ∈ p.1 := fun x => hpm.mem_iff
  have hnd : ((pickE p.1 od).map jdE).Nodup := (hpm.map jdE).nodup_iff.2 (List.nodup_append.1 hp.nd).1
  have l1 := hp.l1
  have l2 := hp.l2
  have hl := hpm.length_eq
  refine ⟨⟨hc, by simp only; omega, fun x hx => (hp.go x ((hmem x).1 hx)).1, sameE_of_nodup hnd, by simp only; omega, fun j hj => ⟨(hp.ga j hj).1, fun x hx e => ?_⟩, fun m m0 m1 => hp.sh m m0 (by omega), ?_⟩, by simp only; omega, by simp only; omega, hfi.2, hnd, hfi.1, fun hd q hq => ?_⟩
  · exact (List.nodup_append.1 hp.nd).2.2 (jdE x) (List.mem_map.2 ⟨x, (hmem x).1 hx, rfl⟩) j hj e
  · show finesE s fi = 0
    unfold finesE
    rw [if_neg (by omega)]
    exact finesR_zero.2 hfi.1
  · rcases hp.dc hd q hq (.inl (by obtain ⟨h1, _⟩ := ofSc_true.1 hq; omega)) with k | ⟨x, k1, k2⟩
    · exact .inl k
    · exact .inr ⟨x, (hmem x).2 k1, k2⟩
theorem NightV.ok {s : Scale} {n : Night} (h : NightV s n) : n.Ok := by
  have hv := Scale.v h.c
  have hs := hv.sc
  have h1 := h.o60
  have h2 := h.a60
  refine ⟨by omega, by omega, ?_, fun x hx => ?_⟩
  · have := h.fi
    unfold finesE at this
    split at this
    · cases this
    · omega
  · have := (marked_ok (h.op x hx).m).2.1
    omega
end Go.Proofs.Ytgelnjmddabgpaa
namespace Go.Proofs.Ytgelnjmddabgpaa
open Go Go.RowKit
set_option maxRecDepth 100000
/-- Is somebody there, matter by matter, after so many judges? -/
def thUp (k : Kn) (J M : Nat) : Nat → List Bool
  | 0 => List.replicate M false
  | t + 1 => (thUp k J M t).set (t / J) (((thUp k J M t)[t / J]?).getD false || !(absentK k ((t / J : Nat), (t % J : Nat))))
theorem thUp_len (k : Kn) (J M : Nat) : ∀ t, (thUp k J M t).length = M := by
  intro t
  induction t with
  | zero => simp [thUp]
  | succ t ih => simp [thUp, ih]
theorem idx_div {J m n : Nat} (hn : n < J) : (m * J + n) / J = m ∧ (m * J + n) % J = n := by
  have hJ : 0 < J := by omega
  constructor
  · rw [Nat.add_comm, Nat.add_mul_div_right _ _ hJ, Nat.div_eq_of_lt hn, Nat.zero_add]
  · rw [Nat.add_comm, Nat.add_mul_mod_self_right, Nat.mod_eq_of_lt hn]
theorem thUp_step (k : Kn) {J M m n : Nat} (hn : n < J) {b : Bool} (h : (thUp k J M (m * J + n))[m]? = some b) : thUp k J M (m * J + n + 1) = (thUp k J M (m * J + n)).set m (b || !(absentK k ((m : Int), (n : Int)))) := by
  obtain ⟨e1, e2⟩ := idx_div (m := m) hn
  simp only [thUp]
  rw [e1, e2, h]
  rfl
theorem thUp_get (k : Kn) {J M m : Nat} (hJ : 0 < J) (hm : m < M) : ∀ t, ∃ v, (thUp k J M t)[m]? = some v ∧ (v = true ↔ ∃ n, n < J ∧ m * J + n < t ∧ absentK k ((m : Int), (n : Int)) = false) := by
  intro t
  induction t with
  | zero => exact ⟨false, by simp [thUp, hm], by simp⟩
  | succ t ih =>
    obtain ⟨v, h1, h2⟩ := ih
    have ht : t = (t / J) * J + t % J := by rw [Nat.mul_comm]; exact (Nat.div_add_mod t J).symm
    have hmod : t % J < J := Nat.mod_lt _ hJ
    simp only [thUp]
    by_cases e : t / J = m
    · rw [e, h1]
      rw [e] at ht
      refine ⟨v || !(absentK k ((m : Int), ((t % J : Nat) : Int))), by rw [List.getElem?_set_self (by rw [thUp_len]; exact hm)]; rfl, ?_⟩
      rw [Bool.or_eq_true, h2]
      constructor
      · rintro (⟨n, a, b, c⟩ | h)
        · exact ⟨n, a, by omega, c⟩
        · exact ⟨t % J, hmod, by omega, by simpa using h⟩
      · rintro ⟨n, a, b, c⟩
        by_cases q : m * J + n < t
        · exact .inl ⟨n, a, q, c⟩
        · have : n = t % J := by omega
          subst this
          exact .inr (by rw [c]; rfl)
    · refine ⟨v, by rw [List.getElem?_set_ne e]; exact h1, ?_⟩
      rw [h2]
      constructor
      · rintro ⟨n, a, b, c⟩
        exact ⟨n, a, by omega, c⟩
      · rintro ⟨n, a, b, c⟩
        refine ⟨n, a, ?_, c⟩
        by_cases q : m * J + n = t
        · have := (idx_div (m := m) a).1
          rw [q] at this
          exact absurd this e
        · omega
theorem thUp_short (s : Scale) (k : Kn) {J M : Nat} (hM : s.matters = M) (hJ : s.judges = J) (hJ0 : 0 < J) : ((thUp k J M (M * J)).any fun x => decide (false = x)) = shortK s k := by
  rw [Bool.eq_iff_iff]
  simp only [shortK, toI, hM, hJ, Int.toNat_natCast, List.any_map, List.all_map, List.any_eq_true, List.all_eq_true, Function.comp, List.mem_range, decide_eq_true_eq]
  constructor
  · rintro ⟨x, hx, rfl⟩
    obtain ⟨m, hm⟩ := List.mem_iff_getElem?.1 hx
    have hlt : m < M := by rw [← thUp_len k J M (M * J)]; exact (List.getElem?_eq_some_iff.1 hm).1
    obtain ⟨v, h1, h2⟩ := thUp_get k hJ0 hlt (M * J)
    rw [h1] at hm
    injection hm with hm
    subst hm
    refine ⟨m, hlt, fun n hn => ?_⟩
    cases ha : absentK k ((m : Int), (n : Int)) with
    | true => rfl
    | false =>
      have : m * J + J ≤ M * J := by rw [← Nat.succ_mul]; exact Nat.mul_le_mul_right _ hlt
      have := h2.2 ⟨n, hn, by omega, ha⟩
      cases this
  · rintro ⟨m, hlt, h⟩
    obtain ⟨v, h1, h2⟩ := thUp_get k hJ0 hlt (M * J)
    refine ⟨v, List.mem_of_getElem? h1, ?_⟩
    cases v with
    | false => rfl
    | true =>
      obtain ⟨n, hn, _, ha⟩ := h2.1 rfl
      rw [h n hn] at ha
      cases ha
theorem knPos_nil : KnPos [] := fun e he => by cases he
theorem known_ok {s : Scale} {g : Night} (h : knownE s g = 0) : s.V ∧ ¬ (60 < (g.opened.length : Int)) ∧ (openK s g.opened []).1 = 0 ∧ ¬ (60 < (g.absent.length : Int)) ∧ (missK s g.absent (openK s g.opened []).2).1 = 0 ∧ shortK s (knownK s g) = false ∧ finesE s g.fines = 0 := by
  unfold knownE at h
  split at h
  · rename_i h1; exact absurd h h1
  · rename_i h1
    split at h
    · cases h
    · rename_i h2
      split at h
      · rename_i h3; exact absurd h h3
      · rename_i h3
        split at h
        · cases h
        · rename_i h4
          split at h
          · rename_i h5; exact absurd h h5
          · rename_i h5
            split at h
            · cases h
            · rename_i h6
              exact ⟨Scale.v (by omega), h2, by omega, h4, by omega, by simpa using h6, h⟩
set_option maxHeartbeats 2000000 in
theorem BindexM_pc (Y : YEnv) (σ : Sg) (l : List Bool) (v : Bool) (id n : Nat) (hd : σ.store[id]? = some (some (l.map PV.bool))) (hn : l.length = n) (hl : n < 2 ^ 40) :
    PC Try.prog Y 79 [.msl id 0 n, .bool v] σ (I (fIdx (fun x => decide (v = x)) 0 l)) (σ) := by
  refine PC_of_W Try.func79 rfl (by kernel_rfl) Try.ntmps79 (by simp) fun hcl hca => ?_
  obtain ⟨res, hres⟩ : ∃ r, fIdx (fun x => decide (v = x)) 0 l = r := ⟨_, rfl⟩
  rw [hres]
  refine W_seq fun kz1 kq1 => ?_
  refine W_region [0, 1] fun R hR => ?_   -- r0
  simp only [go_sem, beqB, ldS_at hd]
  refine hR _ _ (kq1 _ _ ?_); clear hR R; try clear kq1 kz1
  try simp only [go_sem, beqB, ldS_at hd]
  refine W_seq fun kz2 kq2 => ?_
  refine W_seq fun kz3 kq3 => ?_
  refine W_region [0, 1, 7, 8] fun R hR => ?_   -- r1
  simp only [go_sem, beqB, ldS_at hd]
  refine hR _ _ (kq3 _ _ ?_); clear hR R; try clear kq3 kz3
  try simp only [go_sem, beqB, ldS_at hd]
  refine W_block ?_
  refine W_loopS (α := Nat) (fun (i : Nat) => [(8, I i)]) (fun (i : Nat) => i ≤ l.length ∧ res = fIdx (fun x => decide (v = x)) i (l.drop i)) (fun (i : Nat) => l.length - i) (0) rfl (⟨Nat.zero_le _, hres.symm⟩) ?_
  rintro i ⟨hi, hinv⟩
  refine W_seq fun kz4 kq4 => ?_
  refine W_region [0, 1, 7, 8, 9] fun R hR => ?_   -- r2
  simp only [go_sem, beqB, ldS_at hd]
  refine hR _ _ (kq4 _ _ ?_); clear hR R; try clear kq4 kz4
  try simp only [go_sem, beqB, ldS_at hd]
  refine W_seq fun kz5 kq5 => ?_
  refine W_cond rfl (fun c1 => ?_) (fun c1 => ?_)
  · -- c1 true
    try simp only [nrm] at c1
    have hi' : i < l.length := by first | assumption | omega
    obtain ⟨x, hx⟩ : ∃ x, l[i]? = some x := ⟨l[i], by simp [hi']⟩
    have hdrop : l.drop i = x :: l.drop (i + 1) := by
      rw [List.drop_eq_getElem_cons hi']; congr 1; exact (List.getElem?_eq_some_iff.1 hx).2
    rw [hdrop] at hinv
    simp only [fIdx] at hinv
    have hin : (i : Int) < (n : Int) := by omega
    refine W_skip (kq5 _ _ ?_)
    refine W_seq fun kz6 kq6 => ?_
    refine W_block ?_
    refine W_seq fun kz7 kq7 => ?_
    refine W_region [0, 1, 5, 7, 8] fun R hR => ?_   -- r3
    simp only [go_sem, beqB, ldS_at hd, hx]
    refine hR _ _ (kq7 _ _ ?_); clear hR R; try clear kq7 kz7
    try simp only [go_sem, beqB, ldS_at hd, hx]
    refine W_seq fun kz8 kq8 => ?_
    refine W_region [0, 1, 5, 7, 8, 16] fun R hR => ?_   -- r4
    simp only [go_sem, beqB, ldS_at hd, hx, hin, iaM_nat (Int.ofNat_lt.1 hin), Nat.mul_one, Nat.zero_add, List.getElem?_map]
    refine hR _ _ (kq8 _ _ ?_); clear hR R; try clear kq8 kz8
    try simp only [go_sem, beqB, ldS_at hd, hx]
    refine W_cond rfl (fun c2 => ?_) (fun c2 => ?_)
    · -- c2 true
      try simp only [nrm] at c2
      refine W_seq fun kz9 kq9 => ?_
      refine W_region [4] fun R hR => ?_   -- r5
      simp only [go_sem, beqB, ldS_at hd, hx]
      refine hR _ _ (kq9 _ _ ?_); clear hR R; try clear kq9 kz9
      try simp only [go_sem, beqB, ldS_at hd, hx]
      refine W_ret ?_
      simp only [go_sem, beqB, ldS_at hd, hx]
      refine ⟨.inr (by trivial), ?_⟩
      first | refine Fin_same hcl rfl (Wk_eq ?_ (by simp only [go_sem])) | refine Fin_self hcl rfl (Wk_eq ?_ (by simp only [go_sem]))
      try simp only [go_sem]
      all_goals
        first | rfl | (simp_all; done) | (simp_all; omega)
    · -- c2 false
      try simp only [nrm] at c2
      refine W_skip (kq6 _ _ ?_)
      refine W_region [0, 1, 7, 8] fun R hR => ?_   -- r6
      simp only [go_sem, beqB, ldS_at hd, hx]
      try simp (disch := omega) only [wrapI, wrapU]
      refine hR _ _ ?_; clear hR R
      try simp only [go_sem, beqB, ldS_at hd, hx]
      refine ⟨i + 1, ?_, by (try simp only []); omega, ?_⟩
      · first | exact Weak.refl | exact Weak.eq (by first | rfl | (simp only [go_sem]; done) | (simp only [go_sem]; rfl) | (simp [go_sem]; done) | (simp [go_sem]; omega)) (by first | rfl | (simp only [go_sem]; done) | (simp [go_sem]; done))
      · try dsimp only
        exact ⟨hi', by simp_all⟩
  · -- c1 false
    try simp only [nrm] at c1
    have hdrop : l.drop i = [] := List.drop_eq_nil_of_le (by omega)
    rw [hdrop] at hinv
    simp only [fIdx] at hinv
    refine W_exit ?_
    simp only [go_sem, beqB, ldS_at hd]
    refine kq2 _ _ ?_
    refine W_seq fun kz10 kq10 => ?_
    refine W_region [4] fun R hR => ?_   -- r7
    simp only [go_sem, beqB, ldS_at hd]
    refine hR _ _ (kq10 _ _ ?_); clear hR R; try clear kq10 kz10
    try simp only [go_sem, beqB, ldS_at hd]
    refine W_ret ?_
    simp only [go_sem, beqB, ldS_at hd]
    refine ⟨.inr (by trivial), ?_⟩
    first | refine Fin_same hcl rfl (Wk_eq ?_ (by simp only [go_sem])) | refine Fin_self hcl rfl (Wk_eq ?_ (by simp only [go_sem]))
    try simp only [go_sem]
    all_goals
      first | rfl | (simp_all; done) | (simp_all; omega)
set_option maxHeartbeats 2000000 in
theorem BcontainsM_pc (Y : YEnv) (σ : Sg) (l : List Bool) (v : Bool) (id n : Nat) (hd : σ.store[id]? = some (some (l.map PV.bool))) (hn : l.length = n) (hl : n < 2 ^ 40) :
    PC Try.prog Y 60 [.msl id 0 n, .bool v] σ (.bool (l.any fun x => decide (v = x))) (σ) := by
  refine PC_of_W Try.func60 rfl (by kernel_rfl) Try.ntmps60 (by simp) fun hcl hca => ?_
  refine W_seq fun kz1 kq1 => ?_
  refine W_region [0, 1] fun R hR => ?_   -- r0
  simp only [go_sem]
  refine hR _ _ (kq1 _ _ ?_); clear hR R; try clear kq1 kz1
  try simp only [go_sem]
  refine W_seq fun kz2 kq2 => ?_
  refine W_region [4] fun R hR => ?_   -- r1
  simp only [go_sem]
  refine GCall_of (BindexM_pc Y _ l v id n hd hn hl) ?_   -- t7
  simp only [go_sem]
  refine hR _ _ (kq2 _ _ ?_); clear hR R; try clear kq2 kz2
  try simp only [go_sem]
  refine W_ret ?_
  simp only [go_sem]
  refine ⟨.inr (by trivial), ?_⟩
  first | refine Fin_same hcl rfl (Wk_eq ?_ (by simp only [go_sem])) | refine Fin_self hcl rfl (Wk_eq ?_ (by simp only [go_sem]))
  try simp only [go_sem]
  all_goals
    simp only [fIdx_any, go_sem]
set_option maxHeartbeats 2000000 in
theorem knownOf_ok (Y : YEnv) (σ : Sg) (s : Scale) (g : Night) (hs : s.Ok) (hg : g.Ok) (hE : knownE s g = 0) :
    PC Try.prog Y 38 [scPV s, ngPV g] σ (.tuple [.map (σ.store.length + 2), I 0]) (σ.ext [some (scCells s), some (ngCells g), some (.mark :: knE (knownK s g))] []) := by
  refine PC_of_W Try.func38 rfl (by kernel_rfl) Try.ntmps38 (by simp) fun hcl hca => ?_
  obtain ⟨hv, h1, h2, h3, h4, h5, h6⟩ := known_ok hE
  have hC := hv.c
  have q1 := hv.mt
  have q2 := hv.jd
  obtain ⟨K, hK⟩ : ∃ z, knownK s g = z := ⟨_, rfl⟩
  have hK2 : (missK s g.absent (openK s g.opened []).2).2 = K := hK
  rw [hK] at h5 ⊢
  refine W_seq fun kz1 kq1 => ?_
  refine W_region [2, 3] fun R hR => ?_   -- r0
  simp only [go_sem, hC, h1, h2, h3, h4, h6, hK2]
  refine hR _ _ (kq1 _ _ ?_); clear hR R; try clear kq1 kz1
  try simp only [go_sem, hC, h1, h2, h3, h4, h6, hK2]
  refine W_seq fun kz2 kq2 => ?_
  refine W_seq fun kz3 kq3 => ?_
  refine W_region [2, 3, 6] fun R hR => ?_   -- r1
  simp only [go_sem, hC, h1, h2, h3, h4, h6, hK2]
  refine GCall_of (Check_pc Y _ s hs) ?_   -- t14
  simp only [go_sem, hC, h1, h2, h3, h4, h6, hK2]
  refine hR _ _ (kq3 _ _ ?_); clear hR R; try clear kq3 kz3
  try simp only [go_sem, hC, h1, h2, h3, h4, h6, hK2]
  refine W_seq fun kz4 kq4 => ?_
  refine W_region [2, 3, 6, 16] fun R hR => ?_   -- r2
  simp only [go_sem, hC, h1, h2, h3, h4, h6, hK2]
  refine hR _ _ (kq4 _ _ ?_); clear hR R; try clear kq4 kz4
  try simp only [go_sem, hC, h1, h2, h3, h4, h6, hK2]
  refine W_cond_false rfl ?_
  refine W_skip (kq2 _ _ ?_)
  refine W_seq fun kz5 kq5 => ?_
  refine W_seq fun kz6 kq6 => ?_
  refine W_region [2, 3, 21] fun R hR => ?_   -- r4
  simp only [go_sem, hC, h1, h2, h3, h4, h6, hK2]
  refine hR _ _ (kq6 _ _ ?_); clear hR R; try clear kq6 kz6
  try simp only [go_sem, hC, h1, h2, h3, h4, h6, hK2]
  refine W_cond_false rfl ?_
  refine W_skip (kq5 _ _ ?_)
  refine W_seq fun kz7 kq7 => ?_
  refine W_region [2, 3, 7] fun R hR => ?_   -- r6
  simp only [go_sem, hC, h1, h2, h3, h4, h6, hK2]
  refine hR _ _ (kq7 _ _ ?_); clear hR R; try clear kq7 kz7
  try simp only [go_sem, hC, h1, h2, h3, h4, h6, hK2]
  refine W_seq fun kz8 kq8 => ?_
  refine W_seq fun kz9 kq9 => ?_
  refine W_region [2, 3, 7, 8] fun R hR => ?_   -- r7
  simp only [go_sem, hC, h1, h2, h3, h4, h6, hK2]
  refine GCall_of (open_pc Y _ (σ.store.length + 2) [] (Sg.get_ext ..) s g.opened hv knPos_nil (fun e he => by cases he) hg.ho hg.hm) ?_   -- t27
  simp only [go_sem, hC, h1, h2, h3, h4, h6, hK2]
  refine hR _ _ (kq9 _ _ ?_); clear hR R; try clear kq9 kz9
  try simp only [go_sem, hC, h1, h2, h3, h4, h6, hK2]
  refine W_seq fun kz10 kq10 => ?_
  refine W_region [2, 3, 7, 8, 29] fun R hR => ?_   -- r8
  simp only [go_sem, hC, h1, h2, h3, h4, h6, hK2]
  refine hR _ _ (kq10 _ _ ?_); clear hR R; try clear kq10 kz10
  try simp only [go_sem, hC, h1, h2, h3, h4, h6, hK2]
  refine W_cond_false rfl ?_
  refine W_skip (kq8 _ _ ?_)
  refine W_seq fun kz11 kq11 => ?_
  refine W_seq fun kz12 kq12 => ?_
  refine W_region [2, 3, 7, 34] fun R hR => ?_   -- r10
  simp only [go_sem, hC, h1, h2, h3, h4, h6, hK2]
  refine hR _ _ (kq12 _ _ ?_); clear hR R; try clear kq12 kz12
  try simp only [go_sem, hC, h1, h2, h3, h4, h6, hK2]
  refine W_cond_false rfl ?_
  refine W_skip (kq11 _ _ ?_)
  refine W_seq fun kz13 kq13 => ?_
  refine W_seq fun kz14 kq14 => ?_
  refine W_region [2, 3, 7, 9] fun R hR => ?_   -- r12
  simp only [go_sem, hC, h1, h2, h3, h4, h6, hK2]
  refine GCall_of (miss_pc Y _ (σ.store.length + 2) (openK s g.opened []).2 (Sg.get_ext ..) s g.absent hv hg.ha) ?_   -- t39
  simp only [go_sem, hC, h1, h2, h3, h4, h6, hK2]
  refine hR _ _ (kq14 _ _ ?_); clear hR R; try clear kq14 kz14
  try simp only [go_sem, hC, h1, h2, h3, h4, h6, hK2]
  refine W_seq fun kz15 kq15 => ?_
  refine W_region [2, 3, 7, 9, 41] fun R hR => ?_   -- r13
  simp only [go_sem, hC, h1, h2, h3, h4, h6, hK2]
  refine hR _ _ (kq15 _ _ ?_); clear hR R; try clear kq15 kz15
  try simp only [go_sem, hC, h1, h2, h3, h4, h6, hK2]
  refine W_cond_false rfl ?_
  refine W_skip (kq13 _ _ ?_)
  refine W_seq fun kz16 kq16 => ?_
  obtain ⟨M0, hM0⟩ : ∃ z : Nat, s.matters = z := ⟨s.matters.toNat, by omega⟩
  have mk112h : ∀ {τ : Sg}, makePV Try.prog τ 112 (I s.matters) (I s.matters) = some (.msl τ.store.length 0 s.matters.toNat, τ.push ((List.replicate s.matters.toNat false).map PV.bool)) := fun {τ} => by
    rw [hM0]; exact mk112 (by omega)
  refine W_region [2, 3, 7, 10] fun R hR => ?_   -- r15
  simp only [go_sem, hC, h1, h2, h3, h4, h6, hK2, mk112h]
  refine hR _ _ (kq16 _ _ ?_); clear hR R; try clear kq16 kz16
  try simp only [go_sem, hC, h1, h2, h3, h4, h6, hK2]
  refine W_seq fun kz17 kq17 => ?_
  refine W_seq fun kz18 kq18 => ?_
  refine W_region [2, 3, 7, 10, 47] fun R hR => ?_   -- r16
  simp only [go_sem, hC, h1, h2, h3, h4, h6, hK2]
  refine GCall_of (judges_pc Y _ s) ?_   -- t47
  simp only [go_sem, hC, h1, h2, h3, h4, h6, hK2]
  refine hR _ _ (kq18 _ _ ?_); clear hR R; try clear kq18 kz18
  try simp only [go_sem, hC, h1, h2, h3, h4, h6, hK2]
  refine W_block ?_
  obtain ⟨M, hM⟩ : ∃ z : Nat, s.matters = z := ⟨s.matters.toNat, by omega⟩
  obtain ⟨J, hJ⟩ : ∃ z : Nat, s.judges = z := ⟨s.judges.toNat, by omega⟩
  have hMt : s.matters.toNat = M := by omega
  have hMb : M < 2 ^ 40 := by omega
  have hJb : J < 2 ^ 40 := by omega
  let L : List Bool → List (Option (List PV)) := fun p => [some (scCells s), some (ngCells g), some (.mark :: knE K), some [.map (σ.store.length + 2)], some (p.map PV.bool), some [.msl (σ.store.length + 4) 0 M], some (scCells s)]
  let so : Nat → Sg := fun t => σ.ext (L (thUp K J M t)) [] [.ready]
  have hLc : ∀ p (n r y : Nat), σ.store.length + 7 ≤ n → CleanLs n r y (L p) := fun p n r y h1 => by
    have c1 := cleans_ng (a := n) (b := r) (c := y) g
    have c2 := cleans_sc (a := n) (b := r) (c := y) s
    refine CleanL_cons c2 (CleanL_cons c1 ?_)
    have c3 : CleanAll n r y (knE K) := cA_kn.mpr trivial
    have c4 : CleanAll n r y (p.map PV.bool) := fun q hq => by obtain ⟨x, _, rfl⟩ := List.mem_map.1 hq; exact .bool _
    show CleanLs _ _ _ _
    simp only [CleanLs_cons, CleanLs_nil, CleanAll_cons, CleanAll_nil, Cl_map, Cl_mark, Cl_msl, c3, c4, true_and, and_true]
    refine ⟨by omega, by omega, ?_⟩
    intro q hq
    exact c2 q hq
  try simp only [hMt]
  refine W_rangeFunc (gf := 78) (v := .tuple []) (s := .ready) (σ5 := so (M * J)) rfl (by simp) (fun args τ b' τ' => ∃ m n : Nat, m < M ∧ n < J ∧ args = [.agg [I m, I n]] ∧ b' = true ∧ τ = so (m * J + n) ∧ τ' = so (m * J + n + 1)) ?_ ?_ ?_ ?_ ?_
  · rintro args τ b τ' ⟨m, n, hm, hn, rfl, rfl, rfl, rfl⟩
    refine ⟨rfl, ?_, ?_⟩
    · simp only [so, go_sem]
    · simp only [so, L, go_sem]
      refine W_region [7, 10, 11] fun R hR => ?_   -- r17
      simp only [go_sem, hC, h1, h2, h3, h4, h6, hK2, putAll]
      refine hR _ _ ?_; clear hR R
      try simp only [go_sem, hC, h1, h2, h3, h4, h6, hK2, putAll]
      obtain ⟨tt, htt⟩ : ∃ z, thUp K J M (m * J + n) = z := ⟨_, rfl⟩
      have htl : tt.length = M := by rw [← htt]; exact thUp_len _ _ _ _
      obtain ⟨b0, hb0⟩ : ∃ z, tt[m]? = some z := ⟨tt[m]'(by omega), by simp⟩
      have hstep := thUp_step K (J := J) (M := M) (m := m) hn (b := b0) (by rw [htt]; exact hb0)
      rw [htt] at hstep
      try rw [hstep]
      try simp only [htt, hstep]
      have hm1 : m + 1 ≤ tt.length := by omega
      have hmI : (m : Int) < (M : Int) := by omega
      refine W_post_weak ?_
      refine W_block ?_
      refine W_draw [] [0, 1, 2, 3, 4, 5, 6, 7, 8, 9, 10, 11, 12, 13, 14, 15] [(0, 15), (1, 15), (2, 15)] [[], [], [1], [], [], [4], [3, 4, 5], [3, 4, 5, 6], [3, 4, 5, 6, 7], [3, 4, 5, 6, 7, 8], [3, 4, 5, 6, 7, 8], [3, 4, 5, 6, 7, 8, 9, 10], [3, 4, 5, 6, 7, 8, 9, 10, 11], [3, 4, 5, 6, 7, 8, 9, 10, 11, 12], [0, 1, 2, 3, 4, 5, 6, 7, 8, 9, 10, 11, 12, 13], [0, 1, 2, 3, 4, 5, 6, 7, 8, 9, 10, 11, 12, 13, 14]] mixed (by kernel_rfl) fun R hR => ?_   -- r18
      simp only [go_sem, hC, h1, h2, h3, h4, h6, hK2, putAll, hmI, iaM_nat hm, hb0, Nat.mul_one, Nat.zero_add, hm1, List.getElem?_map]
      refine GWant_split (fun g1 => ?_) (fun g1 => ?_)
      · try simp only [Bool.not_eq_true', Bool.not_eq_false'] at g1
        have n1 := g1; try simp only [nrm] at n1
        simp only [go_sem, hC, h1, h2, h3, h4, h6, hK2, putAll, hmI, iaM_nat hm, hb0, Nat.mul_one, Nat.zero_add, hm1, List.getElem?_map, g1]
        refine GCall_of (absent_pc Y _ (σ.store.length + 2) K (Sg.get_ext ..) ((m : Int), (n : Int))) ?_   -- t60
        simp only [go_sem, hC, h1, h2, h3, h4, h6, hK2, putAll, hmI, iaM_nat hm, hb0, Nat.mul_one, Nat.zero_add, hm1, List.getElem?_map, g1]
        try refine And.intro (by repeat' (first | refine And.intro ?_ ?_ | exact GOr_right (fun _ => by simp only [go_sem, hC, h1, h2, h3, h4, h6, hK2, putAll, hmI, iaM_nat hm, hb0, Nat.mul_one, Nat.zero_add, hm1, List.getElem?_map]))) ?_
        refine hR _ _ ?_; clear hR R
        try simp only [go_sem, hC, h1, h2, h3, h4, h6, hK2, putAll]
        refine ⟨[], _, Weak.cutExt 7 0 (Nat.le_refl _) (Nat.le_refl _) hcl ?_ Wk.nil_get, ?_⟩
        · exact hLc _ _ _ _ (by simp only [L, go_sem] <;> omega)
        · simp only [hstep, RoundEnd, go_sem]
          cases b0 <;> simp_all
      · try simp only [Bool.not_eq_true', Bool.not_eq_false'] at g1
        have n1 := g1; try simp only [nrm] at n1
        simp only [go_sem, hC, h1, h2, h3, h4, h6, hK2, putAll, hmI, iaM_nat hm, hb0, Nat.mul_one, Nat.zero_add, hm1, List.getElem?_map, g1]
        try refine And.intro (by repeat' (first | refine And.intro ?_ ?_ | exact GOr_right (fun _ => by simp only [go_sem, hC, h1, h2, h3, h4, h6, hK2, putAll, hmI, iaM_nat hm, hb0, Nat.mul_one, Nat.zero_add, hm1, List.getElem?_map]))) ?_
        refine hR _ _ ?_; clear hR R
        try simp only [go_sem, hC, h1, h2, h3, h4, h6, hK2, putAll]
        refine ⟨[], _, Weak.cutExt 7 0 (Nat.le_refl _) (Nat.le_refl _) hcl ?_ Wk.nil_get, ?_⟩
        · exact hLc _ _ _ _ (by simp only [L, go_sem] <;> omega)
        · simp only [hstep, RoundEnd, go_sem]
          cases b0 <;> simp_all
  · have hst := judges1_pc (Y.at σ.ys.length (fun args τ b' τ' => ∃ m n : Nat, m < M ∧ n < J ∧ args = [.agg [I m, I n]] ∧ b' = true ∧ τ = so (m * J + n) ∧ τ' = so (m * J + n + 1))) σ σ.ys.length (σ.store.length + 6) s so M J (M * J) false hM hJ hMb hJb
      (fun t _ => by simp only [so, L]; exact Sg.get_ext ..) (Nat.le_refl _) (fun _ => rfl) (fun h => by cases h)
      (fun m n h1 h2 _ => by rw [YEnv.at_self]; exact ⟨m, n, h1, h2, rfl, rfl, rfl, rfl⟩) (by simp only [so, L, go_sem]) (by simp only [so, L, go_sem]) (by simp only [so, L, go_sem])
      (fun _ => CleanSg_ext hcl (by refine hLc _ _ _ _ ?_; simp only [L, go_sem] <;> omega))
    have e0 : so 0 = σ.ext (L (List.replicate M false)) [] [.ready] := rfl
    rw [e0] at hst
    simp only [L, go_sem] at hst ⊢
    exact hst
  · simp only [so, L, go_sem]
  · simp only [go_sem]
    exact CleanCut_ext hcl (by simp only [so, L, go_sem] <;> omega) (by simp only [so, L, go_sem, Nat.le_add_right]) (by omega) (by refine hLc _ _ _ _ ?_; simp only [so, L, go_sem] <;> omega)
  · simp only [AfterLoop, so, L, go_sem]
    have hsh := thUp_short s K hM hJ (by omega)
    have htl := thUp_len K J M (M * J)
    generalize thUp K J M (M * J) = tt at hsh htl ⊢
    refine kq17 _ _ ?_
    refine W_seq fun kz19 kq19 => ?_
    refine W_seq fun kz20 kq20 => ?_
    refine W_region [2, 3, 7, 65] fun R hR => ?_   -- r19
    simp only [go_sem, hC, h1, h2, h3, h4, h6, hK2, hsh, h5]
    refine GCall_of (BcontainsM_pc Y _ tt false (σ.store.length + 4) M (Sg.get_ext ..) htl (by omega)) ?_   -- t65
    simp only [go_sem, hC, h1, h2, h3, h4, h6, hK2, hsh, h5]
    refine hR _ _ (kq20 _ _ ?_); clear hR R; try clear kq20 kz20
    try simp only [go_sem, hC, h1, h2, h3, h4, h6, hK2]
    refine W_cond_false rfl ?_
    refine W_skip (kq19 _ _ ?_)
    refine W_seq fun kz21 kq21 => ?_
    refine W_seq fun kz22 kq22 => ?_
    refine W_region [7, 12] fun R hR => ?_   -- r21
    simp only [go_sem, hC, h1, h2, h3, h4, h6, hK2]
    refine GCall_of (fines_pc Y _ s g.fines hv hg.hf) ?_   -- t69
    simp only [go_sem, hC, h1, h2, h3, h4, h6, hK2]
    refine hR _ _ (kq22 _ _ ?_); clear hR R; try clear kq22 kz22
    try simp only [go_sem, hC, h1, h2, h3, h4, h6, hK2]
    refine W_seq fun kz23 kq23 => ?_
    refine W_region [7, 12, 71] fun R hR => ?_   -- r22
    simp only [go_sem, hC, h1, h2, h3, h4, h6, hK2]
    refine hR _ _ (kq23 _ _ ?_); clear hR R; try clear kq23 kz23
    try simp only [go_sem, hC, h1, h2, h3, h4, h6, hK2]
    refine W_cond_false rfl ?_
    refine W_skip (kq21 _ _ ?_)
    refine W_seq fun kz24 kq24 => ?_
    refine W_region [4, 5] fun R hR => ?_   -- r24
    simp only [go_sem, hC, h1, h2, h3, h4, h6, hK2]
    refine hR _ _ (kq24 _ _ ?_); clear hR R; try clear kq24 kz24
    try simp only [go_sem, hC, h1, h2, h3, h4, h6, hK2]
    refine W_ret ?_
    simp only [go_sem, hC, h1, h2, h3, h4, h6, hK2]
    refine ⟨.inr (by trivial), ?_⟩
    exact Fin_ext 3 0 hcl rfl (Wk_eq rfl (by simp only [go_sem] <;> omega)) (by show CleanLs _ _ _ _; simp only [go_sem])
    try simp only [go_sem]
    all_goals
      skip
set_option maxHeartbeats 2000000 in
theorem knownOf_err (Y : YEnv) (σ : Sg) (s : Scale) (g : Night) (hs : s.Ok) (hg : g.Ok) (hE : knownE s g ≠ 0) :
    PC Try.prog Y 38 [scPV s, ngPV g] σ (.tuple [.nilmap, I (knownE s g)]) (σ) := by
  refine PC_of_W Try.func38 rfl (by kernel_rfl) Try.ntmps38 (by simp) fun hcl hca => ?_
  obtain ⟨res, hres⟩ : ∃ r, knownE s g = r := ⟨_, rfl⟩
  rw [hres]
  refine W_seq fun kz1 kq1 => ?_
  refine W_region [2, 3] fun R hR => ?_   -- r0
  simp only [go_sem]
  refine hR _ _ (kq1 _ _ ?_); clear hR R; try clear kq1 kz1
  try simp only [go_sem]
  refine W_seq fun kz2 kq2 => ?_
  refine W_seq fun kz3 kq3 => ?_
  refine W_region [2, 3, 6] fun R hR => ?_   -- r1
  simp only [go_sem]
  refine GCall_of (Check_pc Y _ s hs) ?_   -- t14
  simp only [go_sem]
  refine hR _ _ (kq3 _ _ ?_); clear hR R; try clear kq3 kz3
  try simp only [go_sem]
  refine W_seq fun kz4 kq4 => ?_
  refine W_region [2, 3, 6, 16] fun R hR => ?_   -- r2
  simp only [go_sem]
  refine hR _ _ (kq4 _ _ ?_); clear hR R; try clear kq4 kz4
  try simp only [go_sem]
  refine W_cond rfl (fun c1 => ?_) (fun c1 => ?_)
  · -- c1 true
    try simp only [nrm] at c1
    refine W_seq fun kz5 kq5 => ?_
    refine W_region [4, 5] fun R hR => ?_   -- r3
    simp only [go_sem]
    refine hR _ _ (kq5 _ _ ?_); clear hR R; try clear kq5 kz5
    try simp only [go_sem]
    refine W_ret ?_
    simp only [go_sem]
    refine ⟨.inr (by trivial), ?_⟩
    first | refine Fin_same hcl rfl (Wk_eq ?_ (by simp only [go_sem])) | refine Fin_self hcl rfl (Wk_eq ?_ (by simp only [go_sem]))
    try simp only [go_sem]
    all_goals
      rw [← hres]; clear hres hE; simp [knownE, *]
  · -- c1 false
    try simp only [nrm] at c1
    have hv := Scale.v c1
    have q1 := hv.mt
    have q2 := hv.jd
    obtain ⟨K, hK⟩ : ∃ z, knownK s g = z := ⟨_, rfl⟩
    have hK2 : (missK s g.absent (openK s g.opened []).2).2 = K := hK
    refine W_skip (kq2 _ _ ?_)
    refine W_seq fun kz6 kq6 => ?_
    refine W_seq fun kz7 kq7 => ?_
    refine W_region [2, 3, 21] fun R hR => ?_   -- r4
    simp only [go_sem]
    refine hR _ _ (kq7 _ _ ?_); clear hR R; try clear kq7 kz7
    try simp only [go_sem]
    refine W_cond rfl (fun c2 => ?_) (fun c2 => ?_)
    · -- c2 true
      try simp only [nrm] at c2
      refine W_seq fun kz8 kq8 => ?_
      refine W_region [4, 5] fun R hR => ?_   -- r5
      simp only [go_sem]
      refine hR _ _ (kq8 _ _ ?_); clear hR R; try clear kq8 kz8
      try simp only [go_sem]
      refine W_ret ?_
      simp only [go_sem]
      refine ⟨.inr (by trivial), ?_⟩
      first | refine Fin_same hcl rfl (Wk_eq ?_ (by simp only [go_sem])) | refine Fin_self hcl rfl (Wk_eq ?_ (by simp only [go_sem]))
      try simp only [go_sem]
      all_goals
        rw [← hres]; clear hres hE; simp [knownE, *]
    · -- c2 false
      try simp only [nrm] at c2
      refine W_skip (kq6 _ _ ?_)
      refine W_seq fun kz9 kq9 => ?_
      refine W_region [2, 3, 7] fun R hR => ?_   -- r6
      simp only [go_sem]
      refine hR _ _ (kq9 _ _ ?_); clear hR R; try clear kq9 kz9
      try simp only [go_sem]
      refine W_seq fun kz10 kq10 => ?_
      refine W_seq fun kz11 kq11 => ?_
      refine W_region [2, 3, 7, 8] fun R hR => ?_   -- r7
      simp only [go_sem]
      refine GCall_of (open_pc Y _ (σ.store.length + 2) [] (Sg.get_ext ..) s g.opened hv knPos_nil (fun e he => by cases he) hg.ho hg.hm) ?_   -- t27
      simp only [go_sem]
      refine hR _ _ (kq11 _ _ ?_); clear hR R; try clear kq11 kz11
      try simp only [go_sem]
      refine W_seq fun kz12 kq12 => ?_
      refine W_region [2, 3, 7, 8, 29] fun R hR => ?_   -- r8
      simp only [go_sem]
      refine hR _ _ (kq12 _ _ ?_); clear hR R; try clear kq12 kz12
      try simp only [go_sem]
      refine W_cond rfl (fun c3 => ?_) (fun c3 => ?_)
      · -- c3 true
        try simp only [nrm] at c3
        refine W_seq fun kz13 kq13 => ?_
        refine W_region [4, 5] fun R hR => ?_   -- r9
        simp only [go_sem]
        refine hR _ _ (kq13 _ _ ?_); clear hR R; try clear kq13 kz13
        try simp only [go_sem]
        refine W_ret ?_
        simp only [go_sem]
        refine ⟨.inr (by trivial), ?_⟩
        first | refine Fin_same hcl rfl (Wk_eq ?_ (by simp only [go_sem])) | refine Fin_self hcl rfl (Wk_eq ?_ (by simp only [go_sem]))
        try simp only [go_sem]
        all_goals
          rw [← hres]; clear hres hE; simp [knownE, *]
      · -- c3 false
        try simp only [nrm] at c3
        refine W_skip (kq10 _ _ ?_)
        refine W_seq fun kz14 kq14 => ?_
        refine W_seq fun kz15 kq15 => ?_
        refine W_region [2, 3, 7, 34] fun R hR => ?_   -- r10
        simp only [go_sem]
        refine hR _ _ (kq15 _ _ ?_); clear hR R; try clear kq15 kz15
        try simp only [go_sem]
        refine W_cond rfl (fun c4 => ?_) (fun c4 => ?_)
        · -- c4 true
          try simp only [nrm] at c4
          refine W_seq fun kz16 kq16 => ?_
          refine W_region [4, 5] fun R hR => ?_   -- r11
          simp only [go_sem]
          refine hR _ _ (kq16 _ _ ?_); clear hR R; try clear kq16 kz16
          try simp only [go_sem]
          refine W_ret ?_
          simp only [go_sem]
          refine ⟨.inr (by trivial), ?_⟩
          first | refine Fin_same hcl rfl (Wk_eq ?_ (by simp only [go_sem])) | refine Fin_self hcl rfl (Wk_eq ?_ (by simp only [go_sem]))
          try simp only [go_sem]
          all_goals
            rw [← hres]; clear hres hE; simp [knownE, *]
        · -- c4 false
          try simp only [nrm] at c4
          refine W_skip (kq14 _ _ ?_)
          refine W_seq fun kz17 kq17 => ?_
          refine W_seq fun kz18 kq18 => ?_
          refine W_region [2, 3, 7, 9] fun R hR => ?_   -- r12
          simp only [go_sem]
          refine GCall_of (miss_pc Y _ (σ.store.length + 2) (openK s g.opened []).2 (Sg.get_ext ..) s g.absent hv hg.ha) ?_   -- t39
          simp only [go_sem]
          refine hR _ _ (kq18 _ _ ?_); clear hR R; try clear kq18 kz18
          try simp only [go_sem]
          refine W_seq fun kz19 kq19 => ?_
          refine W_region [2, 3, 7, 9, 41] fun R hR => ?_   -- r13
          simp only [go_sem]
          refine hR _ _ (kq19 _ _ ?_); clear hR R; try clear kq19 kz19
          try simp only [go_sem]
          refine W_cond rfl (fun c5 => ?_) (fun c5 => ?_)
          · -- c5 true
            try simp only [nrm] at c5
            refine W_seq fun kz20 kq20 => ?_
            refine W_region [4, 5] fun R hR => ?_   -- r14
            simp only [go_sem]
            refine hR _ _ (kq20 _ _ ?_); clear hR R; try clear kq20 kz20
            try simp only [go_sem]
            refine W_ret ?_
            simp only [go_sem]
            refine ⟨.inr (by trivial), ?_⟩
            first | refine Fin_same hcl rfl (Wk_eq ?_ (by simp only [go_sem])) | refine Fin_self hcl rfl (Wk_eq ?_ (by simp only [go_sem]))
            try simp only [go_sem]
            all_goals
              rw [← hres]; clear hres hE; simp [knownE, *]
          · -- c5 false
            try simp only [nrm] at c5
            simp only [hK2]
            refine W_skip (kq17 _ _ ?_)
            refine W_seq fun kz21 kq21 => ?_
            obtain ⟨M0, hM0⟩ : ∃ z : Nat, s.matters = z := ⟨s.matters.toNat, by omega⟩
            have mk112h : ∀ {τ : Sg}, makePV Try.prog τ 112 (I s.matters) (I s.matters) = some (.msl τ.store.length 0 s.matters.toNat, τ.push ((List.replicate s.matters.toNat false).map PV.bool)) := fun {τ} => by
              rw [hM0]; exact mk112 (by omega)
            refine W_region [2, 3, 7, 10] fun R hR => ?_   -- r15
            simp only [go_sem, hK2, mk112h]
            refine hR _ _ (kq21 _ _ ?_); clear hR R; try clear kq21 kz21
            try simp only [go_sem, hK2]
            refine W_seq fun kz22 kq22 => ?_
            refine W_seq fun kz23 kq23 => ?_
            refine W_region [2, 3, 7, 10, 47] fun R hR => ?_   -- r16
            simp only [go_sem, hK2]
            refine GCall_of (judges_pc Y _ s) ?_   -- t47
            simp only [go_sem, hK2]
            refine hR _ _ (kq23 _ _ ?_); clear hR R; try clear kq23 kz23
            try simp only [go_sem, hK2]
            refine W_block ?_
            obtain ⟨M, hM⟩ : ∃ z : Nat, s.matters = z := ⟨s.matters.toNat, by omega⟩
            obtain ⟨J, hJ⟩ : ∃ z : Nat, s.judges = z := ⟨s.judges.toNat, by omega⟩
            have hMt : s.matters.toNat = M := by omega
            have hMb : M < 2 ^ 40 := by omega
            have hJb : J < 2 ^ 40 := by omega
            let L : List Bool → List (Option (List PV)) := fun p => [some (scCells s), some (ngCells g), some (.mark :: knE K), some [.map (σ.store.length + 2)], some (p.map PV.bool), some [.msl (σ.store.length + 4) 0 M], some (scCells s)]
            let so : Nat → Sg := fun t => σ.ext (L (thUp K J M t)) [] [.ready]
            have hLc : ∀ p (n r y : Nat), σ.store.length + 7 ≤ n → CleanLs n r y (L p) := fun p n r y h1 => by
              have c1 := cleans_ng (a := n) (b := r) (c := y) g
              have c2 := cleans_sc (a := n) (b := r) (c := y) s
              refine CleanL_cons c2 (CleanL_cons c1 ?_)
              have c3 : CleanAll n r y (knE K) := cA_kn.mpr trivial
              have c4 : CleanAll n r y (p.map PV.bool) := fun q hq => by obtain ⟨x, _, rfl⟩ := List.mem_map.1 hq; exact .bool _
              show CleanLs _ _ _ _
              simp only [CleanLs_cons, CleanLs_nil, CleanAll_cons, CleanAll_nil, Cl_map, Cl_mark, Cl_msl, c3, c4, true_and, and_true]
              refine ⟨by omega, by omega, ?_⟩
              intro q hq
              exact c2 q hq
            try simp only [hMt]
            refine W_rangeFunc (gf := 78) (v := .tuple []) (s := .ready) (σ5 := so (M * J)) rfl (by simp) (fun args τ b' τ' => ∃ m n : Nat, m < M ∧ n < J ∧ args = [.agg [I m, I n]] ∧ b' = true ∧ τ = so (m * J + n) ∧ τ' = so (m * J + n + 1)) ?_ ?_ ?_ ?_ ?_
            · rintro args τ b τ' ⟨m, n, hm, hn, rfl, rfl, rfl, rfl⟩
              refine ⟨rfl, ?_, ?_⟩
              · simp only [so, go_sem]
              · simp only [so, L, go_sem]
                refine W_region [7, 10, 11] fun R hR => ?_   -- r17
                simp only [go_sem, hK2, putAll]
                refine hR _ _ ?_; clear hR R
                try simp only [go_sem, hK2, putAll]
                obtain ⟨tt, htt⟩ : ∃ z, thUp K J M (m * J + n) = z := ⟨_, rfl⟩
                have htl : tt.length = M := by rw [← htt]; exact thUp_len _ _ _ _
                obtain ⟨b0, hb0⟩ : ∃ z, tt[m]? = some z := ⟨tt[m]'(by omega), by simp⟩
                have hstep := thUp_step K (J := J) (M := M) (m := m) hn (b := b0) (by rw [htt]; exact hb0)
                rw [htt] at hstep
                try rw [hstep]
                try simp only [htt, hstep]
                have hm1 : m + 1 ≤ tt.length := by omega
                have hmI : (m : Int) < (M : Int) := by omega
                refine W_post_weak ?_
                refine W_block ?_
                refine W_draw [] [0, 1, 2, 3, 4, 5, 6, 7, 8, 9, 10, 11, 12, 13, 14, 15] [(0, 15), (1, 15), (2, 15)] [[], [], [1], [], [], [4], [3, 4, 5], [3, 4, 5, 6], [3, 4, 5, 6, 7], [3, 4, 5, 6, 7, 8], [3, 4, 5, 6, 7, 8], [3, 4, 5, 6, 7, 8, 9, 10], [3, 4, 5, 6, 7, 8, 9, 10, 11], [3, 4, 5, 6, 7, 8, 9, 10, 11, 12], [0, 1, 2, 3, 4, 5, 6, 7, 8, 9, 10, 11, 12, 13], [0, 1, 2, 3, 4, 5, 6, 7, 8, 9, 10, 11, 12, 13, 14]] mixed (by kernel_rfl) fun R hR => ?_   -- r18
                simp only [go_sem, hK2, putAll, hmI, iaM_nat hm, hb0, Nat.mul_one, Nat.zero_add, hm1, List.getElem?_map]
                refine GWant_split (fun g1 => ?_) (fun g1 => ?_)
                · try simp only [Bool.not_eq_true', Bool.not_eq_false'] at g1
                  have n1 := g1; try simp only [nrm] at n1
                  simp only [go_sem, hK2, putAll, hmI, iaM_nat hm, hb0, Nat.mul_one, Nat.zero_add, hm1, List.getElem?_map, g1]
                  refine GCall_of (absent_pc Y _ (σ.store.length + 2) K (Sg.get_ext ..) ((m : Int), (n : Int))) ?_   -- t60
                  simp only [go_sem, hK2, putAll, hmI, iaM_nat hm, hb0, Nat.mul_one, Nat.zero_add, hm1, List.getElem?_map, g1]
                  try refine And.intro (by repeat' (first | refine And.intro ?_ ?_ | exact GOr_right (fun _ => by simp only [go_sem, hK2, putAll, hmI, iaM_nat hm, hb0, Nat.mul_one, Nat.zero_add, hm1, List.getElem?_map]))) ?_
                  refine hR _ _ ?_; clear hR R
                  try simp only [go_sem, hK2, putAll]
                  refine ⟨[], _, Weak.cutExt 7 0 (Nat.le_refl _) (Nat.le_refl _) hcl ?_ Wk.nil_get, ?_⟩
                  · exact hLc _ _ _ _ (by simp only [L, go_sem] <;> omega)
                  · simp only [hstep, RoundEnd, go_sem]
                    cases b0 <;> simp_all
                · try simp only [Bool.not_eq_true', Bool.not_eq_false'] at g1
                  have n1 := g1; try simp only [nrm] at n1
                  simp only [go_sem, hK2, putAll, hmI, iaM_nat hm, hb0, Nat.mul_one, Nat.zero_add, hm1, List.getElem?_map, g1]
                  try refine And.intro (by repeat' (first | refine And.intro ?_ ?_ | exact GOr_right (fun _ => by simp only [go_sem, hK2, putAll, hmI, iaM_nat hm, hb0, Nat.mul_one, Nat.zero_add, hm1, List.getElem?_map]))) ?_
                  refine hR _ _ ?_; clear hR R
                  try simp only [go_sem, hK2, putAll]
                  refine ⟨[], _, Weak.cutExt 7 0 (Nat.le_refl _) (Nat.le_refl _) hcl ?_ Wk.nil_get, ?_⟩
                  · exact hLc _ _ _ _ (by simp only [L, go_sem] <;> omega)
                  · simp only [hstep, RoundEnd, go_sem]
                    cases b0 <;> simp_all
            · have hst := judges1_pc (Y.at σ.ys.length (fun args τ b' τ' => ∃ m n : Nat, m < M ∧ n < J ∧ args = [.agg [I m, I n]] ∧ b' = true ∧ τ = so (m * J + n) ∧ τ' = so (m * J + n + 1))) σ σ.ys.length (σ.store.length + 6) s so M J (M * J) false hM hJ hMb hJb
                (fun t _ => by simp only [so, L]; exact Sg.get_ext ..) (Nat.le_refl _) (fun _ => rfl) (fun h => by cases h)
                (fun m n h1 h2 _ => by rw [YEnv.at_self]; exact ⟨m, n, h1, h2, rfl, rfl, rfl, rfl⟩) (by simp only [so, L, go_sem]) (by simp only [so, L, go_sem]) (by simp only [so, L, go_sem])
                (fun _ => CleanSg_ext hcl (by refine hLc _ _ _ _ ?_; simp only [L, go_sem] <;> omega))
              have e0 : so 0 = σ.ext (L (List.replicate M false)) [] [.ready] := rfl
              rw [e0] at hst
              simp only [L, go_sem] at hst ⊢
              exact hst
            · simp only [so, L, go_sem]
            · simp only [go_sem]
              exact CleanCut_ext hcl (by simp only [so, L, go_sem] <;> omega) (by simp only [so, L, go_sem, Nat.le_add_right]) (by omega) (by refine hLc _ _ _ _ ?_; simp only [so, L, go_sem] <;> omega)
            · simp only [AfterLoop, so, L, go_sem]
              have hsh := thUp_short s K hM hJ (by omega)
              have htl := thUp_len K J M (M * J)
              generalize thUp K J M (M * J) = tt at hsh htl ⊢
              refine kq22 _ _ ?_
              refine W_seq fun kz24 kq24 => ?_
              refine W_seq fun kz25 kq25 => ?_
              refine W_region [2, 3, 7, 65] fun R hR => ?_   -- r19
              simp only [go_sem, hK2, hsh]
              refine GCall_of (BcontainsM_pc Y _ tt false (σ.store.length + 4) M (Sg.get_ext ..) htl (by omega)) ?_   -- t65
              simp only [go_sem, hK2, hsh]
              refine hR _ _ (kq25 _ _ ?_); clear hR R; try clear kq25 kz25
              try simp only [go_sem, hK2]
              refine W_cond rfl (fun c6 => ?_) (fun c6 => ?_)
              · -- c6 true
                try simp only [nrm] at c6
                refine W_seq fun kz26 kq26 => ?_
                refine W_region [4, 5] fun R hR => ?_   -- r20
                simp only [go_sem, hK2]
                refine hR _ _ (kq26 _ _ ?_); clear hR R; try clear kq26 kz26
                try simp only [go_sem, hK2]
                refine W_ret ?_
                simp only [go_sem, hK2]
                refine ⟨.inr (by trivial), ?_⟩
                first | refine Fin_same hcl rfl (Wk_eq ?_ (by simp only [go_sem])) | refine Fin_self hcl rfl (Wk_eq ?_ (by simp only [go_sem]))
                try simp only [go_sem]
                all_goals
                  rw [← hres]; clear hres hE; simp [knownE, *]
              · -- c6 false
                try simp only [nrm] at c6
                refine W_skip (kq24 _ _ ?_)
                refine W_seq fun kz27 kq27 => ?_
                refine W_seq fun kz28 kq28 => ?_
                refine W_region [7, 12] fun R hR => ?_   -- r21
                simp only [go_sem, hK2]
                refine GCall_of (fines_pc Y _ s g.fines hv hg.hf) ?_   -- t69
                simp only [go_sem, hK2]
                refine hR _ _ (kq28 _ _ ?_); clear hR R; try clear kq28 kz28
                try simp only [go_sem, hK2]
                refine W_seq fun kz29 kq29 => ?_
                refine W_region [7, 12, 71] fun R hR => ?_   -- r22
                simp only [go_sem, hK2]
                refine hR _ _ (kq29 _ _ ?_); clear hR R; try clear kq29 kz29
                try simp only [go_sem, hK2]
                refine W_cond rfl (fun c7 => ?_) (fun c7 => ?_)
                · -- c7 true
                  try simp only [nrm] at c7
                  refine W_seq fun kz30 kq30 => ?_
                  refine W_region [4, 5] fun R hR => ?_   -- r23
                  simp only [go_sem, hK2]
                  refine hR _ _ (kq30 _ _ ?_); clear hR R; try clear kq30 kz30
                  try simp only [go_sem, hK2]
                  refine W_ret ?_
                  simp only [go_sem, hK2]
                  refine ⟨.inr (by trivial), ?_⟩
                  first | refine Fin_same hcl rfl (Wk_eq ?_ (by simp only [go_sem])) | refine Fin_self hcl rfl (Wk_eq ?_ (by simp only [go_sem]))
                  try simp only [go_sem]
                  all_goals
                    rw [← hres]; clear hres hE; simp [knownE, *]
                · -- c7 false
                  try simp only [nrm] at c7
                  exfalso
                  apply hE
                  clear hres hE
                  simp [knownE, *]
end Go.Proofs.Ytgelnjmddabgpaa
namespace Go.Proofs.Ytgelnjmddabgpaa
open Go Go.RowKit
set_option maxRecDepth 100000
def lays189_ren : Go.Shelf.Ren := ⟨fun | 189 => 95 | 125 => 68 | 257 => 103 | 128 => 90 | 129 => 91 | 294 => 105 | 295 => 106 | 296 => 107 | 297 => 108 | 298 => 109 | 299 => 110 | 216 => 111 | 300 => 112 | 301 => 113 | 328 => 114 | 329 => 98 | 330 => 99 | 331 => 115 | 332 => 116 | 215 => 117 | 343 => 118 | n => n, fun | 28 => 22 | 3 => 3 | 46 => 85 | 0 => 0 | 51 => 143 | 53 => 81 | 4 => 4 | 183 => 136 | 182 => 135 | 131 => 140 | 5 => 5 | 9 => 9 | 218 => 148 | 222 => 151 | 228 => 155 | 229 => 156 | n => n, fun n => n⟩
theorem lays189 : Lays.n189 Try.prog lays189_ren where
  mixed := by kernel_rfl
  f125 := Try.func68.trans (congrArg some (by kernel_rfl))
  f128 := Try.func90.trans (congrArg some (by kernel_rfl))
  f129 := Try.func91.trans (congrArg some (by kernel_rfl))
  f189 := Try.func95.trans (congrArg some (by kernel_rfl))
  f215 := Try.func117.trans (congrArg some (by kernel_rfl))
  f216 := Try.func111.trans (congrArg some (by kernel_rfl))
  f257 := Try.func103.trans (congrArg some (by kernel_rfl))
  f294 := Try.func105.trans (congrArg some (by kernel_rfl))
  f295 := Try.func106.trans (congrArg some (by kernel_rfl))
  f296 := Try.func107.trans (congrArg some (by kernel_rfl))
  f297 := Try.func108.trans (congrArg some (by kernel_rfl))
  f298 := Try.func109.trans (congrArg some (by kernel_rfl))
  f299 := Try.func110.trans (congrArg some (by kernel_rfl))
  f300 := Try.func112.trans (congrArg some (by kernel_rfl))
  f301 := Try.func113.trans (congrArg some (by kernel_rfl))
  f328 := Try.func114.trans (congrArg some (by kernel_rfl))
  f329 := Try.func98.trans (congrArg some (by kernel_rfl))
  f330 := Try.func99.trans (congrArg some (by kernel_rfl))
  f331 := Try.func115.trans (congrArg some (by kernel_rfl))
  f332 := Try.func116.trans (congrArg some (by kernel_rfl))
  f343 := Try.func118.trans (congrArg some (by kernel_rfl))
  t0 := Try.underlying0
  a0 := Try.isAgg0
  z0 := Try.sizeOf0
  v0 := Try.zeroValue0
  t3 := Try.underlying3
  a3 := Try.isAgg3
  z3 := Try.sizeOf3
  v3 := Try.zeroValue3
  t4 := Try.underlying4
  a4 := Try.isAgg4
  z4 := Try.sizeOf4
  v4 := Try.zeroValue4
  t5 := Try.underlying5
  a5 := Try.isAgg5
  z5 := Try.sizeOf5
  v5 := Try.zeroValue5
  t9 := Try.underlying9
  a9 := Try.isAgg9
  z9 := Try.sizeOf9
  v9 := Try.zeroValue9
  t28 := Try.underlying22
  a28 := Try.isAgg22
  z28 := Try.sizeOf22
  v28 := Try.zeroValue22
  t46 := Try.underlying85
  a46 := Try.isAgg85
  z46 := Try.sizeOf85
  v46 := Try.zeroValue85
  t51 := Try.underlying143
  a51 := Try.isAgg143
  z51 := Try.sizeOf143
  v51 := Try.zeroValue143
  t53 := Try.underlying81
  a53 := Try.isAgg81
  z53 := Try.sizeOf81
  v53 := Try.zeroValue81
  t131 := Try.underlying140
  a131 := Try.isAgg140
  z131 := Try.sizeOf140
  v131 := Try.zeroValue140
  t182 := Try.underlying135
  a182 := Try.isAgg135
  z182 := Try.sizeOf135
  v182 := Try.zeroValue135
  t183 := Try.underlying136
  a183 := Try.isAgg136
  z183 := Try.sizeOf136
  v183 := Try.zeroValue136
  t218 := Try.underlying148
  a218 := Try.isAgg148
  z218 := Try.sizeOf148
  v218 := Try.zeroValue148
  t222 := Try.underlying151
  a222 := Try.isAgg151
  z222 := Try.sizeOf151
  v222 := Try.zeroValue151
  t228 := Try.underlying155
  a228 := Try.isAgg155
  z228 := Try.sizeOf155
  v228 := Try.zeroValue155
  t229 := Try.underlying156
  a229 := Try.isAgg156
  z229 := Try.sizeOf156
  v229 := Try.zeroValue156
def lays125_ren : Go.Shelf.Ren := ⟨fun | 125 => 68 | 128 => 90 | 129 => 91 | n => n, fun | 46 => 85 | 3 => 3 | 51 => 143 | 53 => 81 | 4 => 4 | 5 => 5 | 9 => 9 | n => n, fun n => n⟩
theorem lays125 : Lays.n125 Try.prog lays125_ren where
  mixed := by kernel_rfl
  f125 := Try.func68.trans (congrArg some (by kernel_rfl))
  f128 := Try.func90.trans (congrArg some (by kernel_rfl))
  f129 := Try.func91.trans (congrArg some (by kernel_rfl))
  t3 := Try.underlying3
  a3 := Try.isAgg3
  z3 := Try.sizeOf3
  v3 := Try.zeroValue3
  t4 := Try.underlying4
  a4 := Try.isAgg4
  z4 := Try.sizeOf4
  v4 := Try.zeroValue4
  t5 := Try.underlying5
  a5 := Try.isAgg5
  z5 := Try.sizeOf5
  v5 := Try.zeroValue5
  t9 := Try.underlying9
  a9 := Try.isAgg9
  z9 := Try.sizeOf9
  v9 := Try.zeroValue9
  t46 := Try.underlying85
  a46 := Try.isAgg85
  z46 := Try.sizeOf85
  v46 := Try.zeroValue85
  t51 := Try.underlying143
  a51 := Try.isAgg143
  z51 := Try.sizeOf143
  v51 := Try.zeroValue143
  t53 := Try.underlying81
  a53 := Try.isAgg81
  z53 := Try.sizeOf81
  v53 := Try.zeroValue81
theorem sortsI : SortsI Try.prog 95 := ⟨by kernel_rfl, Any.slices_Sort_int_none lays189, Any.slices_Sort_int lays189⟩
theorem bitsLen_pc (Y : YEnv) (σ : Sg) (x : Int) (h0 : 0 ≤ x) (h1 : x ≤ 18446744073709551615) : PC Try.prog Y 68 [.int .u64 x] σ (.int .i64 (Lib.bitLen x.toNat)) σ := by
  refine PC_of_calls (by kernel_rfl) fun Ψ vals w hs ha => ?_
  obtain ⟨v, rfl⟩ : ∃ v, vals = #[v] := by
    have := ha.1
    match vals, this with
    | ⟨[v]⟩, _ => exact ⟨v, rfl⟩
  have hx := (ha.2 0 _ _ rfl rfl).int_inv
  subst hx
  refine (Any.bits_Len lays125 x w h0 h1).mono ?_
  rintro e w' ⟨rfl, rfl⟩
  exact ⟨_, Ψ, rfl, Ty.le.refl _, hs, .int _ _, Below.refl _ _⟩
end Go.Proofs.Ytgelnjmddabgpaa
namespace Go.Proofs.Ytgelnjmddabgpaa
open Go Go.RowKit
set_option maxRecDepth 100000
theorem Fin_more {P : Program} {fn : Func} {σ σ' : Sg} {E : Env} {rs : List PV} {v : PV} (hcl : CleanSg σ') (h1 : σ.store.length ≤ σ'.store.length) (h2 : σ.rooms.length ≤ σ'.rooms.length) (h3 : σ'.ys.length = σ.ys.length)
    (hr : resPV P σ' E fn.results.toList = some rs) (hv : Wk σ'.store.length σ'.rooms.length σ.ys.length (oneOr rs) v) : Fin P fn σ v σ' E σ' := by
  refine ⟨rs, _, _, hr, h1, h2, hv, ?_, ?_, h3⟩
  · rw [← h3]; simp [Sg.cut]
  · unfold CleanSg at hcl; rw [h3] at hcl; exact hcl
theorem stX_glI0 {σ : Sg} {l : List (Option (List PV))} {rm : List Nat} {ys : List LState} {off n : Nat} {out : List Int} : stX 1 (σ.ext l rm ys) σ.store.length off (glI n out) = match l[0]? with
    | some (some cs) => if off + 1 ≤ cs.length then some (σ.ext (l.set 0 (some (putCells cs off [glI n out]))) rm ys) else none
    | _ => none := by
  have := stX_glI (σ := σ) (l := l) (rm := rm) (ys := ys) (j := 0) (off := off) (n := n) (out := out)
  exact this
attribute [go_sem high] stX_glI0
theorem take_snoc {l : List Int} {i : Nat} {x : Int} (h : l[i]? = some x) : l.take i ++ [x] = l.take (i + 1) := by rw [List.take_add_one, h]; rfl
set_option maxHeartbeats 2000000 in
theorem values_pc (Y : YEnv) (σ : Sg) (pid n : Nat) :
    PC Try.prog Y 81 [.msl pid 0 n] σ (.func (.func 96) [] [.ptr σ.store.length 0]) (σ.ext [some [.msl pid 0 n]] []) := by
  refine PC_of_W Try.func81 rfl (by kernel_rfl) Try.ntmps81 (by simp) fun hcl hca => ?_
  have hp : pid < σ.store.length := by
    have := hca (.msl pid 0 n) (by simp)
    cases this; assumption
  refine W_seq fun kz1 kq1 => ?_
  refine W_region [1] fun R hR => ?_   -- r0
  simp only [go_sem]
  refine hR _ _ (kq1 _ _ ?_); clear hR R; try clear kq1 kz1
  try simp only [go_sem]
  refine W_seq fun kz2 kq2 => ?_
  refine W_region [2] fun R hR => ?_   -- r1
  simp only [go_sem]
  refine hR _ _ (kq2 _ _ ?_); clear hR R; try clear kq2 kz2
  try simp only [go_sem]
  refine W_ret ?_
  simp only [go_sem]
  refine ⟨.inr (by trivial), ?_⟩
  refine Fin_ext 1 0 hcl rfl (Wk_eq rfl ?_) ?_
  · simp only [go_sem] <;> omega
  · show CleanLs _ _ _ _
    simp only [go_sem] <;> omega
  try simp only [go_sem]
  all_goals
    skip
set_option maxHeartbeats 2000000 in
theorem values1_pc (Y : YEnv) (σ : Sg) (y id pid n : Nat) (xs : List Int) (τ : Nat → Sg) (hn : n ≤ xs.length) (hnb : n < 2 ^ 40)
    (hst : ∀ t, t ≤ n → (τ t).store[id]? = some (some [.msl pid 0 n])) (hst2 : ∀ t, t ≤ n → (τ t).store[pid]? = some (some (xs.map I)))
    (hY : ∀ t x, t < n → xs[t]? = some x → Y y [I x] (τ t) true (τ (t + 1)))
    (hlen : (τ 0).store.length ≤ (τ n).store.length) (hr : (τ 0).rooms.length ≤ (τ n).rooms.length) (hy : (τ n).ys.length = (τ 0).ys.length) (hcl' : CleanSg (τ 0) → CleanSg (τ n)) :
    PC Try.prog Y 96 [.yield y, .ptr id 0] (τ 0) (.tuple []) (τ n) := by
  refine PC_of_W Try.func96 rfl (by kernel_rfl) Try.ntmps96 (by simp) fun hcl hca => ?_
  have hs00 := hst 0 (Nat.zero_le _)
  refine W_seq fun kz1 kq1 => ?_
  refine W_region [0, 5, 6, 7] fun R hR => ?_   -- r0
  simp only [go_sem, ldS_at hs00]
  refine hR _ _ (kq1 _ _ ?_); clear hR R; try clear kq1 kz1
  try simp only [go_sem]
  refine W_block ?_
  refine W_loopT (α := Nat) (fun (i : Nat) => [(7, I i)]) (fun (i : Nat) => τ i) (fun (i : Nat) => i ≤ n) (fun (i : Nat) => n - i) (0) rfl (by first | rfl | (simp only [go_sem]; done) | (simp only [go_sem]; rfl)) (Nat.zero_le _) ?_
  rintro i hi
  refine W_seq fun kz2 kq2 => ?_
  refine W_region [0, 5, 6, 7, 8] fun R hR => ?_   -- r1
  simp only [go_sem]
  refine hR _ _ (kq2 _ _ ?_); clear hR R; try clear kq2 kz2
  try simp only [go_sem]
  refine W_seq fun kz3 kq3 => ?_
  refine W_cond rfl (fun c1 => ?_) (fun c1 => ?_)
  · -- c1 true
    try simp only [nrm] at c1
    have hin0 : i < n := by first | omega | (simp at c1; omega)
    have hin : (i : Int) < (n : Int) := by omega
    have hs2 := hst2 i (by omega)
    obtain ⟨x, hx⟩ : ∃ z, xs[i]? = some z := ⟨xs[i]'(by omega), by simp⟩
    refine W_skip (kq3 _ _ ?_)
    refine W_seq fun kz4 kq4 => ?_
    refine W_block ?_
    refine W_seq fun kz5 kq5 => ?_
    refine W_region [0, 4, 5, 6, 7] fun R hR => ?_   -- r2
    simp only [go_sem, hx, hin, iaM_nat hin0, Nat.mul_one, Nat.zero_add, ldS_at hs2, List.getElem?_map]
    refine hR _ _ (kq5 _ _ ?_); clear hR R; try clear kq5 kz5
    try simp only [go_sem, hx]
    refine W_seq fun kz6 kq6 => ?_
    refine W_region [0, 5, 6, 7, 14] fun R hR => ?_   -- r3
    simp only [go_sem, hx]
    refine GYield_of (hY i x hin0 hx) ?_
    simp only [go_sem, hx]
    refine hR _ _ (kq6 _ _ ?_); clear hR R; try clear kq6 kz6
    try simp only [go_sem, hx]
    refine W_cond_false rfl ?_
    refine W_skip (kq4 _ _ ?_)
    refine W_region [0, 5, 6, 7] fun R hR => ?_   -- r4
    simp only [go_sem, hx]
    try simp (disch := omega) only [wrapI, wrapU]
    refine hR _ _ ?_; clear hR R
    try simp only [go_sem, hx]
    refine ⟨i + 1, ?_, by (try simp only []); omega, ?_⟩
    · first | exact Weak.refl | exact Weak.eq (by first | rfl | (simp only [go_sem]; done) | (simp only [go_sem]; rfl) | (simp [go_sem]; done) | (simp [go_sem]; omega)) (by first | rfl | (simp only [go_sem]; done) | (simp [go_sem]; done))
    · try dsimp only
      omega
  · -- c1 false
    try simp only [nrm] at c1
    have hie : i = n := by first | omega | (simp at c1; omega)
    subst hie
    refine W_exit ?_
    simp only [go_sem]
    try simp only [go_sem]
    refine ⟨.inl (by trivial), ?_⟩
    exact Fin_more (rs := []) (hcl' hcl) hlen hr hy rfl (Wk.of_clean (.tuple _ Clean.all_nil))
    try simp only [go_sem]
    all_goals
      skip
set_option maxHeartbeats 2000000 in
theorem appendSeq_pc (Y : YEnv) (σ : Sg) (id pid n : Nat) (xs : List Int) (hid : σ.store[id]? = some (some [.msl pid 0 n])) (hpid : σ.store[pid]? = some (some (xs.map I))) (hn : n ≤ xs.length) (hnb : n < 2 ^ 40) :
    PC Try.prog Y 102 [.isl [] .exact, .func (.func 96) [] [.ptr id 0]] σ (glI (σ.store.length + 1) (xs.take n)) (σ.ext ([some [glI (σ.store.length + 1) (xs.take n)]] ++ gsI (xs.take n)) []) := by
  refine PC_of_W Try.func102 rfl (by kernel_rfl) Try.ntmps102 (by simp) fun hcl hca => ?_
  have hxl : (xs.take n).length = n := by simp; omega
  obtain ⟨xn, hxn⟩ : ∃ z, xs.take n = z := ⟨_, rfl⟩
  rw [hxn] at hxl ⊢
  refine W_seq fun kz1 kq1 => ?_
  refine W_region [1, 2] fun R hR => ?_   -- r0
  simp only [go_sem]
  refine hR _ _ (kq1 _ _ ?_); clear hR R; try clear kq1 kz1
  try simp only [go_sem]
  refine W_seq fun kz2 kq2 => ?_
  refine W_seq fun kz3 kq3 => ?_
  refine W_region [2, 6] fun R hR => ?_   -- r1
  simp only [go_sem]
  refine hR _ _ (kq3 _ _ ?_); clear hR R; try clear kq3 kz3
  try simp only [go_sem]
  refine W_block ?_
  let L : List Int → List (Option (List PV)) := fun p => [some [glI (σ.store.length + 1) p]] ++ gsI p
  let so : Nat → Sg := fun t => σ.ext (L (xs.take t)) [] [.ready]
  have hLc : ∀ p (n r y : Nat), σ.store.length + 1 + p.length ≤ n → CleanLs n r y (L p) := fun p n r y h1 => by
    refine CleanLs_append ?_ (gsI_clean _)
    have := glI_clean (a := n) (b := r) (c := y) h1
    simp only [go_sem, this]
  refine W_weak (Weak.gnilX (j := 0) (off := 0) rfl rfl) ?_
  simp only [go_sem]
  refine W_rangeFunc (gf := 96) (v := .tuple []) (s := .ready) (σ5 := so n) rfl (by simp) (fun args τ b' τ' => ∃ t x, t < n ∧ xs[t]? = some x ∧ args = [I x] ∧ b' = true ∧ τ = so t ∧ τ' = so (t + 1)) ?_ ?_ ?_ ?_ ?_
  · rintro args τ b τ' ⟨t, x, ht, hx, rfl, rfl, rfl, rfl⟩
    refine ⟨rfl, ?_, ?_⟩
    · simp only [so, go_sem]
    · simp only [so, L, go_sem]
      refine W_region [2, 5] fun R hR => ?_   -- r2
      simp only [go_sem, putAll]
      refine hR _ _ ?_; clear hR R
      try simp only [go_sem, putAll]
      have hsn := take_snoc hx
      obtain ⟨out, hout⟩ : ∃ z, xs.take t = z := ⟨_, rfl⟩
      have hol : out.length ≤ t := by rw [← hout]; simp; omega
      rw [hout] at hsn
      try simp only [← hsn, hout]
      have happ := appG_gl (σ := σ) (A := [some [glI (σ.store.length + 1) out]]) (rm := []) (ys := [.busy]) (out := out) x (by omega)
      simp only [go_sem, List.length_cons, List.length_nil] at happ
      refine W_post_weak ?_
      refine W_block ?_
      refine W_region [] fun R hR => ?_   -- r3
      simp only [go_sem, putAll, happ]
      try simp (disch := first | omega | (simp only [go_sem] <;> omega)) only [wrapI, wrapU, appX_exact, appX_tok]
      try simp only [go_sem, putAll, happ]
      refine hR _ _ ?_; clear hR R
      try simp only [go_sem, putAll]
      refine ⟨[], _, Weak.keep [], ?_⟩
      simp only [RoundEnd, go_sem]
  · have hst := values1_pc (Y.at σ.ys.length (fun args τ b' τ' => ∃ t x, t < n ∧ xs[t]? = some x ∧ args = [I x] ∧ b' = true ∧ τ = so t ∧ τ' = so (t + 1))) σ σ.ys.length id pid n xs so hn hnb
      (fun t _ => by simp only [so]; exact get_extx hid) (fun t _ => by simp only [so]; exact get_extx hpid)
      (fun t x h1 h2 => by rw [YEnv.at_self]; exact ⟨t, x, h1, h2, rfl, rfl, rfl, rfl⟩) (by simp only [so, L, List.take_zero, gsI, go_sem] <;> omega) (by simp only [so, L, go_sem] <;> omega) (by simp only [so, L, go_sem])
      (fun _ => CleanSg_ext hcl (by refine hLc _ _ _ _ ?_; simp only [L, gsI_len, go_sem] <;> omega))
    have e0 : so 0 = σ.ext (L []) [] [.ready] := rfl
    rw [e0] at hst
    simp only [L, glI, gsI, go_sem] at hst ⊢
    exact hst
  · simp only [so, L, go_sem]
  · simp only [go_sem]
    exact CleanCut_ext hcl (by simp only [so, L, go_sem] <;> omega) (by simp only [so, L, go_sem, Nat.le_add_right]) (by omega) (by refine hLc _ _ _ _ ?_; simp only [so, L, gsI_len, go_sem] <;> omega)
  · simp only [AfterLoop, so, L, go_sem]
    simp only [hxn]
    refine kq2 _ _ ?_
    refine W_seq fun kz4 kq4 => ?_
    refine W_region [4] fun R hR => ?_   -- r4
    simp only [go_sem]
    refine hR _ _ (kq4 _ _ ?_); clear hR R; try clear kq4 kz4
    try simp only [go_sem]
    refine W_ret ?_
    simp only [go_sem]
    refine ⟨.inr (by trivial), ?_⟩
    have hcl2 : CleanSg (σ.ext ([some [glI (σ.store.length + 1) xn]] ++ gsI xn) []) := CleanSg_ext hcl (by refine hLc _ _ _ _ ?_; simp only [L, gsI_len, go_sem] <;> omega)
    refine Fin_more (σ := σ) hcl2 (by simp only [go_sem] <;> omega) (by simp only [go_sem] <;> omega) (by simp only [go_sem]) rfl (Wk.of_clean ?_)
    simp only [go_sem]
    refine glI_clean ?_
    simp only [gsI_len, go_sem] <;> omega
    try simp only [go_sem]
    all_goals
      skip
set_option maxHeartbeats 2000000 in
theorem collect_pc (Y : YEnv) (σ : Sg) (id pid n : Nat) (xs : List Int) (hid : σ.store[id]? = some (some [.msl pid 0 n])) (hpid : σ.store[pid]? = some (some (xs.map I))) (hn : n ≤ xs.length) (hnb : n < 2 ^ 40) :
    PC Try.prog Y 94 [.func (.func 96) [] [.ptr id 0]] σ (glI (σ.store.length + 1) (xs.take n)) (σ.ext ([some [glI (σ.store.length + 1) (xs.take n)]] ++ gsI (xs.take n)) []) := by
  refine PC_of_W Try.func94 rfl (by kernel_rfl) Try.ntmps94 (by simp) fun hcl hca => ?_
  refine W_seq fun kz1 kq1 => ?_
  refine W_region [0] fun R hR => ?_   -- r0
  simp only [go_sem]
  refine hR _ _ (kq1 _ _ ?_); clear hR R; try clear kq1 kz1
  try simp only [go_sem]
  refine W_seq fun kz2 kq2 => ?_
  refine W_region [2] fun R hR => ?_   -- r1
  simp only [go_sem]
  refine GCall_of (appendSeq_pc Y _ id pid n xs hid hpid hn hnb) ?_   -- t4
  simp only [go_sem]
  refine hR _ _ (kq2 _ _ ?_); clear hR R; try clear kq2 kz2
  try simp only [go_sem]
  refine W_ret ?_
  simp only [go_sem]
  refine ⟨.inr (by trivial), ?_⟩
  have hol : (xs.take n).length = n := by simp; omega
  generalize xs.take n = out at hol ⊢
  have hcl2 : CleanSg (σ.ext ([some [glI (σ.store.length + 1) out]] ++ gsI out) []) := CleanSg_ext hcl (by
    refine CleanLs_append ?_ (gsI_clean _)
    have := glI_clean (a := σ.store.length + ([some [glI (σ.store.length + 1) out]] ++ gsI out).length) (b := σ.rooms.length + ([] : List Nat).length) (c := σ.ys.length) (n := σ.store.length + 1) (out := out) (by simp only [gsI_len, go_sem] <;> omega)
    simp only [go_sem] at this ⊢
    simp only [this])
  refine Fin_more (σ := σ) hcl2 (by simp only [go_sem] <;> omega) (by simp only [go_sem] <;> omega) (by simp only [go_sem]) rfl (Wk.of_clean ?_)
  simp only [go_sem]
  refine glI_clean ?_
  simp only [gsI_len, go_sem] <;> omega
  try simp only [go_sem]
  all_goals
    skip
set_option maxHeartbeats 2000000 in
theorem sorted_pc (Y : YEnv) (σ : Sg) (id pid n : Nat) (xs : List Int) (hid : σ.store[id]? = some (some [.msl pid 0 n])) (hpid : σ.store[pid]? = some (some (xs.map I))) (hn : n ≤ xs.length) (hnb : n < 2 ^ 40) (hn0 : 0 < n) :
    PC Try.prog Y 80 [.func (.func 96) [] [.ptr id 0]] σ (ints (sortI (xs.take n))) (σ) := by
  refine PC_of_W Try.func80 rfl (by kernel_rfl) Try.ntmps80 (by simp) fun hcl hca => ?_
  have hol : (xs.take n).length = n := by simp; omega
  obtain ⟨out, hout⟩ : ∃ z, xs.take n = z := ⟨_, rfl⟩
  have hcoll := collect_pc Y σ id pid n xs hid hpid hn hnb
  rw [hout] at hcoll hol ⊢
  refine W_seq fun kz1 kq1 => ?_
  refine W_region [0] fun R hR => ?_   -- r0
  simp only [go_sem]
  refine hR _ _ (kq1 _ _ ?_); clear hR R; try clear kq1 kz1
  try simp only [go_sem]
  refine W_seq fun kz2 kq2 => ?_
  refine W_region [3] fun R hR => ?_   -- r1
  simp only [go_sem]
  refine GCall_of (hcoll) ?_   -- t5
  simp only [go_sem]
  refine hR _ _ (kq2 _ _ ?_); clear hR R; try clear kq2 kz2
  try simp only [go_sem]
  refine W_seq fun kz3 kq3 => ?_
  refine W_region [3] fun R hR => ?_   -- r2
  simp only [go_sem]
  refine GCall_of (sort_gl (A := [_]) sortsI (by omega)) ?_   -- t7
  simp only [go_sem]
  refine hR _ _ (kq3 _ _ ?_); clear hR R; try clear kq3 kz3
  try simp only [go_sem]
  refine W_seq fun kz4 kq4 => ?_
  have hsl := sortI_len out
  obtain ⟨z, zs, hz⟩ : ∃ z zs, sortI out = z :: zs := by cases h : sortI out with
    | nil => rw [h] at hsl; simp at hsl; omega
    | cons z zs => exact ⟨z, zs, rfl⟩
  refine W_weak (Weak.keep [3]) ?_
  have hE3 : glI (σ.store.length + 1) out = .gsl (σ.store.length + (1 + zs.length)) (zs.length + 1) 1 := by rw [← glI_sort, hz]; simp only [glI, Nat.add_assoc]
  simp only [go_sem, hE3, hz]
  refine W_weak (Weak.freeze (t := 3) (id := σ.store.length + (1 + zs.length)) (len := zs.length + 1) (es := 1) (l := (z :: zs).map I) rfl (by rw [Sg.get_ext, rowC_ints]; exact gsI_get (A := [_])) (by simp) (fun q hq => by obtain ⟨x, _, rfl⟩ := List.mem_map.1 hq; rfl)) ?_
  simp only [go_sem]
  refine W_region [2] fun R hR => ?_   -- r3
  simp only [go_sem]
  refine hR _ _ (kq4 _ _ ?_); clear hR R; try clear kq4 kz4
  try simp only [go_sem]
  refine W_ret ?_
  simp only [go_sem]
  refine ⟨.inr (by trivial), ?_⟩
  rw [hz]; refine Fin_same hcl rfl (Wk_eq rfl ?_)
  try simp only [go_sem]
  all_goals
    simp only [go_sem]
end Go.Proofs.Ytgelnjmddabgpaa
namespace Go.Proofs.Ytgelnjmddabgpaa
open Go Go.RowKit
set_option maxRecDepth 100000
theorem mem_sortI {x : Int} {l : List Int} : x ∈ sortI l ↔ x ∈ l := (List.mergeSort_perm l _).mem_iff
def presL (k : Kn) (m : Int) (i : Nat) : List Int := ((List.range i).map fun (n : Nat) => (n : Int)).filter fun n => !(absentK k (m, n))
theorem presL_succ (k : Kn) (m : Int) (i : Nat) : presL k m (i + 1) = if absentK k (m, (i : Int)) then presL k m i else presL k m i ++ [(i : Int)] := by
  unfold presL
  rw [List.range_succ, List.map_append, List.filter_append]
  cases h : absentK k (m, (i : Int)) <;> simp [h]
theorem presL_J {s : Scale} {J : Nat} (hJ : s.judges = J) (k : Kn) (m : Int) : presJ s k m = presL k m J := by simp only [presJ, toI, presL, hJ, Int.toNat_natCast]
theorem sumI_append (l r : List Int) : sumI (l ++ r) = sumI l + sumI r := by
  induction l with
  | nil => simp [sumI]
  | cons x l ih => simp only [List.cons_append, sumI, ih]; omega
theorem sumI_bd {b : Int} : ∀ {l : List Int}, (∀ x, x ∈ l → 0 ≤ x ∧ x ≤ b) → 0 ≤ sumI l ∧ sumI l ≤ l.length * b := by
  intro l
  induction l with
  | nil => intro _; simp [sumI]
  | cons x l ih =>
    intro h
    have h1 := ih fun y hy => h y (by simp [hy])
    have h2 := h x (by simp)
    simp only [sumI, List.length_cons]
    have : ((l.length + 1 : Nat) : Int) * b = l.length * b + b := by rw [show ((l.length + 1 : Nat) : Int) = (l.length : Int) + 1 by omega, Int.add_mul, Int.one_mul]
    omega
/-- What is known of a night that may be. -/
def KnOk (s : Scale) (k : Kn) : Prop := ∀ e, e ∈ k → e.2 = [] ∨ ((e.2.length : Int) = s.schools ∧ ∀ x, x ∈ e.2 → s.low ≤ x ∧ x ≤ s.high)
theorem mkAt_bd {s : Scale} {k : Kn} (hv : s.V) (hk : KnOk s k) {u : Int} (hu : 0 ≤ u ∧ u ≤ 100) (sc m n : Int) : 0 ≤ mkAt k sc m u n ∧ mkAt k sc m u n ≤ 100 := by
  unfold mkAt
  cases h : aget (m, n) k with
  | none => exact hu
  | some l =>
    cases l with
    | nil => exact hu
    | cons x l =>
      simp only
      rcases hk _ (aget_mem h) with e | ⟨_, e⟩
      · cases e
      · cases hq : (x :: l)[sc.toNat]? with
        | none => simp
        | some y =>
          have := e y (List.mem_of_getElem? hq)
          have q4 := hv.lo
          have q5 := hv.hi
          simp only [Option.getD_some]
          omega
theorem mkAt_none {k : Kn} {sc m u n : Int} (h : (aget (m, n) k).getD [] = []) : mkAt k sc m u n = u := by
  unfold mkAt
  cases h2 : aget (m, n) k with
  | none => rfl
  | some l => rw [h2] at h; simp only [Option.getD_some] at h; subst h; rfl
theorem mkAt_some {k : Kn} {m u n x : Int} {sc : Nat} {l : List Int} (h : (aget (m, n) k).getD [] = l) (hl : l ≠ []) (hx : l[sc]? = some x) : mkAt k sc m u n = x := by
  unfold mkAt
  cases h2 : aget (m, n) k with
  | none => rw [h2] at h; exact absurd h.symm hl
  | some l2 =>
    rw [h2] at h
    simp only [Option.getD_some] at h
    subst h
    cases l2 with
    | nil => exact absurd rfl hl
    | cons y l => simp only [Int.toNat_natCast, hx, Option.getD_some]
theorem kn_len {s : Scale} {k : Kn} (hk : KnOk s k) {j : Int × Int} (h : (aget j k).getD [] ≠ []) : (((aget j k).getD []).length : Int) = s.schools := by
  cases h2 : aget j k with
  | none => rw [h2] at h; exact absurd rfl h
  | some l =>
    rw [h2] at h
    rcases hk _ (aget_mem h2) with e | ⟨e, _⟩
    · exact absurd e h
    · exact e
theorem meanM_bd {s : Scale} {k : Kn} (hv : s.V) (hk : KnOk s k) {u : Int} (hu : 0 ≤ u ∧ u ≤ 100) (sc m : Int) : 0 ≤ meanM s k sc m u ∧ meanM s k sc m u ≤ 100 := by
  unfold meanM
  have hb := sumI_bd (b := 100) (l := (presJ s k m).map (mkAt k sc m u)) fun x hx => by
    obtain ⟨n, _, rfl⟩ := List.mem_map.1 hx
    exact mkAt_bd hv hk hu sc m n
  simp only [List.length_map] at hb
  rw [Int.tdiv_eq_ediv_of_nonneg hb.1]
  rcases Nat.eq_zero_or_pos (presJ s k m).length with h | h
  · rw [h]; simp
  · exact ⟨Int.ediv_nonneg hb.1 (by omega), Int.ediv_le_of_le_mul (by omega) (by rw [Int.mul_comm]; exact hb.2)⟩
theorem panelM_bd {s : Scale} {k : Kn} (hv : s.V) (hk : KnOk s k) {u : Int} (hu : 0 ≤ u ∧ u ≤ 100) (sc m : Int) : ∀ x, x ∈ panelM s k sc m u → 0 ≤ x ∧ x ≤ 100 := by
  intro x hx
  obtain ⟨n, _, rfl⟩ := List.mem_map.1 hx
  split
  · exact meanM_bd hv hk hu sc m
  · exact mkAt_bd hv hk hu sc m n
theorem panelM_len {s : Scale} {J : Nat} (hJ : s.judges = J) (k : Kn) (sc m u : Int) : (panelM s k sc m u).length = J := by simp [panelM, toI, hJ]
theorem panelM_eq {s : Scale} {J : Nat} (hJ : s.judges = J) (k : Kn) (sc m u : Int) {pp : List Int} (hl : J ≤ pp.length)
    (h1 : ∀ q : Nat, q < J → absentK k (m, (q : Int)) = false → pp[q]? = some (mkAt k sc m u q)) (h2 : ∀ q : Nat, q < J → absentK k (m, (q : Int)) = true → pp[q]? = some (meanM s k sc m u)) : pp.take J = panelM s k sc m u := by
  refine List.ext_getElem? fun q => ?_
  by_cases hq : q < J
  · rw [List.getElem?_take_of_lt hq]
    simp only [panelM, toI, hJ, Int.toNat_natCast, List.getElem?_map, List.getElem?_range hq, Option.map_some]
    cases h : absentK k (m, (q : Int)) with
    | true => rw [h2 q hq h]; rfl
    | false => rw [h1 q hq h]; rfl
  · rw [List.getElem?_eq_none (by simp; omega), List.getElem?_eq_none (by rw [panelM_len hJ]; omega)]
theorem points_bd {s : Scale} {k : Kn} (hv : s.V) (hk : KnOk s k) {u : Int} (hu : 0 ≤ u ∧ u ≤ 100) (sc m : Int) : 0 ≤ pointsK s k sc m u ∧ pointsK s k sc m u ≤ 500 := by
  have h := sumI_bd (b := 100) (l := (sortI (panelM s k sc m u)).drop s.drop.toNat) fun x hx => panelM_bd hv hk hu sc m x (mem_sortI.1 (List.mem_of_mem_drop hx))
  have q2 := hv.jd
  have hl : ((sortI (panelM s k sc m u)).drop s.drop.toNat).length ≤ 5 := by
    simp only [List.length_drop, sortI_len, panelM, toI, List.length_map, List.length_range]
    omega
  unfold pointsK
  omega
set_option maxHeartbeats 4000000 in
theorem points_pc (Y : YEnv) (σ : Sg) (id : Nat) (k : Kn) (hd : σ.store[id]? = some (some (.mark :: knE k))) (s : Scale) (hv : s.V) (hk : KnOk s k) (sc : Nat) (hsc : (sc : Int) < s.schools) (m : Int) (hp : presJ s k m ≠ []) (u : Int) (hu : 0 ≤ u ∧ u ≤ 100) :
    PC Try.prog Y 62 [.map id, scPV s, I sc, I m, I u] σ (I (pointsK s k sc m u)) (σ) := by
  refine PC_of_W Try.func62 rfl (by kernel_rfl) Try.ntmps62 (by simp) fun hcl hca => ?_
  have hlt := lt_of_get hd
  have q2 := hv.jd
  have q3 := hv.sc
  have q6 := hv.dr
  obtain ⟨J, hJ⟩ : ∃ z : Nat, s.judges = z := ⟨s.judges.toNat, by omega⟩
  obtain ⟨d, hdr⟩ : ∃ z : Nat, s.drop = z := ⟨s.drop.toNat, by omega⟩
  have hpJ := presL_J hJ k m
  have hbd := mkAt_bd hv hk hu sc m
  have hme := meanM_bd hv hk hu sc m
  obtain ⟨mean, hmean⟩ : ∃ z, meanM s k sc m u = z := ⟨_, rfl⟩
  rw [hmean] at hme
  refine W_seq fun kz1 kq1 => ?_
  refine W_region [0, 2, 3, 4, 6] fun R hR => ?_   -- r0
  simp only [go_sem, lkX_old hlt, lkX_at hd, hJ, hdr]
  refine hR _ _ (kq1 _ _ ?_); clear hR R; try clear kq1 kz1
  try simp only [go_sem, lkX_old hlt, lkX_at hd, hJ, hdr]
  refine W_seq fun kz2 kq2 => ?_
  refine W_region [0, 2, 3, 4, 6, 11] fun R hR => ?_   -- r1
  simp only [go_sem, lkX_old hlt, lkX_at hd, hJ, hdr]
  refine hR _ _ (kq2 _ _ ?_); clear hR R; try clear kq2 kz2
  try simp only [go_sem, lkX_old hlt, lkX_at hd, hJ, hdr]
  refine W_seq fun kz3 kq3 => ?_
  refine W_region [0, 2, 3, 4, 6, 11, 12, 13] fun R hR => ?_   -- r2
  simp only [go_sem, lkX_old hlt, lkX_at hd, hJ, hdr]
  refine hR _ _ (kq3 _ _ ?_); clear hR R; try clear kq3 kz3
  try simp only [go_sem, lkX_old hlt, lkX_at hd, hJ, hdr]
  refine W_seq fun kz4 kq4 => ?_
  refine W_seq fun kz5 kq5 => ?_
  refine W_region [0, 2, 3, 4, 6, 11, 12, 13, 23, 24] fun R hR => ?_   -- r3
  simp only [go_sem, lkX_old hlt, lkX_at hd, hJ, hdr]
  refine hR _ _ (kq5 _ _ ?_); clear hR R; try clear kq5 kz5
  try simp only [go_sem, lkX_old hlt, lkX_at hd, hJ, hdr]
  refine W_block ?_
  refine W_loopT (α := Nat × (List Int) × Int × Nat) (fun ⟨i, pp, sm, mn⟩ => [(12, I sm), (13, I mn), (24, I i)]) (fun ⟨i, pp, sm, mn⟩ => σ.ext [some [I s.schools, I s.matters, I (J : Int), I (d : Int), I s.low, I s.high, ints s.order], some (pp.map I)] []) (fun ⟨i, pp, sm, mn⟩ => i ≤ J ∧ pp.length = 5 ∧ (∀ q : Nat, q < i → absentK k (m, (q : Int)) = false → pp[q]? = some (mkAt k sc m u q)) ∧ sm = sumI ((presL k m i).map (mkAt k sc m u)) ∧ mn = (presL k m i).length ∧ 0 ≤ sm ∧ sm ≤ 100 * (i : Int) ∧ mn ≤ i) (fun ⟨i, pp, sm, mn⟩ => J - i) ((0, [0, 0, 0, 0, 0], 0, 0)) rfl (by first | rfl | (simp only [go_sem]; done) | (simp only [go_sem]; rfl)) (⟨Nat.zero_le _, rfl, fun q hq => absurd hq (Nat.not_lt_zero _), rfl, rfl, Int.le_refl _, Int.le_refl _, Nat.le_refl _⟩) ?_
  rintro ⟨i, pp, sm, mn⟩ ⟨hi, hpl, hpv, hsm, hmn, hs1, hs2, hm1⟩
  refine W_seq fun kz6 kq6 => ?_
  refine W_region [0, 2, 3, 4, 6, 11, 12, 13, 23, 24, 25] fun R hR => ?_   -- r4
  simp only [go_sem, lkX_old hlt, lkX_at hd, hJ, hdr]
  refine hR _ _ (kq6 _ _ ?_); clear hR R; try clear kq6 kz6
  try simp only [go_sem, lkX_old hlt, lkX_at hd, hJ, hdr]
  refine W_seq fun kz7 kq7 => ?_
  refine W_cond rfl (fun c1 => ?_) (fun c1 => ?_)
  · -- c1 true
    try simp only [nrm] at c1
    have hiJ : i < J := by first | omega | (simp at c1; omega)
    have hi5 : i < 5 := by omega
    have hI5 : (i : Int) < 5 := by omega
    have hi1 : i + 1 ≤ pp.length := by omega
    have hset : ∀ v : Int, (pp.set i v)[i]? = some v := fun v => by rw [List.getElem?_set_self (by omega)]
    have hps := presL_succ k m i
    have hbi := hbd i
    refine W_skip (kq7 _ _ ?_)
    refine W_seq fun kz8 kq8 => ?_
    refine W_block ?_
    refine W_seq fun kz9 kq9 => ?_
    refine W_region [0, 2, 3, 4, 6, 11, 12, 13, 14, 23, 24] fun R hR => ?_   -- r5
    simp only [go_sem, lkX_old hlt, lkX_at hd, hJ, hdr]
    refine hR _ _ (kq9 _ _ ?_); clear hR R; try clear kq9 kz9
    try simp only [go_sem, lkX_old hlt, lkX_at hd, hJ, hdr]
    refine W_seq fun kz10 kq10 => ?_
    refine W_region [0, 2, 3, 4, 6, 11, 12, 13, 14, 15, 23, 24] fun R hR => ?_   -- r6
    simp only [go_sem, lkX_old hlt, lkX_at hd, hJ, hdr]
    refine hR _ _ (kq10 _ _ ?_); clear hR R; try clear kq10 kz10
    try simp only [go_sem, lkX_old hlt, lkX_at hd, hJ, hdr]
    refine W_seq fun kz11 kq11 => ?_
    refine W_seq fun kz12 kq12 => ?_
    refine W_region [0, 2, 3, 4, 6, 11, 12, 13, 14, 15, 23, 24, 32] fun R hR => ?_   -- r7
    simp only [go_sem, lkX_old hlt, lkX_at hd, hJ, hdr]
    refine GCall_of (absent_pc Y _ id k (get_extx hd) (m, (i : Int))) ?_   -- t32
    simp only [go_sem, lkX_old hlt, lkX_at hd, hJ, hdr]
    refine hR _ _ (kq12 _ _ ?_); clear hR R; try clear kq12 kz12
    try simp only [go_sem, lkX_old hlt, lkX_at hd, hJ, hdr]
    refine W_cond rfl (fun c2 => ?_) (fun c2 => ?_)
    · -- c2 true
      try simp only [nrm] at c2
      have ha : absentK k (m, (i : Int)) = true := c2
      refine W_exit ?_
      simp only [go_sem, lkX_old hlt, lkX_at hd, hJ, hdr]
      refine kq8 _ _ ?_
      refine W_region [0, 2, 3, 4, 6, 11, 12, 13, 23, 24] fun R hR => ?_   -- r14
      simp only [go_sem, lkX_old hlt, lkX_at hd, hJ, hdr]
      try simp (disch := omega) only [wrapI, wrapU]
      refine hR _ _ ?_; clear hR R
      try simp only [go_sem, lkX_old hlt, lkX_at hd, hJ, hdr]
      refine ⟨(i + 1, pp, sm, mn), ?_, by (try simp only []); omega, ?_⟩
      · refine Weak.trans (Weak.cutX 2 0 (by omega) (by omega) hcl (by simp only [go_sem] <;> omega) (by simp only [go_sem] <;> omega)) ?_
        simp only [go_sem]
        exact Weak.eq (by first | rfl | (simp only [go_sem]; done) | (simp only [go_sem]; rfl) | (simp [go_sem]; done) | (simp [go_sem]; omega)) (by first | rfl | (simp only [go_sem]; done) | (simp [go_sem]; done))
      · try dsimp only
        first
        | (rw [ha, if_pos rfl] at hps
           rw [hps]
           refine ⟨hiJ, hpl, fun q hq ha2 => ?_, hsm, hmn, hs1, by omega, by omega⟩
           rcases Nat.lt_succ_iff_lt_or_eq.1 hq with h | h
           · exact hpv q h ha2
           · subst h; rw [ha] at ha2; cases ha2)
        | (rw [ha, if_neg (by simp)] at hps
           rw [hps, List.map_append, sumI_append, List.length_append, ← hsm, ← hmn]
           rw [hmk] at hbi
           refine ⟨hiJ, by rw [List.length_set]; exact hpl, fun q hq ha2 => ?_, by simp only [List.map_cons, List.map_nil, sumI, hmk]; omega, rfl, by omega, by omega, by omega⟩
           rcases Nat.lt_succ_iff_lt_or_eq.1 hq with h | h
           · rw [List.getElem?_set_ne (by omega)]; exact hpv q h ha2
           · subst h; rw [hset, hmk])
    · -- c2 false
      try simp only [nrm] at c2
      have ha : absentK k (m, (i : Int)) = false := by simpa using c2
      refine W_skip (kq11 _ _ ?_)
      refine W_seq fun kz13 kq13 => ?_
      refine W_region [0, 2, 3, 4, 6, 11, 12, 13, 14, 15, 23, 24] fun R hR => ?_   -- r8
      simp only [go_sem, lkX_old hlt, lkX_at hd, hJ, hdr, hI5, iaM_nat hi5, Nat.mul_one, Nat.zero_add, hi1]
      refine hR _ _ (kq13 _ _ ?_); clear hR R; try clear kq13 kz13
      try simp only [go_sem, lkX_old hlt, lkX_at hd, hJ, hdr]
      refine W_seq fun kz14 kq14 => ?_
      refine W_seq fun kz15 kq15 => ?_
      refine W_region [0, 2, 3, 4, 6, 11, 12, 13, 14, 16, 23, 24] fun R hR => ?_   -- r9
      simp only [go_sem, lkX_old hlt, lkX_at hd, hJ, hdr]
      refine hR _ _ (kq15 _ _ ?_); clear hR R; try clear kq15 kz15
      try simp only [go_sem, lkX_old hlt, lkX_at hd, hJ, hdr]
      refine W_seq fun kz16 kq16 => ?_
      refine W_region [0, 2, 3, 4, 6, 11, 12, 13, 14, 16, 23, 24, 40] fun R hR => ?_   -- r10
      simp only [go_sem, lkX_old hlt, lkX_at hd, hJ, hdr]
      refine hR _ _ (kq16 _ _ ?_); clear hR R; try clear kq16 kz16
      try simp only [go_sem, lkX_old hlt, lkX_at hd, hJ, hdr]
      refine W_cond rfl (fun c3 => ?_) (fun c3 => ?_)
      · -- c3 true
        try simp only [nrm] at c3
        obtain ⟨lx, hlx0⟩ : ∃ z, (aget (m, (i : Int)) k).getD [] = z := ⟨_, rfl⟩
        have hne : lx ≠ [] := by rw [hlx0] at c3; intro e; rw [e] at c3; simp at c3
        have hll := kn_len hk (j := (m, (i : Int))) (by rw [hlx0]; exact hne)
        rw [hlx0] at hll
        obtain ⟨x, hlx⟩ : ∃ z, lx[sc]? = some z := ⟨lx[sc]'(by omega), by simp⟩
        have hmk : mkAt k sc m u i = x := mkAt_some hlx0 hne hlx
        simp only [hlx0, mkPV_ne hne]
        refine W_region [0, 2, 3, 4, 6, 11, 12, 13, 14, 23, 24] fun R hR => ?_   -- r11
        simp only [go_sem, lkX_old hlt, lkX_at hd, hJ, hdr, hI5, iaM_nat hi5, Nat.mul_one, Nat.zero_add, hi1, hset, hlx, List.set_set, List.length_set]
        refine hR _ _ (kq14 _ _ ?_); clear hR R; try clear kq14 kz14
        try simp only [go_sem, lkX_old hlt, lkX_at hd, hJ, hdr]
        refine W_seq fun kz17 kq17 => ?_
        refine W_region [0, 2, 3, 4, 6, 11, 12, 13, 23, 24] fun R hR => ?_   -- r12
        simp only [go_sem, lkX_old hlt, lkX_at hd, hJ, hdr, hI5, iaM_nat hi5, Nat.mul_one, Nat.zero_add, List.getElem?_map, hset]
        try simp (disch := omega) only [wrapI, wrapU]
        refine hR _ _ (kq17 _ _ ?_); clear hR R; try clear kq17 kz17
        try simp only [go_sem, lkX_old hlt, lkX_at hd, hJ, hdr]
        refine W_region [0, 2, 3, 4, 6, 11, 12, 13, 23, 24] fun R hR => ?_   -- r13
        simp only [go_sem, lkX_old hlt, lkX_at hd, hJ, hdr]
        try simp (disch := omega) only [wrapI, wrapU]
        refine hR _ _ (kq8 _ _ ?_); clear hR R; try clear kq8 kz8
        try simp only [go_sem, lkX_old hlt, lkX_at hd, hJ, hdr]
        refine W_region [0, 2, 3, 4, 6, 11, 12, 13, 23, 24] fun R hR => ?_   -- r14
        simp only [go_sem, lkX_old hlt, lkX_at hd, hJ, hdr]
        try simp (disch := omega) only [wrapI, wrapU]
        refine hR _ _ ?_; clear hR R
        try simp only [go_sem, lkX_old hlt, lkX_at hd, hJ, hdr]
        refine ⟨(i + 1, pp.set i x, sm + x, mn + 1), ?_, by (try simp only []); omega, ?_⟩
        · refine Weak.trans (Weak.cutX 2 0 (by omega) (by omega) hcl (by simp only [go_sem] <;> omega) (by simp only [go_sem] <;> omega)) ?_
          simp only [go_sem]
          exact Weak.eq (by first | rfl | (simp only [go_sem]; done) | (simp only [go_sem]; rfl) | (simp [go_sem]; done) | (simp [go_sem]; omega)) (by first | rfl | (simp only [go_sem]; done) | (simp [go_sem]; done))
        · try dsimp only
          first
          | (rw [ha, if_pos rfl] at hps
             rw [hps]
             refine ⟨hiJ, hpl, fun q hq ha2 => ?_, hsm, hmn, hs1, by omega, by omega⟩
             rcases Nat.lt_succ_iff_lt_or_eq.1 hq with h | h
             · exact hpv q h ha2
             · subst h; rw [ha] at ha2; cases ha2)
          | (rw [ha, if_neg (by simp)] at hps
             rw [hps, List.map_append, sumI_append, List.length_append, ← hsm, ← hmn]
             rw [hmk] at hbi
             refine ⟨hiJ, by rw [List.length_set]; exact hpl, fun q hq ha2 => ?_, by simp only [List.map_cons, List.map_nil, sumI, hmk]; omega, rfl, by omega, by omega, by omega⟩
             rcases Nat.lt_succ_iff_lt_or_eq.1 hq with h | h
             · rw [List.getElem?_set_ne (by omega)]; exact hpv q h ha2
             · subst h; rw [hset, hmk])
      · -- c3 false
        try simp only [nrm] at c3
        have hmk : mkAt k sc m u i = u := mkAt_none (by simpa using c3)
        refine W_skip (kq14 _ _ ?_)
        refine W_seq fun kz18 kq18 => ?_
        refine W_region [0, 2, 3, 4, 6, 11, 12, 13, 23, 24] fun R hR => ?_   -- r12
        simp only [go_sem, lkX_old hlt, lkX_at hd, hJ, hdr, hI5, iaM_nat hi5, Nat.mul_one, Nat.zero_add, List.getElem?_map, hset]
        try simp (disch := omega) only [wrapI, wrapU]
        refine hR _ _ (kq18 _ _ ?_); clear hR R; try clear kq18 kz18
        try simp only [go_sem, lkX_old hlt, lkX_at hd, hJ, hdr]
        refine W_region [0, 2, 3, 4, 6, 11, 12, 13, 23, 24] fun R hR => ?_   -- r13
        simp only [go_sem, lkX_old hlt, lkX_at hd, hJ, hdr]
        try simp (disch := omega) only [wrapI, wrapU]
        refine hR _ _ (kq8 _ _ ?_); clear hR R; try clear kq8 kz8
        try simp only [go_sem, lkX_old hlt, lkX_at hd, hJ, hdr]
        refine W_region [0, 2, 3, 4, 6, 11, 12, 13, 23, 24] fun R hR => ?_   -- r14
        simp only [go_sem, lkX_old hlt, lkX_at hd, hJ, hdr]
        try simp (disch := omega) only [wrapI, wrapU]
        refine hR _ _ ?_; clear hR R
        try simp only [go_sem, lkX_old hlt, lkX_at hd, hJ, hdr]
        refine ⟨(i + 1, pp.set i u, sm + u, mn + 1), ?_, by (try simp only []); omega, ?_⟩
        · refine Weak.trans (Weak.cutX 2 0 (by omega) (by omega) hcl (by simp only [go_sem] <;> omega) (by simp only [go_sem] <;> omega)) ?_
          simp only [go_sem]
          exact Weak.eq (by first | rfl | (simp only [go_sem]; done) | (simp only [go_sem]; rfl) | (simp [go_sem]; done) | (simp [go_sem]; omega)) (by first | rfl | (simp only [go_sem]; done) | (simp [go_sem]; done))
        · try dsimp only
          first
          | (rw [ha, if_pos rfl] at hps
             rw [hps]
             refine ⟨hiJ, hpl, fun q hq ha2 => ?_, hsm, hmn, hs1, by omega, by omega⟩
             rcases Nat.lt_succ_iff_lt_or_eq.1 hq with h | h
             · exact hpv q h ha2
             · subst h; rw [ha] at ha2; cases ha2)
          | (rw [ha, if_neg (by simp)] at hps
             rw [hps, List.map_append, sumI_append, List.length_append, ← hsm, ← hmn]
             rw [hmk] at hbi
             refine ⟨hiJ, by rw [List.length_set]; exact hpl, fun q hq ha2 => ?_, by simp only [List.map_cons, List.map_nil, sumI, hmk]; omega, rfl, by omega, by omega, by omega⟩
             rcases Nat.lt_succ_iff_lt_or_eq.1 hq with h | h
             · rw [List.getElem?_set_ne (by omega)]; exact hpv q h ha2
             · subst h; rw [hset, hmk])
  · -- c1 false
    try simp only [nrm] at c1
    have hie : J = i := by first | omega | (simp at c1; omega)
    subst hie
    refine W_exit ?_
    simp only [go_sem, lkX_old hlt, lkX_at hd, hJ, hdr]
    refine kq4 _ _ ?_
    refine W_seq fun kz19 kq19 => ?_
    refine W_seq fun kz20 kq20 => ?_
    refine W_region [0, 3, 6, 11, 12, 13, 56, 57] fun R hR => ?_   -- r15
    simp only [go_sem, lkX_old hlt, lkX_at hd, hJ, hdr]
    refine hR _ _ (kq20 _ _ ?_); clear hR R; try clear kq20 kz20
    try simp only [go_sem, lkX_old hlt, lkX_at hd, hJ, hdr]
    refine W_block ?_
    rw [← hpJ] at hsm hmn
    have hmn0 : ¬ ((mn : Int) = 0) := fun e => hp (List.eq_nil_of_length_eq_zero (by omega))
    have htd0 : sm.tdiv mn = mean := by rw [← hmean, meanM, ← hsm, ← hmn]
    have htd : IntKind.i64.wrap (sm.tdiv mn) = mean := by rw [htd0]; exact wrapI (by omega) (by omega)
    refine W_loopT (α := Nat × (List Int)) (fun ⟨j, pp⟩ => [(57, I j)]) (fun ⟨j, pp⟩ => σ.ext [some [I s.schools, I s.matters, I (J : Int), I (d : Int), I s.low, I s.high, ints s.order], some (pp.map I)] []) (fun ⟨j, pp⟩ => j ≤ J ∧ pp.length = 5 ∧ (∀ q : Nat, q < J → absentK k (m, (q : Int)) = false → pp[q]? = some (mkAt k sc m u q)) ∧ (∀ q : Nat, q < j → absentK k (m, (q : Int)) = true → pp[q]? = some mean)) (fun ⟨j, pp⟩ => J - j) ((0, pp)) rfl (by first | rfl | (simp only [go_sem]; done) | (simp only [go_sem]; rfl)) (⟨Nat.zero_le _, hpl, hpv, fun q hq => absurd hq (Nat.not_lt_zero _)⟩) ?_
    rintro ⟨j, pp⟩ ⟨hj, hpl2, hpv2, hpm⟩
    refine W_seq fun kz21 kq21 => ?_
    refine W_region [0, 3, 6, 11, 12, 13, 56, 57, 58] fun R hR => ?_   -- r16
    simp only [go_sem, lkX_old hlt, lkX_at hd, hJ, hdr]
    refine hR _ _ (kq21 _ _ ?_); clear hR R; try clear kq21 kz21
    try simp only [go_sem, lkX_old hlt, lkX_at hd, hJ, hdr]
    refine W_seq fun kz22 kq22 => ?_
    refine W_cond rfl (fun c4 => ?_) (fun c4 => ?_)
    · -- c4 true
      try simp only [nrm] at c4
      have hjJ : j < J := by first | omega | (simp at c4; omega)
      have hi5 : j < 5 := by omega
      have hI5 : (j : Int) < 5 := by omega
      have hi1 : j + 1 ≤ pp.length := by omega
      have hset : ∀ v : Int, (pp.set j v)[j]? = some v := fun v => by rw [List.getElem?_set_self (by omega)]
      refine W_skip (kq22 _ _ ?_)
      refine W_seq fun kz23 kq23 => ?_
      refine W_block ?_
      refine W_seq fun kz24 kq24 => ?_
      refine W_region [0, 3, 6, 11, 12, 13, 17, 56, 57] fun R hR => ?_   -- r17
      simp only [go_sem, lkX_old hlt, lkX_at hd, hJ, hdr]
      refine hR _ _ (kq24 _ _ ?_); clear hR R; try clear kq24 kz24
      try simp only [go_sem, lkX_old hlt, lkX_at hd, hJ, hdr]
      refine W_seq fun kz25 kq25 => ?_
      refine W_region [0, 3, 6, 11, 12, 13, 17, 56, 57, 64] fun R hR => ?_   -- r18
      simp only [go_sem, lkX_old hlt, lkX_at hd, hJ, hdr]
      refine GCall_of (absent_pc Y _ id k (get_extx hd) (m, (j : Int))) ?_   -- t64
      simp only [go_sem, lkX_old hlt, lkX_at hd, hJ, hdr]
      refine hR _ _ (kq25 _ _ ?_); clear hR R; try clear kq25 kz25
      try simp only [go_sem, lkX_old hlt, lkX_at hd, hJ, hdr]
      refine W_cond rfl (fun c5 => ?_) (fun c5 => ?_)
      · -- c5 true
        try simp only [nrm] at c5
        have ha : absentK k (m, (j : Int)) = true := c5
        refine W_region [0, 3, 6, 11, 12, 13, 56, 57] fun R hR => ?_   -- r19
        simp only [go_sem, lkX_old hlt, lkX_at hd, hJ, hdr, hI5, iaM_nat hi5, Nat.mul_one, Nat.zero_add, hi1, hmn0, htd]
        try simp (disch := omega) only [wrapI, wrapU]
        refine hR _ _ (kq23 _ _ ?_); clear hR R; try clear kq23 kz23
        try simp only [go_sem, lkX_old hlt, lkX_at hd, hJ, hdr]
        refine W_region [0, 3, 6, 11, 12, 13, 56, 57] fun R hR => ?_   -- r20
        simp only [go_sem, lkX_old hlt, lkX_at hd, hJ, hdr]
        try simp (disch := omega) only [wrapI, wrapU]
        refine hR _ _ ?_; clear hR R
        try simp only [go_sem, lkX_old hlt, lkX_at hd, hJ, hdr]
        refine ⟨(j + 1, pp.set j mean), ?_, by (try simp only []); omega, ?_⟩
        · first | exact Weak.refl | exact Weak.eq (by first | rfl | (simp only [go_sem]; done) | (simp only [go_sem]; rfl) | (simp [go_sem]; done) | (simp [go_sem]; omega)) (by first | rfl | (simp only [go_sem]; done) | (simp [go_sem]; done))
        · try dsimp only
          first
          | (refine ⟨hjJ, by rw [List.length_set]; exact hpl2, fun q hq ha2 => ?_, fun q hq ha2 => ?_⟩
             · rw [List.getElem?_set_ne (by rintro rfl; rw [ha] at ha2; cases ha2)]; exact hpv2 q hq ha2
             · rcases Nat.lt_succ_iff_lt_or_eq.1 hq with h | h
               · rw [List.getElem?_set_ne (by omega)]; exact hpm q h ha2
               · subst h; exact hset mean)
          | (refine ⟨hjJ, hpl2, hpv2, fun q hq ha2 => ?_⟩
             rcases Nat.lt_succ_iff_lt_or_eq.1 hq with h | h
             · exact hpm q h ha2
             · subst h; rw [ha] at ha2; cases ha2)
      · -- c5 false
        try simp only [nrm] at c5
        have ha : absentK k (m, (j : Int)) = false := by simpa using c5
        refine W_skip (kq23 _ _ ?_)
        refine W_region [0, 3, 6, 11, 12, 13, 56, 57] fun R hR => ?_   -- r20
        simp only [go_sem, lkX_old hlt, lkX_at hd, hJ, hdr]
        try simp (disch := omega) only [wrapI, wrapU]
        refine hR _ _ ?_; clear hR R
        try simp only [go_sem, lkX_old hlt, lkX_at hd, hJ, hdr]
        refine ⟨(j + 1, pp), ?_, by (try simp only []); omega, ?_⟩
        · first | exact Weak.refl | exact Weak.eq (by first | rfl | (simp only [go_sem]; done) | (simp only [go_sem]; rfl) | (simp [go_sem]; done) | (simp [go_sem]; omega)) (by first | rfl | (simp only [go_sem]; done) | (simp [go_sem]; done))
        · try dsimp only
          first
          | (refine ⟨hjJ, by rw [List.length_set]; exact hpl2, fun q hq ha2 => ?_, fun q hq ha2 => ?_⟩
             · rw [List.getElem?_set_ne (by rintro rfl; rw [ha] at ha2; cases ha2)]; exact hpv2 q hq ha2
             · rcases Nat.lt_succ_iff_lt_or_eq.1 hq with h | h
               · rw [List.getElem?_set_ne (by omega)]; exact hpm q h ha2
               · subst h; exact hset mean)
          | (refine ⟨hjJ, hpl2, hpv2, fun q hq ha2 => ?_⟩
             rcases Nat.lt_succ_iff_lt_or_eq.1 hq with h | h
             · exact hpm q h ha2
             · subst h; rw [ha] at ha2; cases ha2)
    · -- c4 false
      try simp only [nrm] at c4
      have hje : J = j := by first | omega | (simp at c4; omega)
      subst hje
      refine W_exit ?_
      simp only [go_sem, lkX_old hlt, lkX_at hd, hJ, hdr]
      refine kq19 _ _ ?_
      refine W_seq fun kz26 kq26 => ?_
      have hJ5 : J ≤ 5 := by omega
      have hJ1 : ¬ (0 = J) := by omega
      have hJ0 : (0 : Int) ≤ (J : Int) := by omega
      refine W_region [6, 18] fun R hR => ?_   -- r21
      simp only [go_sem, lkX_old hlt, lkX_at hd, hJ, hdr, sl129, Int.toNat_natCast, hJ5, hJ0, hJ1]
      refine GCall_of (values_pc Y _ (σ.store.length + 1) J) ?_   -- t74
      simp only [go_sem, lkX_old hlt, lkX_at hd, hJ, hdr, sl129, Int.toNat_natCast, hJ5, hJ0, hJ1]
      refine GCall_of (sorted_pc Y _ (σ.store.length + 2) (σ.store.length + 1) J pp (Sg.get_ext ..) (Sg.get_ext ..) (by omega) (by omega) (by omega)) ?_   -- t75
      simp only [go_sem, lkX_old hlt, lkX_at hd, hJ, hdr, sl129, Int.toNat_natCast, hJ5, hJ0, hJ1]
      refine hR _ _ (kq26 _ _ ?_); clear hR R; try clear kq26 kz26
      try simp only [go_sem, lkX_old hlt, lkX_at hd, hJ, hdr]
      refine W_seq fun kz27 kq27 => ?_
      refine W_region [6, 18, 19] fun R hR => ?_   -- r22
      simp only [go_sem, lkX_old hlt, lkX_at hd, hJ, hdr]
      refine hR _ _ (kq27 _ _ ?_); clear hR R; try clear kq27 kz27
      try simp only [go_sem, lkX_old hlt, lkX_at hd, hJ, hdr]
      refine W_seq fun kz28 kq28 => ?_
      refine W_seq fun kz29 kq29 => ?_
      have hd0 : (0 : Int) ≤ (d : Int) := by omega
      have hdl : d ≤ (sortI (pp.take J)).length := by rw [sortI_len, List.length_take]; omega
      refine W_region [19, 79, 80, 81] fun R hR => ?_   -- r23
      simp only [go_sem, lkX_old hlt, lkX_at hd, hJ, hdr, hd0, hdl]
      refine hR _ _ (kq29 _ _ ?_); clear hR R; try clear kq29 kz29
      try simp only [go_sem, lkX_old hlt, lkX_at hd, hJ, hdr]
      refine W_block ?_
      have hpan : pp.take J = panelM s k sc m u := panelM_eq hJ k sc m u (by omega) hpv2 (fun q hq ha2 => by rw [hmean]; exact hpm q hq ha2)
      simp only [hpan]
      obtain ⟨dl, hdl0⟩ : ∃ z, (sortI (panelM s k sc m u)).drop d = z := ⟨_, rfl⟩
      have hdb : ∀ x, x ∈ dl → 0 ≤ x ∧ x ≤ 100 := fun x hx => panelM_bd hv hk hu sc m x (mem_sortI.1 (List.mem_of_mem_drop (by rw [hdl0]; exact hx)))
      have hdl5 : dl.length ≤ 5 := by rw [← hdl0, List.length_drop, sortI_len, panelM_len hJ]; omega
      have hfin : pointsK s k sc m u = sumI dl := by unfold pointsK; rw [hdr, Int.toNat_natCast, hdl0]
      simp only [hdl0]
      refine W_loopS (α := Nat × Int) (fun ⟨e, t⟩ => [(19, I t), (81, I e)]) (fun ⟨e, t⟩ => e ≤ dl.length ∧ sumI dl = t + sumI (dl.drop e) ∧ 0 ≤ t ∧ t ≤ 100 * (e : Int)) (fun ⟨e, t⟩ => dl.length - e) ((0, 0)) rfl (⟨Nat.zero_le _, by simp, Int.le_refl _, Int.le_refl _⟩) ?_
      rintro ⟨e, t⟩ ⟨he, hinv, ht1, ht2⟩
      refine W_seq fun kz30 kq30 => ?_
      refine W_region [19, 79, 80, 81, 82] fun R hR => ?_   -- r24
      simp only [go_sem, lkX_old hlt, lkX_at hd, hJ, hdr]
      refine hR _ _ (kq30 _ _ ?_); clear hR R; try clear kq30 kz30
      try simp only [go_sem, lkX_old hlt, lkX_at hd, hJ, hdr]
      refine W_seq fun kz31 kq31 => ?_
      refine W_cond rfl (fun c6 => ?_) (fun c6 => ?_)
      · -- c6 true
        try simp only [nrm] at c6
        have he' : e < dl.length := by first | assumption | omega
        obtain ⟨x, hx⟩ : ∃ x, dl[e]? = some x := ⟨dl[e], by simp [he']⟩
        have hdrop : dl.drop e = x :: dl.drop (e + 1) := by
          rw [List.drop_eq_getElem_cons he']; congr 1; exact (List.getElem?_eq_some_iff.1 hx).2
        have hxb := hdb x (List.mem_of_getElem? hx)
        rw [hdrop] at hinv
        simp only [sumI] at hinv
        refine W_skip (kq31 _ _ ?_)
        refine W_seq fun kz32 kq32 => ?_
        refine W_block ?_
        refine W_seq fun kz33 kq33 => ?_
        refine W_region [19, 21, 79, 80, 81] fun R hR => ?_   -- r25
        simp only [go_sem, lkX_old hlt, lkX_at hd, hJ, hdr, hx]
        refine hR _ _ (kq33 _ _ ?_); clear hR R; try clear kq33 kz33
        try simp only [go_sem, lkX_old hlt, lkX_at hd, hJ, hdr, hx]
        refine W_region [19, 79, 80, 81] fun R hR => ?_   -- r26
        simp only [go_sem, lkX_old hlt, lkX_at hd, hJ, hdr, hx]
        try simp (disch := omega) only [wrapI, wrapU]
        refine hR _ _ (kq32 _ _ ?_); clear hR R; try clear kq32 kz32
        try simp only [go_sem, lkX_old hlt, lkX_at hd, hJ, hdr, hx]
        refine W_region [19, 79, 80, 81] fun R hR => ?_   -- r27
        simp only [go_sem, lkX_old hlt, lkX_at hd, hJ, hdr, hx]
        try simp (disch := omega) only [wrapI, wrapU]
        refine hR _ _ ?_; clear hR R
        try simp only [go_sem, lkX_old hlt, lkX_at hd, hJ, hdr, hx]
        refine ⟨(e + 1, t + x), ?_, by (try simp only []); omega, ?_⟩
        · first | exact Weak.refl | exact Weak.eq (by first | rfl | (simp only [go_sem]; done) | (simp only [go_sem]; rfl) | (simp [go_sem]; done) | (simp [go_sem]; omega)) (by first | rfl | (simp only [go_sem]; done) | (simp [go_sem]; done))
        · try dsimp only
          exact ⟨he', by omega, by omega, by omega⟩
      · -- c6 false
        try simp only [nrm] at c6
        have hdrop : dl.drop e = [] := List.drop_eq_nil_of_le (by omega)
        rw [hdrop] at hinv
        simp only [sumI] at hinv
        refine W_exit ?_
        simp only [go_sem, lkX_old hlt, lkX_at hd, hJ, hdr]
        refine kq28 _ _ ?_
        refine W_seq fun kz34 kq34 => ?_
        refine W_region [10] fun R hR => ?_   -- r28
        simp only [go_sem, lkX_old hlt, lkX_at hd, hJ, hdr]
        refine hR _ _ (kq34 _ _ ?_); clear hR R; try clear kq34 kz34
        try simp only [go_sem, lkX_old hlt, lkX_at hd, hJ, hdr]
        refine W_ret ?_
        simp only [go_sem, lkX_old hlt, lkX_at hd, hJ, hdr]
        refine ⟨.inr (by trivial), ?_⟩
        first | refine Fin_same hcl rfl (Wk_eq ?_ (by simp only [go_sem])) | refine Fin_self hcl rfl (Wk_eq ?_ (by simp only [go_sem]))
        try simp only [go_sem]
        all_goals
          rw [hfin, hinv, Int.add_zero]
end Go.Proofs.Ytgelnjmddabgpaa
namespace Go.Proofs.Ytgelnjmddabgpaa
open Go Go.RowKit
set_option maxRecDepth 100000
attribute [go_sem] List.length_range
theorem short_pres {s : Scale} {k : Kn} (h : shortK s k = false) {M m : Nat} (hM : s.matters = M) (hm : m < M) : presJ s k m ≠ [] := by
  intro e
  have hall : ∀ n, n ∈ toI s.judges → absentK k ((m : Int), n) = true := fun n hn => by
    have : n ∉ presJ s k m := by rw [e]; simp
    simp only [presJ, List.mem_filter, not_and, Bool.not_eq_true', Bool.not_eq_false] at this
    exact this hn
  have : shortK s k = true := by
    simp only [shortK, List.any_eq_true, List.all_eq_true]
    exact ⟨(m : Int), by rw [toI, hM, Int.toNat_natCast]; exact List.mem_map.2 ⟨m, List.mem_range.2 hm, rfl⟩, hall⟩
  rw [h] at this
  cases this
/-- What standings are made of. -/
structure KnV (s : Scale) (k : Kn) (g : Night) : Prop where
  v : s.V
  ok : KnOk s k
  sh : shortK s k = false
  fl : g.fines.length ≤ 10
  fi : ∀ f, f ∈ g.fines → (0 ≤ f.1 ∧ f.1 ≤ s.schools - 1) ∧ 0 ≤ f.2 ∧ f.2 ≤ 1000
def ptsUp (s : Scale) (k : Kn) (sc u : Int) (i : Nat) : List Int := (List.range i).map fun (m : Nat) => pointsK s k sc m u
theorem ptsUp_succ (s : Scale) (k : Kn) (sc u : Int) (i : Nat) : ptsUp s k sc u (i + 1) = ptsUp s k sc u i ++ [pointsK s k sc i u] := by simp [ptsUp, List.range_succ]
theorem ptsUp_all {s : Scale} {M : Nat} (hM : s.matters = M) (k : Kn) (sc u : Int) : ptsUp s k sc u M = pointsL s k sc u := by
  simp only [ptsUp, pointsL, toI, hM, Int.toNat_natCast, List.map_map]
  rfl
theorem finesOf_cons (f : Int × Int) (l : List (Int × Int)) (sc : Int) : finesOf (f :: l) sc = (if f.1 = sc then f.2 else 0) + finesOf l sc := rfl
def rulesL (f63 f64 f65 : Nat) (L n : Nat) : List PV := .func (.func f63) [] [.ptr (L + 2) 0, .ptr (L + 1) 0] :: ((List.range n).map (fun j => PV.func (.func f64) [] [.ptr (L + 2) 0, .ptr (L + (j + 1 + 1 + 1)) 0, .ptr (L + 1) 0]) ++ [.func (.func f65) [] [.ptr (L + 1) 0, .ptr (L + 2) 0]])
theorem firstNZ_drop {l : List Int} {i : Nat} {x : Int} (hx : l[i]? = some x) : firstNZ (l.drop i) = if x ≠ 0 then x else firstNZ (l.drop (i + 1)) := by
  have hi := (List.getElem?_eq_some_iff.1 hx).1
  rw [List.drop_eq_getElem_cons hi, (List.getElem?_eq_some_iff.1 hx).2]
  rfl
set_option maxHeartbeats 4000000 in
theorem standing_pc (Y : YEnv) (σ : Sg) (id : Nat) (k : Kn) (hd : σ.store[id]? = some (some (.mark :: knE k))) (s : Scale) (g : Night) (hV : KnV s k g) (sc : Nat) (hsc : (sc : Int) < s.schools) (u : Int) (hu : 0 ≤ u ∧ u ≤ 100) :
    PC Try.prog Y 39 [.map id, scPV s, ngPV g, I sc, I u] σ (sdPV (standK s k g sc u)) (σ) := by
  refine PC_of_W Try.func39 rfl (by kernel_rfl) Try.ntmps39 (by simp) fun hcl hca => ?_
  have hv := hV.v
  have q1 := hv.mt
  obtain ⟨M, hM⟩ : ∃ z : Nat, s.matters = z := ⟨s.matters.toNat, by omega⟩
  have hfl := hV.fl
  have hfi := hV.fi
  have hMi : (s.matters : Int) = (M : Int) := hM
  refine W_seq fun kz1 kq1 => ?_
  refine W_region [0, 3, 4, 6, 7, 10] fun R hR => ?_   -- r0
  simp only [go_sem]
  refine hR _ _ (kq1 _ _ ?_); clear hR R; try clear kq1 kz1
  try simp only [go_sem]
  refine W_seq fun kz2 kq2 => ?_
  refine W_region [0, 3, 4, 6, 7, 10, 11] fun R hR => ?_   -- r1
  simp only [go_sem]
  refine hR _ _ (kq2 _ _ ?_); clear hR R; try clear kq2 kz2
  try simp only [go_sem]
  refine W_seq fun kz3 kq3 => ?_
  refine W_seq fun kz4 kq4 => ?_
  refine W_region [0, 3, 4, 6, 7, 10, 11, 19, 20] fun R hR => ?_   -- r2
  simp only [go_sem]
  refine hR _ _ (kq4 _ _ ?_); clear hR R; try clear kq4 kz4
  try simp only [go_sem]
  refine W_block ?_
  refine W_weak (Weak.roomX (j := 3) (off := 2) (es := 1) rfl rfl (by simp)) ?_
  simp only [go_sem]
  refine W_loopT (α := Nat × Int) (fun ⟨i, tot⟩ => [(20, I i)]) (fun ⟨i, tot⟩ => σ.ext [some (scCells s), some (ngCells g), some [I 0, I 0, .isl [] .exact], some [I sc, I tot, .isl ((ptsUp s k sc u i).map I) (.tok σ.rooms.length i 1)]] [i]) (fun ⟨i, tot⟩ => i ≤ M ∧ tot = sumI (ptsUp s k sc u i) ∧ 0 ≤ tot ∧ tot ≤ 500 * (i : Int)) (fun ⟨i, tot⟩ => M - i) ((0, 0)) rfl (by first | rfl | (simp only [go_sem]; done) | (simp only [go_sem]; rfl)) (⟨Nat.zero_le _, rfl, Int.le_refl _, Int.le_refl _⟩) ?_
  rintro ⟨i, tot⟩ ⟨hi, ht, ht1, ht2⟩
  have hpl : (ptsUp s k sc u i).length = i := by simp [ptsUp]
  refine W_seq fun kz5 kq5 => ?_
  refine W_region [0, 3, 4, 6, 7, 10, 11, 19, 20, 21] fun R hR => ?_   -- r3
  simp only [go_sem]
  refine hR _ _ (kq5 _ _ ?_); clear hR R; try clear kq5 kz5
  try simp only [go_sem]
  refine W_seq fun kz6 kq6 => ?_
  refine W_cond rfl (fun c1 => ?_) (fun c1 => ?_)
  · -- c1 true
    try simp only [nrm] at c1
    have hiM : i < M := by first | omega | (simp at c1; omega)
    have hpb := points_bd hv hV.ok hu sc i
    have hsu := ptsUp_succ s k sc u i
    have hpok : okC 1 ((ptsUp s k sc u i).map I) = True := by simp only [go_sem]
    refine W_skip (kq6 _ _ ?_)
    refine W_seq fun kz7 kq7 => ?_
    refine W_block ?_
    refine W_seq fun kz8 kq8 => ?_
    refine W_region [0, 3, 4, 6, 7, 10, 11, 12, 19, 20] fun R hR => ?_   -- r4
    simp only [go_sem]
    refine hR _ _ (kq8 _ _ ?_); clear hR R; try clear kq8 kz8
    try simp only [go_sem]
    refine W_seq fun kz9 kq9 => ?_
    refine W_region [0, 3, 4, 6, 7, 10, 11, 13, 19, 20] fun R hR => ?_   -- r5
    simp only [go_sem]
    refine GCall_of (points_pc Y _ id k (get_extx hd) s hv hV.ok sc hsc (i : Int) (short_pres hV.sh hM hiM) u hu) ?_   -- t28
    simp only [go_sem]
    refine hR _ _ (kq9 _ _ ?_); clear hR R; try clear kq9 kz9
    try simp only [go_sem]
    refine W_seq fun kz10 kq10 => ?_
    refine W_region [0, 3, 4, 6, 7, 10, 11, 13, 19, 20] fun R hR => ?_   -- r6
    simp only [go_sem]
    try simp (disch := first | omega | (simp only [go_sem] <;> omega)) only [wrapI, wrapU, appX_exact, appX_tok]
    try simp only [go_sem]
    refine hR _ _ (kq10 _ _ ?_); clear hR R; try clear kq10 kz10
    try simp only [go_sem]
    refine W_region [0, 3, 4, 6, 7, 10, 11, 19, 20] fun R hR => ?_   -- r7
    simp only [go_sem]
    try simp (disch := omega) only [wrapI, wrapU]
    refine hR _ _ (kq7 _ _ ?_); clear hR R; try clear kq7 kz7
    try simp only [go_sem]
    refine W_region [0, 3, 4, 6, 7, 10, 11, 19, 20] fun R hR => ?_   -- r8
    simp only [go_sem]
    try simp (disch := omega) only [wrapI, wrapU]
    refine hR _ _ ?_; clear hR R
    try simp only [go_sem]
    refine ⟨(i + 1, tot + pointsK s k sc i u), ?_, by (try simp only []); omega, ?_⟩
    · refine Weak.eq (by first | rfl | (simp only [go_sem]; done) | (simp [go_sem]; done)) ?_
      simp only [go_sem, hsu, List.map_append]
    · try dsimp only
      rw [hsu, sumI_append, ← ht]
      exact ⟨hiM, by simp [sumI], by omega, by omega⟩
  · -- c1 false
    try simp only [nrm] at c1
    have hie : M = i := by first | omega | (simp at c1; omega)
    subst hie
    rw [ptsUp_all hM] at ht
    refine W_exit ?_
    simp only [go_sem]
    refine kq3 _ _ ?_
    refine W_seq fun kz11 kq11 => ?_
    refine W_seq fun kz12 kq12 => ?_
    refine W_region [3, 10, 11, 42, 43, 44] fun R hR => ?_   -- r9
    simp only [go_sem]
    refine hR _ _ (kq12 _ _ ?_); clear hR R; try clear kq12 kz12
    try simp only [go_sem]
    refine W_block ?_
    simp only [ptsUp_all hM]
    refine W_loopT (α := Nat × Int) (fun ⟨j, t2⟩ => [(44, I j)]) (fun ⟨j, t2⟩ => σ.ext [some (scCells s), some (ngCells g), some [I 0, I 0, .isl [] .exact], some [I sc, I t2, .isl ((pointsL s k sc u).map I) (.tok σ.rooms.length M 1)]] [M]) (fun ⟨j, t2⟩ => j ≤ g.fines.length ∧ tot - finesOf g.fines sc = t2 - finesOf (g.fines.drop j) sc ∧ -1000 * (j : Int) ≤ t2 ∧ t2 ≤ 3000) (fun ⟨j, t2⟩ => g.fines.length - j) ((0, tot)) rfl (by first | rfl | (simp only [go_sem]; done) | (simp only [go_sem]; rfl)) (⟨Nat.zero_le _, rfl, by omega, by omega⟩) ?_
    rintro ⟨j, t2⟩ ⟨hj, hinv, ht3, ht4⟩
    refine W_seq fun kz13 kq13 => ?_
    refine W_region [3, 10, 11, 42, 43, 44, 45] fun R hR => ?_   -- r10
    simp only [go_sem]
    refine hR _ _ (kq13 _ _ ?_); clear hR R; try clear kq13 kz13
    try simp only [go_sem]
    refine W_seq fun kz14 kq14 => ?_
    refine W_cond rfl (fun c2 => ?_) (fun c2 => ?_)
    · -- c2 true
      try simp only [nrm] at c2
      have hj' : j < g.fines.length := by first | assumption | omega
      obtain ⟨f, hx⟩ : ∃ f, g.fines[j]? = some f := ⟨g.fines[j], by simp [hj']⟩
      have hdrop : g.fines.drop j = f :: g.fines.drop (j + 1) := by
        rw [List.drop_eq_getElem_cons hj']; congr 1; exact (List.getElem?_eq_some_iff.1 hx).2
      have hfb := hfi f (List.mem_of_getElem? hx)
      rw [hdrop, finesOf_cons] at hinv
      refine W_skip (kq14 _ _ ?_)
      refine W_seq fun kz15 kq15 => ?_
      refine W_block ?_
      refine W_seq fun kz16 kq16 => ?_
      refine W_region [3, 10, 11, 15, 42, 43, 44] fun R hR => ?_   -- r11
      simp only [go_sem, hx]
      refine hR _ _ (kq16 _ _ ?_); clear hR R; try clear kq16 kz16
      try simp only [go_sem, hx]
      refine W_seq fun kz17 kq17 => ?_
      refine W_region [3, 10, 11, 15, 42, 43, 44, 51] fun R hR => ?_   -- r12
      simp only [go_sem, hx]
      refine hR _ _ (kq17 _ _ ?_); clear hR R; try clear kq17 kz17
      try simp only [go_sem, hx]
      refine W_cond rfl (fun c3 => ?_) (fun c3 => ?_)
      · -- c3 true
        try simp only [nrm] at c3
        refine W_region [3, 10, 11, 42, 43, 44] fun R hR => ?_   -- r13
        simp only [go_sem, hx]
        try simp (disch := omega) only [wrapI, wrapU]
        refine hR _ _ (kq15 _ _ ?_); clear hR R; try clear kq15 kz15
        try simp only [go_sem, hx]
        refine W_region [3, 10, 11, 42, 43, 44] fun R hR => ?_   -- r14
        simp only [go_sem, hx]
        try simp (disch := omega) only [wrapI, wrapU]
        refine hR _ _ ?_; clear hR R
        try simp only [go_sem, hx]
        refine ⟨(j + 1, t2 - f.2), ?_, by (try simp only []); omega, ?_⟩
        · refine Weak.trans (Weak.cutX 4 1 (by omega) (by omega) hcl (by simp only [go_sem] <;> omega) (by simp only [go_sem] <;> omega)) ?_
          simp only [go_sem]
          exact Weak.eq (by first | rfl | (simp only [go_sem]; done) | (simp only [go_sem]; rfl) | (simp [go_sem]; done) | (simp [go_sem]; omega)) (by first | rfl | (simp only [go_sem]; done) | (simp [go_sem]; done))
        · try dsimp only
          first
          | (rw [if_pos c3] at hinv; exact ⟨hj', by omega, by omega, by omega⟩)
          | (rw [if_neg c3] at hinv; exact ⟨hj', by omega, by omega, by omega⟩)
      · -- c3 false
        try simp only [nrm] at c3
        refine W_skip (kq15 _ _ ?_)
        refine W_region [3, 10, 11, 42, 43, 44] fun R hR => ?_   -- r14
        simp only [go_sem, hx]
        try simp (disch := omega) only [wrapI, wrapU]
        refine hR _ _ ?_; clear hR R
        try simp only [go_sem, hx]
        refine ⟨(j + 1, t2), ?_, by (try simp only []); omega, ?_⟩
        · refine Weak.trans (Weak.cutX 4 1 (by omega) (by omega) hcl (by simp only [go_sem] <;> omega) (by simp only [go_sem] <;> omega)) ?_
          simp only [go_sem]
          exact Weak.eq (by first | rfl | (simp only [go_sem]; done) | (simp only [go_sem]; rfl) | (simp [go_sem]; done) | (simp [go_sem]; omega)) (by first | rfl | (simp only [go_sem]; done) | (simp [go_sem]; done))
        · try dsimp only
          first
          | (rw [if_pos c3] at hinv; exact ⟨hj', by omega, by omega, by omega⟩)
          | (rw [if_neg c3] at hinv; exact ⟨hj', by omega, by omega, by omega⟩)
    · -- c2 false
      try simp only [nrm] at c2
      have hdrop : g.fines.drop j = [] := List.drop_eq_nil_of_le (by omega)
      rw [hdrop] at hinv
      have hst : standK s k g sc u = ⟨sc, t2, pointsL s k sc u⟩ := by
        simp only [standK, ← ht, hinv]
        simp [finesOf, sumI]
      refine W_exit ?_
      simp only [go_sem]
      refine kq11 _ _ ?_
      refine W_seq fun kz18 kq18 => ?_
      refine W_region [10] fun R hR => ?_   -- r15
      simp only [go_sem]
      refine hR _ _ (kq18 _ _ ?_); clear hR R; try clear kq18 kz18
      try simp only [go_sem]
      refine W_ret ?_
      simp only [go_sem]
      refine ⟨.inr (by trivial), ?_⟩
      rw [hst]; refine Fin_same hcl (by show resPV Try.prog _ _ [.cell 10 59] = some _; simp only [resPV, go_sem]; rfl) (Wk.ro (by simp only [go_sem]) ?_)
      try simp only [go_sem]
      all_goals
        simp only [go_sem]
set_option maxHeartbeats 2000000 in
theorem cmp1_pc (Y : YEnv) (σ : Sg) (ia ib : Nat) (a b : Stand) (ha : σ.store[ia]? = some (some (sdCells a))) (hb : σ.store[ib]? = some (some (sdCells b))) (h1 : -2 ^ 40 ≤ a.total ∧ a.total ≤ 2 ^ 40) (h2 : -2 ^ 40 ≤ b.total ∧ b.total ≤ 2 ^ 40) :
    PC Try.prog Y 63 [.ptr ib 0, .ptr ia 0] σ (I (b.total - a.total)) (σ) := by
  refine PC_of_W Try.func63 rfl (by kernel_rfl) Try.ntmps63 (by simp) fun hcl hca => ?_
  refine W_seq fun kz1 kq1 => ?_
  refine W_region [0, 1] fun R hR => ?_   -- r0
  simp only [go_sem, ldS_at ha, ldS_at hb]
  refine hR _ _ (kq1 _ _ ?_); clear hR R; try clear kq1 kz1
  try simp only [go_sem, ldS_at ha, ldS_at hb]
  refine W_seq fun kz2 kq2 => ?_
  refine W_region [2] fun R hR => ?_   -- r1
  simp only [go_sem, ldS_at ha, ldS_at hb]
  try simp (disch := omega) only [wrapI, wrapU]
  refine hR _ _ (kq2 _ _ ?_); clear hR R; try clear kq2 kz2
  try simp only [go_sem, ldS_at ha, ldS_at hb]
  refine W_ret ?_
  simp only [go_sem, ldS_at ha, ldS_at hb]
  refine ⟨.inr (by trivial), ?_⟩
  first | refine Fin_same hcl rfl (Wk_eq ?_ (by simp only [go_sem])) | refine Fin_self hcl rfl (Wk_eq ?_ (by simp only [go_sem]))
  try simp only [go_sem]
  all_goals
    first | rfl | (simp_all; done) | (simp_all; omega)
set_option maxHeartbeats 2000000 in
theorem cmp2_pc (Y : YEnv) (σ : Sg) (ia ib : Nat) (a b : Stand) (ha : σ.store[ia]? = some (some (sdCells a))) (hb : σ.store[ib]? = some (some (sdCells b))) (im m : Nat) (hm : σ.store[im]? = some (some [I m])) (pa pb : Int) (hpa : a.points[m]? = some pa) (hpb : b.points[m]? = some pb) (h1 : -2 ^ 40 ≤ pa ∧ pa ≤ 2 ^ 40) (h2 : -2 ^ 40 ≤ pb ∧ pb ≤ 2 ^ 40) :
    PC Try.prog Y 64 [.ptr ib 0, .ptr im 0, .ptr ia 0] σ (I (pb - pa)) (σ) := by
  refine PC_of_W Try.func64 rfl (by kernel_rfl) Try.ntmps64 (by simp) fun hcl hca => ?_
  refine W_seq fun kz1 kq1 => ?_
  refine W_region [0, 1, 2] fun R hR => ?_   -- r0
  simp only [go_sem, ldS_at ha, ldS_at hb, ldS_at hm, hpa, hpb]
  refine hR _ _ (kq1 _ _ ?_); clear hR R; try clear kq1 kz1
  try simp only [go_sem, ldS_at ha, ldS_at hb, ldS_at hm, hpa, hpb]
  refine W_seq fun kz2 kq2 => ?_
  refine W_draw [3] [0, 1, 2, 3, 4, 5, 6, 7, 8, 9, 10, 11] [] [[], [0], [], [0, 1, 2], [0, 1, 2, 3], [], [5], [], [5, 6, 7], [5, 6, 7, 8], [0, 1, 2, 3, 4, 5, 6, 7, 8, 9], [0, 1, 2, 3, 4, 5, 6, 7, 8, 9, 10]] mixed (by kernel_rfl) fun R hR => ?_   -- r1
  simp only [go_sem, ldS_at ha, ldS_at hb, ldS_at hm, hpa, hpb]
  try simp (disch := omega) only [wrapI, wrapU]
  try refine And.intro (by repeat' (first | refine And.intro ?_ ?_ | exact GOr_right (fun _ => by simp only [go_sem, ldS_at ha, ldS_at hb, ldS_at hm, hpa, hpb]))) ?_
  refine hR _ _ (kq2 _ _ ?_); clear hR R; try clear kq2 kz2
  try simp only [go_sem, ldS_at ha, ldS_at hb, ldS_at hm, hpa, hpb]
  refine W_ret ?_
  simp only [go_sem, ldS_at ha, ldS_at hb, ldS_at hm, hpa, hpb]
  refine ⟨.inr (by trivial), ?_⟩
  first | refine Fin_same hcl rfl (Wk_eq ?_ (by simp only [go_sem])) | refine Fin_self hcl rfl (Wk_eq ?_ (by simp only [go_sem]))
  try simp only [go_sem]
  all_goals
    first | rfl | (simp_all; done) | (simp_all; omega)
set_option maxHeartbeats 2000000 in
theorem cmp3_pc (Y : YEnv) (σ : Sg) (ia ib : Nat) (a b : Stand) (ha : σ.store[ia]? = some (some (sdCells a))) (hb : σ.store[ib]? = some (some (sdCells b))) (h1 : -2 ^ 40 ≤ a.school ∧ a.school ≤ 2 ^ 40) (h2 : -2 ^ 40 ≤ b.school ∧ b.school ≤ 2 ^ 40) :
    PC Try.prog Y 65 [.ptr ia 0, .ptr ib 0] σ (I (a.school - b.school)) (σ) := by
  refine PC_of_W Try.func65 rfl (by kernel_rfl) Try.ntmps65 (by simp) fun hcl hca => ?_
  refine W_seq fun kz1 kq1 => ?_
  refine W_region [0, 1] fun R hR => ?_   -- r0
  simp only [go_sem, ldS_at ha, ldS_at hb]
  refine hR _ _ (kq1 _ _ ?_); clear hR R; try clear kq1 kz1
  try simp only [go_sem, ldS_at ha, ldS_at hb]
  refine W_seq fun kz2 kq2 => ?_
  refine W_region [2] fun R hR => ?_   -- r1
  simp only [go_sem, ldS_at ha, ldS_at hb]
  try simp (disch := omega) only [wrapI, wrapU]
  refine hR _ _ (kq2 _ _ ?_); clear hR R; try clear kq2 kz2
  try simp only [go_sem, ldS_at ha, ldS_at hb]
  refine W_ret ?_
  simp only [go_sem, ldS_at ha, ldS_at hb]
  refine ⟨.inr (by trivial), ?_⟩
  first | refine Fin_same hcl rfl (Wk_eq ?_ (by simp only [go_sem])) | refine Fin_self hcl rfl (Wk_eq ?_ (by simp only [go_sem]))
  try simp only [go_sem]
  all_goals
    first | rfl | (simp_all; done) | (simp_all; omega)
/-- Standings that can be compared. -/
structure CmpOk (ord : List Int) (a b : Stand) : Prop where
  ta : -2 ^ 40 ≤ a.total ∧ a.total ≤ 2 ^ 40
  tb : -2 ^ 40 ≤ b.total ∧ b.total ≤ 2 ^ 40
  sa : -2 ^ 40 ≤ a.school ∧ a.school ≤ 2 ^ 40
  sb : -2 ^ 40 ≤ b.school ∧ b.school ≤ 2 ^ 40
  pt : ∀ m, m ∈ ord → ∃ (i : Nat) (pa pb : Int), m = i ∧ a.points[i]? = some pa ∧ b.points[i]? = some pb ∧ (-2 ^ 40 ≤ pa ∧ pa ≤ 2 ^ 40) ∧ (-2 ^ 40 ≤ pb ∧ pb ≤ 2 ^ 40)
theorem rulesL_pc (Y : YEnv) (σ : Sg) (ord : List Int) (a b : Stand) (h : CmpOk ord a b) (i : Nat) (p : PV) (hp : (rulesL 63 64 65 σ.store.length ord.length)[i]? = some p) :
    ∃ f cs v, p = .func (.func f) [] cs ∧ (cmpRules ord a b)[i]? = some v ∧ PC Try.prog Y f cs (σ.ext (some [ints ord] :: some (sdCells a) :: some (sdCells b) :: ord.map fun m => some [I m]) [ord.length + 2]) (I v) (σ.ext (some [ints ord] :: some (sdCells a) :: some (sdCells b) :: ord.map fun m => some [I m]) [ord.length + 2]) := by
  have ga : (σ.ext (some [ints ord] :: some (sdCells a) :: some (sdCells b) :: ord.map fun m => some [I m]) [ord.length + 2]).store[σ.store.length + 1]? = some (some (sdCells a)) := by rw [Sg.get_ext]; rfl
  have gb : (σ.ext (some [ints ord] :: some (sdCells a) :: some (sdCells b) :: ord.map fun m => some [I m]) [ord.length + 2]).store[σ.store.length + 2]? = some (some (sdCells b)) := by rw [Sg.get_ext]; rfl
  unfold rulesL at hp
  cases i with
  | zero =>
    simp only [List.getElem?_cons_zero, Option.some.injEq] at hp
    exact ⟨_, _, _, hp.symm, rfl, cmp1_pc Y _ _ _ a b ga gb h.ta h.tb⟩
  | succ i =>
    simp only [List.getElem?_cons_succ] at hp
    by_cases hi : i < ord.length
    · rw [List.getElem?_append_left (by simpa using hi)] at hp
      simp only [List.getElem?_map, List.getElem?_range hi, Option.map_some, Option.some.injEq] at hp
      obtain ⟨m, pa, pb, e, e1, e2, e3, e4⟩ := h.pt ord[i] (List.getElem_mem hi)
      have gm : (σ.ext (some [ints ord] :: some (sdCells a) :: some (sdCells b) :: ord.map fun m => some [I m]) [ord.length + 2]).store[σ.store.length + (i + 1 + 1 + 1)]? = some (some [I (m : Int)]) := by
        rw [Sg.get_ext]; simp [hi, e]
      refine ⟨_, _, pb - pa, hp.symm, ?_, cmp2_pc Y _ _ _ a b ga gb _ m gm pa pb e1 e2 e3 e4⟩
      have : (ord.map (fun m => ptAt b m - ptAt a m) ++ [a.school - b.school])[i]? = some (pb - pa) := by
        rw [List.getElem?_append_left (by simpa using hi)]
        simp [hi, e, ptAt, e1, e2]
      simp only [cmpRules, List.getElem?_cons_succ]
      exact this
    · have hlen := (List.getElem?_eq_some_iff.1 hp).1
      simp at hlen
      have hie : i = ord.length := by omega
      subst hie
      rw [List.getElem?_append_right (by simp)] at hp
      simp at hp
      refine ⟨_, _, a.school - b.school, hp.symm, ?_, cmp3_pc Y _ _ _ a b ga gb h.sa h.sb⟩
      simp only [cmpRules, List.getElem?_cons_succ]
      rw [List.getElem?_append_right (by simp)]
      simp
set_option maxHeartbeats 4000000 in
theorem compare_pc (Y : YEnv) (σ : Sg) (ord : List Int) (a b : Stand) (h : CmpOk ord a b) (hl : ord.length < 2 ^ 40) :
    PC Try.prog Y 42 [.agg [ints ord], sdPV a, sdPV b] σ (I (cmpSt ord a b)) (σ) := by
  refine PC_of_W Try.func42 rfl (by kernel_rfl) Try.ntmps42 (by simp) fun hcl hca => ?_
  have hrp := rulesL_pc Y σ ord a b h
  refine W_seq fun kz1 kq1 => ?_
  refine W_region [3, 4, 5] fun R hR => ?_   -- r0
  simp only [go_sem, List.length_range]
  refine hR _ _ (kq1 _ _ ?_); clear hR R; try clear kq1 kz1
  try simp only [go_sem, List.length_range]
  refine W_seq fun kz2 kq2 => ?_
  refine W_region [3, 4, 5, 7] fun R hR => ?_   -- r1
  simp only [go_sem, List.length_range]
  refine hR _ _ (kq2 _ _ ?_); clear hR R; try clear kq2 kz2
  try simp only [go_sem, List.length_range]
  refine W_seq fun kz3 kq3 => ?_
  refine W_seq fun kz4 kq4 => ?_
  refine W_region [4, 5, 7, 16, 17, 18] fun R hR => ?_   -- r2
  simp only [go_sem, List.length_range]
  refine hR _ _ (kq4 _ _ ?_); clear hR R; try clear kq4 kz4
  try simp only [go_sem, List.length_range]
  refine W_block ?_
  refine W_weak (Weak.room (t := 7) (es := 1) rfl (by simp)) ?_
  refine W_weak (Weak.keep [4, 5, 7, 16, 17, 18]) ?_
  simp only [go_sem, List.length_range]
  refine W_loopT (α := Nat) (fun (i : Nat) => [(7, .isl (.func (.func 63) [] [.ptr (σ.store.length + 2) 0, .ptr (σ.store.length + 1) 0] :: (List.range i).map (fun j => PV.func (.func 64) [] [.ptr (σ.store.length + 2) 0, .ptr (σ.store.length + (j + 1 + 1 + 1)) 0, .ptr (σ.store.length + 1) 0])) (.tok σ.rooms.length (i + 1) 1)), (18, I i)]) (fun (i : Nat) => σ.ext (some [ints ord] :: some (sdCells a) :: some (sdCells b) :: (ord.take i).map fun m => some [I m]) [i + 1]) (fun (i : Nat) => i ≤ ord.length) (fun (i : Nat) => ord.length - i) (0) rfl (by first | rfl | (simp only [go_sem]; done) | (simp only [go_sem]; rfl)) (Nat.zero_le _) ?_
  rintro i hi
  have htl : (ord.take i).length = i := by simp; omega
  have hsub0 : i - ((ord.take i).map (fun m => some [I m])).length = 0 := by simp; omega
  have hget : ∀ x : Option (List PV), ((ord.take i).map (fun m => some [I m]) ++ [x])[i]? = some x := fun x => by rw [List.getElem?_append_right (by simp; omega), hsub0]; rfl
  have hset2 : ∀ x y : Option (List PV), ((ord.take i).map (fun m => some [I m]) ++ [x]).set i y = (ord.take i).map (fun m => some [I m]) ++ [y] := fun x y => by rw [List.set_append_right _ _ (by simp; omega), hsub0]; rfl
  refine W_seq fun kz5 kq5 => ?_
  refine W_region [4, 5, 7, 16, 17, 18, 19] fun R hR => ?_   -- r3
  simp only [go_sem, List.length_range]
  refine hR _ _ (kq5 _ _ ?_); clear hR R; try clear kq5 kz5
  try simp only [go_sem, List.length_range]
  refine W_seq fun kz6 kq6 => ?_
  refine W_cond rfl (fun c1 => ?_) (fun c1 => ?_)
  · -- c1 true
    try simp only [nrm] at c1
    have hi' : i < ord.length := by first | assumption | omega
    obtain ⟨m, hx⟩ : ∃ m, ord[i]? = some m := ⟨ord[i], by simp [hi']⟩
    have hdrop : ord.drop i = m :: ord.drop (i + 1) := by
      rw [List.drop_eq_getElem_cons hi']; congr 1; exact (List.getElem?_eq_some_iff.1 hx).2
    have hsn := take_snoc hx
    have hrs : (List.range (i + 1)) = List.range i ++ [i] := List.range_succ
    refine W_skip (kq6 _ _ ?_)
    refine W_seq fun kz7 kq7 => ?_
    refine W_block ?_
    refine W_seq fun kz8 kq8 => ?_
    refine W_region [4, 5, 7, 9, 16, 17, 18] fun R hR => ?_   -- r4
    simp only [go_sem, List.length_range, hx, htl, hget, hset2]
    refine hR _ _ (kq8 _ _ ?_); clear hR R; try clear kq8 kz8
    try simp only [go_sem, List.length_range, hx, htl]
    refine W_region [4, 5, 7, 16, 17, 18] fun R hR => ?_   -- r5
    simp only [go_sem, List.length_range, hx, htl]
    try simp (disch := first | omega | (simp only [go_sem] <;> omega)) only [wrapI, wrapU, appX_exact, appX_tok]
    try simp only [go_sem, List.length_range, hx, htl]
    refine hR _ _ (kq7 _ _ ?_); clear hR R; try clear kq7 kz7
    try simp only [go_sem, List.length_range, hx, htl]
    refine W_region [4, 5, 7, 16, 17, 18] fun R hR => ?_   -- r6
    simp only [go_sem, List.length_range, hx, htl]
    try simp (disch := omega) only [wrapI, wrapU]
    refine hR _ _ ?_; clear hR R
    try simp only [go_sem, List.length_range, hx, htl]
    refine ⟨i + 1, ?_, by (try simp only []); omega, ?_⟩
    · refine Weak.eq ?_ ?_
      · simp [go_sem, hrs]
      · simp [go_sem, ← hsn]
    · try dsimp only
      exact hi'
  · -- c1 false
    try simp only [nrm] at c1
    have hie : ord.length = i := by first | omega | (simp at c1; omega)
    subst hie
    rw [List.take_length]
    refine W_exit ?_
    simp only [go_sem, List.length_range]
    refine kq3 _ _ ?_
    refine W_seq fun kz9 kq9 => ?_
    refine W_region [7] fun R hR => ?_   -- r7
    simp only [go_sem, List.length_range]
    try simp (disch := first | omega | (simp only [go_sem] <;> omega)) only [wrapI, wrapU, appX_exact, appX_tok]
    try simp only [go_sem, List.length_range]
    refine hR _ _ (kq9 _ _ ?_); clear hR R; try clear kq9 kz9
    try simp only [go_sem, List.length_range]
    refine W_seq fun kz10 kq10 => ?_
    refine W_seq fun kz11 kq11 => ?_
    refine W_region [31, 32, 33] fun R hR => ?_   -- r8
    simp only [go_sem, List.length_range]
    refine hR _ _ (kq11 _ _ ?_); clear hR R; try clear kq11 kz11
    try simp only [go_sem, List.length_range]
    refine W_block ?_
    obtain ⟨rl, hrl⟩ : ∃ z, rulesL 63 64 65 σ.store.length ord.length = z := ⟨_, rfl⟩
    have hrl0 := hrl
    unfold rulesL at hrl0
    have hrll : rl.length = ord.length + 2 := by rw [← hrl]; simp [rulesL]
    simp only [hrl0]
    rw [hrl] at hrp
    refine W_loopS (α := Nat) (fun (q : Nat) => [(33, I q)]) (fun (q : Nat) => q ≤ rl.length ∧ cmpSt ord a b = firstNZ ((cmpRules ord a b).drop q)) (fun (q : Nat) => rl.length - q) (0) rfl (⟨Nat.zero_le _, rfl⟩) ?_
    rintro q ⟨hq, hinv⟩
    refine W_seq fun kz12 kq12 => ?_
    refine W_region [31, 32, 33, 34] fun R hR => ?_   -- r9
    simp only [go_sem, List.length_range]
    refine hR _ _ (kq12 _ _ ?_); clear hR R; try clear kq12 kz12
    try simp only [go_sem, List.length_range]
    refine W_seq fun kz13 kq13 => ?_
    refine W_cond rfl (fun c2 => ?_) (fun c2 => ?_)
    · -- c2 true
      try simp only [nrm] at c2
      have hq' : q < rl.length := by first | omega | (simp at c2; omega)
      obtain ⟨p, hp⟩ : ∃ z, rl[q]? = some z := ⟨rl[q], by simp⟩
      obtain ⟨f, cs, v, rfl, hv, hpc⟩ := hrp q p hp
      rw [firstNZ_drop hv] at hinv
      have hia : iaX 1 rl (q : Int) = some (.eptr 1 rl q 0) := by
        have := iaX_map (f := id) (xs := rl) (c := 1) hp rfl
        simpa using this
      have hel : elS rl q 0 = some (.func (.func f) [] cs) := by simp [elS, hp]
      refine W_skip (kq13 _ _ ?_)
      refine W_seq fun kz14 kq14 => ?_
      refine W_block ?_
      refine W_seq fun kz15 kq15 => ?_
      refine W_region [11, 31, 32, 33] fun R hR => ?_   -- r10
      simp only [go_sem, List.length_range, hp, hia, hel]
      refine hR _ _ (kq15 _ _ ?_); clear hR R; try clear kq15 kz15
      try simp only [go_sem, List.length_range, hp, hia, hel]
      refine W_seq fun kz16 kq16 => ?_
      refine W_region [12, 31, 32, 33] fun R hR => ?_   -- r11
      simp only [go_sem, List.length_range, hp, hia, hel]
      refine GCall_of (hpc) ?_   -- t38
      simp only [go_sem, List.length_range, hp, hia, hel]
      refine hR _ _ (kq16 _ _ ?_); clear hR R; try clear kq16 kz16
      try simp only [go_sem, List.length_range, hp, hia, hel]
      refine W_seq fun kz17 kq17 => ?_
      refine W_region [12, 31, 32, 33, 40] fun R hR => ?_   -- r12
      simp only [go_sem, List.length_range, hp, hia, hel]
      refine hR _ _ (kq17 _ _ ?_); clear hR R; try clear kq17 kz17
      try simp only [go_sem, List.length_range, hp, hia, hel]
      refine W_cond rfl (fun c3 => ?_) (fun c3 => ?_)
      · -- c3 true
        try simp only [nrm] at c3
        refine W_seq fun kz18 kq18 => ?_
        refine W_region [6] fun R hR => ?_   -- r13
        simp only [go_sem, List.length_range, hp, hia, hel]
        refine hR _ _ (kq18 _ _ ?_); clear hR R; try clear kq18 kz18
        try simp only [go_sem, List.length_range, hp, hia, hel]
        refine W_ret ?_
        simp only [go_sem, List.length_range, hp, hia, hel]
        refine ⟨.inr (by trivial), ?_⟩
        first | refine Fin_same hcl rfl (Wk_eq ?_ (by simp only [go_sem])) | refine Fin_self hcl rfl (Wk_eq ?_ (by simp only [go_sem]))
        try simp only [go_sem]
        all_goals
          rw [hinv, if_pos c3]
      · -- c3 false
        try simp only [nrm] at c3
        refine W_skip (kq14 _ _ ?_)
        refine W_region [31, 32, 33] fun R hR => ?_   -- r14
        simp only [go_sem, List.length_range, hp, hia, hel]
        try simp (disch := omega) only [wrapI, wrapU]
        refine hR _ _ ?_; clear hR R
        try simp only [go_sem, List.length_range, hp, hia, hel]
        refine ⟨q + 1, ?_, by (try simp only []); omega, ?_⟩
        · first | exact Weak.refl | exact Weak.eq (by first | rfl | (simp only [go_sem]; done) | (simp only [go_sem]; rfl) | (simp [go_sem]; done) | (simp [go_sem]; omega)) (by first | rfl | (simp only [go_sem]; done) | (simp [go_sem]; done))
        · try dsimp only
          rw [if_neg (by simpa using c3)] at hinv
          exact ⟨hq', hinv⟩
    · -- c2 false
      try simp only [nrm] at c2
      have hcrl : (cmpRules ord a b).length = ord.length + 2 := by simp [cmpRules]
      rw [List.drop_eq_nil_of_le (by omega)] at hinv
      refine W_exit ?_
      simp only [go_sem, List.length_range]
      refine kq10 _ _ ?_
      refine W_seq fun kz19 kq19 => ?_
      refine W_region [6] fun R hR => ?_   -- r15
      simp only [go_sem, List.length_range]
      refine hR _ _ (kq19 _ _ ?_); clear hR R; try clear kq19 kz19
      try simp only [go_sem, List.length_range]
      refine W_ret ?_
      simp only [go_sem, List.length_range]
      refine ⟨.inr (by trivial), ?_⟩
      first | refine Fin_same hcl rfl (Wk_eq ?_ (by simp only [go_sem])) | refine Fin_self hcl rfl (Wk_eq ?_ (by simp only [go_sem]))
      try simp only [go_sem]
      all_goals
        rw [hinv]; rfl
end Go.Proofs.Ytgelnjmddabgpaa
namespace Go.Proofs.Ytgelnjmddabgpaa
open Go Go.RowKit
set_option maxRecDepth 100000
theorem filt_step {α : Type} (p : α → Bool) {l : List α} {t : Nat} {x : α} (h : l[t]? = some x) :
    (p x = true → (l.filter p)[((l.take t).filter p).length]? = some x ∧ ((l.take (t + 1)).filter p).length = ((l.take t).filter p).length + 1) ∧ (p x = false → ((l.take (t + 1)).filter p).length = ((l.take t).filter p).length) := by
  have e : l.take (t + 1) = l.take t ++ [x] := by rw [List.take_add_one, h]; rfl
  have hi := (List.getElem?_eq_some_iff.1 h).1
  have hx := (List.getElem?_eq_some_iff.1 h).2
  refine ⟨fun hp => ⟨?_, by rw [e, List.filter_append]; simp [hp]⟩, fun hp => by rw [e, List.filter_append]; simp [hp]⟩
  have e2 : l = l.take t ++ x :: l.drop (t + 1) := by
    conv => lhs; rw [← List.take_append_drop t l]
    rw [List.drop_eq_getElem_cons hi, hx]
  conv => lhs; arg 1; rw [e2]
  rw [List.filter_append, List.getElem?_append_right (Nat.le_refl _), Nat.sub_self]
  simp [hp]
theorem flat_get {β : Type} {J : Nat} {f : Nat → Nat → β} : ∀ (M m n : Nat), m < M → n < J → ((List.range M).flatMap fun m => (List.range J).map (f m))[m * J + n]? = some (f m n) := by
  intro M
  induction M with
  | zero => intro m n h; omega
  | succ M ih =>
    intro m n hm hn
    rw [List.range_succ, List.flatMap_append]
    have hlen : ((List.range M).flatMap fun m => (List.range J).map (f m)).length = M * J := by simp [List.length_flatMap, List.map_const']
    by_cases h : m < M
    · have : m * J + J ≤ M * J := by rw [← Nat.succ_mul]; exact Nat.mul_le_mul_right _ h
      rw [List.getElem?_append_left (by rw [hlen]; omega)]
      exact ih m n h hn
    · have e : m = M := by omega
      subst e
      rw [List.getElem?_append_right (by rw [hlen]; omega), hlen, Nat.add_sub_cancel_left]
      simp [hn]
theorem allJ_eq {s : Scale} {M J : Nat} (hM : s.matters = M) (hJ : s.judges = J) : allJ s = (List.range M).flatMap fun (m : Nat) => (List.range J).map fun (n : Nat) => ((m : Int), (n : Int)) := by
  simp only [allJ, toI, hM, hJ, Int.toNat_natCast, List.flatMap_map, List.map_map]
  rfl
theorem allJ_get {s : Scale} {M J m n : Nat} (hM : s.matters = M) (hJ : s.judges = J) (hm : m < M) (hn : n < J) : (allJ s)[m * J + n]? = some ((m : Int), (n : Int)) := by
  rw [allJ_eq hM hJ]; exact flat_get (f := fun m n => ((m : Int), (n : Int))) M m n hm hn
theorem allJ_len {s : Scale} {M J : Nat} (hM : s.matters = M) (hJ : s.judges = J) : (allJ s).length = M * J := by
  rw [allJ_eq hM hJ]; simp [List.length_flatMap, List.map_const']
theorem ysget_of {ρ : Sg} {l : List (Option (List PV))} {rm : List Nat} {s : LState} {q : Nat} (h : ρ.ys.length = q) : (ρ.ext l rm [s]).ys[q]? = some s := by subst h; exact Sg.ysget_ext0 ..
theorem setY_of {ρ : Sg} {l : List (Option (List PV))} {rm : List Nat} {s s' : LState} {q : Nat} (h : ρ.ys.length = q) : (ρ.ext l rm [s]).setY q s' = ρ.ext l rm [s'] := by subst h; simp only [go_sem]
theorem popY_of {ρ : Sg} {l : List (Option (List PV))} {rm : List Nat} {s : LState} {q : Nat} (h : ρ.ys.length = q) : (ρ.ext l rm [s]).popY q = ρ.ext l rm := by subst h; simp only [go_sem]
theorem Fin_len {P : Program} {fn : Func} {σ ρ σ' σ'' : Sg} {E : Env} {v : PV} (h1 : ρ.store.length = σ.store.length) (h2 : ρ.rooms.length = σ.rooms.length) (h3 : ρ.ys.length = σ.ys.length) (h : Fin P fn ρ v σ'' E σ') : Fin P fn σ v σ'' E σ' := by
  unfold Fin at h ⊢
  rw [← h1, ← h2, ← h3]
  exact h
/-- How many of the first judges are sealed. -/
def cntS (s : Scale) (k : Kn) (t : Nat) : Nat := (((allJ s).take t).filter fun j => (aget j k).isNone).length
theorem cntS_all {s : Scale} {M J : Nat} (hM : s.matters = M) (hJ : s.judges = J) (k : Kn) : cntS s k (M * J) = (sealedK s k).length := by
  rw [cntS, ← allJ_len hM hJ, List.take_length]; rfl
theorem cntS_le (s : Scale) (k : Kn) (t : Nat) : cntS s k t ≤ (sealedK s k).length := by
  unfold cntS sealedK
  exact (List.Sublist.filter _ (List.take_sublist t _)).length_le
theorem cntS_step {s : Scale} {M J m n : Nat} (hM : s.matters = M) (hJ : s.judges = J) (hm : m < M) (hn : n < J) (k : Kn) :
    ((aget ((m : Int), (n : Int)) k).isNone = true → (sealedK s k)[cntS s k (m * J + n)]? = some ((m : Int), (n : Int)) ∧ cntS s k (m * J + n + 1) = cntS s k (m * J + n) + 1) ∧ ((aget ((m : Int), (n : Int)) k).isNone = false → cntS s k (m * J + n + 1) = cntS s k (m * J + n)) :=
  filt_step (fun j => (aget j k).isNone) (allJ_get hM hJ hm hn)
set_option maxHeartbeats 2000000 in
theorem sealedA_pc (Y : YEnv) (σ : Sg) (y ids idk id : Nat) (s : Scale) (hv : s.V) (k : Kn) (τ : Nat → Sg)
    (h1 : ∀ c, c ≤ (sealedK s k).length → (τ c).store[ids]? = some (some (scCells s))) (h2 : ∀ c, c ≤ (sealedK s k).length → (τ c).store[idk]? = some (some [.map id])) (h3 : ∀ c, c ≤ (sealedK s k).length → (τ c).store[id]? = some (some (.mark :: knE k)))
    (hL : ∀ c, c ≤ (sealedK s k).length → (τ c).store.length = (τ 0).store.length ∧ (τ c).rooms.length = (τ 0).rooms.length ∧ (τ c).ys.length = (τ 0).ys.length)
    (hcl' : CleanSg (τ 0) → ∀ c, c ≤ (sealedK s k).length → CleanSg (τ c))
    (hY : ∀ c (m n : Nat), (sealedK s k)[c]? = some ((m : Int), (n : Int)) → Y y [.agg [I m, I n]] ((τ c).ext [some [.yield y], some (scCells s), some [I m, I n]] [] [.busy]) true ((τ (c + 1)).ext [some [.yield y], some (scCells s), some [I m, I n]] [] [.busy])) :
    PC Try.prog Y 66 [.yield y, .ptr ids 0, .ptr idk 0] (τ 0) (.tuple []) (τ (sealedK s k).length) := by
  refine PC_of_W Try.func66 rfl (by kernel_rfl) Try.ntmps66 (by simp) fun hcl hca => ?_
  have q1 := hv.mt
  have q2 := hv.jd
  obtain ⟨M, hM⟩ : ∃ z : Nat, s.matters = z := ⟨s.matters.toNat, by omega⟩
  obtain ⟨J, hJ⟩ : ∃ z : Nat, s.judges = z := ⟨s.judges.toNat, by omega⟩
  have hMb : M < 2 ^ 40 := by omega
  have hJb : J < 2 ^ 40 := by omega
  have h10 := h1 0 (Nat.zero_le _)
  refine W_seq fun kz1 kq1 => ?_
  refine W_region [1, 2, 3] fun R hR => ?_   -- r0
  simp only [go_sem, ldA_at (get_extx h10)]
  refine hR _ _ (kq1 _ _ ?_); clear hR R; try clear kq1 kz1
  try simp only [go_sem, ldA_at (get_extx h10)]
  refine W_seq fun kz2 kq2 => ?_
  refine W_region [2, 3, 8] fun R hR => ?_   -- r1
  simp only [go_sem, ldA_at (get_extx h10)]
  refine GCall_of (judges_pc Y _ s) ?_   -- t8
  simp only [go_sem, ldA_at (get_extx h10)]
  refine hR _ _ (kq2 _ _ ?_); clear hR R; try clear kq2 kz2
  try simp only [go_sem, ldA_at (get_extx h10)]
  refine W_block ?_
  let so : Nat → Sg := fun t => (τ (cntS s k t)).ext [some [.yield y], some (scCells s)] [] [.ready]
  have hcle : ∀ t, cntS s k t ≤ (sealedK s k).length := cntS_le s k
  have hyl : y < (τ 0).ys.length := by
    have := hca (.yield y) (by simp)
    cases this; assumption
  have hLc : ∀ (n r yy : Nat), y < yy → CleanLs n r yy [some [.yield y], some (scCells s)] := fun n r yy h => by
    have c2 := cleans_sc (a := n) (b := r) (c := yy) s
    refine CleanL_cons ?_ (CleanL_cons c2 CleanL_nil)
    exact Clean.all_cons (.yield _ h) Clean.all_nil
  refine W_rangeFunc (gf := 78) (v := .tuple []) (s := .ready) (σ5 := so (M * J)) rfl (by simp) (fun args ρ b' ρ' => ∃ m n : Nat, m < M ∧ n < J ∧ args = [.agg [I m, I n]] ∧ b' = true ∧ ρ = so (m * J + n) ∧ ρ' = so (m * J + n + 1)) ?_ ?_ ?_ ?_ ?_
  · rintro args τ b τ' ⟨m, n, hm, hn, rfl, rfl, rfl, rfl⟩
    refine ⟨rfl, ?_, ?_⟩
    · (simp only [so, go_sem]; exact ysget_of (hL _ (hcle _)).2.2)
    · simp only [so, go_sem]
      refine W_region [2, 3, 4] fun R hR => ?_   -- r2
      simp only [go_sem, ldA_at (get_extx h10), putAll]
      refine hR _ _ ?_; clear hR R
      try simp only [go_sem, ldA_at (get_extx h10), putAll]
      obtain ⟨st1, st2⟩ := cntS_step hM hJ hm hn k
      obtain ⟨c, hc⟩ : ∃ z, cntS s k (m * J + n) = z := ⟨_, rfl⟩
      have hcl1 := hcle (m * J + n)
      rw [hc] at st1 st2 hcl1
      simp only [hc]
      obtain ⟨b1, b2, b3⟩ := hL c hcl1
      have k2 := h2 c hcl1
      have k3 := h3 c hcl1
      rw [← b1, ← b3]
      obtain ⟨is, his⟩ : ∃ z, (aget ((m : Int), (n : Int)) k).isSome = z := ⟨_, rfl⟩
      simp only [go_sem]
      refine W_post_weak ?_
      refine W_block ?_
      refine W_seq fun kz3 kq3 => ?_
      refine W_region [3, 4, 6] fun R hR => ?_   -- r3
      simp only [go_sem, ldA_at (get_extx h10), putAll, ldS_at (get_extx k2), lkX_at (get_extx k3), his]
      refine hR _ _ (kq3 _ _ ?_); clear hR R; try clear kq3 kz3
      try simp only [go_sem, ldA_at (get_extx h10), putAll]
      refine W_seq fun kz4 kq4 => ?_
      refine W_region [23] fun R hR => ?_   -- r4
      simp only [go_sem, ldA_at (get_extx h10), putAll, ldS_at (get_extx k2)]
      refine GWant_split (fun g1 => ?_) (fun g1 => ?_)
      · try simp only [Bool.not_eq_true', Bool.not_eq_false'] at g1
        have n1 := g1; try simp only [nrm] at n1
        simp only [go_sem, ldA_at (get_extx h10), putAll, ldS_at (get_extx k2), g1]
        refine GYield_of (hY c m n (st1 (by rw [← Option.not_isSome, his, g1]; rfl)).1) ?_
        simp only [go_sem, ldA_at (get_extx h10), putAll, ldS_at (get_extx k2), g1]
        refine hR _ _ (kq4 _ _ ?_); clear hR R; try clear kq4 kz4
        try simp only [go_sem, ldA_at (get_extx h10), putAll]
        refine W_cond_false rfl ?_
        refine W_skip ?_
        simp only [go_sem, ldA_at (get_extx h10), putAll]
        obtain ⟨e1, e2⟩ := st1 (by rw [← Option.not_isSome, his, g1]; rfl)
        have hcl2 : c + 1 ≤ (sealedK s k).length := (List.getElem?_eq_some_iff.1 e1).1
        obtain ⟨d1, d2, d3⟩ := hL (c + 1) hcl2
        refine ⟨[], _, Weak.cutExt 2 0 (by rw [d1, ← b1]; simp only [go_sem] <;> omega) (by rw [d2, ← b2]; simp only [go_sem] <;> omega) (hcl' hcl _ hcl2) ?_ Wk.nil_get, ?_⟩
        · exact hLc _ _ _ (by rw [d3]; simp only [go_sem] <;> omega)
        · simp only [e2]
          exact ⟨ysget_of (d3.trans b3.symm), rfl, (setY_of (d3.trans b3.symm)).symm⟩
      · try simp only [Bool.not_eq_true', Bool.not_eq_false'] at g1
        have n1 := g1; try simp only [nrm] at n1
        simp only [go_sem, ldA_at (get_extx h10), putAll, ldS_at (get_extx k2), g1]
        refine hR _ _ (kq4 _ _ ?_); clear hR R; try clear kq4 kz4
        try simp only [go_sem, ldA_at (get_extx h10), putAll]
        refine W_cond_false rfl ?_
        refine W_skip ?_
        simp only [go_sem, ldA_at (get_extx h10), putAll]
        refine ⟨[], _, Weak.cutExt 2 0 (Nat.le_refl _) (Nat.le_refl _) (hcl' hcl _ hcl1) ?_ Wk.nil_get, ?_⟩
        · exact hLc _ _ _ (by rw [b3]; simp only [go_sem] <;> omega)
        · have e := st2 (by rw [← Option.not_isSome, his, g1]; rfl)
          simp only [e, RoundEnd, go_sem]
  · have hst := judges1_pc (Y.at (τ 0).ys.length (fun args ρ b' ρ' => ∃ m n : Nat, m < M ∧ n < J ∧ args = [.agg [I m, I n]] ∧ b' = true ∧ ρ = so (m * J + n) ∧ ρ' = so (m * J + n + 1))) (τ 0) (τ 0).ys.length ((τ 0).store.length + 1) s so M J (M * J) false hM hJ hMb hJb
      (fun t _ => by simp only [so]; rw [← (hL _ (hcle t)).1]; exact Sg.get_ext ..) (Nat.le_refl _) (fun _ => rfl) (fun h => by cases h)
      (fun m n h1 h2 _ => by rw [YEnv.at_self]; exact ⟨m, n, h1, h2, rfl, rfl, rfl, rfl⟩) (by simp only [so, go_sem, (hL _ (hcle (M * J))).1, (hL _ (hcle 0)).1]) (by simp only [so, go_sem, (hL _ (hcle (M * J))).2.1, (hL _ (hcle 0)).2.1]) (by simp only [so, go_sem, (hL _ (hcle (M * J))).2.2, (hL _ (hcle 0)).2.2])
      (fun _ => CleanSg_ext (hcl' hcl _ (hcle _)) (hLc _ _ _ (by rw [(hL _ (hcle (M * J))).2.2]; simp only [go_sem] <;> omega)))
    have e0 : so 0 = (τ 0).ext [some [.yield y], some (scCells s)] [] [.ready] := rfl
    rw [e0] at hst
    simp only [go_sem] at hst ⊢
    exact hst
  · (simp only [so, go_sem]; exact ysget_of (hL _ (hcle _)).2.2)
  · simp only [go_sem]
    have hb := hL _ (hcle (M * J))
    rw [← hb.2.2]
    exact CleanCut_ext (hcl' hcl _ (hcle _)) (by simp only [so, go_sem] <;> omega) (by simp only [so, go_sem] <;> omega) (by omega) (hLc _ _ _ (by rw [hb.2.2]; exact hyl))
  · simp only [go_sem]
    rw [popY_of (hL _ (hcle (M * J))).2.2]
    simp only [AfterLoop, go_sem]
    have hca2 := cntS_all hM hJ k
    simp only [hca2]
    obtain ⟨d1, d2, d3⟩ := hL _ (Nat.le_refl (sealedK s k).length)
    try simp only [go_sem, ldA_at (get_extx h10)]
    refine ⟨.inl (by trivial), ?_⟩
    exact Fin_len d1 d2 d3 (Fin_same (rs := []) (hcl' hcl _ (Nat.le_refl _)) rfl (Wk.of_clean (.tuple _ Clean.all_nil)))
    try simp only [go_sem]
    all_goals
      skip
/-- The first judge of whom nothing is known. -/
theorem cntS_first {s : Scale} {M J : Nat} (hM : s.matters = M) (hJ : s.judges = J) {k : Kn} (h : sealedK s k ≠ []) : ∃ e, 0 < e ∧ e ≤ M * J ∧ (∀ t, t < e → cntS s k t = 0) ∧ cntS s k e ≠ 0 := by
  have hex : ∃ t, cntS s k t ≠ 0 := ⟨M * J, by rw [cntS_all hM hJ]; intro e; exact h (List.eq_nil_of_length_eq_zero e)⟩
  obtain ⟨e, he, hmin⟩ := least (fun t => cntS s k t ≠ 0) hex
  have h0 : e ≠ 0 := by rintro rfl; exact he rfl
  refine ⟨e, by omega, ?_, fun t ht => ?_, he⟩
  · exact hmin (M * J) (by rw [cntS_all hM hJ]; intro e; exact h (List.eq_nil_of_length_eq_zero e))
  · by_cases q : cntS s k t = 0
    · exact q
    · have := hmin t q; omega
set_option maxHeartbeats 2000000 in
theorem sealedB_pc (Y : YEnv) (σ : Sg) (y ids idk id : Nat) (s : Scale) (hv : s.V) (k : Kn) (τ τ1 : Sg) (h10 : τ.store[ids]? = some (some (scCells s))) (k2 : τ.store[idk]? = some (some [.map id])) (k3 : τ.store[id]? = some (some (.mark :: knE k)))
    (b1 : τ1.store.length = τ.store.length) (b2 : τ1.rooms.length = τ.rooms.length) (b3 : τ1.ys.length = τ.ys.length) (hcl' : CleanSg τ → CleanSg τ1) (hne : sealedK s k ≠ [])
    (hY : ∀ (m n : Nat), (sealedK s k)[0]? = some ((m : Int), (n : Int)) → Y y [.agg [I m, I n]] (τ.ext [some [.yield y], some (scCells s), some [I m, I n]] [] [.busy]) false (τ1.ext [some [.yield y], some (scCells s), some [I m, I n]] [] [.busy])) :
    PC Try.prog Y 66 [.yield y, .ptr ids 0, .ptr idk 0] τ (.tuple []) (τ1) := by
  refine PC_of_W Try.func66 rfl (by kernel_rfl) Try.ntmps66 (by simp) fun hcl hca => ?_
  have q1 := hv.mt
  have q2 := hv.jd
  obtain ⟨M, hM⟩ : ∃ z : Nat, s.matters = z := ⟨s.matters.toNat, by omega⟩
  obtain ⟨J, hJ⟩ : ∃ z : Nat, s.judges = z := ⟨s.judges.toNat, by omega⟩
  have hMb : M < 2 ^ 40 := by omega
  have hJb : J < 2 ^ 40 := by omega
  refine W_seq fun kz1 kq1 => ?_
  refine W_region [1, 2, 3] fun R hR => ?_   -- r0
  simp only [go_sem, ldA_at (get_extx h10)]
  refine hR _ _ (kq1 _ _ ?_); clear hR R; try clear kq1 kz1
  try simp only [go_sem, ldA_at (get_extx h10)]
  refine W_seq fun kz2 kq2 => ?_
  refine W_region [2, 3, 8] fun R hR => ?_   -- r1
  simp only [go_sem, ldA_at (get_extx h10)]
  refine GCall_of (judges_pc Y _ s) ?_   -- t8
  simp only [go_sem, ldA_at (get_extx h10)]
  refine hR _ _ (kq2 _ _ ?_); clear hR R; try clear kq2 kz2
  try simp only [go_sem, ldA_at (get_extx h10)]
  refine W_block ?_
  obtain ⟨e, he0, he1, he2, he3⟩ := cntS_first hM hJ hne
  let so : Nat → Sg := fun t => if t < e then τ.ext [some [.yield y], some (scCells s)] [] [.ready] else τ1.ext [some [.yield y], some (scCells s)] [] [.done .ret]
  have so1 : ∀ t, t < e → so t = τ.ext [some [.yield y], some (scCells s)] [] [.ready] := fun t h => if_pos h
  have so2 : so e = τ1.ext [some [.yield y], some (scCells s)] [] [.done .ret] := if_neg (Nat.lt_irrefl _)
  have hyl : y < τ.ys.length := by
    have := hca (.yield y) (by simp)
    cases this; assumption
  have hLc : ∀ (n r yy : Nat), y < yy → CleanLs n r yy [some [.yield y], some (scCells s)] := fun n r yy h => by
    have c2 := cleans_sc (a := n) (b := r) (c := yy) s
    refine CleanL_cons ?_ (CleanL_cons c2 CleanL_nil)
    exact Clean.all_cons (.yield _ h) Clean.all_nil
  refine W_rangeFunc (gf := 78) (v := .tuple []) (s := .done .ret) (σ5 := so e) rfl (by simp) (fun args ρ b' ρ' => ∃ m n : Nat, m < M ∧ n < J ∧ m * J + n < e ∧ args = [.agg [I m, I n]] ∧ b' = (!(true && decide (m * J + n + 1 = e))) ∧ ρ = so (m * J + n) ∧ ρ' = so (m * J + n + 1)) ?_ ?_ ?_ ?_ ?_
  · rintro args τ b τ' ⟨m, n, hm, hn, hpe, rfl, rfl, rfl, rfl⟩
    refine ⟨rfl, ?_, ?_⟩
    · (rw [so1 _ hpe]; simp only [go_sem])
    · (rw [so1 _ hpe]; simp only [go_sem])
      refine W_region [2, 3, 4] fun R hR => ?_   -- r2
      simp only [go_sem, ldA_at (get_extx h10), putAll]
      refine hR _ _ ?_; clear hR R
      try simp only [go_sem, ldA_at (get_extx h10), putAll]
      obtain ⟨st1, st2⟩ := cntS_step hM hJ hm hn k
      rw [he2 _ hpe] at st1 st2
      obtain ⟨is, his⟩ : ∃ z, (aget ((m : Int), (n : Int)) k).isSome = z := ⟨_, rfl⟩
      refine W_post_weak ?_
      refine W_block ?_
      refine W_seq fun kz3 kq3 => ?_
      refine W_region [3, 4, 6] fun R hR => ?_   -- r3
      simp only [go_sem, ldA_at (get_extx h10), putAll, ldS_at (get_extx k2), lkX_at (get_extx k3), his]
      refine hR _ _ (kq3 _ _ ?_); clear hR R; try clear kq3 kz3
      try simp only [go_sem, ldA_at (get_extx h10), putAll]
      refine W_seq fun kz4 kq4 => ?_
      refine W_region [23] fun R hR => ?_   -- r4
      simp only [go_sem, ldA_at (get_extx h10), putAll, ldS_at (get_extx k2)]
      refine GWant_split (fun g1 => ?_) (fun g1 => ?_)
      · try simp only [Bool.not_eq_true', Bool.not_eq_false'] at g1
        have n1 := g1; try simp only [nrm] at n1
        simp only [go_sem, ldA_at (get_extx h10), putAll, ldS_at (get_extx k2), g1]
        refine GYield_of (hY m n (st1 (by rw [← Option.not_isSome, his, g1]; rfl)).1) ?_
        simp only [go_sem, ldA_at (get_extx h10), putAll, ldS_at (get_extx k2), g1]
        refine hR _ _ (kq4 _ _ ?_); clear hR R; try clear kq4 kz4
        try simp only [go_sem, ldA_at (get_extx h10), putAll]
        refine W_cond_true rfl ?_
        refine W_ret ?_
        simp only [go_sem, ldA_at (get_extx h10), putAll]
        obtain ⟨e1, e2⟩ := st1 (by rw [← Option.not_isSome, his, g1]; rfl)
        have hpe2 : m * J + n + 1 = e := by
          by_cases q : m * J + n + 1 < e
          · have := he2 _ q; omega
          · omega
        refine ⟨[], _, Weak.cutExt 2 0 (by rw [b1]; exact Nat.le_refl _) (by rw [b2]; exact Nat.le_refl _) (hcl' hcl) ?_ Wk.nil_get, ?_⟩
        · exact hLc _ _ _ (by rw [b3]; simp only [go_sem] <;> omega)
        · rw [hpe2, so2]
          exact ⟨ysget_of b3, by simp, (setY_of b3).symm⟩
      · try simp only [Bool.not_eq_true', Bool.not_eq_false'] at g1
        have n1 := g1; try simp only [nrm] at n1
        simp only [go_sem, ldA_at (get_extx h10), putAll, ldS_at (get_extx k2), g1]
        refine hR _ _ (kq4 _ _ ?_); clear hR R; try clear kq4 kz4
        try simp only [go_sem, ldA_at (get_extx h10), putAll]
        refine W_cond_false rfl ?_
        refine W_skip ?_
        simp only [go_sem, ldA_at (get_extx h10), putAll]
        have e1 := st2 (by rw [← Option.not_isSome, his, g1]; rfl)
        have hne2 : ¬ (m * J + n + 1 = e) := fun h => he3 (by rw [← h]; exact e1)
        refine ⟨[], _, Weak.cutExt 2 0 (Nat.le_refl _) (Nat.le_refl _) hcl ?_ Wk.nil_get, ?_⟩
        · exact hLc _ _ _ (by simp only [go_sem] <;> omega)
        · rw [so1 _ (by omega)]
          simp only [RoundEnd, go_sem]
          simp [hne2]
  · have hst := judges1_pc (Y.at τ.ys.length (fun args ρ b' ρ' => ∃ m n : Nat, m < M ∧ n < J ∧ m * J + n < e ∧ args = [.agg [I m, I n]] ∧ b' = (!(true && decide (m * J + n + 1 = e))) ∧ ρ = so (m * J + n) ∧ ρ' = so (m * J + n + 1))) τ τ.ys.length (τ.store.length + 1) s so M J e true hM hJ hMb hJb
      (fun t ht => by
        by_cases q : t < e
        · rw [so1 t q]; exact Sg.get_ext ..
        · have : t = e := by omega
          subst this
          rw [so2, ← b1]; exact Sg.get_ext ..) he1 (fun h => by cases h) (fun _ => he0)
      (fun m n h1 h2 h3 => by rw [YEnv.at_self]; exact ⟨m, n, h1, h2, h3, rfl, rfl, rfl, rfl⟩) (by rw [so2, so1 0 he0]; simp only [go_sem, b1]) (by rw [so2, so1 0 he0]; simp only [go_sem, b2]) (by rw [so2, so1 0 he0]; simp only [go_sem, b3])
      (fun _ => by rw [so2]; exact CleanSg_ext (hcl' hcl) (hLc _ _ _ (by rw [b3]; simp only [go_sem] <;> omega)))
    rw [so1 0 he0] at hst
    simp only [go_sem] at hst ⊢
    exact hst
  · (rw [so2]; simp only [go_sem]; exact ysget_of b3)
  · simp only [go_sem]
    rw [so2, ← b3]
    exact CleanCut_ext (hcl' hcl) (by simp only [go_sem] <;> omega) (by simp only [go_sem] <;> omega) (Nat.le_refl _) (hLc _ _ _ (by rw [b3]; exact hyl))
  · simp only [go_sem]
    rw [so2, popY_of b3]
    simp only [AfterLoop]
    refine W_ret ?_
    simp only [go_sem]
    refine ⟨.inr (by trivial), ?_⟩
    exact Fin_len b1 b2 b3 (Fin_same (rs := []) (hcl' hcl) rfl (Wk.of_clean (.tuple _ Clean.all_nil)))
end Go.Proofs.Ytgelnjmddabgpaa
