/-
  The law BandGoes: whatever comes in, it answers true and leaves what came in as it was.
  The law BandGoes, walked: routes that can be gone.
  Plain law: what is said to requests.
  Walks: who is granted; true starts; squares; the laws' data.
  Plain law: verdicts on crossings: sure, never, both ways round, with narrower starts.
  The law BandRoutes, walked: streets from square to square.
  What may come in: cities and bands; few enough of them.
  Routes that can be gone: the plain law.
  Cities and bands made of numbers are valid.
  Walks: the chapter's examples (baterialaw07).
  Parts of slices at this seat's types.
-/
import Derived.Test.YtnpamcpoaklgeaaPe
import Derived.CallsIn
import Derived.RangeFuncLeaves
import Derived.RangeFuncRecord
import Derived.OrdersIn
import Derived.Below
import Derived.Laws.World
import Derived.Laws.StructEq
import Derived.Laws.Append
import Derived.MapKept
import Derived.ProofKit
import Derived.Carry
import Derived.Handed
import Derived.ChangeCalls
import Derived.RangeFuncIn
import Derived.RangeFuncNested
import Derived.Test.YtnpamcpoaklgeaaProg
import Derived.KernelRfl
import Derived.IntWalk
import Derived.Test.YtnpamcpoaklgeaaRows
import Derived.JoinedOf
set_option linter.unusedSimpArgs false
set_option linter.unusedVariables false
namespace Go.Proofs.Ytnpamcpoaklgeaa
open Go
set_option maxRecDepth 100000
theorem slh22 {l : List PV} {own : Own} {k : IntKind} {n : Int} : slicePV Try.prog 22 (.isl l own) none (some (.int k n)) none = if 0 ≤ n then if n.toNat ≤ l.length then some (.isl (l.take n.toNat) (sliceOwn own 0 n.toNat l.length)) else none else none := slHi_of Try.underlying22 Try.underlying3 l own k n
theorem slh29 {l : List PV} {own : Own} {k : IntKind} {n : Int} : slicePV Try.prog 29 (.isl l own) none (some (.int k n)) none = if 0 ≤ n then if n.toNat ≤ l.length then some (.isl (l.take n.toNat) (sliceOwn own 0 n.toNat l.length)) else none else none := slHi_of Try.underlying29 Try.underlying33 l own k n
theorem slh54 {l : List PV} {own : Own} {k : IntKind} {n : Int} : slicePV Try.prog 54 (.isl l own) none (some (.int k n)) none = if 0 ≤ n then if n.toNat ≤ l.length then some (.isl (l.take n.toNat) (sliceOwn own 0 n.toNat l.length)) else none else none := slHi_of Try.underlying54 Try.underlying46 l own k n
attribute [go_sem] slh22 slh29 slh54
end Go.Proofs.Ytnpamcpoaklgeaa
namespace Go.Proofs.Ytnpamcpoaklgeaa
open Go Go.RowKit
set_option maxRecDepth 100000
def quarterC : City := ⟨⟨[110, 80, 50], [(0, 1), (1, 2), (0, 2)], [], 6⟩, 5, [590, 500, 0]⟩
def bandsQ : List Band := [⟨0, [0, 1], 100, 110, 20, 50⟩, ⟨2, [1], 120, 120, 30, 40⟩, ⟨1, [], 300, 300, 10, 90⟩, ⟨0, [], 650, 650, 10, 1⟩]
def laterQ (s : Int) : Band := ⟨2, [1], s, s, 30, 40⟩
theorem quarter_ok : quarterC.Ok := ⟨by decide, by decide, by decide, (fun g hg => by cases hg), by decide⟩
theorem bandsQ_ok : BandsOk bandsQ := ⟨by decide, fun b hb => by simp only [bandsQ, List.mem_cons, List.not_mem_nil, or_false] at hb; rcases hb with rfl | rfl | rfl | rfl <;> decide⟩
theorem ex_grant : grantAns quarterC bandsQ = ([0, 10, 13, 11], 0) := by decide +kernel
theorem ex_cross : crossAns quarterC ⟨0, [0, 1], 100, 110, 20, 50⟩ (laterQ 60) = (3, 0) := by decide +kernel
theorem ex_sleep : sleepAns quarterC (bandsQ.take 1) 0 = (130, 590, 0) := by decide +kernel
set_option maxHeartbeats 2000000 in
theorem quarter_pc (Y : YEnv) (σ : Sg)  :
    PC Try.prog Y 58 [] σ (ctPV quarterC) (σ) := by
  refine PC_of_W Try.func58 rfl (by kernel_rfl) Try.ntmps58 (by simp) fun hcl hca => ?_
  refine W_seq fun kz1 kq1 => ?_
  refine W_region [0] fun R hR => ?_   -- r0
  simp only [go_sem]
  refine hR _ _ (kq1 _ _ ?_); clear hR R; try clear kq1 kz1
  try simp only [go_sem]
  refine W_seq fun kz2 kq2 => ?_
  refine W_region [0] fun R hR => ?_   -- r1
  simp only [go_sem]
  refine hR _ _ (kq2 _ _ ?_); clear hR R; try clear kq2 kz2
  try simp only [go_sem]
  refine W_ret ?_
  simp only [go_sem]
  refine ⟨.inr (by trivial), ?_⟩
  refine Fin_same hcl (by show resPV Try.prog _ _ [.cell 0 28] = some _; simp only [resPV, go_sem]; rfl) (Wk.ro (by simp only [go_sem]) ?_)
  try simp only [go_sem]
  all_goals
    rfl
set_option maxHeartbeats 2000000 in
theorem span_pc (Y : YEnv) (σ : Sg) (lo hi : Int) :
    PC Try.prog Y 101 [I lo, I hi] σ (.agg [I lo, I hi]) (σ) := by
  refine PC_of_W Try.func101 rfl (by kernel_rfl) Try.ntmps101 (by simp) fun hcl hca => ?_
  refine W_seq fun kz1 kq1 => ?_
  refine W_region [0, 1, 4] fun R hR => ?_   -- r0
  simp only [go_sem]
  refine hR _ _ (kq1 _ _ ?_); clear hR R; try clear kq1 kz1
  try simp only [go_sem]
  refine W_seq fun kz2 kq2 => ?_
  refine W_region [4] fun R hR => ?_   -- r1
  simp only [go_sem]
  refine hR _ _ (kq2 _ _ ?_); clear hR R; try clear kq2 kz2
  try simp only [go_sem]
  refine W_ret ?_
  simp only [go_sem]
  refine ⟨.inr (by trivial), ?_⟩
  first | refine Fin_same hcl (by show resPV Try.prog _ _ [.cell 4 31] = some _; simp only [resPV, go_sem]; rfl) (Wk_eq ?_ (by simp only [go_sem])) | refine Fin_same hcl rfl (Wk_eq ?_ (by simp only [go_sem]))
  try simp only [go_sem]
  all_goals
    first | rfl | (simp_all; done) | (simp_all; omega)
set_option maxHeartbeats 2000000 in
theorem bandsQ_pc (Y : YEnv) (σ : Sg)  :
    PC Try.prog Y 59 [] σ (bands bandsQ) (σ) := by
  refine PC_of_W Try.func59 rfl (by kernel_rfl) Try.ntmps59 (by simp) fun hcl hca => ?_
  refine W_seq fun kz1 kq1 => ?_
  refine W_region [] fun R hR => ?_   -- r0
  simp only [go_sem]
  refine hR _ _ (kq1 _ _ ?_); clear hR R; try clear kq1 kz1
  try simp only [go_sem]
  refine W_seq fun kz2 kq2 => ?_
  refine W_region [0] fun R hR => ?_   -- r1
  simp only [go_sem]
  refine GCall_of (span_pc Y _ 100 110) ?_   -- t2
  simp only [go_sem]
  refine GCall_of (span_pc Y _ 120 120) ?_   -- t5
  simp only [go_sem]
  refine GCall_of (span_pc Y _ 300 300) ?_   -- t7
  simp only [go_sem]
  refine GCall_of (span_pc Y _ 650 650) ?_   -- t9
  simp only [go_sem]
  refine hR _ _ (kq2 _ _ ?_); clear hR R; try clear kq2 kz2
  try simp only [go_sem]
  refine W_ret ?_
  simp only [go_sem]
  refine ⟨.inr (by trivial), ?_⟩
  first | refine Fin_same hcl rfl (Wk.ro (by simp only [go_sem]) ?_) | refine Fin_self hcl rfl (Wk.ro (by simp only [go_sem]) ?_)
  try simp only [go_sem]
  all_goals
    rfl
set_option maxHeartbeats 2000000 in
theorem later_pc (Y : YEnv) (σ : Sg) (s : Int) :
    PC Try.prog Y 60 [I s] σ (bdPV (laterQ s)) (σ) := by
  refine PC_of_W Try.func60 rfl (by kernel_rfl) Try.ntmps60 (by simp) fun hcl hca => ?_
  have q0 : (0 : Int) ≤ 1 := by decide
  have q1 : (1 : Int).toNat = 1 := rfl
  have q2 : bandsQ[1]? = some ⟨2, [1], 120, 120, 30, 40⟩ := rfl
  refine W_seq fun kz1 kq1 => ?_
  refine W_region [0, 2] fun R hR => ?_   -- r0
  simp only [go_sem, q0, q1, q2]
  refine hR _ _ (kq1 _ _ ?_); clear hR R; try clear kq1 kz1
  try simp only [go_sem, q0, q1, q2]
  refine W_seq fun kz2 kq2 => ?_
  refine W_region [0, 2, 3] fun R hR => ?_   -- r1
  simp only [go_sem, q0, q1, q2]
  refine GCall_of (bandsQ_pc Y _) ?_   -- t4
  simp only [go_sem, q0, q1, q2]
  refine hR _ _ (kq2 _ _ ?_); clear hR R; try clear kq2 kz2
  try simp only [go_sem, q0, q1, q2]
  refine W_seq fun kz3 kq3 => ?_
  refine W_region [2, 3] fun R hR => ?_   -- r2
  simp only [go_sem, q0, q1, q2]
  refine GCall_of (span_pc Y _ s s) ?_   -- t9
  simp only [go_sem, q0, q1, q2]
  refine hR _ _ (kq3 _ _ ?_); clear hR R; try clear kq3 kz3
  try simp only [go_sem, q0, q1, q2]
  refine W_seq fun kz4 kq4 => ?_
  refine W_region [2] fun R hR => ?_   -- r3
  simp only [go_sem, q0, q1, q2]
  refine hR _ _ (kq4 _ _ ?_); clear hR R; try clear kq4 kz4
  try simp only [go_sem, q0, q1, q2]
  refine W_ret ?_
  simp only [go_sem, q0, q1, q2]
  refine ⟨.inr (by trivial), ?_⟩
  refine Fin_same hcl (by show resPV Try.prog _ _ [.cell 2 33] = some _; simp only [resPV, go_sem]; rfl) (Wk.ro (by simp only [go_sem]) ?_)
  try simp only [go_sem]
  all_goals
    rfl
set_option maxHeartbeats 2000000 in
theorem lawake_pc (Y : YEnv) (σ : Sg)  :
    PC Try.prog Y 17 [] σ (.bool true) (σ) := by
  refine PC_of_W Try.func17 rfl (by kernel_rfl) Try.ntmps17 (by simp) fun hcl hca => ?_
  have q0 : (0 : Int) ≤ 0 := by decide
  have q1 : (0 : Int).toNat = 0 := rfl
  have q2 : bandsQ[0]? = some ⟨0, [0, 1], 100, 110, 20, 50⟩ := rfl
  have q3 : (0 : Int) ≤ 1 := by decide
  have q4 : (1 : Int).toNat = 1 := rfl
  have q5 : 1 ≤ bandsQ.length := by decide
  refine W_seq fun kz1 kq1 => ?_
  refine W_region [] fun R hR => ?_   -- r0
  simp only [go_sem, q0, q1, q2, q3, q4, q5]
  refine hR _ _ (kq1 _ _ ?_); clear hR R; try clear kq1 kz1
  try simp only [go_sem, q0, q1, q2, q3, q4, q5]
  refine W_seq fun kz2 kq2 => ?_
  refine W_region [1, 2] fun R hR => ?_   -- r1
  simp only [go_sem, q0, q1, q2, q3, q4, q5]
  refine GCall_of (quarter_pc Y _) ?_   -- t9
  simp only [go_sem, q0, q1, q2, q3, q4, q5]
  refine GCall_of (bandsQ_pc Y _) ?_   -- t10
  simp only [go_sem, q0, q1, q2, q3, q4, q5]
  refine GCall_of (PC.val (v' := .tuple [ints [0, 10, 13, 11], I 0]) (Grant_pc Y _ quarterC bandsQ quarter_ok bandsQ_ok) (by rw [ex_grant])) ?_   -- t11
  simp only [go_sem, q0, q1, q2, q3, q4, q5]
  refine hR _ _ (kq2 _ _ ?_); clear hR R; try clear kq2 kz2
  try simp only [go_sem, q0, q1, q2, q3, q4, q5]
  refine W_seq fun kz3 kq3 => ?_
  refine W_draw [1, 2, 3, 4] [0, 1, 2, 3, 4, 5, 6, 7, 8, 9, 10] [(2, 5), (3, 5)] [[], [0], [0, 1], [0, 1, 2], [0, 1], [0, 1, 2, 3, 4], [0, 1, 2, 3, 4, 5], [0, 1, 2, 3, 4, 5, 6], [0, 1, 2, 3, 4, 5, 6], [0, 1, 2, 3, 4, 5, 6, 7], [0, 1, 2, 3, 4, 5, 6, 7, 8, 9]] mixed (by kernel_rfl) fun R hR => ?_   -- r2
  simp only [go_sem, q0, q1, q2, q3, q4, q5]
  refine GCall_of (quarter_pc Y _) ?_   -- t15
  simp only [go_sem, q0, q1, q2, q3, q4, q5]
  refine GCall_of (bandsQ_pc Y _) ?_   -- t16
  simp only [go_sem, q0, q1, q2, q3, q4, q5]
  refine GCall_of (later_pc Y _ 60) ?_   -- t19
  simp only [go_sem, q0, q1, q2, q3, q4, q5]
  refine GCall_of (PC.val (v' := .tuple [I 3, I 0]) (bCross_pc Y _ quarterC ⟨0, [0, 1], 100, 110, 20, 50⟩ (laterQ 60) quarter_ok (by decide) (by decide)) (by rw [ex_cross])) ?_   -- t20
  simp only [go_sem, q0, q1, q2, q3, q4, q5]
  try refine And.intro (by repeat' (first | refine And.intro ?_ ?_ | exact GOr_right (fun _ => by simp only [go_sem, q0, q1, q2, q3, q4, q5]))) ?_
  refine hR _ _ (kq3 _ _ ?_); clear hR R; try clear kq3 kz3
  try simp only [go_sem, q0, q1, q2, q3, q4, q5]
  refine W_seq fun kz4 kq4 => ?_
  refine W_region [1, 2, 3, 4, 5, 6, 7] fun R hR => ?_   -- r3
  simp only [go_sem, q0, q1, q2, q3, q4, q5]
  refine GCall_of (quarter_pc Y _) ?_   -- t24
  simp only [go_sem, q0, q1, q2, q3, q4, q5]
  refine GCall_of (bandsQ_pc Y _) ?_   -- t25
  simp only [go_sem, q0, q1, q2, q3, q4, q5]
  refine GCall_of (PC.val (v' := .tuple [I 130, I 590, I 0]) (bSleep_pc Y _ quarterC (bandsQ.take 1) 0 quarter_ok ⟨by decide, fun b hb => bandsQ_ok.2 b (List.mem_of_mem_take hb)⟩) (by rw [ex_sleep])) ?_   -- t27
  simp only [go_sem, q0, q1, q2, q3, q4, q5]
  refine hR _ _ (kq4 _ _ ?_); clear hR R; try clear kq4 kz4
  try simp only [go_sem, q0, q1, q2, q3, q4, q5]
  refine W_seq fun kz5 kq5 => ?_
  refine W_region [0] fun R hR => ?_   -- r4
  simp only [go_sem, q0, q1, q2, q3, q4, q5]
  refine GCall_of (PC.val (v' := .bool true) (EqErrors_pc Y _ [0, 10, 13, 11] [0, 10, 13, 11] .ro .exact (by decide)) (by simp)) ?_   -- t44
  simp only [go_sem, q0, q1, q2, q3, q4, q5]
  refine hR _ _ (kq5 _ _ ?_); clear hR R; try clear kq5 kz5
  try simp only [go_sem, q0, q1, q2, q3, q4, q5]
  refine W_ret ?_
  simp only [go_sem, q0, q1, q2, q3, q4, q5]
  refine ⟨.inr (by trivial), ?_⟩
  first | refine Fin_same hcl rfl (Wk_eq ?_ (by simp only [go_sem])) | refine Fin_self hcl rfl (Wk_eq ?_ (by simp only [go_sem]))
  try simp only [go_sem]
  all_goals
    first | rfl | (simp_all; done) | (simp_all; omega)
end Go.Proofs.Ytnpamcpoaklgeaa
namespace Go.Proofs.Ytnpamcpoaklgeaa
open Go Go.RowKit
structure CityV (c : City) : Prop where
  tv : TownV 4 5 1 c.town
  b0 : 0 ≤ c.brk
  b1 : c.brk ≤ 60
  sl : c.sleep.length = c.town.rooms.length
  sv : ∀ n, n ∈ c.sleep → 0 ≤ n ∧ n ≤ 720
theorem cityA_ok {t : Town} {brk : Int} (ht : TownV 4 5 1 t) (h0 : 0 ≤ brk) (h1 : brk ≤ 60) : ∀ (k : Nat) (acc : List Int), acc.length + k = t.rooms.length → (∀ n, n ∈ acc → 0 ≤ n ∧ n ≤ 720) → Holds (cityA t brk k acc) CityV := by
  intro k
  induction k with
  | zero => intro acc hl ha; exact .ret ⟨ht, h0, h1, by simpa using hl, ha⟩
  | succ k ih =>
    intro acc hl ha
    refine (roll_bd 721).bind fun x hx => (mid_bd 300 600 (by omega)).bind fun y hy => (anyOf_mem [0, x, y] (by simp)).bind fun z hz => ih _ (by simp; omega) fun n hn => ?_
    have hz := mem3 hz
    rcases List.mem_append.1 hn with hn | hn
    · exact ha n hn
    · simp only [List.mem_singleton] at hn; subst hn; omega
theorem cityD_ok : Holds cityD CityV := by
  unfold cityD
  refine Holds.bind (R := TownV 4 5 1) townD451 fun t ht => (roll_bd 10).bind fun x hx => (roll_bd 60).bind fun y hy => (anyOf_mem [0, 1, x, y] (by simp)).bind fun brk hb => ?_
  have hb := mem4 hb
  exact cityA_ok ht (by omega) (by omega) _ [] (by simp) (fun n hn => by cases hn)
theorem CityV.chk {c : City} (h : CityV c) : chkCity c = 0 := by
  have := h.b0; have := h.b1
  unfold chkCity
  rw [if_neg (by rw [h.tv.ok (by omega) (by omega) (by omega)]; simp), if_neg (by simp [inR]; omega), if_neg (by simp [h.sl]), if_neg]
  intro hh
  rw [List.any_eq_true] at hh
  obtain ⟨n, hn, hh⟩ := hh
  have := h.sv n hn
  simp [inR] at hh; omega
theorem CityV.okc {c : City} (h : CityV c) : c.Ok := by
  have := h.tv.r1; have := h.tv.s1; have := h.tv.g1; have := h.sl
  exact ⟨by omega, by omega, by omega, fun g hg => by have := (h.tv.g2 g hg).p1; omega, by omega⟩
theorem CityV.small {c : City} (h : CityV c) : c.Small := by
  have := h.tv.r1; have := h.tv.s1; have := h.tv.g1; have := h.sl
  exact ⟨by omega, by omega, by omega, fun g hg => by have := (h.tv.g2 g hg).p1; omega, by omega⟩
end Go.Proofs.Ytnpamcpoaklgeaa
namespace Go.Proofs.Ytnpamcpoaklgeaa
set_option maxRecDepth 100000
def ChainN (nb : Int → List Int) : Int → List Int → Int → Prop
  | a, [], z => a = z
  | a, b :: r, z => b ∈ nb a ∧ ChainN nb b r z
theorem backs_chain {nb : Int → List Int} {to' from' : Int} {N : Nat} {far : List (Int × Int)} (hf : FarOK nb to' from' far) (hn : ∀ u o, o ∈ nb u → 0 ≤ o ∧ o < N) {D : Int} (hD : aget from' far = some D) :
    ∀ (k : Nat) (at' d : Int) (acc : List Int), aget at' far = some d → d ≤ D → d < k → ∃ w, backs far nb N to' k at' acc = acc ++ w ∧ (w.length : Int) = d ∧ ChainN nb at' w to' := by
  intro k
  induction k with
  | zero =>
    intro at' d acc ha _ hk
    have := (hf.dist _ _ ha).1
    omega
  | succ k ih =>
    intro at' d acc ha hd hk
    simp only [backs]
    split
    · rename_i e
      subst e
      obtain ⟨h0, hdist⟩ := hf.dist _ _ ha
      have := hdist.2 0 rfl
      exact ⟨[], by simp, by simp; omega, rfl⟩
    · rename_i e
      obtain ⟨h1, h2, h3, _⟩ := back_ok hf hn hD ha hd e
      obtain ⟨w, g1, g2, g3⟩ := ih _ (d - 1) (acc ++ [bmins far at' (nb at') N]) h2 (by omega) (by omega)
      exact ⟨bmins far at' (nb at') N :: w, by rw [g1]; simp, by simp; omega, h3, g3⟩
theorem firstSt_of {cl : List Int} {a b : Int} : ∀ {sts : List (Int × Int)} {i k : Nat} {s : Int × Int}, sts[k]? = some s → isSt cl a b (i + k) s = true →
    ∃ (n : Nat) (s' : Int × Int), firstSt cl a b sts i = some (i + n) ∧ sts[n]? = some s' ∧ isSt cl a b (i + n) s' = true := by
  intro sts
  induction sts with
  | nil => intro i k s h; cases h
  | cons x r ih =>
    intro i k s h hs
    simp only [firstSt]
    by_cases hx : isSt cl a b i x = true
    · rw [if_pos hx]
      exact ⟨0, x, rfl, rfl, hx⟩
    · rw [if_neg hx]
      cases k with
      | zero => simp at h; subst h; exact absurd hs hx
      | succ k =>
        obtain ⟨n, s', h1, h2, h3⟩ := ih (i := i + 1) (k := k) (s := s) (by simpa using h) (by rw [show i + 1 + k = i + (k + 1) by omega]; exact hs)
        exact ⟨n + 1, s', by rw [h1]; congr 1; omega, by simpa using h2, by rw [show i + (n + 1) = i + 1 + n by omega]; exact h3⟩
theorem isSt_of {cl : List Int} {a b : Int} {i : Nat} {s : Int × Int} (ho : has cl i = false) (ha : 0 ≤ b) (h : b = other s a) : isSt cl a b i s = true := by
  unfold other at h
  by_cases h1 : a = s.1
  · rw [if_pos h1] at h
    simp [isSt, ho, h1, h]
  · rw [if_neg h1] at h
    by_cases h2 : a = s.2
    · rw [if_pos h2] at h
      simp [isSt, ho, h2, h]
    · rw [if_neg h2] at h; omega
theorem walkSq_step {sts : List (Int × Int)} {n : Nat} {s : Int × Int} {a b : Int} {cl : List Int} (hs : sts[n]? = some s) (h : isSt cl a b n s = true) (r out : List Int) :
    walkSq sts ((n : Int) :: r) a out = walkSq sts r b (out ++ [b]) := by
  have hn := (List.getElem?_eq_some_iff.1 hs).1
  have hin : inR (n : Int) 0 ((sts.length : Int) - 1) = true := by rw [inR_true]; omega
  simp only [walkSq, hin, Int.toNat_natCast, hs, Bool.not_true, Bool.false_eq_true, if_false]
  simp only [isSt, Bool.and_eq_true, Bool.or_eq_true, decide_eq_true_eq] at h
  rcases h.2 with ⟨h1, h2⟩ | ⟨h1, h2⟩
  · rw [if_pos h1.symm, h2]
  · by_cases e : a = s.1
    · rw [if_pos e, h2]
      have : a = b := by rw [e, h1]
      rw [this]
    · rw [if_neg e, if_pos h2.symm, h1]
theorem route_gone {t : Town} {cl : List Int} (hv : ValidSt t) : ∀ (w : List Int) (a z : Int) (out o2 : List Int), ChainN (nbT t cl) a w z →
    ∃ r, routeOf cl t.streets (a :: w) out = out ++ r ∧ r.length = w.length ∧ (∀ n, n ∈ r → has cl n = false) ∧ walkSq t.streets r a o2 = (o2 ++ w, 0) ∧ (a :: w)[w.length]? = some z := by
  intro w
  induction w with
  | nil =>
    intro a z out o2 h
    refine ⟨[], by simp [routeOf], rfl, ?_, by simp [walkSq], ?_⟩
    · intro n hn
      cases hn
    · rw [show a = z from h]; rfl
  | cons b w ih =>
    intro a z out o2 h
    obtain ⟨hb, hc⟩ := h
    have hb0 := (nbT_bd hv a b hb).1
    obtain ⟨k, s, h1, h2, h3, h4⟩ := nbs_mem.1 hb
    rw [Nat.zero_add] at h4
    obtain ⟨n, s', g1, g2, g3⟩ := firstSt_of (i := 0) h1 (isSt_of (a := a) (b := b) (by rw [Nat.zero_add]; exact h4) hb0 h2)
    rw [Nat.zero_add] at g1 g3
    obtain ⟨r, e1, e2, e3, e4, e5⟩ := ih b z (out ++ [(n : Int)]) (o2 ++ [b]) hc
    refine ⟨(n : Int) :: r, ?_, by simp [e2], ?_, ?_, ?_⟩
    · simp only [routeOf, g1, addSt]
      rw [e1]; simp
    · intro x hx
      rcases List.mem_cons.1 hx with rfl | hx
      · simp only [isSt, Bool.and_eq_true, Bool.not_eq_true'] at g3
        exact g3.1
      · exact e3 x hx
    · rw [walkSq_step g2 g3, e4]; simp
    · simpa using e5
section
variable {nb : Int → List Int}
theorem Reach.snoc {a : Int} : ∀ {k : Nat} {b c : Int}, Reach nb a k b → b ∈ nb c → Reach nb a (k + 1) c := fun h hb => ⟨_, hb, h⟩
theorem Reach.cons {c b : Int} (hc : c ∈ nb b) : ∀ {k : Nat} {a : Int}, Reach nb b k a → Reach nb c (k + 1) a := by
  intro k
  induction k with
  | zero =>
    intro a h
    have : a = b := h
    subst this
    exact ⟨c, hc, rfl⟩
  | succ k ih =>
    rintro a ⟨u, hu, h⟩
    exact ⟨u, hu, ih h⟩
theorem Reach.symm (sym : ∀ u v, u ∈ nb v → v ∈ nb u) {a : Int} : ∀ {k : Nat} {b : Int}, Reach nb a k b → Reach nb b k a := by
  intro k
  induction k with
  | zero => intro b h; exact (show b = a from h).symm
  | succ k ih =>
    rintro b ⟨u, hu, h⟩
    exact Reach.cons (sym _ _ hu) (ih h)
end
/-- What was met, from a square on: those before i with all that is beside them, the i-th with the first k streets. -/
structure GI (t : Town) (cl : List Int) (from' : Int) (i k : Nat) (m : List Int) : Prop where
  nd : m.Nodup
  rg : ∀ x, x ∈ m → 0 ≤ x ∧ x < t.rooms.length
  fr : from' ∈ m
  re : ∀ x, x ∈ m → ∃ j, Reach (nbT t cl) from' j x
  dn : ∀ (j : Nat) x, j < i → m[j]? = some x → ∀ o, o ∈ nbT t cl x → o ∈ m
  cu : ∀ x, m[i]? = some x → ∀ (q : Nat) s, q < k → t.streets[q]? = some s → has cl q = false → 0 ≤ other s x → other s x ∈ m
section
variable {t : Town} {cl : List Int} {from' : Int} {i k : Nat} {m : List Int}
theorem GI.start (h0 : 0 ≤ from') (h1 : from' < t.rooms.length) : GI t cl from' 0 0 [from'] :=
  ⟨by simp, fun x hx => by simp at hx; omega, by simp, fun x hx => ⟨0, by simp at hx; exact hx⟩, fun j x hj => by omega, fun x _ q s hq => by omega⟩
theorem GI.le (h : GI t cl from' i k m) : m.length ≤ t.rooms.length := nodup_len _ m h.nd h.rg
theorem GI.push (hv : ValidSt t) (h : GI t cl from' i k m) {x o : Int} (hx : m[i]? = some x) (ho : o ∈ nbT t cl x) (hn : o ∉ m) : GI t cl from' i k (m ++ [o]) := by
  have hil := (List.getElem?_eq_some_iff.1 hx).1
  have old : ∀ (j : Nat) y, j ≤ i → (m ++ [o])[j]? = some y → m[j]? = some y := fun j y hj hy => by rwa [List.getElem?_append_left (by omega)] at hy
  refine ⟨?_, ?_, by simp [h.fr], ?_, ?_, ?_⟩
  · rw [List.nodup_append]
    exact ⟨h.nd, by simp, fun a ha b hb => by simp at hb; subst hb; intro e; exact hn (e ▸ ha)⟩
  · intro y hy
    rcases List.mem_append.1 hy with hy | hy
    · exact h.rg y hy
    · simp at hy; subst hy; exact nbT_bd hv x y ho
  · intro y hy
    rcases List.mem_append.1 hy with hy | hy
    · exact h.re y hy
    · simp at hy; subst hy
      obtain ⟨j, hj⟩ := h.re x (List.mem_of_getElem? hx)
      exact ⟨j + 1, Reach.snoc hj (nbT_sym hv _ _ ho)⟩
  · intro j y hj hy z hz
    exact List.mem_append_left _ (h.dn j y hj (old j y (by omega) hy) z hz)
  · intro y hy q s hq hs hc hz
    exact List.mem_append_left _ (h.cu y (old i y (by omega) hy) q s hq hs hc hz)
theorem GI.skip (h : GI t cl from' i k m) (hc : has cl k = true) : GI t cl from' i (k + 1) m :=
  ⟨h.nd, h.rg, h.fr, h.re, h.dn, fun x hx q s hq hs hq2 hz => by
    by_cases e : q = k
    · subst e; rw [hc] at hq2; cases hq2
    · exact h.cu x hx q s (by omega) hs hq2 hz⟩
theorem GI.next (h : GI t cl from' i k m) {s : Int × Int} {x : Int} (hs : t.streets[k]? = some s) (hx : m[i]? = some x) (h1 : s.1 = x → s.2 ∈ m) (h2 : s.2 = x → s.1 ∈ m) : GI t cl from' i (k + 1) m :=
  ⟨h.nd, h.rg, h.fr, h.re, h.dn, fun y hy q s' hq hs' hq2 hz => by
    by_cases e : q = k
    · subst e
      rw [hs] at hs'; injection hs' with hs'; subst hs'
      rw [hx] at hy; injection hy with hy; subst hy
      unfold other at hz ⊢
      by_cases e1 : x = s.1
      · rw [if_pos e1] at hz ⊢; exact h1 e1.symm
      · rw [if_neg e1] at hz ⊢
        by_cases e2 : x = s.2
        · rw [if_pos e2] at hz ⊢; exact h2 e2.symm
        · rw [if_neg e2] at hz; omega
    · exact h.cu y hy q s' (by omega) hs' hq2 hz⟩
/-- A street that is open leads on. -/
theorem nbT_fwd (hv : ValidSt t) {s : Int × Int} (hs : t.streets[k]? = some s) (hc : has cl k = false) : s.2 ∈ nbT t cl s.1 := by
  have := (hv s (List.mem_of_getElem? hs))
  exact nbs_mem.2 ⟨k, s, hs, by simp [other], by omega, by rw [Nat.zero_add]; exact hc⟩
theorem nbT_bwd (hv : ValidSt t) {s : Int × Int} (hs : t.streets[k]? = some s) (hc : has cl k = false) : s.1 ∈ nbT t cl s.2 := nbT_sym hv _ _ (nbT_fwd hv hs hc)
theorem GI.one (hv : ValidSt t) (h : GI t cl from' i k m) {s : Int × Int} {x : Int} (hs : t.streets[k]? = some s) (hc : has cl k = false) (hx : m[i]? = some x) (e : s.1 = x) (hn : has m s.2 = false) : GI t cl from' i k (m ++ [s.2]) := by
  subst e
  exact h.push hv hx (nbT_fwd hv hs hc) fun q => by rw [has_iff.2 q] at hn; cases hn
theorem GI.two (hv : ValidSt t) (h : GI t cl from' i k m) {s : Int × Int} {x : Int} (hs : t.streets[k]? = some s) (hc : has cl k = false) (hx : m[i]? = some x) (e : s.2 = x) (hn : has m s.1 = false) : GI t cl from' i k (m ++ [s.1]) := by
  subst e
  exact h.push hv hx (nbT_bwd hv hs hc) fun q => by rw [has_iff.2 q] at hn; cases hn
theorem GI.row (h : GI t cl from' i t.streets.length m) {x : Int} (hx : m[i]? = some x) : GI t cl from' (i + 1) 0 m :=
  ⟨h.nd, h.rg, h.fr, h.re, fun j y hj hy o ho => by
    by_cases e : j = i
    · subst e
      rw [hx] at hy; injection hy with hy; subst hy
      obtain ⟨q, s, h1, rfl, h3, h4⟩ := nbs_mem.1 ho
      exact h.cu x hx q s (List.getElem?_eq_some_iff.1 h1).1 h1 (by rw [Nat.zero_add] at h4; exact h4) h3
    · exact h.dn j y (by omega) hy o ho, fun x _ q s hq => by omega⟩
theorem GI.done (hv : ValidSt t) (h : GI t cl from' m.length k m) (v : Int) : v ∈ m ↔ ∃ j, Reach (nbT t cl) from' j v := by
  have key : ∀ (j : Nat) (v : Int), Reach (nbT t cl) from' j v → v ∈ m := by
    intro j
    induction j with
    | zero => intro v hj; rw [show v = from' from hj]; exact h.fr
    | succ j ih =>
      rintro v ⟨u, hu, hr⟩
      obtain ⟨q, hq⟩ := List.mem_iff_getElem?.1 (ih u hr)
      exact h.dn q u (List.getElem?_eq_some_iff.1 hq).1 hq v (nbT_sym hv _ _ hu)
  exact ⟨h.re v, fun ⟨j, hj⟩ => key j v hj⟩
end
theorem closedA_chk (n : Nat) : ∀ (k : Nat) (acc : List Int) (b : Int), k ≤ n → ∃ r, (closedA n k acc b).1 = acc ++ r ∧ ∀ p : Option Int, (∀ q, p = some q → q < ((n - k : Nat) : Int)) → chkCl n p r = 0 := by
  intro k
  induction k with
  | zero => intro acc b _; exact ⟨[], by simp [closedA, dret], fun p _ => by simp [chkCl]⟩
  | succ k ih =>
    intro acc b hk
    simp only [closedA, dbind]
    cases hr : (rare 3 b).1 with
    | true =>
      obtain ⟨r, h1, h2⟩ := ih (acc ++ [((n - (k + 1) : Nat) : Int)]) (rare 3 b).2 (by omega)
      refine ⟨((n - (k + 1) : Nat) : Int) :: r, by simp only [if_true]; rw [h1]; simp, fun p hp => ?_⟩
      have hin : inR ((n - (k + 1) : Nat) : Int) 0 ((n : Int) - 1) = true := by rw [inR_true]; omega
      have hnx := h2 (some ((n - (k + 1) : Nat) : Int)) (fun q hq => by injection hq with hq; omega)
      cases p with
      | none => rw [chkCl_none hin]; exact hnx
      | some q => rw [chkCl_some hin (hp q rfl)]; exact hnx
    | false =>
      obtain ⟨r, h1, h2⟩ := ih acc (rare 3 b).2 (by omega)
      refine ⟨r, by simp only [Bool.false_eq_true, if_false]; exact h1, fun p hp => h2 p fun q hq => by have := hp q hq; omega⟩
theorem closedD_chk (t : Town) (b : Int) : chkCl t.streets.length none (closedD t b).1 = 0 := by
  obtain ⟨r, h1, h2⟩ := closedA_chk t.streets.length t.streets.length [] b (Nat.le_refl _)
  have e : (closedD t b).1 = r := by unfold closedD; rw [h1]; simp
  rw [e]
  exact h2 none (fun q hq => by cases hq)
theorem route_law {c : City} (hc : chkCity c = 0) {cl : List Int} (hcl : chkCl c.town.streets.length none cl = 0) {from' to' : Int} (f0 : 0 ≤ from') (f1 : from' < c.town.rooms.length) (t0 : 0 ≤ to') (t1 : to' < c.town.rooms.length) :
    ((¬ ∃ k, Reach (nbT c.town cl) from' k to') ∧ routeAns c cl from' to' = ([], 7)) ∨
    ∃ r w, (∃ k, Reach (nbT c.town cl) from' k to') ∧ routeAns c cl from' to' = (r, 0) ∧ r.length ≤ 12 ∧ (∀ n, n ∈ r → has cl n = false) ∧ w.length = r.length + 1 ∧ w[r.length]? = some to' ∧
      ∀ lo hi stay people, sqs c ⟨from', r, lo, hi, stay, people⟩ = (w, 0) := by
  have hct := chkCity_town' hc
  obtain ⟨hv, hr12, hs12⟩ := chkTown_valid hct
  have hcla : closedAns c.town cl = 0 := by unfold closedAns; rw [if_neg (by simp [hct])]; exact hcl
  have hall : allIn 0 ((c.town.rooms.length : Int) - 1) [from', to'] = true := by
    simp only [allIn, List.all_cons, List.all_nil, Bool.and_true, Bool.and_eq_true, inR_true]; omega
  have hf := wayFar_ok (cl := cl) (from' := from') hv t0 t1
  have hwa : wayAns c.town cl from' to' = if (aget from' (wayFar c.town cl from' to')).isSome then (backs (wayFar c.town cl from' to') (nbT c.town cl) c.town.rooms.length to' (c.town.rooms.length + 1) from' [from'], 0) else ([], 7) := by
    unfold wayAns
    rw [if_neg (by simp [hcla]), hall]
    simp
  have hsy : (∃ k, Reach (nbT c.town cl) from' k to') ↔ ∃ k, Reach (nbT c.town cl) to' k from' := ⟨fun ⟨k, h⟩ => ⟨k, h.symm (nbT_sym hv)⟩, fun ⟨k, h⟩ => ⟨k, h.symm (nbT_sym hv)⟩⟩
  cases hD : aget from' (wayFar c.town cl from' to') with
  | none =>
    refine .inl ⟨fun h => ?_, ?_⟩
    · have := hf.met.2 (hsy.1 h)
      rw [hD] at this
      cases this
    · have e : wayAns c.town cl from' to' = ([], 7) := by rw [hwa, hD]; rfl
      unfold routeAns
      rw [if_neg (by simp [hc]), e]
      simp
  | some D =>
    obtain ⟨d0, dd⟩ := hf.dist _ _ hD
    have hDl := dist_lt hv t0 t1 f0 f1 dd
    obtain ⟨w, g1, g2, g3⟩ := backs_chain hf (nbT_bd hv) hD (c.town.rooms.length + 1) from' D [from'] hD (Int.le_refl _) (by omega)
    have e : wayAns c.town cl from' to' = (from' :: w, 0) := by
      rw [hwa, hD]
      simp only [Option.isSome_some, if_true]
      rw [g1]; rfl
    obtain ⟨r, e1, e2, e3, e4, e5⟩ := route_gone (cl := cl) hv w from' to' [] [from'] g3
    refine .inr ⟨r, from' :: w, hsy.2 (hf.met.1 (by rw [hD]; rfl)), ?_, by omega, e3, by simp [e2], by rw [e2]; exact e5, fun lo hi stay people => ?_⟩
    · unfold routeAns
      rw [if_neg (by simp [hc]), e, if_neg (by simp)]
      simp only
      rw [e1]; rfl
    · unfold sqs
      have hin : inR from' 0 ((c.town.rooms.length : Int) - 1) = true := by rw [inR_true]; omega
      simp only [hin, Bool.not_true, Bool.false_eq_true, if_false]
      rw [if_neg (by omega), e4]
      rfl
end Go.Proofs.Ytnpamcpoaklgeaa
namespace Go.Proofs.Ytnpamcpoaklgeaa
open Go Go.RowKit
set_option maxRecDepth 100000
/-- A row of bands, in a row. -/
def bsPV (l : List Band) : PV := .isl (l.map bdPV) .ro
theorem cA_ct {a b c : Nat} {xs : List City} : CleanAll a b c (xs.map ctPV) = True := CleanAll_map clean_ct
theorem cA_bs {a b c : Nat} {xs : List (List Band)} : CleanAll a b c (xs.map bsPV) = True := CleanAll_map fun x => by simp only [bsPV, go_sem]
attribute [go_sem] bsPV cA_ct cA_bs
end Go.Proofs.Ytnpamcpoaklgeaa
namespace Go.Proofs.Ytnpamcpoaklgeaa
open Go Go.RowKit
set_option maxRecDepth 100000
theorem backs_len (far : List (Int × Int)) (nb : Int → List Int) (n to' : Int) : ∀ (k : Nat) (at' : Int) (acc : List Int), (backs far nb n to' k at' acc).length ≤ acc.length + k := by
  intro k
  induction k with
  | zero => intro at' acc; simp [backs]
  | succ k ih =>
    intro at' acc
    simp only [backs]
    split
    · omega
    · have := ih (bmins far at' (nb at') n) (acc ++ [bmins far at' (nb at') n])
      simp at this
      omega
theorem wayAns_len (t : Town) (cl : List Int) (from' to' : Int) : (wayAns t cl from' to').1.length ≤ t.rooms.length + 2 := by
  unfold wayAns
  split
  · simp
  · split
    · simp
    · split
      · have := backs_len (wayFar t cl from' to') (nbT t cl) t.rooms.length to' (t.rooms.length + 1) from' [from']
        simp at this
        simp only
        omega
      · simp
theorem closedA_len (n : Nat) : ∀ (k : Nat) (acc : List Int) (b : Int), (closedA n k acc b).1.length ≤ acc.length + k := by
  intro k
  induction k with
  | zero => intro acc b; simp [closedA, dret]
  | succ k ih =>
    intro acc b
    simp only [closedA, dbind]
    cases hr : (rare 3 b).1 with
    | true =>
      have := ih (acc ++ [((n - (k + 1) : Nat) : Int)]) (rare 3 b).2
      simp only [if_true]
      simp only [List.length_append, List.length_cons, List.length_nil] at this
      omega
    | false =>
      have := ih acc (rare 3 b).2
      simp only [Bool.false_eq_true, if_false]
      omega
theorem closedD_len (t : Town) (b : Int) : (closedD t b).1.length ≤ t.streets.length := by
  have := closedA_len t.streets.length t.streets.length [] b
  simpa [closedD] using this
end Go.Proofs.Ytnpamcpoaklgeaa
namespace Go.Proofs.Ytnpamcpoaklgeaa
open Go Go.RowKit
end Go.Proofs.Ytnpamcpoaklgeaa
namespace Go.Proofs.Ytnpamcpoaklgeaa
open Go Go.RowKit
set_option maxRecDepth 100000
def grantedOf : List Band → List Int → List Band
  | b :: l, e :: es => if e = 0 then b :: grantedOf l es else grantedOf l es
  | _, _ => []
theorem chkBands_of {c : City} : ∀ {l : List Band}, (∀ b, b ∈ l → chkBand c b = 0) → chkBands c l = 0 := by
  intro l
  induction l with
  | nil => intro _; rfl
  | cons b l ih =>
    intro h
    simp only [chkBands]
    rw [if_neg (by rw [h b (by simp)]; simp)]
    exact ih fun x hx => h x (by simp [hx])
def squaresAns (c : City) (b : Band) : List Int × Int := if askedOf c [b] ≠ 0 then ([], askedOf c [b]) else sqs c b
set_option maxHeartbeats 2000000 in
theorem lgranted_pc (Y : YEnv) (σ : Sg) (l : List Band) (es : List Int) (hl : l.length ≤ 2 ^ 30) (he : l.length ≤ es.length) :
    PC Try.prog Y 32 [bands l, ints es] σ (bands (grantedOf l es)) (σ) := by
  refine PC_of_W Try.func32 rfl (by kernel_rfl) Try.ntmps32 (by simp) fun hcl hca => ?_
  refine W_seq fun kz1 kq1 => ?_
  refine W_region [0, 1] fun R hR => ?_   -- r0
  simp only [go_sem]
  refine hR _ _ (kq1 _ _ ?_); clear hR R; try clear kq1 kz1
  try simp only [go_sem]
  refine W_seq fun kz2 kq2 => ?_
  refine W_region [0, 1, 5] fun R hR => ?_   -- r1
  simp only [go_sem]
  refine hR _ _ (kq2 _ _ ?_); clear hR R; try clear kq2 kz2
  try simp only [go_sem]
  refine W_seq fun kz3 kq3 => ?_
  refine W_seq fun kz4 kq4 => ?_
  refine W_region [0, 1, 5, 6] fun R hR => ?_   -- r2
  simp only [go_sem]
  refine hR _ _ (kq4 _ _ ?_); clear hR R; try clear kq4 kz4
  try simp only [go_sem]
  refine W_block ?_
  refine W_weak (Weak.room (t := 5) (es := 6) rfl (by simp)) ?_
  refine W_weak (Weak.keep [0, 1, 5, 6]) ?_
  simp only [go_sem]
  refine W_loopT (α := Nat × (List Band)) (fun ⟨i, out⟩ => [(5, .isl (out.map bdPV) (.tok σ.rooms.length out.length 6)), (6, I i)]) (fun ⟨i, out⟩ => σ.ext [] [out.length]) (fun ⟨i, out⟩ => i ≤ l.length ∧ out.length ≤ i ∧ grantedOf l es = out ++ grantedOf (l.drop i) (es.drop i)) (fun ⟨i, out⟩ => l.length - i) ((0, [])) rfl (by first | rfl | (simp only [go_sem]; done) | (simp only [go_sem]; rfl)) (⟨Nat.zero_le _, Nat.le_refl _, rfl⟩) ?_
  rintro ⟨i, out⟩ ⟨hi, ho, hinv⟩
  refine W_seq fun kz5 kq5 => ?_
  refine W_seq fun kz6 kq6 => ?_
  refine W_regionJ [0, 1, 5, 6, 16] [(16, .bool (decide (i < l.length)))] ?_ fun R hR => ?_   -- r3
  · refine kq6 _ _ ?_
    simp only [go_sem]
    refine W_cond rfl (fun c1 => ?_) (fun c1 => ?_)
    · -- c1 true
      try simp only [nrm] at c1
      have hi' : i < l.length := by first | assumption | omega
      obtain ⟨b, hx⟩ : ∃ b, l[i]? = some b := ⟨l[i], by simp [hi']⟩
      have hdrop : l.drop i = b :: l.drop (i + 1) := by
        rw [List.drop_eq_getElem_cons hi']; congr 1; exact (List.getElem?_eq_some_iff.1 hx).2
      obtain ⟨e, hy⟩ : ∃ e, es[i]? = some e := ⟨es[i]'(by omega), by simp⟩
      have hdrop2 : es.drop i = e :: es.drop (i + 1) := by
        rw [List.drop_eq_getElem_cons (by omega)]; congr 1; exact (List.getElem?_eq_some_iff.1 hy).2
      rw [hdrop, hdrop2] at hinv
      simp only [grantedOf] at hinv
      refine W_skip (kq5 _ _ ?_)
      refine W_seq fun kz7 kq7 => ?_
      refine W_block ?_
      refine W_seq fun kz8 kq8 => ?_
      refine W_region [0, 1, 5, 6, 23] fun R hR => ?_   -- r5
      simp only [go_sem, hx, hy]
      refine hR _ _ (kq8 _ _ ?_); clear hR R; try clear kq8 kz8
      try simp only [go_sem, hx, hy]
      refine W_cond rfl (fun c2 => ?_) (fun c2 => ?_)
      · -- c2 true
        try simp only [nrm] at c2
        refine W_region [0, 1, 5, 6] fun R hR => ?_   -- r6
        simp only [go_sem, hx, hy]
        simp (disch := first | omega | (simp only [go_sem] <;> omega)) only [wrapI, wrapU, appX_exact, appX_tok]
        try simp only [go_sem, hx, hy]
        refine hR _ _ (kq7 _ _ ?_); clear hR R; try clear kq7 kz7
        try simp only [go_sem, hx, hy]
        refine W_region [0, 1, 5, 6] fun R hR => ?_   -- r4
        simp only [go_sem, hx, hy]
        try simp (disch := omega) only [wrapI, wrapU]
        refine hR _ _ ?_; clear hR R
        try simp only [go_sem, hx, hy]
        refine ⟨(i + 1, out ++ [b]), ?_, by (try simp only []); omega, ?_⟩
        · first | exact Weak.refl | exact Weak.eq (by first | rfl | (simp only [go_sem]; done) | (simp only [go_sem]; rfl) | (simp [go_sem]; done) | (simp [go_sem]; omega)) (by first | rfl | (simp only [go_sem]; done) | (simp [go_sem]; done))
        · try dsimp only
          exact ⟨hi', by (try simp); omega, by rw [hinv]; simp [c2]⟩
      · -- c2 false
        try simp only [nrm] at c2
        refine W_skip (kq7 _ _ ?_)
        refine W_region [0, 1, 5, 6] fun R hR => ?_   -- r4
        simp only [go_sem, hx, hy]
        try simp (disch := omega) only [wrapI, wrapU]
        refine hR _ _ ?_; clear hR R
        try simp only [go_sem, hx, hy]
        refine ⟨(i + 1, out), ?_, by (try simp only []); omega, ?_⟩
        · first | exact Weak.refl | exact Weak.eq (by first | rfl | (simp only [go_sem]; done) | (simp only [go_sem]; rfl) | (simp [go_sem]; done) | (simp [go_sem]; omega)) (by first | rfl | (simp only [go_sem]; done) | (simp [go_sem]; done))
        · try dsimp only
          exact ⟨hi', by (try simp); omega, by rw [hinv]; simp [c2]⟩
    · -- c1 false
      try simp only [nrm] at c1
      have hdrop : l.drop i = [] := List.drop_eq_nil_of_le (by omega)
      rw [hdrop] at hinv
      simp only [grantedOf, List.append_nil] at hinv
      refine W_exit ?_
      simp only [go_sem]
      refine kq3 _ _ ?_
      refine W_seq fun kz9 kq9 => ?_
      refine W_region [4] fun R hR => ?_   -- r7
      simp only [go_sem]
      refine hR _ _ (kq9 _ _ ?_); clear hR R; try clear kq9 kz9
      try simp only [go_sem]
      refine W_ret ?_
      simp only [go_sem]
      refine ⟨.inr (by trivial), ?_⟩
      refine Fin_same hcl rfl (Wk.ro (by simp only [go_sem]) ?_)
      try simp only [go_sem]
      all_goals
        rw [hinv]
  · simp only [go_sem]
    refine GWant_split (fun g1 => ?_) (fun g1 => ?_)
    · try simp only [Bool.not_eq_true', Bool.not_eq_false'] at g1
      have n1 := g1; try simp only [nrm] at n1
      simp only [go_sem, g1]
      refine hR _ ?_
      try simp only [go_sem]
      all_goals
        first | rfl | (simp [*]; done) | (simp [*]; omega)
    · try simp only [Bool.not_eq_true', Bool.not_eq_false'] at g1
      have n1 := g1; try simp only [nrm] at n1
      simp only [go_sem, g1]
      refine hR _ ?_
      try simp only [go_sem]
      all_goals
        first | rfl | (simp [*]; done) | (simp [*]; omega)
set_option maxHeartbeats 2000000 in
theorem bSquares_pc (Y : YEnv) (σ : Sg) (ct : City) (b : Band) (hc : ct.Ok) (hb : b.path.length < 2 ^ 50) :
    PC Try.prog Y 37 [ctPV ct, bdPV b] σ (sqPV (squaresAns ct b)) (σ) := by
  refine PC_of_W Try.func37 rfl (by kernel_rfl) Try.ntmps37 (by simp) fun hcl hca => ?_
  refine W_seq fun kz1 kq1 => ?_
  refine W_region [2, 3] fun R hR => ?_   -- r0
  simp only [go_sem]
  refine hR _ _ (kq1 _ _ ?_); clear hR R; try clear kq1 kz1
  try simp only [go_sem]
  refine W_seq fun kz2 kq2 => ?_
  refine W_seq fun kz3 kq3 => ?_
  refine W_region [2, 3, 6] fun R hR => ?_   -- r1
  simp only [go_sem]
  refine GCall_of (PC.ofRo (asked_pc Y _ ct [b] hc ⟨by simp, fun x hx => by simp at hx; subst hx; assumption⟩) (by simp only [go_sem] <;> rfl)) ?_   -- t10
  simp only [go_sem]
  refine hR _ _ (kq3 _ _ ?_); clear hR R; try clear kq3 kz3
  try simp only [go_sem]
  refine W_seq fun kz4 kq4 => ?_
  refine W_region [2, 3, 6, 12] fun R hR => ?_   -- r2
  simp only [go_sem]
  refine hR _ _ (kq4 _ _ ?_); clear hR R; try clear kq4 kz4
  try simp only [go_sem]
  refine W_cond rfl (fun c1 => ?_) (fun c1 => ?_)
  · -- c1 true
    try simp only [nrm] at c1
    refine W_seq fun kz5 kq5 => ?_
    refine W_region [4, 5] fun R hR => ?_   -- r3
    simp only [go_sem]
    refine hR _ _ (kq5 _ _ ?_); clear hR R; try clear kq5 kz5
    try simp only [go_sem]
    refine W_ret ?_
    simp only [go_sem]
    refine ⟨.inr (by trivial), ?_⟩
    refine Fin_same hcl rfl (Wk.ro (by simp only [go_sem]) ?_)
    try simp only [go_sem]
    all_goals
      simp [squaresAns, sqPV, c1, PV.ro, PV.roL]
  · -- c1 false
    try simp only [nrm] at c1
    refine W_skip (kq2 _ _ ?_)
    refine W_seq fun kz6 kq6 => ?_
    refine W_region [4, 5] fun R hR => ?_   -- r4
    simp only [go_sem]
    refine GCall_of (squares_pc Y _ ct b hc hb) ?_   -- t16
    simp only [go_sem]
    refine hR _ _ (kq6 _ _ ?_); clear hR R; try clear kq6 kz6
    try simp only [go_sem]
    refine W_ret ?_
    simp only [go_sem]
    refine ⟨.inr (by trivial), ?_⟩
    first | refine Fin_same hcl rfl (Wk_eq ?_ (by simp only [go_sem])) | refine Fin_self hcl rfl (Wk_eq ?_ (by simp only [go_sem]))
    try simp only [go_sem]
    all_goals
      simp [squaresAns, sqPV, c1, PV.ro, PV.roL]
end Go.Proofs.Ytnpamcpoaklgeaa
namespace Go.Proofs.Ytnpamcpoaklgeaa
open Go Go.RowKit
theorem askedOf_of {c : City} {l : List Band} (h1 : chkCity c = 0) (h3 : ∀ b, b ∈ l → chkBand c b = 0) : askedOf c l = 0 := by
  unfold askedOf
  rw [if_neg (by rw [h1]; simp), chkBands_of h3]
theorem squaresAns_of {c : City} {b : Band} (h1 : chkCity c = 0) (hb : chkBand c b = 0) : squaresAns c b = ((sqs c b).1, 0) := by
  unfold squaresAns
  rw [if_neg (by rw [askedOf_of h1 (fun x hx => by simp at hx; subst hx; assumption)]; simp)]
  rw [← (chkBand_ok hb).1]
end Go.Proofs.Ytnpamcpoaklgeaa
namespace Go.Proofs.Ytnpamcpoaklgeaa
open Go Go.RowKit
set_option maxRecDepth 100000
theorem snocI (l : List Int) (x : Int) : l.map I ++ [I x] = (l ++ [x]).map I := by simp
theorem gone_chk {c : City} {f : Int} {r w : List Int} (h : sqs c ⟨f, r, 0, 0, 1, 0⟩ = (w, 0)) (hl : r.length ≤ 12) : chkBand c ⟨f, r, 0, 0, 1, 0⟩ = 0 := by
  unfold chkBand
  rw [h]
  simp [timesOf, inR]
  omega
set_option maxHeartbeats 8000000 in
theorem BandGoes_pc (Y : YEnv) (σ : Sg) (nums : List Int) (hn : nums.length < 2 ^ 60) :
    PC Try.prog Y 11 [ints nums] σ (.bool true) (σ) := by
  refine PC_of_W Try.func11 rfl (by kernel_rfl) Try.ntmps11 (by simp) fun hcl hca => ?_
  obtain ⟨b0, hb0⟩ : ∃ z, drumB nums 2685821657736338717 = z := ⟨_, rfl⟩
  obtain ⟨made, hmade⟩ : ∃ zz, (cityD b0).1 = zz := ⟨_, rfl⟩
  obtain ⟨b1, hb1⟩ : ∃ zz, (cityD b0).2 = zz := ⟨_, rfl⟩
  obtain ⟨cs, hcs⟩ : ∃ zz, (closedD made.town b1).1 = zz := ⟨_, rfl⟩
  obtain ⟨b2, hb2⟩ : ∃ zz, (closedD made.town b1).2 = zz := ⟨_, rfl⟩
  obtain ⟨fr, hfr⟩ : ∃ zz, (roll made.town.rooms.length b2).1 = zz := ⟨_, rfl⟩
  obtain ⟨b3, hb3⟩ : ∃ zz, (roll made.town.rooms.length b2).2 = zz := ⟨_, rfl⟩
  have dfr := roll_bd made.town.rooms.length b2
  simp only [hfr] at dfr
  obtain ⟨tt, htt⟩ : ∃ zz, (roll made.town.rooms.length b3).1 = zz := ⟨_, rfl⟩
  obtain ⟨b4, hb4⟩ : ∃ zz, (roll made.town.rooms.length b3).2 = zz := ⟨_, rfl⟩
  have dtt := roll_bd made.town.rooms.length b3
  simp only [htt] at dtt
  have vmade : CityV made := by rw [← hmade]; exact cityD_ok b0
  have vck := vmade.chk
  have hct := chkCity_town' vck
  obtain ⟨hv, hr12, hs12⟩ := chkTown_valid hct
  have hn1 := vmade.tv.r0
  have hccl : chkCl made.town.streets.length none cs = 0 := by rw [← hcs]; exact closedD_chk _ _
  have hcl12 : cs.length ≤ 12 := by have := closedD_len made.town b1; rw [hcs] at this; omega
  have f0 : 0 ≤ fr := by omega
  have f1 : fr < made.town.rooms.length := by omega
  have t0 : 0 ≤ tt := by omega
  have t1 : tt < made.town.rooms.length := by omega
  obtain ⟨rs, hrs⟩ : ∃ z, (routeAns made cs fr tt).1 = z := ⟨_, rfl⟩
  obtain ⟨re, hre⟩ : ∃ z, (routeAns made cs fr tt).2 = z := ⟨_, rfl⟩
  have hlaw := route_law vck hccl f0 f1 t0 t1
  have hwl0 := wayAns_len made.town cs fr tt
  refine W_seq fun kz1 kq1 => ?_
  refine W_region [0] fun R hR => ?_   -- r0
  simp only [go_sem, hb0, hmade, hb1, hcs, hb2, hfr, hb3, htt, hb4]
  refine hR _ _ (kq1 _ _ ?_); clear hR R; try clear kq1 kz1
  try simp only [go_sem, hb0, hmade, hb1, hcs, hb2, hfr, hb3, htt, hb4]
  refine W_seq fun kz2 kq2 => ?_
  refine W_region [3] fun R hR => ?_   -- r1
  simp only [go_sem, hb0, hmade, hb1, hcs, hb2, hfr, hb3, htt, hb4]
  refine GCall_of (DrumOf_pc Y _ nums hn) ?_   -- t19
  simp only [go_sem, hb0, hmade, hb1, hcs, hb2, hfr, hb3, htt, hb4]
  refine hR _ _ (kq2 _ _ ?_); clear hR R; try clear kq2 kz2
  try simp only [go_sem, hb0, hmade, hb1, hcs, hb2, hfr, hb3, htt, hb4]
  refine W_seq fun kz3 kq3 => ?_
  refine W_region [3, 4] fun R hR => ?_   -- r2
  simp only [go_sem, hb0, hmade, hb1, hcs, hb2, hfr, hb3, htt, hb4]
  refine GCall_of (CityOf_pc Y _ _ _ (Sg.get_ext0 _ _ _ _)) ?_   -- t21
  simp only [go_sem, hb0, hmade, hb1, hcs, hb2, hfr, hb3, htt, hb4]
  refine hR _ _ (kq3 _ _ ?_); clear hR R; try clear kq3 kz3
  try simp only [go_sem, hb0, hmade, hb1, hcs, hb2, hfr, hb3, htt, hb4]
  refine W_seq fun kz4 kq4 => ?_
  refine W_region [3, 4, 5] fun R hR => ?_   -- r3
  simp only [go_sem, hb0, hmade, hb1, hcs, hb2, hfr, hb3, htt, hb4]
  refine GCall_of (ClosedOf_pc Y _ _ _ (Sg.get_ext0 _ _ _ _) made.town (by omega)) ?_   -- t25
  simp only [go_sem, hb0, hmade, hb1, hcs, hb2, hfr, hb3, htt, hb4]
  refine hR _ _ (kq4 _ _ ?_); clear hR R; try clear kq4 kz4
  try simp only [go_sem, hb0, hmade, hb1, hcs, hb2, hfr, hb3, htt, hb4]
  refine W_seq fun kz5 kq5 => ?_
  refine W_region [3, 4, 5, 6] fun R hR => ?_   -- r4
  simp only [go_sem, hb0, hmade, hb1, hcs, hb2, hfr, hb3, htt, hb4]
  refine hR _ _ (kq5 _ _ ?_); clear hR R; try clear kq5 kz5
  try simp only [go_sem, hb0, hmade, hb1, hcs, hb2, hfr, hb3, htt, hb4]
  refine W_seq fun kz6 kq6 => ?_
  refine W_region [4, 5, 7, 8] fun R hR => ?_   -- r5
  simp only [go_sem, hb0, hmade, hb1, hcs, hb2, hfr, hb3, htt, hb4]
  refine GCall_of (Roll_pc Y _ _ _ (Sg.get_ext0 _ _ _ _) made.town.rooms.length (by omega)) ?_   -- t32
  simp only [go_sem, hb0, hmade, hb1, hcs, hb2, hfr, hb3, htt, hb4]
  refine GCall_of (Roll_pc Y _ _ _ (Sg.get_ext0 _ _ _ _) made.town.rooms.length (by omega)) ?_   -- t35
  simp only [go_sem, hb0, hmade, hb1, hcs, hb2, hfr, hb3, htt, hb4]
  refine hR _ _ (kq6 _ _ ?_); clear hR R; try clear kq6 kz6
  try simp only [go_sem, hb0, hmade, hb1, hcs, hb2, hfr, hb3, htt, hb4]
  refine W_seq fun kz7 kq7 => ?_
  refine W_region [4, 5, 7, 8, 9, 10] fun R hR => ?_   -- r6
  simp only [go_sem, hb0, hmade, hb1, hcs, hb2, hfr, hb3, htt, hb4]
  refine GCall_of (PC.val (v' := .tuple [ints rs, I re]) (Route_pc Y _ made vmade.okc cs fr tt (by omega) (by omega) (by omega) (by have := vmade.small.hg; omega) (fun g hg => vmade.small.hp g hg) (by omega)) (by rw [hrs, hre])) ?_   -- t41
  simp only [go_sem, hb0, hmade, hb1, hcs, hb2, hfr, hb3, htt, hb4]
  refine hR _ _ (kq7 _ _ ?_); clear hR R; try clear kq7 kz7
  try simp only [go_sem, hb0, hmade, hb1, hcs, hb2, hfr, hb3, htt, hb4]
  refine W_seq fun kz8 kq8 => ?_
  refine W_region [4, 5, 7, 8, 9, 10, 11] fun R hR => ?_   -- r7
  simp only [go_sem, hb0, hmade, hb1, hcs, hb2, hfr, hb3, htt, hb4]
  refine hR _ _ (kq8 _ _ ?_); clear hR R; try clear kq8 kz8
  try simp only [go_sem, hb0, hmade, hb1, hcs, hb2, hfr, hb3, htt, hb4]
  refine W_seq fun kz9 kq9 => ?_
  refine W_seq fun kz10 kq10 => ?_
  refine W_region [4, 5, 7, 8, 9, 10, 11, 12] fun R hR => ?_   -- r8
  simp only [go_sem, hb0, hmade, hb1, hcs, hb2, hfr, hb3, htt, hb4]
  refine hR _ _ (kq10 _ _ ?_); clear hR R; try clear kq10 kz10
  try simp only [go_sem, hb0, hmade, hb1, hcs, hb2, hfr, hb3, htt, hb4]
  refine W_block ?_
  refine W_weak (Weak.room (t := 11) (es := 1) rfl (by simp)) ?_
  refine W_weak (Weak.keep [4, 5, 7, 8, 9, 10, 11, 12]) ?_
  simp only [go_sem, hb0, hmade, hb1, hcs, hb2, hfr, hb3, htt, hb4]
  refine W_loopT (α := Nat × (List Int)) (fun ⟨i, m⟩ => [(11, .isl (m.map I) (.tok σ.rooms.length m.length 1)), (12, I i)]) (fun ⟨i, m⟩ => σ.ext [some [.int .u64 b4], some (ctCells made)] [m.length]) (fun ⟨i, m⟩ => i ≤ m.length ∧ GI made.town cs fr i 0 m) (fun ⟨i, m⟩ => made.town.rooms.length - i) ((0, [fr])) rfl (by first | rfl | (simp only [go_sem]; done) | (simp only [go_sem]; rfl)) (⟨Nat.zero_le _, GI.start f0 f1⟩) ?_
  rintro ⟨i, m⟩ ⟨hi, hgi⟩
  have hml := hgi.le
  refine W_seq fun kz11 kq11 => ?_
  refine W_seq fun kz12 kq12 => ?_
  refine W_region [4, 5, 7, 8, 9, 10, 11, 12, 49] fun R hR => ?_   -- r9
  simp only [go_sem, hb0, hmade, hb1, hcs, hb2, hfr, hb3, htt, hb4]
  refine hR _ _ (kq12 _ _ ?_); clear hR R; try clear kq12 kz12
  try simp only [go_sem, hb0, hmade, hb1, hcs, hb2, hfr, hb3, htt, hb4]
  refine W_cond rfl (fun c1 => ?_) (fun c1 => ?_)
  · -- c1 true
    try simp only [nrm] at c1
    have hi' : i < m.length := by omega
    obtain ⟨x, hmi⟩ : ∃ x, m[i]? = some x := ⟨m[i], by simp [hi']⟩
    refine W_skip (kq11 _ _ ?_)
    refine W_seq fun kz13 kq13 => ?_
    refine W_block ?_
    refine W_seq fun kz14 kq14 => ?_
    refine W_region [4, 5, 7, 8, 9, 10, 11, 12, 13] fun R hR => ?_   -- r11
    simp only [go_sem, hb0, hmade, hb1, hcs, hb2, hfr, hb3, htt, hb4]
    refine hR _ _ (kq14 _ _ ?_); clear hR R; try clear kq14 kz14
    try simp only [go_sem, hb0, hmade, hb1, hcs, hb2, hfr, hb3, htt, hb4]
    refine W_block ?_
    refine W_loopT (α := Nat × (List Int)) (fun ⟨k, mm⟩ => [(11, .isl (mm.map I) (.tok σ.rooms.length mm.length 1)), (13, I k)]) (fun ⟨k, mm⟩ => σ.ext [some [.int .u64 b4], some (ctCells made)] [mm.length]) (fun ⟨k, mm⟩ => k ≤ made.town.streets.length ∧ mm[i]? = some x ∧ GI made.town cs fr i k mm) (fun ⟨k, mm⟩ => made.town.streets.length - k) ((0, m)) rfl (by first | rfl | (simp only [go_sem]; done) | (simp only [go_sem]; rfl)) (⟨Nat.zero_le _, hmi, hgi⟩) ?_
    rintro ⟨k, mm⟩ ⟨hk, hmi, hgj⟩
    have hml := hgj.le
    refine W_seq fun kz15 kq15 => ?_
    refine W_seq fun kz16 kq16 => ?_
    refine W_region [4, 5, 7, 8, 9, 10, 11, 12, 13, 57] fun R hR => ?_   -- r12
    simp only [go_sem, hb0, hmade, hb1, hcs, hb2, hfr, hb3, htt, hb4]
    refine hR _ _ (kq16 _ _ ?_); clear hR R; try clear kq16 kz16
    try simp only [go_sem, hb0, hmade, hb1, hcs, hb2, hfr, hb3, htt, hb4]
    refine W_cond rfl (fun c2 => ?_) (fun c2 => ?_)
    · -- c2 true
      try simp only [nrm] at c2
      have hk' : k < made.town.streets.length := by omega
      obtain ⟨s, hx⟩ : ∃ s, made.town.streets[k]? = some s := ⟨made.town.streets[k], by simp [hk']⟩
      refine W_skip (kq15 _ _ ?_)
      refine W_seq fun kz17 kq17 => ?_
      refine W_block ?_
      refine W_seq fun kz18 kq18 => ?_
      refine W_region [4, 5, 7, 8, 9, 10, 11, 12, 13, 14] fun R hR => ?_   -- r14
      simp only [go_sem, hb0, hmade, hb1, hcs, hb2, hfr, hb3, htt, hb4, hx, hmi]
      refine hR _ _ (kq18 _ _ ?_); clear hR R; try clear kq18 kz18
      try simp only [go_sem, hb0, hmade, hb1, hcs, hb2, hfr, hb3, htt, hb4, hx, hmi]
      refine W_seq fun kz19 kq19 => ?_
      refine W_seq fun kz20 kq20 => ?_
      refine W_region [4, 5, 7, 8, 9, 10, 11, 12, 13, 14, 68] fun R hR => ?_   -- r15
      simp only [go_sem, hb0, hmade, hb1, hcs, hb2, hfr, hb3, htt, hb4, hx, hmi]
      refine GCall_of (Has_pc Y _ cs (k : Int) .ro (by omega)) ?_   -- t68
      simp only [go_sem, hb0, hmade, hb1, hcs, hb2, hfr, hb3, htt, hb4, hx, hmi]
      refine hR _ _ (kq20 _ _ ?_); clear hR R; try clear kq20 kz20
      try simp only [go_sem, hb0, hmade, hb1, hcs, hb2, hfr, hb3, htt, hb4, hx, hmi]
      refine W_cond rfl (fun c3 => ?_) (fun c3 => ?_)
      · -- c3 true
        try simp only [nrm] at c3
        refine W_exit ?_
        simp only [go_sem, hb0, hmade, hb1, hcs, hb2, hfr, hb3, htt, hb4, hx, hmi]
        refine kq17 _ _ ?_
        refine W_region [4, 5, 7, 8, 9, 10, 11, 12, 13] fun R hR => ?_   -- r13
        simp only [go_sem, hb0, hmade, hb1, hcs, hb2, hfr, hb3, htt, hb4, hx, hmi]
        try simp (disch := omega) only [wrapI, wrapU]
        refine hR _ _ ?_; clear hR R
        try simp only [go_sem, hb0, hmade, hb1, hcs, hb2, hfr, hb3, htt, hb4, hx, hmi]
        refine ⟨(k + 1, mm), ?_, by (try simp only []); omega, ?_⟩
        · refine Weak.trans (Weak.cutX 2 1 (by omega) (by omega) hcl (by simp only [go_sem] <;> omega) (by simp only [go_sem] <;> omega)) ?_
          simp only [go_sem]
          exact Weak.eq (by first | rfl | (simp only [go_sem]; done) | (simp only [go_sem]; rfl) | (simp [go_sem]; done) | (simp [go_sem]; omega)) (by first | rfl | (simp only [go_sem]; done) | (simp [go_sem]; done))
        · try dsimp only
          first | exact ⟨hk', hmi3, hg3⟩ | exact ⟨hk', hmi, hgj.skip c3⟩
      · -- c3 false
        try simp only [nrm] at c3
        refine W_skip (kq19 _ _ ?_)
        refine W_seq fun kz21 kq21 => ?_
        refine W_seq fun kz22 kq22 => ?_
        refine W_drawJ [4, 5, 7, 8, 9, 10, 11, 12, 13, 14, 82] [(82, .bool (decide (s.1 = x) && !(has mm s.2)))] [0, 1, 2, 3, 4, 5, 6, 7, 8, 9, 10, 11, 12, 13] [] [[], [0], [], [], [2, 3], [2, 3, 4], [0, 1, 2, 3, 4, 5], [0, 1, 2, 3, 4, 5, 6], [0, 1, 2, 3, 4, 5, 6, 7], [0, 1, 2, 3, 4, 5, 6, 7], [0, 1, 2, 3, 4, 5, 6, 7, 9], [0, 1, 2, 3, 4, 5, 6, 7, 8, 9, 10], [0, 1, 2, 3, 4, 5, 6, 7, 8, 9, 10, 11], [0, 1, 2, 3, 4, 5, 6, 7, 8, 9, 10, 11, 12]] mixed (by kernel_rfl) ?_ fun R hR => ?_   -- r16
        · refine kq22 _ _ ?_
          simp only [go_sem, hb0, hmade, hb1, hcs, hb2, hfr, hb3, htt, hb4, hx, hmi]
          refine W_cond rfl (fun c4 => ?_) (fun c4 => ?_)
          · -- c4 true
            try simp only [nrm] at c4
            refine W_region [4, 5, 7, 8, 9, 10, 11, 12, 13, 14] fun R hR => ?_   -- r17
            simp only [go_sem, hb0, hmade, hb1, hcs, hb2, hfr, hb3, htt, hb4, hx, hmi]
            simp (disch := first | omega | (simp only [go_sem] <;> omega)) only [wrapI, wrapU, appX_exact, appX_tok]
            try simp only [go_sem, hb0, hmade, hb1, hcs, hb2, hfr, hb3, htt, hb4, hx, hmi]
            obtain ⟨m2, hm2⟩ : ∃ z, mm ++ [s.2] = z := ⟨_, rfl⟩
            have hl2 : mm.length + 1 = m2.length := by rw [← hm2]; simp
            have hg2 : GI made.town cs fr i k m2 := by rw [← hm2]; simp at c4; exact hgj.one hv hx c3 hmi c4.1 c4.2
            have hmi2 : m2[i]? = some x := by rw [← hm2, List.getElem?_append_left (List.getElem?_eq_some_iff.1 hmi).1]; exact hmi
            have hA : s.1 = x → s.2 ∈ m2 := fun _ => by rw [← hm2]; simp
            have hml2 := hg2.le
            simp only [snocI, hm2, hl2]
            refine hR _ _ (kq21 _ _ ?_); clear hR R; try clear kq21 kz21
            try simp only [go_sem, hb0, hmade, hb1, hcs, hb2, hfr, hb3, htt, hb4, hx, hmi]
            refine W_seq fun kz23 kq23 => ?_
            refine W_drawJ [4, 5, 7, 8, 9, 10, 11, 12, 13, 14, 101] [(101, .bool (decide (s.2 = x) && !(has m2 s.1)))] [0, 1, 2, 3, 4, 5, 6, 7, 8, 9, 10, 11, 12, 13] [] [[], [0], [], [], [2, 3], [2, 3, 4], [0, 1, 2, 3, 4, 5], [0, 1, 2, 3, 4, 5, 6], [0, 1, 2, 3, 4, 5, 6, 7], [0, 1, 2, 3, 4, 5, 6, 7], [0, 1, 2, 3, 4, 5, 6, 7, 9], [0, 1, 2, 3, 4, 5, 6, 7, 8, 9, 10], [0, 1, 2, 3, 4, 5, 6, 7, 8, 9, 10, 11], [0, 1, 2, 3, 4, 5, 6, 7, 8, 9, 10, 11, 12]] mixed (by kernel_rfl) ?_ fun R hR => ?_   -- r18
            · refine kq23 _ _ ?_
              simp only [go_sem, hb0, hmade, hb1, hcs, hb2, hfr, hb3, htt, hb4, hx, hmi]
              refine W_cond rfl (fun c5 => ?_) (fun c5 => ?_)
              · -- c5 true
                try simp only [nrm] at c5
                refine W_region [4, 5, 7, 8, 9, 10, 11, 12, 13] fun R hR => ?_   -- r19
                simp only [go_sem, hb0, hmade, hb1, hcs, hb2, hfr, hb3, htt, hb4, hx, hmi]
                simp (disch := first | omega | (simp only [go_sem] <;> omega)) only [wrapI, wrapU, appX_exact, appX_tok]
                try simp only [go_sem, hb0, hmade, hb1, hcs, hb2, hfr, hb3, htt, hb4, hx, hmi]
                obtain ⟨m3, hm3⟩ : ∃ z, m2 ++ [s.1] = z := ⟨_, rfl⟩
                have hl3 : m2.length + 1 = m3.length := by rw [← hm3]; simp
                have hcc : (decide (s.2 = x) && !(has m2 s.1)) = true := by assumption
                have hg3 : GI made.town cs fr i (k + 1) m3 := by
                  simp at hcc
                  have := hg2.two hv hx c3 hmi2 hcc.1 hcc.2
                  rw [hm3] at this
                  exact this.next hx (by rw [← hm3, List.getElem?_append_left (List.getElem?_eq_some_iff.1 hmi2).1]; exact hmi2) (fun e => by rw [← hm3]; exact List.mem_append_left _ (hA e)) (fun _ => by rw [← hm3]; simp)
                have hmi3 : m3[i]? = some x := by rw [← hm3, List.getElem?_append_left (List.getElem?_eq_some_iff.1 hmi2).1]; exact hmi2
                simp only [snocI, hm3, hl3]
                refine hR _ _ (kq17 _ _ ?_); clear hR R; try clear kq17 kz17
                try simp only [go_sem, hb0, hmade, hb1, hcs, hb2, hfr, hb3, htt, hb4, hx, hmi]
                refine W_region [4, 5, 7, 8, 9, 10, 11, 12, 13] fun R hR => ?_   -- r13
                simp only [go_sem, hb0, hmade, hb1, hcs, hb2, hfr, hb3, htt, hb4, hx, hmi]
                try simp (disch := omega) only [wrapI, wrapU]
                refine hR _ _ ?_; clear hR R
                try simp only [go_sem, hb0, hmade, hb1, hcs, hb2, hfr, hb3, htt, hb4, hx, hmi]
                refine ⟨(k + 1, m3), ?_, by (try simp only []); omega, ?_⟩
                · refine Weak.trans (Weak.cutX 2 1 (by omega) (by omega) hcl (by simp only [go_sem] <;> omega) (by simp only [go_sem] <;> omega)) ?_
                  simp only [go_sem]
                  exact Weak.eq (by first | rfl | (simp only [go_sem]; done) | (simp only [go_sem]; rfl) | (simp [go_sem]; done) | (simp [go_sem]; omega)) (by first | rfl | (simp only [go_sem]; done) | (simp [go_sem]; done))
                · try dsimp only
                  first | exact ⟨hk', hmi3, hg3⟩ | exact ⟨hk', hmi, hgj.skip c3⟩
              · -- c5 false
                try simp only [nrm] at c5
                obtain ⟨m3, hm3⟩ : ∃ z, m2 = z := ⟨_, rfl⟩
                have hcc : (decide (s.2 = x) && !(has m2 s.1)) = false := by assumption
                have hg3 : GI made.town cs fr i (k + 1) m3 := by
                  rw [← hm3]
                  exact hg2.next hx hmi2 hA (fun e => by simp [e] at hcc; exact has_iff.1 hcc)
                have hmi3 : m3[i]? = some x := hm3 ▸ hmi2
                simp only [hm3]
                refine W_skip (kq17 _ _ ?_)
                refine W_region [4, 5, 7, 8, 9, 10, 11, 12, 13] fun R hR => ?_   -- r13
                simp only [go_sem, hb0, hmade, hb1, hcs, hb2, hfr, hb3, htt, hb4, hx, hmi]
                try simp (disch := omega) only [wrapI, wrapU]
                refine hR _ _ ?_; clear hR R
                try simp only [go_sem, hb0, hmade, hb1, hcs, hb2, hfr, hb3, htt, hb4, hx, hmi]
                refine ⟨(k + 1, m3), ?_, by (try simp only []); omega, ?_⟩
                · refine Weak.trans (Weak.cutX 2 1 (by omega) (by omega) hcl (by simp only [go_sem] <;> omega) (by simp only [go_sem] <;> omega)) ?_
                  simp only [go_sem]
                  exact Weak.eq (by first | rfl | (simp only [go_sem]; done) | (simp only [go_sem]; rfl) | (simp [go_sem]; done) | (simp [go_sem]; omega)) (by first | rfl | (simp only [go_sem]; done) | (simp [go_sem]; done))
                · try dsimp only
                  first | exact ⟨hk', hmi3, hg3⟩ | exact ⟨hk', hmi, hgj.skip c3⟩
            · simp only [go_sem, hb0, hmade, hb1, hcs, hb2, hfr, hb3, htt, hb4, hx, hmi, hmi2]
              refine GWant_split (fun g1 => ?_) (fun g1 => ?_)
              · try simp only [Bool.not_eq_true', Bool.not_eq_false'] at g1
                have n1 := g1; try simp only [nrm] at n1
                simp only [go_sem, hb0, hmade, hb1, hcs, hb2, hfr, hb3, htt, hb4, hx, hmi, hmi2, g1]
                refine GCall_of (Has_pc Y _ m2 s.1 _ (by omega)) ?_   -- t99
                simp only [go_sem, hb0, hmade, hb1, hcs, hb2, hfr, hb3, htt, hb4, hx, hmi, hmi2, g1]
                try refine And.intro (by repeat' (first | refine And.intro ?_ ?_ | exact GOr_right (fun _ => by simp only [go_sem, hb0, hmade, hb1, hcs, hb2, hfr, hb3, htt, hb4, hx, hmi, hmi2]))) ?_
                refine hR _ ?_
                try simp only [go_sem, hb0, hmade, hb1, hcs, hb2, hfr, hb3, htt, hb4, hx, hmi, hmi2]
                all_goals
                  first | rfl | (simp [*]; done)
              · try simp only [Bool.not_eq_true', Bool.not_eq_false'] at g1
                have n1 := g1; try simp only [nrm] at n1
                simp only [go_sem, hb0, hmade, hb1, hcs, hb2, hfr, hb3, htt, hb4, hx, hmi, hmi2, g1]
                try refine And.intro (by repeat' (first | refine And.intro ?_ ?_ | exact GOr_right (fun _ => by simp only [go_sem, hb0, hmade, hb1, hcs, hb2, hfr, hb3, htt, hb4, hx, hmi, hmi2]))) ?_
                refine hR _ ?_
                try simp only [go_sem, hb0, hmade, hb1, hcs, hb2, hfr, hb3, htt, hb4, hx, hmi, hmi2]
                all_goals
                  first | rfl | (simp [*]; done)
          · -- c4 false
            try simp only [nrm] at c4
            obtain ⟨m2, hm2⟩ : ∃ z, mm = z := ⟨_, rfl⟩
            have hg2 : GI made.town cs fr i k m2 := hm2 ▸ hgj
            have hmi2 : m2[i]? = some x := hm2 ▸ hmi
            have hA : s.1 = x → s.2 ∈ m2 := fun e => by
              rw [← hm2]
              simp [e] at c4
              exact has_iff.1 c4
            have hml2 := hg2.le
            simp only [hm2]
            refine W_skip (kq21 _ _ ?_)
            refine W_seq fun kz24 kq24 => ?_
            refine W_drawJ [4, 5, 7, 8, 9, 10, 11, 12, 13, 14, 101] [(101, .bool (decide (s.2 = x) && !(has m2 s.1)))] [0, 1, 2, 3, 4, 5, 6, 7, 8, 9, 10, 11, 12, 13] [] [[], [0], [], [], [2, 3], [2, 3, 4], [0, 1, 2, 3, 4, 5], [0, 1, 2, 3, 4, 5, 6], [0, 1, 2, 3, 4, 5, 6, 7], [0, 1, 2, 3, 4, 5, 6, 7], [0, 1, 2, 3, 4, 5, 6, 7, 9], [0, 1, 2, 3, 4, 5, 6, 7, 8, 9, 10], [0, 1, 2, 3, 4, 5, 6, 7, 8, 9, 10, 11], [0, 1, 2, 3, 4, 5, 6, 7, 8, 9, 10, 11, 12]] mixed (by kernel_rfl) ?_ fun R hR => ?_   -- r18
            · refine kq24 _ _ ?_
              simp only [go_sem, hb0, hmade, hb1, hcs, hb2, hfr, hb3, htt, hb4, hx, hmi]
              refine W_cond rfl (fun c6 => ?_) (fun c6 => ?_)
              · -- c6 true
                try simp only [nrm] at c6
                refine W_region [4, 5, 7, 8, 9, 10, 11, 12, 13] fun R hR => ?_   -- r19
                simp only [go_sem, hb0, hmade, hb1, hcs, hb2, hfr, hb3, htt, hb4, hx, hmi]
                simp (disch := first | omega | (simp only [go_sem] <;> omega)) only [wrapI, wrapU, appX_exact, appX_tok]
                try simp only [go_sem, hb0, hmade, hb1, hcs, hb2, hfr, hb3, htt, hb4, hx, hmi]
                obtain ⟨m3, hm3⟩ : ∃ z, m2 ++ [s.1] = z := ⟨_, rfl⟩
                have hl3 : m2.length + 1 = m3.length := by rw [← hm3]; simp
                have hcc : (decide (s.2 = x) && !(has m2 s.1)) = true := by assumption
                have hg3 : GI made.town cs fr i (k + 1) m3 := by
                  simp at hcc
                  have := hg2.two hv hx c3 hmi2 hcc.1 hcc.2
                  rw [hm3] at this
                  exact this.next hx (by rw [← hm3, List.getElem?_append_left (List.getElem?_eq_some_iff.1 hmi2).1]; exact hmi2) (fun e => by rw [← hm3]; exact List.mem_append_left _ (hA e)) (fun _ => by rw [← hm3]; simp)
                have hmi3 : m3[i]? = some x := by rw [← hm3, List.getElem?_append_left (List.getElem?_eq_some_iff.1 hmi2).1]; exact hmi2
                simp only [snocI, hm3, hl3]
                refine hR _ _ (kq17 _ _ ?_); clear hR R; try clear kq17 kz17
                try simp only [go_sem, hb0, hmade, hb1, hcs, hb2, hfr, hb3, htt, hb4, hx, hmi]
                refine W_region [4, 5, 7, 8, 9, 10, 11, 12, 13] fun R hR => ?_   -- r13
                simp only [go_sem, hb0, hmade, hb1, hcs, hb2, hfr, hb3, htt, hb4, hx, hmi]
                try simp (disch := omega) only [wrapI, wrapU]
                refine hR _ _ ?_; clear hR R
                try simp only [go_sem, hb0, hmade, hb1, hcs, hb2, hfr, hb3, htt, hb4, hx, hmi]
                refine ⟨(k + 1, m3), ?_, by (try simp only []); omega, ?_⟩
                · refine Weak.trans (Weak.cutX 2 1 (by omega) (by omega) hcl (by simp only [go_sem] <;> omega) (by simp only [go_sem] <;> omega)) ?_
                  simp only [go_sem]
                  exact Weak.eq (by first | rfl | (simp only [go_sem]; done) | (simp only [go_sem]; rfl) | (simp [go_sem]; done) | (simp [go_sem]; omega)) (by first | rfl | (simp only [go_sem]; done) | (simp [go_sem]; done))
                · try dsimp only
                  first | exact ⟨hk', hmi3, hg3⟩ | exact ⟨hk', hmi, hgj.skip c3⟩
              · -- c6 false
                try simp only [nrm] at c6
                obtain ⟨m3, hm3⟩ : ∃ z, m2 = z := ⟨_, rfl⟩
                have hcc : (decide (s.2 = x) && !(has m2 s.1)) = false := by assumption
                have hg3 : GI made.town cs fr i (k + 1) m3 := by
                  rw [← hm3]
                  exact hg2.next hx hmi2 hA (fun e => by simp [e] at hcc; exact has_iff.1 hcc)
                have hmi3 : m3[i]? = some x := hm3 ▸ hmi2
                simp only [hm3]
                refine W_skip (kq17 _ _ ?_)
                refine W_region [4, 5, 7, 8, 9, 10, 11, 12, 13] fun R hR => ?_   -- r13
                simp only [go_sem, hb0, hmade, hb1, hcs, hb2, hfr, hb3, htt, hb4, hx, hmi]
                try simp (disch := omega) only [wrapI, wrapU]
                refine hR _ _ ?_; clear hR R
                try simp only [go_sem, hb0, hmade, hb1, hcs, hb2, hfr, hb3, htt, hb4, hx, hmi]
                refine ⟨(k + 1, m3), ?_, by (try simp only []); omega, ?_⟩
                · refine Weak.trans (Weak.cutX 2 1 (by omega) (by omega) hcl (by simp only [go_sem] <;> omega) (by simp only [go_sem] <;> omega)) ?_
                  simp only [go_sem]
                  exact Weak.eq (by first | rfl | (simp only [go_sem]; done) | (simp only [go_sem]; rfl) | (simp [go_sem]; done) | (simp [go_sem]; omega)) (by first | rfl | (simp only [go_sem]; done) | (simp [go_sem]; done))
                · try dsimp only
                  first | exact ⟨hk', hmi3, hg3⟩ | exact ⟨hk', hmi, hgj.skip c3⟩
            · simp only [go_sem, hb0, hmade, hb1, hcs, hb2, hfr, hb3, htt, hb4, hx, hmi, hmi2]
              refine GWant_split (fun g2 => ?_) (fun g2 => ?_)
              · try simp only [Bool.not_eq_true', Bool.not_eq_false'] at g2
                have n2 := g2; try simp only [nrm] at n2
                simp only [go_sem, hb0, hmade, hb1, hcs, hb2, hfr, hb3, htt, hb4, hx, hmi, hmi2, g2]
                refine GCall_of (Has_pc Y _ m2 s.1 _ (by omega)) ?_   -- t99
                simp only [go_sem, hb0, hmade, hb1, hcs, hb2, hfr, hb3, htt, hb4, hx, hmi, hmi2, g2]
                try refine And.intro (by repeat' (first | refine And.intro ?_ ?_ | exact GOr_right (fun _ => by simp only [go_sem, hb0, hmade, hb1, hcs, hb2, hfr, hb3, htt, hb4, hx, hmi, hmi2]))) ?_
                refine hR _ ?_
                try simp only [go_sem, hb0, hmade, hb1, hcs, hb2, hfr, hb3, htt, hb4, hx, hmi, hmi2]
                all_goals
                  first | rfl | (simp [*]; done)
              · try simp only [Bool.not_eq_true', Bool.not_eq_false'] at g2
                have n2 := g2; try simp only [nrm] at n2
                simp only [go_sem, hb0, hmade, hb1, hcs, hb2, hfr, hb3, htt, hb4, hx, hmi, hmi2, g2]
                try refine And.intro (by repeat' (first | refine And.intro ?_ ?_ | exact GOr_right (fun _ => by simp only [go_sem, hb0, hmade, hb1, hcs, hb2, hfr, hb3, htt, hb4, hx, hmi, hmi2]))) ?_
                refine hR _ ?_
                try simp only [go_sem, hb0, hmade, hb1, hcs, hb2, hfr, hb3, htt, hb4, hx, hmi, hmi2]
                all_goals
                  first | rfl | (simp [*]; done)
        · simp only [go_sem, hb0, hmade, hb1, hcs, hb2, hfr, hb3, htt, hb4, hx, hmi]
          refine GWant_split (fun g3 => ?_) (fun g3 => ?_)
          · try simp only [Bool.not_eq_true', Bool.not_eq_false'] at g3
            have n3 := g3; try simp only [nrm] at n3
            simp only [go_sem, hb0, hmade, hb1, hcs, hb2, hfr, hb3, htt, hb4, hx, hmi, g3]
            refine GCall_of (Has_pc Y _ mm s.2 _ (by omega)) ?_   -- t80
            simp only [go_sem, hb0, hmade, hb1, hcs, hb2, hfr, hb3, htt, hb4, hx, hmi, g3]
            try refine And.intro (by repeat' (first | refine And.intro ?_ ?_ | exact GOr_right (fun _ => by simp only [go_sem, hb0, hmade, hb1, hcs, hb2, hfr, hb3, htt, hb4, hx, hmi]))) ?_
            refine hR _ ?_
            try simp only [go_sem, hb0, hmade, hb1, hcs, hb2, hfr, hb3, htt, hb4, hx, hmi]
            all_goals
              first | rfl | (simp [*]; done) | (simp [n1, *]; done)
          · try simp only [Bool.not_eq_true', Bool.not_eq_false'] at g3
            have n3 := g3; try simp only [nrm] at n3
            simp only [go_sem, hb0, hmade, hb1, hcs, hb2, hfr, hb3, htt, hb4, hx, hmi, g3]
            try refine And.intro (by repeat' (first | refine And.intro ?_ ?_ | exact GOr_right (fun _ => by simp only [go_sem, hb0, hmade, hb1, hcs, hb2, hfr, hb3, htt, hb4, hx, hmi]))) ?_
            refine hR _ ?_
            try simp only [go_sem, hb0, hmade, hb1, hcs, hb2, hfr, hb3, htt, hb4, hx, hmi]
            all_goals
              first | rfl | (simp [*]; done) | (simp [n1, *]; done)
    · -- c2 false
      try simp only [nrm] at c2
      obtain rfl : k = made.town.streets.length := by omega
      refine W_exit ?_
      simp only [go_sem, hb0, hmade, hb1, hcs, hb2, hfr, hb3, htt, hb4]
      refine kq13 _ _ ?_
      refine W_region [4, 5, 7, 8, 9, 10, 11, 12] fun R hR => ?_   -- r10
      simp only [go_sem, hb0, hmade, hb1, hcs, hb2, hfr, hb3, htt, hb4]
      try simp (disch := omega) only [wrapI, wrapU]
      refine hR _ _ ?_; clear hR R
      try simp only [go_sem, hb0, hmade, hb1, hcs, hb2, hfr, hb3, htt, hb4]
      refine ⟨(i + 1, mm), ?_, by (try simp only []); omega, ?_⟩
      · refine Weak.trans (Weak.cutX 2 1 (by omega) (by omega) hcl (by simp only [go_sem] <;> omega) (by simp only [go_sem] <;> omega)) ?_
        simp only [go_sem]
        exact Weak.eq (by first | rfl | (simp only [go_sem]; done) | (simp only [go_sem]; rfl) | (simp [go_sem]; done) | (simp [go_sem]; omega)) (by first | rfl | (simp only [go_sem]; done) | (simp [go_sem]; done))
      · try dsimp only
        exact ⟨by have := (List.getElem?_eq_some_iff.1 hmi).1; omega, hgj.row hmi⟩
  · -- c1 false
    try simp only [nrm] at c1
    obtain rfl : i = m.length := by omega
    have hmt : has m tt = true ↔ ∃ k, Reach (nbT made.town cs) fr k tt := has_iff.trans (hgi.done hv tt)
    refine W_exit ?_
    simp only [go_sem, hb0, hmade, hb1, hcs, hb2, hfr, hb3, htt, hb4]
    refine kq9 _ _ ?_
    refine W_seq fun kz25 kq25 => ?_
    refine W_seq fun kz26 kq26 => ?_
    refine W_region [4, 5, 7, 8, 9, 10, 11, 108] fun R hR => ?_   -- r20
    simp only [go_sem, hb0, hmade, hb1, hcs, hb2, hfr, hb3, htt, hb4]
    refine hR _ _ (kq26 _ _ ?_); clear hR R; try clear kq26 kz26
    try simp only [go_sem, hb0, hmade, hb1, hcs, hb2, hfr, hb3, htt, hb4]
    refine W_cond rfl (fun c7 => ?_) (fun c7 => ?_)
    · -- c7 true
      try simp only [nrm] at c7
      have h7 : re = 7 ∧ ¬ ∃ k, Reach (nbT made.town cs) fr k tt := by
        rcases hlaw with ⟨hnr, h7⟩ | ⟨r, w, hr, h0, _⟩
        · rw [h7] at hre; exact ⟨hre.symm, hnr⟩
        · rw [h0] at hre; exact absurd hre.symm c7
      obtain ⟨hr7, hnr⟩ := h7
      subst hr7
      have hmt : has m tt = false := by
        cases hq : has m tt with
        | true => exact absurd (hmt.1 hq) hnr
        | false => rfl
      refine W_seq fun kz27 kq27 => ?_
      refine W_region [2] fun R hR => ?_   -- r21
      simp only [go_sem, hb0, hmade, hb1, hcs, hb2, hfr, hb3, htt, hb4]
      refine GCall_of (PC.val (v' := .bool false) (Has_pc Y _ m tt _ (by omega)) (by rw [hmt])) ?_   -- t114
      simp only [go_sem, hb0, hmade, hb1, hcs, hb2, hfr, hb3, htt, hb4]
      refine GCall_of (lawake_pc Y _) ?_   -- t118
      simp only [go_sem, hb0, hmade, hb1, hcs, hb2, hfr, hb3, htt, hb4]
      refine hR _ _ (kq27 _ _ ?_); clear hR R; try clear kq27 kz27
      try simp only [go_sem, hb0, hmade, hb1, hcs, hb2, hfr, hb3, htt, hb4]
      refine W_ret ?_
      simp only [go_sem, hb0, hmade, hb1, hcs, hb2, hfr, hb3, htt, hb4]
      refine ⟨.inr (by trivial), ?_⟩
      first | refine Fin_same hcl rfl (Wk_eq ?_ (by simp only [go_sem])) | refine Fin_self hcl rfl (Wk_eq ?_ (by simp only [go_sem]))
      try simp only [go_sem]
      all_goals
        first | rfl | (simp_all; done) | (simp_all; omega)
    · -- c7 false
      try simp only [nrm] at c7
      obtain ⟨r, wy, hr, h0, hr2, hopen, hwl, hwt, hsq⟩ : ∃ r w, (∃ k, Reach (nbT made.town cs) fr k tt) ∧ routeAns made cs fr tt = (r, 0) ∧ r.length ≤ 12 ∧ (∀ n, n ∈ r → has cs n = false) ∧ w.length = r.length + 1 ∧ w[r.length]? = some tt ∧ ∀ lo hi stay people, sqs made ⟨fr, r, lo, hi, stay, people⟩ = (w, 0) := by
        rcases hlaw with ⟨hnr, h7⟩ | h
        · rw [h7] at hre; simp only at hre; first | omega | (simp at c7; omega)
        · exact h
      rw [h0] at hrs hre
      simp only at hrs hre
      subst hrs
      have hmt := hmt.2 hr
      have hwy := hsq 0 0 1 0
      have hbv := gone_chk hwy hr2
      have hwe : ((wy.length : Int) == (r.length : Int) + 1) = true := by rw [beq_iff_eq]; omega
      have hw1 : IntKind.i64.wrap ((r.length : Int) + 1) = (r.length : Int) + 1 := wrapI (by omega) (by omega)
      have hlt : ((r.length : Int) < (wy.length : Int)) = True := eq_true (by omega)
      refine W_skip (kq25 _ _ ?_)
      refine W_seq fun kz28 kq28 => ?_
      refine W_seq fun kz29 kq29 => ?_
      refine W_region [4, 5, 7, 8, 9, 11, 15] fun R hR => ?_   -- r22
      simp only [go_sem, hb0, hmade, hb1, hcs, hb2, hfr, hb3, htt, hb4]
      refine hR _ _ (kq29 _ _ ?_); clear hR R; try clear kq29 kz29
      try simp only [go_sem, hb0, hmade, hb1, hcs, hb2, hfr, hb3, htt, hb4]
      refine W_block ?_
      refine W_loopS (α := Nat) (fun (j : Nat) => [(15, I j)]) (fun (j : Nat) => j ≤ r.length) (fun (j : Nat) => r.length - j) (0) rfl (Nat.zero_le _) ?_
      rintro j hj
      refine W_seq fun kz30 kq30 => ?_
      refine W_seq fun kz31 kq31 => ?_
      refine W_region [4, 5, 7, 8, 9, 11, 15, 123] fun R hR => ?_   -- r23
      simp only [go_sem, hb0, hmade, hb1, hcs, hb2, hfr, hb3, htt, hb4]
      refine hR _ _ (kq31 _ _ ?_); clear hR R; try clear kq31 kz31
      try simp only [go_sem, hb0, hmade, hb1, hcs, hb2, hfr, hb3, htt, hb4]
      refine W_cond rfl (fun c8 => ?_) (fun c8 => ?_)
      · -- c8 true
        try simp only [nrm] at c8
        have hj' : j < r.length := by omega
        obtain ⟨q, hx⟩ : ∃ q, r[j]? = some q := ⟨r[j], by simp [hj']⟩
        refine W_skip (kq30 _ _ ?_)
        refine W_seq fun kz32 kq32 => ?_
        refine W_block ?_
        refine W_seq fun kz33 kq33 => ?_
        refine W_region [4, 5, 7, 8, 9, 11, 15, 131] fun R hR => ?_   -- r25
        simp only [go_sem, hb0, hmade, hb1, hcs, hb2, hfr, hb3, htt, hb4, hx]
        refine GCall_of (PC.val (v' := .bool false) (Has_pc Y _ cs q .ro (by omega)) (by rw [hopen q (List.mem_of_getElem? hx)])) ?_   -- t131
        simp only [go_sem, hb0, hmade, hb1, hcs, hb2, hfr, hb3, htt, hb4, hx]
        refine hR _ _ (kq33 _ _ ?_); clear hR R; try clear kq33 kz33
        try simp only [go_sem, hb0, hmade, hb1, hcs, hb2, hfr, hb3, htt, hb4, hx]
        refine W_cond rfl (fun c9 => ?_) (fun c9 => ?_)
        · -- c9 true
          try simp only [nrm] at c9
          exfalso
          simp at c9
        · -- c9 false
          try simp only [nrm] at c9
          refine W_skip (kq32 _ _ ?_)
          refine W_region [4, 5, 7, 8, 9, 11, 15] fun R hR => ?_   -- r24
          simp only [go_sem, hb0, hmade, hb1, hcs, hb2, hfr, hb3, htt, hb4, hx]
          try simp (disch := omega) only [wrapI, wrapU]
          refine hR _ _ ?_; clear hR R
          try simp only [go_sem, hb0, hmade, hb1, hcs, hb2, hfr, hb3, htt, hb4, hx]
          refine ⟨j + 1, ?_, by (try simp only []); omega, ?_⟩
          · refine Weak.trans (Weak.cutX 2 1 (by omega) (by omega) hcl (by simp only [go_sem] <;> omega) (by simp only [go_sem] <;> omega)) ?_
            simp only [go_sem]
            exact Weak.eq (by first | rfl | (simp only [go_sem]; done) | (simp only [go_sem]; rfl) | (simp [go_sem]; done) | (simp [go_sem]; omega)) (by first | rfl | (simp only [go_sem]; done) | (simp [go_sem]; done))
          · try dsimp only
            exact hj'
      · -- c8 false
        try simp only [nrm] at c8
        refine W_exit ?_
        simp only [go_sem, hb0, hmade, hb1, hcs, hb2, hfr, hb3, htt, hb4]
        refine kq28 _ _ ?_
        refine W_seq fun kz34 kq34 => ?_
        refine W_region [8, 9, 11, 16, 17] fun R hR => ?_   -- r27
        simp only [go_sem, hb0, hmade, hb1, hcs, hb2, hfr, hb3, htt, hb4]
        refine GCall_of (PC.val (v' := .tuple [ints wy, I 0]) (bSquares_pc Y _ made ⟨fr, r, 0, 0, 1, 0⟩ vmade.okc (by show r.length < _; omega)) (by rw [squaresAns_of vck hbv, hwy]; rfl)) ?_   -- t137
        simp only [go_sem, hb0, hmade, hb1, hcs, hb2, hfr, hb3, htt, hb4]
        refine hR _ _ (kq34 _ _ ?_); clear hR R; try clear kq34 kz34
        try simp only [go_sem, hb0, hmade, hb1, hcs, hb2, hfr, hb3, htt, hb4]
        refine W_seq fun kz35 kq35 => ?_
        refine W_region [2] fun R hR => ?_   -- r28
        simp only [go_sem, hb0, hmade, hb1, hcs, hb2, hfr, hb3, htt, hb4, hw1, hwe, hwt, hlt]
        try simp (disch := omega) only [wrapI, wrapU]
        refine GCall_of (PC.val (v' := .bool true) (Has_pc Y _ m tt _ (by omega)) (by rw [hmt])) ?_   -- t162
        simp only [go_sem, hb0, hmade, hb1, hcs, hb2, hfr, hb3, htt, hb4, hw1, hwe, hwt, hlt]
        try simp (disch := omega) only [wrapI, wrapU]
        refine GCall_of (lawake_pc Y _) ?_   -- t165
        simp only [go_sem, hb0, hmade, hb1, hcs, hb2, hfr, hb3, htt, hb4, hw1, hwe, hwt, hlt]
        try simp (disch := omega) only [wrapI, wrapU]
        refine hR _ _ (kq35 _ _ ?_); clear hR R; try clear kq35 kz35
        try simp only [go_sem, hb0, hmade, hb1, hcs, hb2, hfr, hb3, htt, hb4]
        refine W_ret ?_
        simp only [go_sem, hb0, hmade, hb1, hcs, hb2, hfr, hb3, htt, hb4]
        refine ⟨.inr (by trivial), ?_⟩
        first | refine Fin_same hcl rfl (Wk_eq ?_ (by simp only [go_sem])) | refine Fin_self hcl rfl (Wk_eq ?_ (by simp only [go_sem]))
        try simp only [go_sem]
        all_goals
          first | rfl | (simp_all; done) | (simp_all; omega)
end Go.Proofs.Ytnpamcpoaklgeaa
namespace Go.Proofs.Ytnpamcpoaklgeaa
open Go Go.RowKit
theorem rdBandGoesArgs : All2 (fun t R => Rd Try.prog t R) Try.f11.params.toList [fun p => ∃ xs : List Int, p = ints xs ∧ xs.length * 8 ≤ 140737488351232] :=
  .cons rdInts .nil
set_option maxHeartbeats 4000000 in
theorem BandGoes_walk : ∀ qs, AllR [fun p => ∃ xs : List Int, p = ints xs ∧ xs.length * 8 ≤ 140737488351232] qs → ∃ σ', PC Try.prog noY 11 qs Sg.zero (.bool true) σ' := by
  intro qs hq
  obtain ⟨px0, qs, rfl, ⟨x0, hx0, sx0⟩, hq⟩ := allR_cons hq
  obtain rfl := allR_nil hq
  subst hx0
  exact ⟨_, BandGoes_pc noY _ x0 (by omega)⟩
theorem BandGoes_lifted (os : Os) (started : os.Started) (H : Type) (enc : TypeId × Value → H) :
    ReturnsInHanded {} Try.checked os 11 .any (Rows.bandGoesSpec.pre6 enc Try.prog Try.f11 Rows.bandGoesRow.domain false) (Rows.bandGoesSpec.post enc Try.prog Try.f11 false true false false) :=
  law_lifted (C := Try.checked) own started (by kernel_rfl) Try.func11 rfl laidOut (by kernel_rfl) rdBandGoesArgs rfl Try.underlying4
    (fun ds h => match ds, h with | [_], _ => rfl)
    (ChangeSpec.witness6 (enc := enc) (C := Try.checked) false ⟨#[], #[.slice none 0 0], []⟩ 8 (by kernel_rfl) (by kernel_rfl) (by kernel_rfl) (by kernel_rfl))
    BandGoes_walk
theorem BandGoes_holds : Rows.BandGoesSaid :=
  OpenClaim.holds_of_wide 11 Try.f11 rfl rfl rfl rfl rfl rfl rfl ⟨rfl, rfl, rfl, rfl, rfl⟩ rfl rfl rfl rfl rfl (by kernel_rfl) Try.func11 (by kernel_rfl)
    (of_decide_eq_true (by kernel_rfl)) (by unfold Func.isWrapper; first | (rw [if_pos (by decide +kernel)]; kernel_rfl) | (rw [if_neg (by decide +kernel)]; exact ⟨rfl, rfl⟩))
    (fun os started H enc _ => BandGoes_lifted os started H enc)
end Go.Proofs.Ytnpamcpoaklgeaa
