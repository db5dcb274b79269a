/-
  The law MarksTables: whatever comes in, it answers true and leaves what came in as it was.
  The law MarksTables, walked: standings.
  Walks: the chapter's examples checked.
  Nights made of numbers are nights that may be. The plain law.
  Walks: nights made of numbers (bateriakit).
  Walks: scales, marks, envelopes made of numbers (bateriakit).
  Walks: an order made of numbers (bateriakit).
  Walks: drums made of numbers, spans (bateriakit).
-/
import Derived.Test.YtgelnjmddabgpaaGreatPf
import Derived.CallsIn
import Derived.RangeFuncLeaves
import Derived.RangeFuncRecord
import Derived.OrdersIn
import Derived.Below
import Derived.Laws.World
import Derived.Laws.StructEq
import Derived.Laws.Append
import Derived.MapKept
import Derived.ProofKit
import Derived.Carry
import Derived.Handed
import Derived.ChangeCalls
import Derived.RangeFuncIn
import Derived.RangeFuncNested
import Derived.Test.YtgelnjmddabgpaaGreatProg
import Derived.KernelRfl
import Derived.IntWalk
import Derived.Test.YtgelnjmddabgpaaGreatRows
import Derived.Sort.OwnSortedInts
import Derived.Lib.SlicesCompact
import Derived.Shelf.Sort.Plain
import Derived.Shelf.Slices.In.SortNone
import Derived.Shelf.Small.Bits
import Derived.JoinedOf
set_option linter.unusedSimpArgs false
set_option linter.unusedVariables false
namespace Go.Proofs.YtgelnjmddabgpaaGreat
open Go Go.RowKit
set_option maxRecDepth 100000
def drumB : List Int → Int → Int
  | [], b => b
  | x :: r, b => drumB r (hitB (xorU b (IntKind.u64.wrap x)))
set_option maxHeartbeats 2000000 in
theorem DrumOf_pc (Y : YEnv) (σ : Sg) (nums : List Int) (hl : nums.length < 2 ^ 60) :
    PC Tryz.prog Y 11 [ints nums] σ (.ptr σ.store.length 0) (σ.ext [some [.int .u64 (drumB nums 2685821657736338717)]] []) := by
  refine PC_of_W Tryz.func11 rfl (by kernel_rfl) Tryz.ntmps11 (by simp) fun hcl hca => ?_
  refine W_seq fun kz1 kq1 => ?_
  refine W_region [0] fun R hR => ?_   -- r0
  simp only [go_sem]
  refine hR _ _ (kq1 _ _ ?_); clear hR R; try clear kq1 kz1
  try simp only [go_sem]
  refine W_seq fun kz2 kq2 => ?_
  refine W_region [0, 3] fun R hR => ?_   -- r1
  simp only [go_sem]
  refine hR _ _ (kq2 _ _ ?_); clear hR R; try clear kq2 kz2
  try simp only [go_sem]
  refine W_seq fun kz3 kq3 => ?_
  refine W_seq fun kz4 kq4 => ?_
  refine W_region [0, 3, 4] fun R hR => ?_   -- r2
  simp only [go_sem]
  refine hR _ _ (kq4 _ _ ?_); clear hR R; try clear kq4 kz4
  try simp only [go_sem]
  refine W_block ?_
  refine W_loopT (α := Nat × Int) (fun ⟨i, b⟩ => [(4, I i)]) (fun ⟨i, b⟩ => σ.ext [some [.int .u64 b]] []) (fun ⟨i, b⟩ => i ≤ nums.length ∧ drumB nums 2685821657736338717 = drumB (nums.drop i) b) (fun ⟨i, b⟩ => nums.length - i) ((0, 2685821657736338717)) rfl (by first | rfl | (simp only [go_sem]; done) | (simp only [go_sem]; rfl)) (⟨Nat.zero_le _, rfl⟩) ?_
  rintro ⟨i, b⟩ ⟨hi, hb⟩
  refine W_seq fun kz5 kq5 => ?_
  refine W_seq fun kz6 kq6 => ?_
  refine W_region [0, 3, 4, 10] fun R hR => ?_   -- r3
  simp only [go_sem]
  refine hR _ _ (kq6 _ _ ?_); clear hR R; try clear kq6 kz6
  try simp only [go_sem]
  refine W_cond rfl (fun c1 => ?_) (fun c1 => ?_)
  · -- c1 true
    try simp only [nrm] at c1
    have hi' : i < nums.length := by first | assumption | omega
    obtain ⟨x, hx⟩ : ∃ x, nums[i]? = some x := ⟨nums[i], by simp [hi']⟩
    have hdrop : nums.drop i = x :: nums.drop (i + 1) := by
      rw [List.drop_eq_getElem_cons hi']; congr 1; exact (List.getElem?_eq_some_iff.1 hx).2
    rw [hdrop] at hb
    simp only [drumB] at hb
    refine W_skip (kq5 _ _ ?_)
    refine W_seq fun kz7 kq7 => ?_
    refine W_block ?_
    refine W_seq fun kz8 kq8 => ?_
    refine W_draw [0, 3, 4] [0, 1, 2, 3, 4, 5, 6, 7, 8, 9, 10, 11, 12, 13] [] [[], [], [1], [1, 2], [1, 2, 3], [], [], [5, 6], [5, 6, 7], [5, 6, 7, 8], [1, 2, 3, 4, 5, 6, 7, 8, 9], [0, 1, 2, 3, 4, 5, 6, 7, 8, 9, 10], [0, 1, 2, 3, 4, 5, 6, 7, 8, 9, 10, 11], [0, 1, 2, 3, 4, 5, 6, 7, 8, 9, 10, 11, 12]] mixed (by kernel_rfl) fun R hR => ?_   -- r5
    simp only [go_sem, hx]
    try simp (disch := omega) only [wrapI, wrapU]
    try refine And.intro (by repeat' (first | refine And.intro ?_ ?_ | exact GOr_right (fun _ => by simp only [go_sem, hx]))) ?_
    refine hR _ _ (kq8 _ _ ?_); clear hR R; try clear kq8 kz8
    try simp only [go_sem, hx]
    refine W_region [0, 3, 4] fun R hR => ?_   -- r6
    simp only [go_sem, hx]
    refine GCall_of (hit_pc Y _ _ _ (Sg.get_ext0 _ _ _ _)) ?_   -- t27
    simp only [go_sem, hx]
    refine hR _ _ (kq7 _ _ ?_); clear hR R; try clear kq7 kz7
    try simp only [go_sem, hx]
    refine W_region [0, 3, 4] fun R hR => ?_   -- r4
    simp only [go_sem, hx]
    try simp (disch := omega) only [wrapI, wrapU]
    refine hR _ _ ?_; clear hR R
    try simp only [go_sem, hx]
    refine ⟨(i + 1, hitB (xorU b (IntKind.u64.wrap x))), ?_, by (try simp only []); omega, ?_⟩
    · exact Weak.eq (by rfl) (by simp only [xorU, go_sem]; simp (disch := omega) only [wrapU])
    · try dsimp only
      exact ⟨hi', hb⟩
  · -- c1 false
    try simp only [nrm] at c1
    have hdrop : nums.drop i = [] := List.drop_eq_nil_of_le (by omega)
    rw [hdrop] at hb
    simp only [drumB] at hb
    refine W_exit ?_
    simp only [go_sem]
    refine kq3 _ _ ?_
    refine W_seq fun kz9 kq9 => ?_
    refine W_region [2] fun R hR => ?_   -- r7
    simp only [go_sem]
    refine hR _ _ (kq9 _ _ ?_); clear hR R; try clear kq9 kz9
    try simp only [go_sem]
    refine W_ret ?_
    simp only [go_sem]
    refine ⟨.inr (by trivial), ?_⟩
    rw [hb]; exact Fin_ext 1 0 hcl rfl (Wk_eq rfl (by simp only [go_sem] <;> omega)) (by show CleanLs _ _ _ _; simp only [go_sem])
    try simp only [go_sem]
    all_goals
      skip
noncomputable def rare (n : Int) : D Bool := fun b => (decide ((roll n b).1 = 0), (roll n b).2)
set_option maxHeartbeats 2000000 in
theorem Rare_pc (Y : YEnv) (σ : Sg) (d : Nat) (b : Int) (hd : σ.store[d]? = some (some [.int .u64 b])) (n : Int) (hn : n < 2 ^ 62) :
    PC Tryz.prog Y 14 [.ptr d 0, I n] σ (.bool (rare n b).1) (σ.setVar d [.int .u64 (rare n b).2]) := by
  refine PC_of_W Tryz.func14 rfl (by kernel_rfl) Tryz.ntmps14 (by simp) fun hcl hca => ?_
  have hlt := lt_of_get hd
  refine W_seq fun kz1 kq1 => ?_
  refine W_region [0, 1] fun R hR => ?_   -- r0
  simp only [go_sem, ldS_at hd, stX_at hd, ldS_sv hlt, stX_sv hlt, sv_ext hlt, sv_ext_sv hlt]
  refine hR _ _ (kq1 _ _ ?_); clear hR R; try clear kq1 kz1
  try simp only [go_sem, ldS_at hd, stX_at hd, ldS_sv hlt, stX_sv hlt, sv_ext hlt, sv_ext_sv hlt]
  refine W_seq fun kz2 kq2 => ?_
  refine W_region [4] fun R hR => ?_   -- r1
  simp only [go_sem, ldS_at hd, stX_at hd, ldS_sv hlt, stX_sv hlt, sv_ext hlt, sv_ext_sv hlt]
  refine GCall_of (Roll_pc Y _ d b (by first | exact hd | exact sv_get hlt | exact get_svx hlt | exact get_extx hd) n hn) ?_   -- t7
  simp only [go_sem, ldS_at hd, stX_at hd, ldS_sv hlt, stX_sv hlt, sv_ext hlt, sv_ext_sv hlt]
  refine hR _ _ (kq2 _ _ ?_); clear hR R; try clear kq2 kz2
  try simp only [go_sem, ldS_at hd, stX_at hd, ldS_sv hlt, stX_sv hlt, sv_ext hlt, sv_ext_sv hlt]
  refine W_ret ?_
  simp only [go_sem, ldS_at hd, stX_at hd, ldS_sv hlt, stX_sv hlt, sv_ext hlt, sv_ext_sv hlt]
  refine ⟨.inr (by trivial), ?_⟩
  first | refine Fin_set hcl (by simp only [go_sem]) rfl (Wk_eq ?_ (by simp only [go_sem])) | refine Fin_set0 hcl (by simp only [go_sem]) rfl (Wk_eq ?_ (by simp only [go_sem]))
  try simp only [go_sem]
  all_goals
    congr 1
end Go.Proofs.YtgelnjmddabgpaaGreat
namespace Go.Proofs.YtgelnjmddabgpaaGreat
open Go Go.RowKit
set_option maxRecDepth 100000
/-- Two places exchanged. -/
def swapAt (l : List Int) (i k : Nat) : List Int := (l.set i ((l[k]?).getD 0)).set k ((l[i]?).getD 0)
theorem swapAt_len (l : List Int) (i k : Nat) : (swapAt l i k).length = l.length := by simp [swapAt]
theorem swapAt_perm {l : List Int} {i k : Nat} (hi : i < l.length) (hk : k < l.length) : (swapAt l i k).Perm l := by
  unfold swapAt
  rw [List.getElem?_eq_getElem hi, List.getElem?_eq_getElem hk]
  exact List.set_set_perm hi hk
noncomputable def orderA (n : Nat) : Nat → List Int → D (List Int)
  | 0, acc => dret acc
  | j + 1, acc => dbind (roll (((n - (j + 1) : Nat) : Int) + 1)) fun k => orderA n j (swapAt (acc ++ [((n - (j + 1) : Nat) : Int)]) (n - (j + 1)) k.toNat)
noncomputable def orderD (n : Nat) : D (List Int) := orderA n n []
theorem orderA_perm (n : Nat) : ∀ (j : Nat) (acc : List Int), j ≤ n → acc.Perm ((List.range (n - j)).map fun (i : Nat) => (i : Int)) → Holds (orderA n j acc) fun l => l.Perm ((List.range n).map fun (i : Nat) => (i : Int)) := by
  intro j
  induction j with
  | zero => intro acc _ h; exact .ret h
  | succ j ih =>
    intro acc hj h
    refine (roll_bd _).bind fun k hk => ih _ (by omega) ?_
    have hl : acc.length = n - (j + 1) := by rw [h.length_eq]; simp
    have hkl : k.toNat < (acc ++ [((n - (j + 1) : Nat) : Int)]).length := by simp; omega
    refine (swapAt_perm (by simp; omega) hkl).trans ?_
    have e : n - j = (n - (j + 1)) + 1 := by omega
    rw [e, List.range_succ, List.map_append]
    exact h.append_right _
theorem orderD_perm (n : Nat) : Holds (orderD n) fun l => l.Perm ((List.range n).map fun (i : Nat) => (i : Int)) := orderA_perm n n [] (Nat.le_refl _) (by simp)
theorem glI_of {l : List Int} {m : Nat} (h : l.length = m + 1) (n : Nat) : glI n l = .gsl (n + m) (m + 1) 1 := by
  cases l with
  | nil => simp at h
  | cons x l => simp only [List.length_cons] at h; simp only [glI]; rw [show l.length = m by omega]
theorem gsI_of {l : List Int} {m : Nat} (h : l.length = m + 1) : gsI l = List.replicate m none ++ [some (l.map I)] := by
  cases l with
  | nil => simp at h
  | cons x l => simp only [List.length_cons] at h; simp only [gsI]; rw [show l.length = m by omega]
theorem Weak.ungnilT {N : Nat} {lo : Nat × Nat} {E : Env} {σ : Sg} {t : Nat} (ht : E.get t = .gnil) : Weak N lo E σ (E.put (some t) (.isl [] .ro)) σ := by
  intro Ψ0 Ψ D a w hb le hr
  refine ⟨Ψ, le, hr.size, fun t' => ?_, hr.sg, hr.dsub, hr.defs⟩
  rw [get_put1]
  split
  · rename_i e
    subst e
    have hv := hr.env t'
    rw [ht] at hv
    exact VR.of_gnil hv
  · exact hr.env t'
/-- Read at last. -/
theorem Weak.readI {N : Nat} {lo : Nat × Nat} {E : Env} {σ : Sg} {t : Nat} {A : List (Option (List PV))} {rm : List Nat} {ys : List LState} {out : List Int} (ht : E.get t = glI (σ.store.length + A.length) out) :
    Weak N lo E (σ.ext (A ++ gsI out) rm ys) (E.put (some t) (ints out)) (σ.ext (A ++ List.replicate out.length none) rm ys) := by
  cases out with
  | nil =>
    have h := Weak.ungnilT (N := N) (lo := lo) (E := E) (σ := σ.ext A rm ys) (t := t) ht
    simp only [gsI, List.append_nil, List.length_nil, List.replicate_zero]
    exact h
  | cons z zs =>
    have h := Weak.freeze (N := N) (lo := lo) (E := E) (σ := σ.ext (A ++ gsI (z :: zs)) rm ys) (t := t) (id := σ.store.length + (A.length + zs.length)) (len := zs.length + 1) (es := 1) (l := (z :: zs).map I) (by rw [ht]; simp only [glI, Nat.add_assoc]) (by rw [Sg.get_ext, rowC_ints]; exact gsI_get) (by simp) (fun q hq => by obtain ⟨x, _, rfl⟩ := List.mem_map.1 hq; rfl)
    rw [Sg.drop_ext, gsI_set] at h
    have e : List.replicate (z :: zs).length (none : Option (List PV)) = List.replicate zs.length none ++ [none] := by simp [List.replicate_succ']
    rw [e]
    exact h
set_option maxHeartbeats 4000000 in
theorem Order_pc (Y : YEnv) (σ : Sg) (d : Nat) (b : Int) (hd : σ.store[d]? = some (some [.int .u64 b])) (n : Nat) (hn : n < 2 ^ 40) :
    PC Tryz.prog Y 54 [.ptr d 0, I n] σ (ints (orderD n b).1) (σ.setVar d [.int .u64 (orderD n b).2]) := by
  refine PC_of_W Tryz.func54 rfl (by kernel_rfl) Tryz.ntmps54 (by simp) fun hcl hca => ?_
  have hlt := lt_of_get hd
  obtain ⟨res, hres⟩ : ∃ r, orderD n b = r := ⟨_, rfl⟩
  rw [hres]
  refine W_seq fun kz1 kq1 => ?_
  refine W_region [0, 1] fun R hR => ?_   -- r0
  simp only [go_sem, ldS_at hd, stX_at hd, ldS_sv hlt, stX_sv hlt, sv_ext hlt, sv_ext_sv hlt]
  refine hR _ _ (kq1 _ _ ?_); clear hR R; try clear kq1 kz1
  try simp only [go_sem, ldS_at hd, stX_at hd, ldS_sv hlt, stX_sv hlt, sv_ext hlt, sv_ext_sv hlt]
  refine W_seq fun kz2 kq2 => ?_
  refine W_region [0, 1, 5] fun R hR => ?_   -- r1
  simp only [go_sem, ldS_at hd, stX_at hd, ldS_sv hlt, stX_sv hlt, sv_ext hlt, sv_ext_sv hlt]
  refine hR _ _ (kq2 _ _ ?_); clear hR R; try clear kq2 kz2
  try simp only [go_sem, ldS_at hd, stX_at hd, ldS_sv hlt, stX_sv hlt, sv_ext hlt, sv_ext_sv hlt]
  refine W_seq fun kz3 kq3 => ?_
  refine W_seq fun kz4 kq4 => ?_
  refine W_region [0, 1, 5, 6] fun R hR => ?_   -- r2
  simp only [go_sem, ldS_at hd, stX_at hd, ldS_sv hlt, stX_sv hlt, sv_ext hlt, sv_ext_sv hlt]
  refine hR _ _ (kq4 _ _ ?_); clear hR R; try clear kq4 kz4
  try simp only [go_sem, ldS_at hd, stX_at hd, ldS_sv hlt, stX_sv hlt, sv_ext hlt, sv_ext_sv hlt]
  refine W_block ?_
  refine W_weak (Weak.gnil (t := 5) rfl) ?_
  refine W_weak (Weak.keep [0, 1, 5, 6]) ?_
  simp only [go_sem]
  refine W_loopT (α := Nat × (List Int) × Int) (fun ⟨i, acc, b⟩ => [(5, glI σ.store.length acc), (6, I i)]) (fun ⟨i, acc, b⟩ => (σ.setVar d [.int .u64 b]).ext (gsI acc) []) (fun ⟨i, acc, b⟩ => i ≤ n ∧ acc.length = i ∧ res = orderA n (n - i) acc b) (fun ⟨i, acc, b⟩ => n - i) ((0, [], b)) rfl (by simp only [gsI, go_sem, sv_self hd]) (⟨Nat.zero_le _, rfl, hres.symm⟩) ?_
  rintro ⟨i, acc, b⟩ ⟨hi, hal, hinv⟩
  refine W_seq fun kz5 kq5 => ?_
  refine W_seq fun kz6 kq6 => ?_
  refine W_region [0, 1, 5, 6, 10] fun R hR => ?_   -- r3
  simp only [go_sem, ldS_at hd, stX_at hd, ldS_sv hlt, stX_sv hlt, sv_ext hlt, sv_ext_sv hlt]
  refine hR _ _ (kq6 _ _ ?_); clear hR R; try clear kq6 kz6
  try simp only [go_sem, ldS_at hd, stX_at hd, ldS_sv hlt, stX_sv hlt, sv_ext hlt, sv_ext_sv hlt]
  refine W_cond rfl (fun c1 => ?_) (fun c1 => ?_)
  · -- c1 true
    try simp only [nrm] at c1
    have hin : i < n := by first | omega | (simp at c1; omega)
    rw [show n - i = (n - (i + 1)) + 1 by omega] at hinv
    simp only [orderA, dbind] at hinv
    rw [show (n - (n - (i + 1) + 1) : Nat) = i by omega] at hinv
    have hkb := roll_bd ((i : Int) + 1) b
    obtain ⟨kz, hkz⟩ : ∃ z, (roll ((i : Int) + 1) b).1 = z := ⟨_, rfl⟩
    obtain ⟨b1, hb1⟩ : ∃ z, (roll ((i : Int) + 1) b).2 = z := ⟨_, rfl⟩
    simp only [hkz] at hkb
    obtain ⟨k, rfl⟩ : ∃ k : Nat, kz = k := ⟨kz.toNat, by omega⟩
    rw [hkz, hb1, Int.toNat_natCast] at hinv
    have hki : k < i + 1 := by omega
    have hL : (σ.setVar d [.int .u64 b1]).store.length = σ.store.length := sv_len
    have happ := appG_gl (σ := σ.setVar d [.int .u64 b1]) (A := []) (rm := []) (ys := []) (out := acc) (i : Int) (by omega)
    have hal2 : (acc ++ [(i : Int)]).length = i + 1 := by simp [hal]
    rw [glI_of hal2, gsI_of hal2] at happ
    obtain ⟨ac2, hac2⟩ : ∃ z, acc ++ [(i : Int)] = z := ⟨_, rfl⟩
    rw [hac2] at happ hal2 hinv
    simp only [go_sem, List.length_nil, hL] at happ
    obtain ⟨x, hx⟩ : ∃ z, ac2[i]? = some z := ⟨ac2[i]'(by omega), by simp⟩
    obtain ⟨y, hy⟩ : ∃ z, ac2[k]? = some z := ⟨ac2[k]'(by omega), by simp⟩
    have hsw : swapAt ac2 i k = (ac2.set i y).set k x := by simp only [swapAt, hx, hy, Option.getD_some]
    have hI1 : (i : Int) < ((i + 1 : Nat) : Int) := by omega
    have hI2 : (k : Int) < ((i + 1 : Nat) : Int) := by omega
    have hg1 : ∀ c : Option (List PV), (List.replicate i none ++ [c])[i]? = some c := fun c => by rw [List.getElem?_append_right (by simp)]; simp
    have hg2 : ∀ c c2 : Option (List PV), (List.replicate i none ++ [c]).set i c2 = List.replicate i none ++ [c2] := fun c c2 => by rw [List.set_append_right _ _ (by simp)]; simp
    have hm1 : i + 1 ≤ ac2.length := by omega
    have hm2 : k + 1 ≤ ac2.length := by omega
    have hsl : (swapAt ac2 i k).length = i + 1 := by rw [swapAt_len]; exact hal2
    refine W_skip (kq5 _ _ ?_)
    refine W_seq fun kz7 kq7 => ?_
    refine W_block ?_
    refine W_seq fun kz8 kq8 => ?_
    refine W_region [0, 1, 5, 6, 7] fun R hR => ?_   -- r5
    simp only [go_sem, ldS_at hd, stX_at hd, ldS_sv hlt, stX_sv hlt, sv_ext hlt, sv_ext_sv hlt, hkz, hb1, hL]
    try simp (disch := omega) only [wrapI, wrapU]
    refine GCall_of (Roll_pc Y _ d b (by first | exact hd | exact sv_get hlt | exact get_svx hlt | exact get_extx hd) ((i : Int) + 1) (by omega)) ?_   -- t16
    simp only [go_sem, ldS_at hd, stX_at hd, ldS_sv hlt, stX_sv hlt, sv_ext hlt, sv_ext_sv hlt, hkz, hb1, hL]
    try simp (disch := omega) only [wrapI, wrapU]
    refine hR _ _ (kq8 _ _ ?_); clear hR R; try clear kq8 kz8
    try simp only [go_sem, ldS_at hd, stX_at hd, ldS_sv hlt, stX_sv hlt, sv_ext hlt, sv_ext_sv hlt, hkz, hb1, hL]
    refine W_seq fun kz9 kq9 => ?_
    refine W_region [0, 1, 5, 6, 7] fun R hR => ?_   -- r6
    simp only [go_sem, ldS_at hd, stX_at hd, ldS_sv hlt, stX_sv hlt, sv_ext hlt, sv_ext_sv hlt, hkz, hb1, hL, happ]
    try simp (disch := first | omega | (simp only [go_sem] <;> omega)) only [wrapI, wrapU, appX_exact, appX_tok]
    try simp only [go_sem, ldS_at hd, stX_at hd, ldS_sv hlt, stX_sv hlt, sv_ext hlt, sv_ext_sv hlt, hkz, hb1, hL, happ]
    refine hR _ _ (kq9 _ _ ?_); clear hR R; try clear kq9 kz9
    try simp only [go_sem, ldS_at hd, stX_at hd, ldS_sv hlt, stX_sv hlt, sv_ext hlt, sv_ext_sv hlt, hkz, hb1, hL]
    refine W_draw [0, 1, 5, 6] [0, 1, 2, 3, 4, 5, 6, 7, 8, 9, 10, 11, 12, 13, 14, 15] [(2, 15), (3, 15)] [[], [], [], [], [], [], [4, 5], [4, 5, 6], [], [], [8, 9], [8, 9, 10], [0, 1, 4, 5, 6, 7, 8, 9, 10, 11], [0, 1, 4, 5, 6, 7, 8, 9, 10, 11, 12], [0, 1, 2, 3, 4, 5, 6, 7, 8, 9, 10, 11, 12, 13], [0, 1, 2, 3, 4, 5, 6, 7, 8, 9, 10, 11, 12, 13, 14]] mixed (by kernel_rfl) fun R hR => ?_   -- r7
    simp only [go_sem, ldS_at hd, stX_at hd, ldS_sv hlt, stX_sv hlt, sv_ext hlt, sv_ext_sv hlt, hkz, hb1, hL, hI1, hI2, iaM_nat (Int.ofNat_lt.1 hI1), iaM_nat (Int.ofNat_lt.1 hI2), Nat.mul_one, Nat.zero_add, hg1, hg2, hx, hy, hm1, hm2, List.getElem?_map, List.length_set]
    try refine And.intro (by repeat' (first | refine And.intro ?_ ?_ | exact GOr_right (fun _ => by simp only [go_sem, ldS_at hd, stX_at hd, ldS_sv hlt, stX_sv hlt, sv_ext hlt, sv_ext_sv hlt, hkz, hb1, hL, hI1, hI2, iaM_nat (Int.ofNat_lt.1 hI1), iaM_nat (Int.ofNat_lt.1 hI2), Nat.mul_one, Nat.zero_add, hg1, hg2, hx, hy, hm1, hm2, List.getElem?_map, List.length_set]))) ?_
    refine hR _ _ (kq7 _ _ ?_); clear hR R; try clear kq7 kz7
    try simp only [go_sem, ldS_at hd, stX_at hd, ldS_sv hlt, stX_sv hlt, sv_ext hlt, sv_ext_sv hlt, hkz, hb1, hL]
    refine W_region [0, 1, 5, 6] fun R hR => ?_   -- r4
    simp only [go_sem, ldS_at hd, stX_at hd, ldS_sv hlt, stX_sv hlt, sv_ext hlt, sv_ext_sv hlt, hkz, hb1, hL]
    try simp (disch := omega) only [wrapI, wrapU]
    refine hR _ _ ?_; clear hR R
    try simp only [go_sem, ldS_at hd, stX_at hd, ldS_sv hlt, stX_sv hlt, sv_ext hlt, sv_ext_sv hlt, hkz, hb1, hL]
    refine ⟨(i + 1, swapAt ac2 i k, b1), ?_, by (try simp only []); omega, ?_⟩
    · refine Weak.eq ?_ ?_
      · simp only [go_sem, glI_of hsl]
        first | done | rfl | simp
      · rw [gsI_of hsl, hsw]
    · try dsimp only
      exact ⟨by omega, hsl, by rw [hinv]⟩
  · -- c1 false
    try simp only [nrm] at c1
    have hie : n = i := by first | omega | (simp at c1; omega)
    subst hie
    rw [Nat.sub_self] at hinv
    simp only [orderA, dret] at hinv
    refine W_exit ?_
    simp only [go_sem, ldS_at hd, stX_at hd, ldS_sv hlt, stX_sv hlt, sv_ext hlt, sv_ext_sv hlt]
    refine kq3 _ _ ?_
    refine W_seq fun kz10 kq10 => ?_
    refine W_weak (Weak.readI (t := 5) (A := []) (out := acc) (by simp only [go_sem, sv_len])) ?_
    refine W_weak (Weak.keep [5]) ?_
    simp only [go_sem]
    refine W_region [4] fun R hR => ?_   -- r8
    simp only [go_sem, ldS_at hd, stX_at hd, ldS_sv hlt, stX_sv hlt, sv_ext hlt, sv_ext_sv hlt]
    refine hR _ _ (kq10 _ _ ?_); clear hR R; try clear kq10 kz10
    try simp only [go_sem, ldS_at hd, stX_at hd, ldS_sv hlt, stX_sv hlt, sv_ext hlt, sv_ext_sv hlt]
    refine W_ret ?_
    simp only [go_sem, ldS_at hd, stX_at hd, ldS_sv hlt, stX_sv hlt, sv_ext hlt, sv_ext_sv hlt]
    refine ⟨.inr (by trivial), ?_⟩
    rw [hinv]; refine Fin_set hcl (by simp only [go_sem]) rfl (Wk_eq rfl ?_)
    try simp only [go_sem]
    all_goals
      simp only [go_sem]
end Go.Proofs.YtgelnjmddabgpaaGreat
namespace Go.Proofs.YtgelnjmddabgpaaGreat
open Go Go.RowKit
set_option maxRecDepth 100000
theorem mem2 {a b r : Int} (h : r ∈ [a, b]) : r = a ∨ r = b := by simpa using h
theorem mem3 {a b c r : Int} (h : r ∈ [a, b, c]) : r = a ∨ r = b ∨ r = c := by simpa using h
noncomputable def scaleD (n : Int) : D Scale := dbind (mid 1 n) fun a => dbind (mid 1 3) fun mt => dbind (mid 1 3) fun jd => dbind (anyOf [0, 70, 98]) fun lo => dbind (roll jd) fun dr => dbind (anyOf [2, 30]) fun e => dbind (mid lo (min 100 (lo + e))) fun hi => dbind (orderD mt.toNat) fun od => dret ⟨a, mt, jd, dr, lo, hi, od⟩
theorem chkOrd_of {m : Int} : ∀ {l p : List Int}, (∀ x, x ∈ l → 0 ≤ x ∧ x ≤ m - 1) → l.Nodup → (∀ x, x ∈ l → x ∉ p) → chkOrd m p l = 0 := by
  intro l
  induction l with
  | nil => intro p _ _ _; rfl
  | cons n l ih =>
    intro p h1 h2 h3
    obtain ⟨a1, a2⟩ := List.nodup_cons.1 h2
    have hn := h1 n (by simp)
    have hin : inR n 0 (m - 1) = true := by rw [inR_true]; exact hn
    have hh : has p n = false := by
      cases h : has p n with
      | false => rfl
      | true => exact absurd (has_iff.1 h) (h3 n (by simp))
    simp only [chkOrd, hin, hh]
    refine ih (fun x hx => h1 x (by simp [hx])) a2 (fun x hx hp => ?_)
    rcases List.mem_append.1 hp with hp | hp
    · exact h3 x (by simp [hx]) hp
    · simp only [List.mem_singleton] at hp
      subst hp
      exact a1 hx
theorem nodup_range (n : Nat) : ((List.range n).map fun (i : Nat) => (i : Int)).Nodup := by
  rw [List.nodup_iff_pairwise_ne, List.pairwise_map]
  refine List.Pairwise.imp ?_ (List.nodup_range (n := n))
  intro a b h e
  exact h (by omega)
theorem order_ok {mt : Int} {od : List Int} (h : od.Perm ((List.range mt.toNat).map fun (i : Nat) => (i : Int))) : chkOrd mt [] od = 0 := by
  refine chkOrd_of (fun x hx => ?_) (h.nodup_iff.2 (nodup_range _)) (fun x _ hx => by cases hx)
  obtain ⟨i, hi, rfl⟩ := List.mem_map.1 (h.mem_iff.1 hx)
  have := List.mem_range.1 hi
  omega
theorem scaleD_ok (n : Int) (h1 : 1 ≤ n) (h2 : n ≤ 8) : Holds (scaleD n) fun s => chkSc s = 0 ∧ s.schools ≤ n ∧ s.matters ≤ 3 ∧ s.judges ≤ 3 := by
  unfold scaleD
  refine (mid_bd 1 n h1).bind fun a ha => (mid_bd 1 3 (by omega)).bind fun mt hmt => (mid_bd 1 3 (by omega)).bind fun jd hjd => (anyOf_mem [0, 70, 98] (by simp)).bind fun lo hlo => (roll_bd jd).bind fun dr hdr => (anyOf_mem [2, 30] (by simp)).bind fun e he => ?_
  have hlo' : 0 ≤ lo ∧ lo ≤ 98 := by rcases mem3 hlo with h | h | h <;> omega
  have he' : 2 ≤ e ∧ e ≤ 30 := by rcases mem2 he with h | h <;> omega
  refine (mid_bd lo (min 100 (lo + e)) (by omega)).bind fun hi hhi => (orderD_perm mt.toNat).bind fun od hod => .ret ⟨?_, by simp only []; omega, by simp only []; omega, by simp only []; omega⟩
  have hl : od.length = mt.toNat := by rw [hod.length_eq]; simp
  have hr : scRange ⟨a, mt, jd, dr, lo, hi, od⟩ = true := by
    simp only [scRange, Bool.and_eq_true, inR_true]
    omega
  unfold chkSc
  rw [hr]
  simp only [Bool.not_true, Bool.false_eq_true, if_false]
  rw [if_neg (by omega), if_neg (by omega)]
  exact order_ok hod
noncomputable def marksC (s : Scale) : Nat → List Int → D (List Int)
  | 0, acc => dret acc
  | k + 1, acc => dbind (mid s.low s.high) fun m => dbind (anyOf [s.low, s.high, m]) fun x => marksC s k (acc ++ [x])
noncomputable def marksD (s : Scale) : D (List Int) := marksC s s.schools.toNat []
theorem marksC_ok {s : Scale} (h : s.low ≤ s.high) : ∀ (k : Nat) (acc : List Int), (∀ x, x ∈ acc → s.low ≤ x ∧ x ≤ s.high) → Holds (marksC s k acc) fun l => l.length = acc.length + k ∧ ∀ x, x ∈ l → s.low ≤ x ∧ x ≤ s.high := by
  intro k
  induction k with
  | zero => intro acc ha; exact .ret ⟨rfl, ha⟩
  | succ k ih =>
    intro acc ha
    refine (mid_bd s.low s.high h).bind fun m hm => (anyOf_mem [s.low, s.high, m] (by simp)).bind fun x hx => (ih (acc ++ [x]) fun y hy => ?_).mono fun l hl => ⟨by rw [hl.1]; simp; omega, hl.2⟩
    rcases List.mem_append.1 hy with hy | hy
    · exact ha y hy
    · simp only [List.mem_singleton] at hy
      subst hy
      rcases mem3 hx with h | h | h <;> omega
theorem marksD_ok {s : Scale} (hv : s.V) : Holds (marksD s) fun l => (l.length : Int) = s.schools ∧ ∀ x, x ∈ l → s.low ≤ x ∧ x ≤ s.high := by
  have q := hv.sc
  exact (marksC_ok hv.lh s.schools.toNat [] (fun x hx => by cases hx)).mono fun l hl => ⟨by rw [hl.1]; simp; omega, hl.2⟩
def sealedE (s : Scale) (m j : Int) (l : List Int) : Envl := ⟨m, j, l, (sealAns s (m, j) l).1⟩
set_option maxHeartbeats 8000000 in
theorem ScaleOf_pc (Y : YEnv) (σ : Sg) (d : Nat) (b : Int) (hd : σ.store[d]? = some (some [.int .u64 b])) (n : Int) (h1 : 1 ≤ n) (h2 : n ≤ 8) :
    PC Tryz.prog Y 12 [.ptr d 0, I n] σ (scPV (scaleD n b).1) (σ.setVar d [.int .u64 (scaleD n b).2]) := by
  refine PC_of_W Tryz.func12 rfl (by kernel_rfl) Tryz.ntmps12 (by simp) fun hcl hca => ?_
  have hlt := lt_of_get hd
  obtain ⟨a, ha⟩ : ∃ zz, (mid 1 n b).1 = zz := ⟨_, rfl⟩
  obtain ⟨b1, hb1⟩ : ∃ zz, (mid 1 n b).2 = zz := ⟨_, rfl⟩
  have da := mid_bd 1 n h1 b
  simp only [ha] at da
  obtain ⟨mt, hmt⟩ : ∃ zz, (mid 1 3 b1).1 = zz := ⟨_, rfl⟩
  obtain ⟨b2, hb2⟩ : ∃ zz, (mid 1 3 b1).2 = zz := ⟨_, rfl⟩
  have dmt := mid_bd 1 3 (by omega) b1
  simp only [hmt] at dmt
  obtain ⟨jd, hjd⟩ : ∃ zz, (mid 1 3 b2).1 = zz := ⟨_, rfl⟩
  obtain ⟨b3, hb3⟩ : ∃ zz, (mid 1 3 b2).2 = zz := ⟨_, rfl⟩
  have djd := mid_bd 1 3 (by omega) b2
  simp only [hjd] at djd
  obtain ⟨lo, hlo⟩ : ∃ zz, (anyOf [0, 70, 98] b3).1 = zz := ⟨_, rfl⟩
  obtain ⟨b4, hb4⟩ : ∃ zz, (anyOf [0, 70, 98] b3).2 = zz := ⟨_, rfl⟩
  have dlo := anyOf_mem [0, 70, 98] (by simp) b3
  simp only [hlo] at dlo
  obtain ⟨dr, hdr⟩ : ∃ zz, (roll jd b4).1 = zz := ⟨_, rfl⟩
  obtain ⟨b5, hb5⟩ : ∃ zz, (roll jd b4).2 = zz := ⟨_, rfl⟩
  have ddr := roll_bd jd b4
  simp only [hdr] at ddr
  obtain ⟨e, he⟩ : ∃ zz, (anyOf [2, 30] b5).1 = zz := ⟨_, rfl⟩
  obtain ⟨b6, hb6⟩ : ∃ zz, (anyOf [2, 30] b5).2 = zz := ⟨_, rfl⟩
  have de := anyOf_mem [2, 30] (by simp) b5
  simp only [he] at de
  have hlo' : 0 ≤ lo ∧ lo ≤ 98 := by rcases mem3 dlo with h | h | h <;> omega
  have he' : 2 ≤ e ∧ e ≤ 30 := by rcases mem2 de with h | h <;> omega
  obtain ⟨mtn, hmtn⟩ : ∃ z : Nat, mt = z := ⟨mt.toNat, by omega⟩
  subst hmtn
  obtain ⟨hi, hhi⟩ : ∃ zz, (mid lo (min 100 (lo + e)) b6).1 = zz := ⟨_, rfl⟩
  obtain ⟨b7, hb7⟩ : ∃ zz, (mid lo (min 100 (lo + e)) b6).2 = zz := ⟨_, rfl⟩
  have dhi := mid_bd lo (min 100 (lo + e)) (by omega) b6
  simp only [hhi] at dhi
  obtain ⟨od, hod⟩ : ∃ zz, (orderD mtn b7).1 = zz := ⟨_, rfl⟩
  obtain ⟨b8, hb8⟩ : ∃ zz, (orderD mtn b7).2 = zz := ⟨_, rfl⟩
  have dod := orderD_perm mtn b7
  simp only [hod] at dod
  have hmin : (if (100 : Int) ≤ lo + e then 100 else lo + e) = min 100 (lo + e) := by split <;> omega
  have hres : scaleD n b = (⟨a, mtn, jd, dr, lo, hi, od⟩, b8) := by
    simp only [scaleD, dbind, ha, hb1, hmt, hb2, hjd, hb3, hlo, hb4, hdr, hb5, he, hb6, hhi, hb7, Int.toNat_natCast, hod, hb8, dret]
  rw [hres]
  refine W_seq fun kz1 kq1 => ?_
  refine W_region [0, 1, 4] fun R hR => ?_   -- r0
  simp only [go_sem, ldS_at hd, stX_at hd, ldS_sv hlt, stX_sv hlt, sv_ext hlt, sv_ext_sv hlt, ha, hb1, hmt, hb2, hjd, hb3, hlo, hb4, hdr, hb5, he, hb6, hhi, hb7, hod, hb8]
  refine hR _ _ (kq1 _ _ ?_); clear hR R; try clear kq1 kz1
  try simp only [go_sem, ldS_at hd, stX_at hd, ldS_sv hlt, stX_sv hlt, sv_ext hlt, sv_ext_sv hlt, ha, hb1, hmt, hb2, hjd, hb3, hlo, hb4, hdr, hb5, he, hb6, hhi, hb7, hod, hb8]
  refine W_seq fun kz2 kq2 => ?_
  refine W_region [0, 4, 5] fun R hR => ?_   -- r1
  simp only [go_sem, ldS_at hd, stX_at hd, ldS_sv hlt, stX_sv hlt, sv_ext hlt, sv_ext_sv hlt, ha, hb1, hmt, hb2, hjd, hb3, hlo, hb4, hdr, hb5, he, hb6, hhi, hb7, hod, hb8]
  refine GCall_of (Mid_pc Y _ d b (by first | exact hd | exact sv_get hlt | exact get_svx hlt | exact get_extx hd) 1 n (by omega) (by omega) (by omega) (by omega)) ?_   -- t8
  simp only [go_sem, ldS_at hd, stX_at hd, ldS_sv hlt, stX_sv hlt, sv_ext hlt, sv_ext_sv hlt, ha, hb1, hmt, hb2, hjd, hb3, hlo, hb4, hdr, hb5, he, hb6, hhi, hb7, hod, hb8]
  refine GCall_of (Mid_pc Y _ d b1 (by first | exact hd | exact sv_get hlt | exact get_svx hlt | exact get_extx hd) 1 3 (by omega) (by omega) (by omega) (by omega)) ?_   -- t10
  simp only [go_sem, ldS_at hd, stX_at hd, ldS_sv hlt, stX_sv hlt, sv_ext hlt, sv_ext_sv hlt, ha, hb1, hmt, hb2, hjd, hb3, hlo, hb4, hdr, hb5, he, hb6, hhi, hb7, hod, hb8]
  refine GCall_of (Mid_pc Y _ d b2 (by first | exact hd | exact sv_get hlt | exact get_svx hlt | exact get_extx hd) 1 3 (by omega) (by omega) (by omega) (by omega)) ?_   -- t12
  simp only [go_sem, ldS_at hd, stX_at hd, ldS_sv hlt, stX_sv hlt, sv_ext hlt, sv_ext_sv hlt, ha, hb1, hmt, hb2, hjd, hb3, hlo, hb4, hdr, hb5, he, hb6, hhi, hb7, hod, hb8]
  refine GCall_of (Any_pc Y _ d b3 (by first | exact hd | exact sv_get hlt | exact get_svx hlt | exact get_extx hd) [0, 70, 98] (by simp) (by simp)) ?_   -- t15
  simp only [go_sem, ldS_at hd, stX_at hd, ldS_sv hlt, stX_sv hlt, sv_ext hlt, sv_ext_sv hlt, ha, hb1, hmt, hb2, hjd, hb3, hlo, hb4, hdr, hb5, he, hb6, hhi, hb7, hod, hb8]
  refine hR _ _ (kq2 _ _ ?_); clear hR R; try clear kq2 kz2
  try simp only [go_sem, ldS_at hd, stX_at hd, ldS_sv hlt, stX_sv hlt, sv_ext hlt, sv_ext_sv hlt, ha, hb1, hmt, hb2, hjd, hb3, hlo, hb4, hdr, hb5, he, hb6, hhi, hb7, hod, hb8]
  refine W_seq fun kz3 kq3 => ?_
  have hmin2 : min (100 : Int) (lo + e) = min 100 (lo + e) := rfl
  refine W_draw [4, 5] [0, 1, 2, 3, 4, 5, 6, 7, 8, 9, 10, 11, 12, 13, 14, 15, 16, 17, 18, 19, 20, 21, 22, 23, 24] [(4, 3), (4, 14), (5, 3), (5, 14), (6, 3), (6, 14), (7, 3), (7, 14), (8, 3), (8, 14), (9, 3), (10, 3), (15, 3), (15, 11), (15, 14), (16, 3), (16, 11), (16, 14), (17, 3), (17, 11), (17, 14), (19, 11), (19, 14), (19, 18)] [[], [], [1], [0, 1, 2], [], [], [5], [], [7], [], [], [0, 1, 2, 3, 9, 10], [0, 1, 2, 3, 7, 8, 9, 10, 11], [0, 1, 2, 3, 7, 8, 9, 10, 11, 12], [0, 1, 2, 3, 4, 5, 6, 7, 8, 9, 10, 11, 12, 13], [], [], [16], [0, 1, 2, 3, 4, 5, 6, 7, 8, 9, 10, 11, 12, 13, 14, 15, 16, 17], [0, 1, 2, 3, 5, 6, 7, 8, 16, 17], [0, 1, 2, 3, 4, 5, 6, 7, 8, 9, 10, 11, 12, 13, 14, 15, 16, 17, 18, 19], [0, 1, 2, 3, 4, 5, 6, 7, 8, 9, 10, 11, 12, 13, 14, 15, 16, 17, 18, 19, 20], [0, 1, 2, 3, 4, 5, 6, 7, 8, 9, 10, 11, 12, 13, 14, 15, 16, 17, 18, 19, 20, 21], [0, 1, 2, 3, 4, 5, 6, 7, 8, 9, 10, 11, 12, 13, 14, 15, 16, 17, 18, 19, 20, 21, 22], [0, 1, 2, 3, 4, 5, 6, 7, 8, 9, 10, 11, 12, 13, 14, 15, 16, 17, 18, 19, 20, 21, 22, 23]] mixed (by kernel_rfl) fun R hR => ?_   -- r2
  simp only [go_sem, ldS_at hd, stX_at hd, ldS_sv hlt, stX_sv hlt, sv_ext hlt, sv_ext_sv hlt, ha, hb1, hmt, hb2, hjd, hb3, hlo, hb4, hdr, hb5, he, hb6, hhi, hb7, hod, hb8]
  refine GCall_of (Roll_pc Y _ d b4 (by first | exact hd | exact sv_get hlt | exact get_svx hlt | exact get_extx hd) jd (by omega)) ?_   -- t20
  simp only [go_sem, ldS_at hd, stX_at hd, ldS_sv hlt, stX_sv hlt, sv_ext hlt, sv_ext_sv hlt, ha, hb1, hmt, hb2, hjd, hb3, hlo, hb4, hdr, hb5, he, hb6, hhi, hb7, hod, hb8]
  refine GCall_of (Any_pc Y _ d b5 (by first | exact hd | exact sv_get hlt | exact get_svx hlt | exact get_extx hd) [2, 30] (by simp) (by simp)) ?_   -- t28
  simp only [go_sem, ldS_at hd, stX_at hd, ldS_sv hlt, stX_sv hlt, sv_ext hlt, sv_ext_sv hlt, ha, hb1, hmt, hb2, hjd, hb3, hlo, hb4, hdr, hb5, he, hb6, hhi, hb7, hod, hb8]
  try simp (disch := omega) only [wrapI]
  try simp only [hmin, hmin2]
  try simp (disch := omega) only [wrapI, wrapU]
  refine GCall_of (Mid_pc Y _ d b6 (by first | exact hd | exact sv_get hlt | exact get_svx hlt | exact get_extx hd) lo (min 100 (lo + e)) (by omega) (by omega) (by omega) (by omega)) ?_   -- t31
  simp only [go_sem, ldS_at hd, stX_at hd, ldS_sv hlt, stX_sv hlt, sv_ext hlt, sv_ext_sv hlt, ha, hb1, hmt, hb2, hjd, hb3, hlo, hb4, hdr, hb5, he, hb6, hhi, hb7, hod, hb8]
  try simp (disch := omega) only [wrapI, wrapU]
  refine GCall_of (Order_pc Y _ d b7 (by first | exact hd | exact sv_get hlt | exact get_svx hlt | exact get_extx hd) mtn (by omega)) ?_   -- t35
  simp only [go_sem, ldS_at hd, stX_at hd, ldS_sv hlt, stX_sv hlt, sv_ext hlt, sv_ext_sv hlt, ha, hb1, hmt, hb2, hjd, hb3, hlo, hb4, hdr, hb5, he, hb6, hhi, hb7, hod, hb8]
  try simp (disch := omega) only [wrapI, wrapU]
  try refine And.intro (by repeat' (first | refine And.intro ?_ ?_ | exact GOr_right (fun _ => by simp only [go_sem, ldS_at hd, stX_at hd, ldS_sv hlt, stX_sv hlt, sv_ext hlt, sv_ext_sv hlt, ha, hb1, hmt, hb2, hjd, hb3, hlo, hb4, hdr, hb5, he, hb6, hhi, hb7, hod, hb8]))) ?_
  refine hR _ _ (kq3 _ _ ?_); clear hR R; try clear kq3 kz3
  try simp only [go_sem, ldS_at hd, stX_at hd, ldS_sv hlt, stX_sv hlt, sv_ext hlt, sv_ext_sv hlt, ha, hb1, hmt, hb2, hjd, hb3, hlo, hb4, hdr, hb5, he, hb6, hhi, hb7, hod, hb8]
  refine W_seq fun kz4 kq4 => ?_
  refine W_region [4] fun R hR => ?_   -- r3
  simp only [go_sem, ldS_at hd, stX_at hd, ldS_sv hlt, stX_sv hlt, sv_ext hlt, sv_ext_sv hlt, ha, hb1, hmt, hb2, hjd, hb3, hlo, hb4, hdr, hb5, he, hb6, hhi, hb7, hod, hb8]
  refine hR _ _ (kq4 _ _ ?_); clear hR R; try clear kq4 kz4
  try simp only [go_sem, ldS_at hd, stX_at hd, ldS_sv hlt, stX_sv hlt, sv_ext hlt, sv_ext_sv hlt, ha, hb1, hmt, hb2, hjd, hb3, hlo, hb4, hdr, hb5, he, hb6, hhi, hb7, hod, hb8]
  refine W_ret ?_
  simp only [go_sem, ldS_at hd, stX_at hd, ldS_sv hlt, stX_sv hlt, sv_ext hlt, sv_ext_sv hlt, ha, hb1, hmt, hb2, hjd, hb3, hlo, hb4, hdr, hb5, he, hb6, hhi, hb7, hod, hb8]
  refine ⟨.inr (by trivial), ?_⟩
  first | refine Fin_set hcl (by simp only [go_sem]) (by show resPV Tryz.prog _ _ [.cell 4 24] = some _; simp only [resPV, go_sem]; rfl) (Wk_eq ?_ (by simp only [go_sem])) | refine Fin_set0 hcl (by simp only [go_sem]) (by show resPV Tryz.prog _ _ [.cell 4 24] = some _; simp only [resPV, go_sem]; rfl) (Wk_eq ?_ (by simp only [go_sem]))
  try simp only [go_sem]
  all_goals
    skip
set_option maxHeartbeats 2000000 in
theorem MarksOf_pc (Y : YEnv) (σ : Sg) (d : Nat) (b : Int) (hd : σ.store[d]? = some (some [.int .u64 b])) (s : Scale) (hv : s.V) :
    PC Tryz.prog Y 37 [.ptr d 0, scPV s] σ (ints (marksD s b).1) (σ.setVar d [.int .u64 (marksD s b).2]) := by
  refine PC_of_W Tryz.func37 rfl (by kernel_rfl) Tryz.ntmps37 (by simp) fun hcl hca => ?_
  have hlt := lt_of_get hd
  have q3 := hv.sc
  have q4 := hv.lo
  have q5 := hv.hi
  have q6 := hv.lh
  obtain ⟨N, hN⟩ : ∃ z : Nat, s.schools = z := ⟨s.schools.toNat, by omega⟩
  have hNi : (s.schools : Int) = (N : Int) := hN
  obtain ⟨res, hres⟩ : ∃ r, marksD s b = r := ⟨_, rfl⟩
  rw [hres]
  unfold marksD at hres
  rw [hN, Int.toNat_natCast] at hres
  refine W_seq fun kz1 kq1 => ?_
  refine W_region [0, 3] fun R hR => ?_   -- r0
  simp only [go_sem, ldS_at hd, stX_at hd, ldS_sv hlt, stX_sv hlt, sv_ext hlt, sv_ext_sv hlt]
  refine hR _ _ (kq1 _ _ ?_); clear hR R; try clear kq1 kz1
  try simp only [go_sem, ldS_at hd, stX_at hd, ldS_sv hlt, stX_sv hlt, sv_ext hlt, sv_ext_sv hlt]
  refine W_seq fun kz2 kq2 => ?_
  refine W_region [0, 3, 5] fun R hR => ?_   -- r1
  simp only [go_sem, ldS_at hd, stX_at hd, ldS_sv hlt, stX_sv hlt, sv_ext hlt, sv_ext_sv hlt]
  refine hR _ _ (kq2 _ _ ?_); clear hR R; try clear kq2 kz2
  try simp only [go_sem, ldS_at hd, stX_at hd, ldS_sv hlt, stX_sv hlt, sv_ext hlt, sv_ext_sv hlt]
  refine W_seq fun kz3 kq3 => ?_
  refine W_seq fun kz4 kq4 => ?_
  refine W_region [0, 3, 5, 6] fun R hR => ?_   -- r2
  simp only [go_sem, ldS_at hd, stX_at hd, ldS_sv hlt, stX_sv hlt, sv_ext hlt, sv_ext_sv hlt]
  refine hR _ _ (kq4 _ _ ?_); clear hR R; try clear kq4 kz4
  try simp only [go_sem, ldS_at hd, stX_at hd, ldS_sv hlt, stX_sv hlt, sv_ext hlt, sv_ext_sv hlt]
  refine W_block ?_
  refine W_weak (Weak.room (t := 5) (es := 1) rfl (by simp)) ?_
  refine W_weak (Weak.keep [0, 3, 5, 6]) ?_
  simp only [go_sem, ldS_at hd, stX_at hd, ldS_sv hlt, stX_sv hlt, sv_ext hlt, sv_ext_sv hlt]
  refine W_loopT (α := Nat × (List Int) × Int) (fun ⟨i, acc, b⟩ => [(5, .isl (acc.map I) (.tok σ.rooms.length acc.length 1)), (6, I i)]) (fun ⟨i, acc, b⟩ => (σ.setVar d [.int .u64 b]).ext [some (scCells s)] [acc.length]) (fun ⟨i, acc, b⟩ => i ≤ N ∧ acc.length = i ∧ res = marksC s (N - i) acc b) (fun ⟨i, acc, b⟩ => N - i) ((0, [], b)) rfl (by simp only [go_sem, sv_self hd]) (⟨Nat.zero_le _, rfl, hres.symm⟩) ?_
  rintro ⟨i, acc, b⟩ ⟨hi, hal, hinv⟩
  refine W_seq fun kz5 kq5 => ?_
  refine W_seq fun kz6 kq6 => ?_
  refine W_region [0, 3, 5, 6, 10] fun R hR => ?_   -- r3
  simp only [go_sem, ldS_at hd, stX_at hd, ldS_sv hlt, stX_sv hlt, sv_ext hlt, sv_ext_sv hlt]
  refine hR _ _ (kq6 _ _ ?_); clear hR R; try clear kq6 kz6
  try simp only [go_sem, ldS_at hd, stX_at hd, ldS_sv hlt, stX_sv hlt, sv_ext hlt, sv_ext_sv hlt]
  refine W_cond rfl (fun c1 => ?_) (fun c1 => ?_)
  · -- c1 true
    try simp only [nrm] at c1
    have hiN : i < N := by first | omega | (simp at c1; omega)
    rw [show N - i = (N - (i + 1)) + 1 by omega] at hinv
    simp only [marksC, dbind] at hinv
    obtain ⟨m, hm⟩ : ∃ zz, (mid s.low s.high b).1 = zz := ⟨_, rfl⟩
    obtain ⟨b1, hb1⟩ : ∃ zz, (mid s.low s.high b).2 = zz := ⟨_, rfl⟩
    have dm := mid_bd s.low s.high q6 b
    simp only [hm] at dm
    obtain ⟨x, hx⟩ : ∃ zz, (anyOf [s.low, s.high, m] b1).1 = zz := ⟨_, rfl⟩
    obtain ⟨b2, hb2⟩ : ∃ zz, (anyOf [s.low, s.high, m] b1).2 = zz := ⟨_, rfl⟩
    simp only [hm, hb1, hx, hb2] at hinv
    refine W_skip (kq5 _ _ ?_)
    refine W_seq fun kz7 kq7 => ?_
    refine W_block ?_
    refine W_draw [0, 3, 5, 6] [0, 1, 2, 3, 4, 5, 6, 7, 8, 9, 10, 11, 12, 13, 14, 15, 16] [(0, 13), (0, 15), (1, 13), (2, 13), (3, 13), (4, 13), (5, 13)] [[], [], [], [2], [], [4], [], [], [7], [], [9], [6, 7, 8, 9, 10], [2, 3, 4, 5, 6, 7, 8, 9, 10, 11], [1, 2, 3, 4, 5, 6, 7, 8, 9, 10, 11, 12], [1, 2, 3, 4, 5, 6, 7, 8, 9, 10, 11, 12, 13], [0, 1, 2, 3, 4, 5, 6, 7, 8, 9, 10, 11, 12, 13, 14], [0, 1, 2, 3, 4, 5, 6, 7, 8, 9, 10, 11, 12, 13, 14, 15]] mixed (by kernel_rfl) fun R hR => ?_   -- r5
    simp only [go_sem, ldS_at hd, stX_at hd, ldS_sv hlt, stX_sv hlt, sv_ext hlt, sv_ext_sv hlt, hm, hb1, hx, hb2]
    refine GCall_of (Mid_pc Y _ d b (by first | exact hd | exact sv_get hlt | exact get_svx hlt | exact get_extx hd) s.low s.high (by omega) (by omega) (by omega) (by omega)) ?_   -- t24
    simp only [go_sem, ldS_at hd, stX_at hd, ldS_sv hlt, stX_sv hlt, sv_ext hlt, sv_ext_sv hlt, hm, hb1, hx, hb2]
    refine GCall_of (Any_pc Y _ d b1 (by first | exact hd | exact sv_get hlt | exact get_svx hlt | exact get_extx hd) [s.low, s.high, m] (by simp) (by simp)) ?_   -- t26
    simp only [go_sem, ldS_at hd, stX_at hd, ldS_sv hlt, stX_sv hlt, sv_ext hlt, sv_ext_sv hlt, hm, hb1, hx, hb2]
    try simp (disch := first | omega | (simp only [go_sem] <;> omega)) only [wrapI, wrapU, appX_exact, appX_tok]
    try simp only [go_sem, ldS_at hd, stX_at hd, ldS_sv hlt, stX_sv hlt, sv_ext hlt, sv_ext_sv hlt, hm, hb1, hx, hb2]
    try refine And.intro (by repeat' (first | refine And.intro ?_ ?_ | exact GOr_right (fun _ => by simp only [go_sem, ldS_at hd, stX_at hd, ldS_sv hlt, stX_sv hlt, sv_ext hlt, sv_ext_sv hlt, hm, hb1, hx, hb2]))) ?_
    refine hR _ _ (kq7 _ _ ?_); clear hR R; try clear kq7 kz7
    try simp only [go_sem, ldS_at hd, stX_at hd, ldS_sv hlt, stX_sv hlt, sv_ext hlt, sv_ext_sv hlt, hm, hb1, hx, hb2]
    refine W_region [0, 3, 5, 6] fun R hR => ?_   -- r4
    simp only [go_sem, ldS_at hd, stX_at hd, ldS_sv hlt, stX_sv hlt, sv_ext hlt, sv_ext_sv hlt, hm, hb1, hx, hb2]
    try simp (disch := omega) only [wrapI, wrapU]
    refine hR _ _ ?_; clear hR R
    try simp only [go_sem, ldS_at hd, stX_at hd, ldS_sv hlt, stX_sv hlt, sv_ext hlt, sv_ext_sv hlt, hm, hb1, hx, hb2]
    refine ⟨(i + 1, acc ++ [x], b2), ?_, by (try simp only []); omega, ?_⟩
    · first | exact Weak.refl | exact Weak.eq (by first | rfl | (simp only [go_sem]; done) | (simp only [go_sem]; rfl) | (simp [go_sem]; done) | (simp [go_sem]; omega)) (by first | rfl | (simp only [go_sem]; done) | (simp [go_sem]; done))
    · try dsimp only
      exact ⟨by omega, by simp [hal], hinv⟩
  · -- c1 false
    try simp only [nrm] at c1
    have hie : N = i := by first | omega | (simp at c1; omega)
    subst hie
    rw [Nat.sub_self] at hinv
    simp only [marksC, dret] at hinv
    refine W_exit ?_
    simp only [go_sem, ldS_at hd, stX_at hd, ldS_sv hlt, stX_sv hlt, sv_ext hlt, sv_ext_sv hlt]
    refine kq3 _ _ ?_
    refine W_seq fun kz8 kq8 => ?_
    refine W_region [4] fun R hR => ?_   -- r6
    simp only [go_sem, ldS_at hd, stX_at hd, ldS_sv hlt, stX_sv hlt, sv_ext hlt, sv_ext_sv hlt]
    refine hR _ _ (kq8 _ _ ?_); clear hR R; try clear kq8 kz8
    try simp only [go_sem, ldS_at hd, stX_at hd, ldS_sv hlt, stX_sv hlt, sv_ext hlt, sv_ext_sv hlt]
    refine W_ret ?_
    simp only [go_sem, ldS_at hd, stX_at hd, ldS_sv hlt, stX_sv hlt, sv_ext hlt, sv_ext_sv hlt]
    refine ⟨.inr (by trivial), ?_⟩
    rw [hinv]; refine Fin_set hcl (by simp only [go_sem]) rfl (Wk.ro (by simp only [go_sem]) ?_)
    try simp only [go_sem]
    all_goals
      simp only [go_sem]
set_option maxHeartbeats 2000000 in
theorem Sealed_pc (Y : YEnv) (σ : Sg) (s : Scale) (m j : Int) (l : List Int) (hl : l.length < 2 ^ 40) (hs : s.Ok) :
    PC Tryz.prog Y 55 [scPV s, I m, I j, ints l] σ (evPV (sealedE s m j l)) (σ) := by
  refine PC_of_W Tryz.func55 rfl (by kernel_rfl) Tryz.ntmps55 (by simp) fun hcl hca => ?_
  refine W_seq fun kz1 kq1 => ?_
  refine W_region [1, 2, 3, 4, 8] fun R hR => ?_   -- r0
  simp only [go_sem, sealedE]
  refine hR _ _ (kq1 _ _ ?_); clear hR R; try clear kq1 kz1
  try simp only [go_sem, sealedE]
  refine W_seq fun kz2 kq2 => ?_
  refine W_region [1, 2, 3, 8, 9] fun R hR => ?_   -- r1
  simp only [go_sem, sealedE]
  refine GCall_of (rSeal_pc Y _ s m j l .ro hl hs) ?_   -- t16
  simp only [go_sem, sealedE]
  refine hR _ _ (kq2 _ _ ?_); clear hR R; try clear kq2 kz2
  try simp only [go_sem, sealedE]
  refine W_seq fun kz3 kq3 => ?_
  refine W_region [8] fun R hR => ?_   -- r2
  simp only [go_sem, sealedE]
  refine hR _ _ (kq3 _ _ ?_); clear hR R; try clear kq3 kz3
  try simp only [go_sem, sealedE]
  refine W_ret ?_
  simp only [go_sem, sealedE]
  refine ⟨.inr (by trivial), ?_⟩
  first | refine Fin_same hcl (by show resPV Tryz.prog _ _ [.cell 8 51] = some _; simp only [resPV, go_sem]; rfl) (Wk_eq ?_ (by simp only [go_sem])) | refine Fin_same hcl rfl (Wk_eq ?_ (by simp only [go_sem]))
  try simp only [go_sem]
  all_goals
    first | rfl | simp [sealedE]
end Go.Proofs.YtgelnjmddabgpaaGreat
namespace Go.Proofs.YtgelnjmddabgpaaGreat
open Go Go.RowKit
set_option maxRecDepth 100000
theorem W_regionT {P : Program} {Y : YEnv} {N : Nat} {rd : Option Nat} {lo : Nat × Nat} {id : Nat} {ops : Array Oper} {E : Env} {σ : Sg} {Q : Exit → Env → Sg → Prop} (ks : List Nat) (upd : Env) (σ' : Sg)
    (rest : Q .normal (keep ks (upd ++ E)) σ') (h : ∀ K : Env → Sg → Prop, (∀ E' ρ, keep ks E' = keep ks (upd ++ E) → ρ = σ' → K E' ρ) → GL P Y N ops ops.toList E σ K) : W P Y N rd lo (.region id ops false) E σ Q :=
  W_region ks fun K hK => h K fun E' ρ e e2 => hK E' ρ (by rw [e, e2]; exact rest)
theorem ite_at {α β : Type} {c : Prop} [Decidable c] {f g : α → β} {x : α} : (if c then f else g) x = if c then f x else g x := by split <;> rfl
abbrev Rows2 := List Envl × List (Int × Int)
noncomputable def nightJ (s : Scale) (dec : Bool) (J m : Nat) : Nat → Int → List Envl → List (Int × Int) → D Rows2
  | 0, _, op, ab => dret (op, ab)
  | k + 1, here, op, ab => dbind (rare 5) fun a =>
    if a = true ∧ (0 < here ∨ ((J - (k + 1) : Nat) : Int) < (J : Int) - 1) then nightJ s dec J m k here op (ab ++ [((m : Int), ((J - (k + 1) : Nat) : Int))])
    else if dec = true then dbind (marksD s) fun l => nightJ s dec J m k (here + 1) (op ++ [sealedE s m ((J - (k + 1) : Nat) : Int) l]) ab
    else dbind (rare 3) fun r => if r = true then nightJ s dec J m k (here + 1) op ab else dbind (marksD s) fun l => nightJ s dec J m k (here + 1) (op ++ [sealedE s m ((J - (k + 1) : Nat) : Int) l]) ab
noncomputable def nightM (s : Scale) (dec : Bool) (M J : Nat) : Nat → List Envl → List (Int × Int) → D Rows2
  | 0, op, ab => dret (op, ab)
  | k + 1, op, ab => dbind (nightJ s dec J (M - (k + 1)) J 0 op ab) fun p => nightM s dec M J k p.1 p.2
noncomputable def finesC (sc : Int) : Nat → List (Int × Int) → D (List (Int × Int))
  | 0, fi => dret fi
  | k + 1, fi => dbind (roll sc) fun a => dbind (anyOf [3, 100]) fun y => dbind (roll y) fun p => finesC sc k (fi ++ [(a, p)])
noncomputable def finesD (sc : Int) : D (List (Int × Int)) := dbind (roll 4) fun q => dbind (anyOf [0, 0, q]) fun n => finesC sc n.toNat []
def pickE (op : List Envl) (od : List Int) : List Envl := od.map fun i => (op[i.toNat]?).getD ⟨0, 0, [], 0⟩
noncomputable def nightD (s : Scale) (dec : Bool) : D Night := dbind (nightM s dec s.matters.toNat s.judges.toNat s.matters.toNat [] []) fun p => dbind (finesD s.schools) fun fi => dbind (orderD p.1.length) fun od => dret ⟨pickE p.1 od, p.2, fi⟩
set_option maxHeartbeats 16000000 in
theorem NightOf_pc (Y : YEnv) (σ : Sg) (d : Nat) (b : Int) (hd : σ.store[d]? = some (some [.int .u64 b])) (s : Scale) (hv : s.V) (hs : s.Ok) (dec : Bool) :
    PC Tryz.prog Y 13 [.ptr d 0, scPV s, .bool dec] σ (ngPV (nightD s dec b).1) (σ.setVar d [.int .u64 (nightD s dec b).2]) := by
  refine PC_of_W Tryz.func13 rfl (by kernel_rfl) Tryz.ntmps13 (by simp) fun hcl hca => ?_
  have hlt := lt_of_get hd
  have q1 := hv.mt
  have q2 := hv.jd
  have q3 := hv.sc
  obtain ⟨M, hM⟩ : ∃ z : Nat, s.matters = z := ⟨s.matters.toNat, by omega⟩
  obtain ⟨J, hJ⟩ : ∃ z : Nat, s.judges = z := ⟨s.judges.toNat, by omega⟩
  have hMi : (s.matters : Int) = (M : Int) := hM
  have hJi : (s.judges : Int) = (J : Int) := hJ
  obtain ⟨res, hres⟩ : ∃ r, nightD s dec b = r := ⟨_, rfl⟩
  rw [hres]
  unfold nightD at hres
  simp only [hM, hJ, Int.toNat_natCast, dbind] at hres
  obtain ⟨R0, hR0⟩ : ∃ r, nightM s dec M J M [] [] b = r := ⟨_, rfl⟩
  rw [hR0] at hres
  refine W_seq fun kz1 kq1 => ?_
  refine W_region [0, 2, 4, 6] fun R hR => ?_   -- r0
  simp only [go_sem, ldS_at hd, stX_at hd, ldS_sv hlt, stX_sv hlt, sv_ext hlt, sv_ext_sv hlt]
  refine hR _ _ (kq1 _ _ ?_); clear hR R; try clear kq1 kz1
  try simp only [go_sem, ldS_at hd, stX_at hd, ldS_sv hlt, stX_sv hlt, sv_ext hlt, sv_ext_sv hlt]
  refine W_seq fun kz2 kq2 => ?_
  refine W_region [0, 2, 4, 6, 7] fun R hR => ?_   -- r1
  simp only [go_sem, ldS_at hd, stX_at hd, ldS_sv hlt, stX_sv hlt, sv_ext hlt, sv_ext_sv hlt]
  refine hR _ _ (kq2 _ _ ?_); clear hR R; try clear kq2 kz2
  try simp only [go_sem, ldS_at hd, stX_at hd, ldS_sv hlt, stX_sv hlt, sv_ext hlt, sv_ext_sv hlt]
  refine W_seq fun kz3 kq3 => ?_
  refine W_seq fun kz4 kq4 => ?_
  refine W_region [0, 2, 4, 6, 7, 8] fun R hR => ?_   -- r2
  simp only [go_sem, ldS_at hd, stX_at hd, ldS_sv hlt, stX_sv hlt, sv_ext hlt, sv_ext_sv hlt]
  refine hR _ _ (kq4 _ _ ?_); clear hR R; try clear kq4 kz4
  try simp only [go_sem, ldS_at hd, stX_at hd, ldS_sv hlt, stX_sv hlt, sv_ext hlt, sv_ext_sv hlt]
  refine W_block ?_
  refine W_weak (Weak.roomX (j := 2) (off := 0) (es := 4) rfl rfl (by simp)) ?_
  simp only [go_sem]
  refine W_weak (Weak.roomX (j := 2) (off := 1) (es := 2) rfl rfl (by simp)) ?_
  simp only [go_sem]
  refine W_weak (Weak.roomX (j := 2) (off := 2) (es := 2) rfl rfl (by simp)) ?_
  simp only [go_sem]
  refine W_loopT (α := Nat × (List Envl) × (List (Int × Int)) × Int) (fun ⟨i, op, ab, b⟩ => [(8, I i)]) (fun ⟨i, op, ab, b⟩ => (σ.setVar d [.int .u64 b]).ext [some (scCells s), some [.isl [] .exact, .isl [] .exact, .isl [] .exact], some [.isl (op.map evPV) (.tok σ.rooms.length op.length 4), .isl (ab.map stPV) (.tok (σ.rooms.length + 1) ab.length 2), .isl (([] : List (Int × Int)).map stPV) (.tok (σ.rooms.length + 2) ([] : List (Int × Int)).length 2)]] [op.length, ab.length, ([] : List (Int × Int)).length]) (fun ⟨i, op, ab, b⟩ => i ≤ M ∧ op.length ≤ 5 * i ∧ ab.length ≤ 5 * i ∧ R0 = nightM s dec M J (M - i) op ab b) (fun ⟨i, op, ab, b⟩ => M - i) ((0, [], [], b)) rfl (by simp only [go_sem, sv_self hd]) (⟨Nat.zero_le _, Nat.zero_le _, Nat.zero_le _, hR0.symm⟩) ?_
  rintro ⟨i, op, ab, b⟩ ⟨hi, hl1, hl2, hinv⟩
  refine W_seq fun kz5 kq5 => ?_
  refine W_seq fun kz6 kq6 => ?_
  refine W_region [0, 2, 4, 6, 7, 8, 18] fun R hR => ?_   -- r3
  simp only [go_sem, ldS_at hd, stX_at hd, ldS_sv hlt, stX_sv hlt, sv_ext hlt, sv_ext_sv hlt]
  refine hR _ _ (kq6 _ _ ?_); clear hR R; try clear kq6 kz6
  try simp only [go_sem, ldS_at hd, stX_at hd, ldS_sv hlt, stX_sv hlt, sv_ext hlt, sv_ext_sv hlt]
  refine W_cond rfl (fun c1 => ?_) (fun c1 => ?_)
  · -- c1 true
    try simp only [nrm] at c1
    have hiM : i < M := by first | omega | (simp at c1; omega)
    rw [show M - i = (M - (i + 1)) + 1 by omega] at hinv
    simp only [nightM, dbind] at hinv
    rw [show (M - (M - (i + 1) + 1) : Nat) = i by omega] at hinv
    obtain ⟨R1, hR1⟩ : ∃ z, nightJ s dec J i J 0 op ab b = z := ⟨_, rfl⟩
    rw [hR1] at hinv
    refine W_skip (kq5 _ _ ?_)
    refine W_seq fun kz7 kq7 => ?_
    refine W_block ?_
    refine W_seq fun kz8 kq8 => ?_
    refine W_region [0, 2, 4, 6, 7, 8, 9] fun R hR => ?_   -- r5
    simp only [go_sem, ldS_at hd, stX_at hd, ldS_sv hlt, stX_sv hlt, sv_ext hlt, sv_ext_sv hlt]
    refine hR _ _ (kq8 _ _ ?_); clear hR R; try clear kq8 kz8
    try simp only [go_sem, ldS_at hd, stX_at hd, ldS_sv hlt, stX_sv hlt, sv_ext hlt, sv_ext_sv hlt]
    refine W_seq fun kz9 kq9 => ?_
    refine W_region [0, 2, 4, 6, 7, 8, 9, 10] fun R hR => ?_   -- r6
    simp only [go_sem, ldS_at hd, stX_at hd, ldS_sv hlt, stX_sv hlt, sv_ext hlt, sv_ext_sv hlt]
    refine hR _ _ (kq9 _ _ ?_); clear hR R; try clear kq9 kz9
    try simp only [go_sem, ldS_at hd, stX_at hd, ldS_sv hlt, stX_sv hlt, sv_ext hlt, sv_ext_sv hlt]
    refine W_block ?_
    refine W_loopT (α := Nat × Nat × (List Envl) × (List (Int × Int)) × Int) (fun ⟨j, here, op2, ab2, b⟩ => [(9, I here), (10, I j)]) (fun ⟨j, here, op2, ab2, b⟩ => (σ.setVar d [.int .u64 b]).ext [some (scCells s), some [.isl [] .exact, .isl [] .exact, .isl [] .exact], some [.isl (op2.map evPV) (.tok σ.rooms.length op2.length 4), .isl (ab2.map stPV) (.tok (σ.rooms.length + 1) ab2.length 2), .isl (([] : List (Int × Int)).map stPV) (.tok (σ.rooms.length + 2) ([] : List (Int × Int)).length 2)]] [op2.length, ab2.length, ([] : List (Int × Int)).length]) (fun ⟨j, here, op2, ab2, b⟩ => j ≤ J ∧ here ≤ j ∧ op2.length ≤ 5 * i + j ∧ ab2.length ≤ 5 * i + j ∧ R1 = nightJ s dec J i (J - j) here op2 ab2 b) (fun ⟨j, here, op2, ab2, b⟩ => J - j) ((0, 0, op, ab, b)) rfl (by first | rfl | (simp only [go_sem]; done) | (simp only [go_sem]; rfl)) (⟨Nat.zero_le _, Nat.le_refl _, by omega, by omega, hR1.symm⟩) ?_
    rintro ⟨j, here, op2, ab2, b⟩ ⟨hj, hhe, hl3, hl4, hinv2⟩
    refine W_seq fun kz10 kq10 => ?_
    refine W_seq fun kz11 kq11 => ?_
    refine W_region [0, 2, 4, 6, 7, 8, 9, 10, 24] fun R hR => ?_   -- r7
    simp only [go_sem, ldS_at hd, stX_at hd, ldS_sv hlt, stX_sv hlt, sv_ext hlt, sv_ext_sv hlt]
    refine hR _ _ (kq11 _ _ ?_); clear hR R; try clear kq11 kz11
    try simp only [go_sem, ldS_at hd, stX_at hd, ldS_sv hlt, stX_sv hlt, sv_ext hlt, sv_ext_sv hlt]
    refine W_cond rfl (fun c2 => ?_) (fun c2 => ?_)
    · -- c2 true
      try simp only [nrm] at c2
      have hjJ : j < J := by first | omega | (simp at c2; omega)
      rw [show J - j = (J - (j + 1)) + 1 by omega] at hinv2
      simp only [nightJ, dbind, ite_at] at hinv2
      rw [show (J - (J - (j + 1) + 1) : Nat) = j by omega] at hinv2
      obtain ⟨a5, ha5⟩ : ∃ zz, (rare 5 b).1 = zz := ⟨_, rfl⟩
      obtain ⟨b1, hb1⟩ : ∃ zz, (rare 5 b).2 = zz := ⟨_, rfl⟩
      simp only [ha5, hb1] at hinv2
      refine W_skip (kq10 _ _ ?_)
      refine W_seq fun kz12 kq12 => ?_
      refine W_block ?_
      refine W_seq fun kz13 kq13 => ?_
      refine W_block ?_
      refine W_seq fun kz14 kq14 => ?_
      refine W_regionT [0, 2, 4, 6, 7, 8, 9, 10, 27] [(27, .bool (a5 && (decide ((0 : Int) < (here : Int)) || decide ((j : Int) < (J : Int) - 1))))] ((σ.setVar d [.int .u64 b1]).ext [some (scCells s), some [.isl [] .exact, .isl [] .exact, .isl [] .exact], some [.isl (op2.map evPV) (.tok σ.rooms.length op2.length 4), .isl (ab2.map stPV) (.tok (σ.rooms.length + 1) ab2.length 2), .isl (([] : List (Int × Int)).map stPV) (.tok (σ.rooms.length + 2) ([] : List (Int × Int)).length 2)]] [op2.length, ab2.length, ([] : List (Int × Int)).length]) ?_ fun R hR => ?_   -- r9
      · refine kq14 _ _ ?_
        simp only [go_sem, ldS_at hd, stX_at hd, ldS_sv hlt, stX_sv hlt, sv_ext hlt, sv_ext_sv hlt, ha5, hb1]
        refine W_cond rfl (fun c3 => ?_) (fun c3 => ?_)
        · -- c3 true
          try simp only [nrm] at c3
          refine W_seq fun kz15 kq15 => ?_
          refine W_region [0, 2, 4, 6, 7, 8, 9, 10] fun R hR => ?_   -- r10
          simp only [go_sem, ldS_at hd, stX_at hd, ldS_sv hlt, stX_sv hlt, sv_ext hlt, sv_ext_sv hlt, ha5, hb1]
          try simp (disch := first | omega | (simp only [go_sem] <;> omega)) only [wrapI, wrapU, appX_exact, appX_tok]
          try simp only [go_sem, ldS_at hd, stX_at hd, ldS_sv hlt, stX_sv hlt, sv_ext hlt, sv_ext_sv hlt, ha5, hb1]
          refine hR _ _ (kq15 _ _ ?_); clear hR R; try clear kq15 kz15
          try simp only [go_sem, ldS_at hd, stX_at hd, ldS_sv hlt, stX_sv hlt, sv_ext hlt, sv_ext_sv hlt, ha5, hb1]
          refine W_exit ?_
          simp only [go_sem, ldS_at hd, stX_at hd, ldS_sv hlt, stX_sv hlt, sv_ext hlt, sv_ext_sv hlt, ha5, hb1]
          refine kq12 _ _ ?_
          refine W_region [0, 2, 4, 6, 7, 8, 9, 10] fun R hR => ?_   -- r8
          simp only [go_sem, ldS_at hd, stX_at hd, ldS_sv hlt, stX_sv hlt, sv_ext hlt, sv_ext_sv hlt, ha5, hb1]
          try simp (disch := omega) only [wrapI, wrapU]
          refine hR _ _ ?_; clear hR R
          try simp only [go_sem, ldS_at hd, stX_at hd, ldS_sv hlt, stX_sv hlt, sv_ext hlt, sv_ext_sv hlt, ha5, hb1]
          refine ⟨(j + 1, here, op2, ab2 ++ [((i : Int), (j : Int))], b1), ?_, by (try simp only []); omega, ?_⟩
          · first | exact Weak.refl | exact Weak.eq (by first | rfl | (simp only [go_sem]; done) | (simp only [go_sem]; rfl) | (simp [go_sem]; done) | (simp [go_sem]; omega)) (by first | rfl | (simp only [go_sem]; done) | (simp [go_sem]; done))
          · try dsimp only
            refine ⟨by omega, by omega, ?_, ?_, ?_⟩
            · first | omega | (simp; omega)
            · first | omega | (simp; omega)
            · first
              | (rw [hinv2, if_pos (by simpa using c3)]; done)
              | (rw [hinv2, if_neg (by simpa using c3)]; simp [g1]; done)
              | (rw [hinv2, if_neg (by simpa using c3)]; simp [g1, c4]; done)
        · -- c3 false
          try simp only [nrm] at c3
          refine W_seq fun kz16 kq16 => ?_
          refine W_region [0, 2, 4, 6, 7, 8, 9, 10, 49] fun R hR => ?_   -- r11
          simp only [go_sem, ldS_at hd, stX_at hd, ldS_sv hlt, stX_sv hlt, sv_ext hlt, sv_ext_sv hlt, ha5, hb1]
          refine GWant_split (fun g1 => ?_) (fun g1 => ?_)
          · try simp only [Bool.not_eq_true', Bool.not_eq_false'] at g1
            have n1 := g1; try simp only [nrm] at n1
            obtain ⟨a3, ha3⟩ : ∃ zz, (rare 3 b1).1 = zz := ⟨_, rfl⟩
            obtain ⟨b2, hb2⟩ : ∃ zz, (rare 3 b1).2 = zz := ⟨_, rfl⟩
            simp only [ha3, hb2] at hinv2
            simp only [go_sem, ldS_at hd, stX_at hd, ldS_sv hlt, stX_sv hlt, sv_ext hlt, sv_ext_sv hlt, ha5, hb1, ha3, hb2, g1]
            refine GCall_of (Rare_pc Y _ d b1 (by first | exact hd | exact sv_get hlt | exact get_svx hlt | exact get_extx hd) 3 (by omega)) ?_   -- t53
            simp only [go_sem, ldS_at hd, stX_at hd, ldS_sv hlt, stX_sv hlt, sv_ext hlt, sv_ext_sv hlt, ha5, hb1, ha3, hb2, g1]
            refine hR _ _ (kq16 _ _ ?_); clear hR R; try clear kq16 kz16
            try simp only [go_sem, ldS_at hd, stX_at hd, ldS_sv hlt, stX_sv hlt, sv_ext hlt, sv_ext_sv hlt, ha5, hb1, ha3, hb2]
            refine W_cond rfl (fun c4 => ?_) (fun c4 => ?_)
            · -- c4 true
              try simp only [nrm] at c4
              obtain ⟨ml, hml⟩ : ∃ zz, (marksD s b2).1 = zz := ⟨_, rfl⟩
              obtain ⟨b4, hb4⟩ : ∃ zz, (marksD s b2).2 = zz := ⟨_, rfl⟩
              have dml := marksD_ok hv b2
              simp only [hml] at dml
              have hmln : ml.length < 2 ^ 40 := by have := dml.1; omega
              try simp only [hml, hb4] at hinv2
              refine W_draw [0, 2, 4, 6, 7, 8, 9, 10] [0, 1, 2, 3, 4, 5, 6, 7, 8, 9, 10, 11, 12] [(0, 8), (0, 10), (1, 8), (1, 10), (2, 8), (3, 8), (4, 8)] [[], [0], [], [], [], [], [], [5, 6], [2, 3, 4, 5, 6, 7], [2, 3, 4, 5, 6, 7, 8], [0, 1, 2, 3, 4, 5, 6, 7, 8, 9], [0, 1, 2, 3, 4, 5, 6, 7, 8, 9, 10], [0, 1, 2, 3, 4, 5, 6, 7, 8, 9, 10, 11]] mixed (by kernel_rfl) fun R hR => ?_   -- r12
              simp only [go_sem, ldS_at hd, stX_at hd, ldS_sv hlt, stX_sv hlt, sv_ext hlt, sv_ext_sv hlt, ha5, hb1, ha3, hb2, hml, hb4]
              refine GCall_of (MarksOf_pc Y _ d _ (by first | exact hd | exact sv_get hlt | exact get_svx hlt | exact get_extx hd) s hv) ?_   -- t63
              simp only [go_sem, ldS_at hd, stX_at hd, ldS_sv hlt, stX_sv hlt, sv_ext hlt, sv_ext_sv hlt, ha5, hb1, ha3, hb2, hml, hb4]
              refine GCall_of (Sealed_pc Y _ s i j ml (by omega) hs) ?_   -- t64
              simp only [go_sem, ldS_at hd, stX_at hd, ldS_sv hlt, stX_sv hlt, sv_ext hlt, sv_ext_sv hlt, ha5, hb1, ha3, hb2, hml, hb4]
              try simp (disch := first | omega | (simp only [go_sem] <;> omega)) only [wrapI, wrapU, appX_exact, appX_tok]
              try simp only [go_sem, ldS_at hd, stX_at hd, ldS_sv hlt, stX_sv hlt, sv_ext hlt, sv_ext_sv hlt, ha5, hb1, ha3, hb2, hml, hb4]
              try refine And.intro (by repeat' (first | refine And.intro ?_ ?_ | exact GOr_right (fun _ => by simp only [go_sem, ldS_at hd, stX_at hd, ldS_sv hlt, stX_sv hlt, sv_ext hlt, sv_ext_sv hlt, ha5, hb1, ha3, hb2, hml, hb4]))) ?_
              refine hR _ _ (kq13 _ _ ?_); clear hR R; try clear kq13 kz13
              try simp only [go_sem, ldS_at hd, stX_at hd, ldS_sv hlt, stX_sv hlt, sv_ext hlt, sv_ext_sv hlt, ha5, hb1, ha3, hb2, hml, hb4]
              refine W_region [0, 2, 4, 6, 7, 8, 9, 10] fun R hR => ?_   -- r13
              simp only [go_sem, ldS_at hd, stX_at hd, ldS_sv hlt, stX_sv hlt, sv_ext hlt, sv_ext_sv hlt, ha5, hb1, ha3, hb2, hml, hb4]
              try simp (disch := omega) only [wrapI, wrapU]
              refine hR _ _ (kq12 _ _ ?_); clear hR R; try clear kq12 kz12
              try simp only [go_sem, ldS_at hd, stX_at hd, ldS_sv hlt, stX_sv hlt, sv_ext hlt, sv_ext_sv hlt, ha5, hb1, ha3, hb2, hml, hb4]
              refine W_region [0, 2, 4, 6, 7, 8, 9, 10] fun R hR => ?_   -- r8
              simp only [go_sem, ldS_at hd, stX_at hd, ldS_sv hlt, stX_sv hlt, sv_ext hlt, sv_ext_sv hlt, ha5, hb1, ha3, hb2, hml, hb4]
              try simp (disch := omega) only [wrapI, wrapU]
              refine hR _ _ ?_; clear hR R
              try simp only [go_sem, ldS_at hd, stX_at hd, ldS_sv hlt, stX_sv hlt, sv_ext hlt, sv_ext_sv hlt, ha5, hb1, ha3, hb2, hml, hb4]
              refine ⟨(j + 1, here + 1, op2 ++ [sealedE s i j ml], ab2, b4), ?_, by (try simp only []); omega, ?_⟩
              · first | exact Weak.refl | exact Weak.eq (by first | rfl | (simp only [go_sem]; done) | (simp only [go_sem]; rfl) | (simp [go_sem]; done) | (simp [go_sem]; omega)) (by first | rfl | (simp only [go_sem]; done) | (simp [go_sem]; done))
              · try dsimp only
                refine ⟨by omega, by omega, ?_, ?_, ?_⟩
                · first | omega | (simp; omega)
                · first | omega | (simp; omega)
                · first
                  | (rw [hinv2, if_pos (by simpa using c3)]; done)
                  | (rw [hinv2, if_neg (by simpa using c3)]; simp [g1]; done)
                  | (rw [hinv2, if_neg (by simpa using c3)]; simp [g1, c4]; done)
            · -- c4 false
              try simp only [nrm] at c4
              refine W_skip (kq13 _ _ ?_)
              refine W_region [0, 2, 4, 6, 7, 8, 9, 10] fun R hR => ?_   -- r13
              simp only [go_sem, ldS_at hd, stX_at hd, ldS_sv hlt, stX_sv hlt, sv_ext hlt, sv_ext_sv hlt, ha5, hb1, ha3, hb2]
              try simp (disch := omega) only [wrapI, wrapU]
              refine hR _ _ (kq12 _ _ ?_); clear hR R; try clear kq12 kz12
              try simp only [go_sem, ldS_at hd, stX_at hd, ldS_sv hlt, stX_sv hlt, sv_ext hlt, sv_ext_sv hlt, ha5, hb1, ha3, hb2]
              refine W_region [0, 2, 4, 6, 7, 8, 9, 10] fun R hR => ?_   -- r8
              simp only [go_sem, ldS_at hd, stX_at hd, ldS_sv hlt, stX_sv hlt, sv_ext hlt, sv_ext_sv hlt, ha5, hb1, ha3, hb2]
              try simp (disch := omega) only [wrapI, wrapU]
              refine hR _ _ ?_; clear hR R
              try simp only [go_sem, ldS_at hd, stX_at hd, ldS_sv hlt, stX_sv hlt, sv_ext hlt, sv_ext_sv hlt, ha5, hb1, ha3, hb2]
              refine ⟨(j + 1, here + 1, op2, ab2, b2), ?_, by (try simp only []); omega, ?_⟩
              · first | exact Weak.refl | exact Weak.eq (by first | rfl | (simp only [go_sem]; done) | (simp only [go_sem]; rfl) | (simp [go_sem]; done) | (simp [go_sem]; omega)) (by first | rfl | (simp only [go_sem]; done) | (simp [go_sem]; done))
              · try dsimp only
                refine ⟨by omega, by omega, ?_, ?_, ?_⟩
                · first | omega | (simp; omega)
                · first | omega | (simp; omega)
                · first
                  | (rw [hinv2, if_pos (by simpa using c3)]; done)
                  | (rw [hinv2, if_neg (by simpa using c3)]; simp [g1]; done)
                  | (rw [hinv2, if_neg (by simpa using c3)]; simp [g1, c4]; done)
          · try simp only [Bool.not_eq_true', Bool.not_eq_false'] at g1
            have n1 := g1; try simp only [nrm] at n1
            obtain ⟨ml, hml⟩ : ∃ zz, (marksD s b1).1 = zz := ⟨_, rfl⟩
            obtain ⟨b4, hb4⟩ : ∃ zz, (marksD s b1).2 = zz := ⟨_, rfl⟩
            have dml := marksD_ok hv b1
            simp only [hml] at dml
            have hmln : ml.length < 2 ^ 40 := by have := dml.1; omega
            try simp only [hml, hb4] at hinv2
            simp only [go_sem, ldS_at hd, stX_at hd, ldS_sv hlt, stX_sv hlt, sv_ext hlt, sv_ext_sv hlt, ha5, hb1, hml, hb4, g1]
            refine hR _ _ (kq16 _ _ ?_); clear hR R; try clear kq16 kz16
            try simp only [go_sem, ldS_at hd, stX_at hd, ldS_sv hlt, stX_sv hlt, sv_ext hlt, sv_ext_sv hlt, ha5, hb1, hml, hb4]
            refine W_cond_true rfl ?_
            refine W_draw [0, 2, 4, 6, 7, 8, 9, 10] [0, 1, 2, 3, 4, 5, 6, 7, 8, 9, 10, 11, 12] [(0, 8), (0, 10), (1, 8), (1, 10), (2, 8), (3, 8), (4, 8)] [[], [0], [], [], [], [], [], [5, 6], [2, 3, 4, 5, 6, 7], [2, 3, 4, 5, 6, 7, 8], [0, 1, 2, 3, 4, 5, 6, 7, 8, 9], [0, 1, 2, 3, 4, 5, 6, 7, 8, 9, 10], [0, 1, 2, 3, 4, 5, 6, 7, 8, 9, 10, 11]] mixed (by kernel_rfl) fun R hR => ?_   -- r12
            simp only [go_sem, ldS_at hd, stX_at hd, ldS_sv hlt, stX_sv hlt, sv_ext hlt, sv_ext_sv hlt, ha5, hb1, hml, hb4]
            refine GCall_of (MarksOf_pc Y _ d _ (by first | exact hd | exact sv_get hlt | exact get_svx hlt | exact get_extx hd) s hv) ?_   -- t63
            simp only [go_sem, ldS_at hd, stX_at hd, ldS_sv hlt, stX_sv hlt, sv_ext hlt, sv_ext_sv hlt, ha5, hb1, hml, hb4]
            refine GCall_of (Sealed_pc Y _ s i j ml (by omega) hs) ?_   -- t64
            simp only [go_sem, ldS_at hd, stX_at hd, ldS_sv hlt, stX_sv hlt, sv_ext hlt, sv_ext_sv hlt, ha5, hb1, hml, hb4]
            try simp (disch := first | omega | (simp only [go_sem] <;> omega)) only [wrapI, wrapU, appX_exact, appX_tok]
            try simp only [go_sem, ldS_at hd, stX_at hd, ldS_sv hlt, stX_sv hlt, sv_ext hlt, sv_ext_sv hlt, ha5, hb1, hml, hb4]
            try refine And.intro (by repeat' (first | refine And.intro ?_ ?_ | exact GOr_right (fun _ => by simp only [go_sem, ldS_at hd, stX_at hd, ldS_sv hlt, stX_sv hlt, sv_ext hlt, sv_ext_sv hlt, ha5, hb1, hml, hb4]))) ?_
            refine hR _ _ (kq13 _ _ ?_); clear hR R; try clear kq13 kz13
            try simp only [go_sem, ldS_at hd, stX_at hd, ldS_sv hlt, stX_sv hlt, sv_ext hlt, sv_ext_sv hlt, ha5, hb1, hml, hb4]
            refine W_region [0, 2, 4, 6, 7, 8, 9, 10] fun R hR => ?_   -- r13
            simp only [go_sem, ldS_at hd, stX_at hd, ldS_sv hlt, stX_sv hlt, sv_ext hlt, sv_ext_sv hlt, ha5, hb1, hml, hb4]
            try simp (disch := omega) only [wrapI, wrapU]
            refine hR _ _ (kq12 _ _ ?_); clear hR R; try clear kq12 kz12
            try simp only [go_sem, ldS_at hd, stX_at hd, ldS_sv hlt, stX_sv hlt, sv_ext hlt, sv_ext_sv hlt, ha5, hb1, hml, hb4]
            refine W_region [0, 2, 4, 6, 7, 8, 9, 10] fun R hR => ?_   -- r8
            simp only [go_sem, ldS_at hd, stX_at hd, ldS_sv hlt, stX_sv hlt, sv_ext hlt, sv_ext_sv hlt, ha5, hb1, hml, hb4]
            try simp (disch := omega) only [wrapI, wrapU]
            refine hR _ _ ?_; clear hR R
            try simp only [go_sem, ldS_at hd, stX_at hd, ldS_sv hlt, stX_sv hlt, sv_ext hlt, sv_ext_sv hlt, ha5, hb1, hml, hb4]
            refine ⟨(j + 1, here + 1, op2 ++ [sealedE s i j ml], ab2, b4), ?_, by (try simp only []); omega, ?_⟩
            · first | exact Weak.refl | exact Weak.eq (by first | rfl | (simp only [go_sem]; done) | (simp only [go_sem]; rfl) | (simp [go_sem]; done) | (simp [go_sem]; omega)) (by first | rfl | (simp only [go_sem]; done) | (simp [go_sem]; done))
            · try dsimp only
              refine ⟨by omega, by omega, ?_, ?_, ?_⟩
              · first | omega | (simp; omega)
              · first | omega | (simp; omega)
              · first
                | (rw [hinv2, if_pos (by simpa using c3)]; done)
                | (rw [hinv2, if_neg (by simpa using c3)]; simp [g1]; done)
                | (rw [hinv2, if_neg (by simpa using c3)]; simp [g1, c4]; done)
      · simp only [go_sem, ldS_at hd, stX_at hd, ldS_sv hlt, stX_sv hlt, sv_ext hlt, sv_ext_sv hlt, ha5, hb1]
        refine GCall_of (Rare_pc Y _ d b (by first | exact hd | exact sv_get hlt | exact get_svx hlt | exact get_extx hd) 5 (by omega)) ?_   -- t29
        simp only [go_sem, ldS_at hd, stX_at hd, ldS_sv hlt, stX_sv hlt, sv_ext hlt, sv_ext_sv hlt, ha5, hb1]
        refine GWant_split (fun g2 => ?_) (fun g2 => ?_)
        · try simp only [Bool.not_eq_true', Bool.not_eq_false'] at g2
          have n2 := g2; try simp only [nrm] at n2
          simp only [go_sem, ldS_at hd, stX_at hd, ldS_sv hlt, stX_sv hlt, sv_ext hlt, sv_ext_sv hlt, ha5, hb1, g2]
          refine GWant_split (fun g3 => ?_) (fun g3 => ?_)
          · try simp only [Bool.not_eq_true', Bool.not_eq_false'] at g3
            have n3 := g3; try simp only [nrm] at n3
            simp only [go_sem, ldS_at hd, stX_at hd, ldS_sv hlt, stX_sv hlt, sv_ext hlt, sv_ext_sv hlt, ha5, hb1, g2, g3]
            try simp (disch := omega) only [wrapI, wrapU]
            refine hR _ _ ?_ ?_
            all_goals try simp only [go_sem, ldS_at hd, stX_at hd, ldS_sv hlt, stX_sv hlt, sv_ext hlt, sv_ext_sv hlt, ha5, hb1]
            all_goals
              first | rfl | (simp [*]; done) | (simp [*]; omega)
          · try simp only [Bool.not_eq_true', Bool.not_eq_false'] at g3
            have n3 := g3; try simp only [nrm] at n3
            simp only [go_sem, ldS_at hd, stX_at hd, ldS_sv hlt, stX_sv hlt, sv_ext hlt, sv_ext_sv hlt, ha5, hb1, g2, g3]
            try simp (disch := omega) only [wrapI, wrapU]
            refine hR _ _ ?_ ?_
            all_goals try simp only [go_sem, ldS_at hd, stX_at hd, ldS_sv hlt, stX_sv hlt, sv_ext hlt, sv_ext_sv hlt, ha5, hb1]
            all_goals
              first | rfl | (simp [*]; done) | (simp [*]; omega)
        · try simp only [Bool.not_eq_true', Bool.not_eq_false'] at g2
          have n2 := g2; try simp only [nrm] at n2
          simp only [go_sem, ldS_at hd, stX_at hd, ldS_sv hlt, stX_sv hlt, sv_ext hlt, sv_ext_sv hlt, ha5, hb1, g2]
          try simp (disch := omega) only [wrapI, wrapU]
          refine hR _ _ ?_ ?_
          all_goals try simp only [go_sem, ldS_at hd, stX_at hd, ldS_sv hlt, stX_sv hlt, sv_ext hlt, sv_ext_sv hlt, ha5, hb1]
          all_goals
            first | rfl | (simp [*]; done) | (simp [*]; omega)
    · -- c2 false
      try simp only [nrm] at c2
      have hje : J = j := by first | omega | (simp at c2; omega)
      subst hje
      rw [Nat.sub_self] at hinv2
      simp only [nightJ, dret] at hinv2
      refine W_exit ?_
      simp only [go_sem, ldS_at hd, stX_at hd, ldS_sv hlt, stX_sv hlt, sv_ext hlt, sv_ext_sv hlt]
      refine kq7 _ _ ?_
      refine W_region [0, 2, 4, 6, 7, 8] fun R hR => ?_   -- r4
      simp only [go_sem, ldS_at hd, stX_at hd, ldS_sv hlt, stX_sv hlt, sv_ext hlt, sv_ext_sv hlt]
      try simp (disch := omega) only [wrapI, wrapU]
      refine hR _ _ ?_; clear hR R
      try simp only [go_sem, ldS_at hd, stX_at hd, ldS_sv hlt, stX_sv hlt, sv_ext hlt, sv_ext_sv hlt]
      refine ⟨(i + 1, op2, ab2, b), ?_, by (try simp only []); omega, ?_⟩
      · first | exact Weak.refl | exact Weak.eq (by first | rfl | (simp only [go_sem]; done) | (simp only [go_sem]; rfl) | (simp [go_sem]; done) | (simp [go_sem]; omega)) (by first | rfl | (simp only [go_sem]; done) | (simp [go_sem]; done))
      · try dsimp only
        exact ⟨by omega, by omega, by omega, by rw [hinv, hinv2]⟩
  · -- c1 false
    try simp only [nrm] at c1
    have hie : M = i := by first | omega | (simp at c1; omega)
    subst hie
    rw [Nat.sub_self] at hinv
    simp only [nightM, dret] at hinv
    rw [hinv] at hres
    simp only [finesD, dbind] at hres
    obtain ⟨q4, hq4⟩ : ∃ zz, (roll 4 b).1 = zz := ⟨_, rfl⟩
    obtain ⟨b1, hb1⟩ : ∃ zz, (roll 4 b).2 = zz := ⟨_, rfl⟩
    have dq4 := roll_bd 4 b
    simp only [hq4] at dq4
    obtain ⟨nf, hnf⟩ : ∃ zz, (anyOf [0, 0, q4] b1).1 = zz := ⟨_, rfl⟩
    obtain ⟨b2, hb2⟩ : ∃ zz, (anyOf [0, 0, q4] b1).2 = zz := ⟨_, rfl⟩
    have dnf := anyOf_mem [0, 0, q4] (by simp) b1
    simp only [hnf] at dnf
    simp only [hq4, hb1, hnf, hb2] at hres
    have hnf3 : 0 ≤ nf ∧ nf ≤ 3 := by rcases mem3 dnf with h | h | h <;> omega
    obtain ⟨n4, hn4⟩ : ∃ z : Nat, nf = z := ⟨nf.toNat, by omega⟩
    subst hn4
    simp only [Int.toNat_natCast] at hres
    refine W_exit ?_
    simp only [go_sem, ldS_at hd, stX_at hd, ldS_sv hlt, stX_sv hlt, sv_ext hlt, sv_ext_sv hlt, hq4, hb1, hnf, hb2]
    refine kq3 _ _ ?_
    refine W_seq fun kz17 kq17 => ?_
    refine W_seq fun kz18 kq18 => ?_
    refine W_region [0, 4, 6, 7, 11] fun R hR => ?_   -- r14
    simp only [go_sem, ldS_at hd, stX_at hd, ldS_sv hlt, stX_sv hlt, sv_ext hlt, sv_ext_sv hlt, hq4, hb1, hnf, hb2]
    refine GCall_of (Roll_pc Y _ d b (by first | exact hd | exact sv_get hlt | exact get_svx hlt | exact get_extx hd) 4 (by omega)) ?_   -- t72
    simp only [go_sem, ldS_at hd, stX_at hd, ldS_sv hlt, stX_sv hlt, sv_ext hlt, sv_ext_sv hlt, hq4, hb1, hnf, hb2]
    refine GCall_of (Any_pc Y _ d b1 (by first | exact hd | exact sv_get hlt | exact get_svx hlt | exact get_extx hd) [0, 0, q4] (by simp) (by simp)) ?_   -- t74
    simp only [go_sem, ldS_at hd, stX_at hd, ldS_sv hlt, stX_sv hlt, sv_ext hlt, sv_ext_sv hlt, hq4, hb1, hnf, hb2]
    refine hR _ _ (kq18 _ _ ?_); clear hR R; try clear kq18 kz18
    try simp only [go_sem, ldS_at hd, stX_at hd, ldS_sv hlt, stX_sv hlt, sv_ext hlt, sv_ext_sv hlt, hq4, hb1, hnf, hb2]
    refine W_block ?_
    obtain ⟨R2, hR2⟩ : ∃ z, finesC s.schools n4 [] b2 = z := ⟨_, rfl⟩
    rw [hR2] at hres
    refine W_loopT (α := Nat × (List (Int × Int)) × Int) (fun ⟨k, fi, b⟩ => [(11, I k)]) (fun ⟨k, fi, b⟩ => (σ.setVar d [.int .u64 b]).ext [some (scCells s), some [.isl [] .exact, .isl [] .exact, .isl [] .exact], some [.isl (op.map evPV) (.tok σ.rooms.length op.length 4), .isl (ab.map stPV) (.tok (σ.rooms.length + 1) ab.length 2), .isl (fi.map stPV) (.tok (σ.rooms.length + 2) fi.length 2)]] [op.length, ab.length, fi.length]) (fun ⟨k, fi, b⟩ => fi.length + k ≤ 3 ∧ R2 = finesC s.schools k fi b) (fun ⟨k, fi, b⟩ => k) ((n4, [], b2)) rfl (by first | rfl | (simp only [go_sem]; done) | (simp only [go_sem]; rfl)) (⟨by simp; omega, hR2.symm⟩) ?_
    rintro ⟨k, fi, b⟩ ⟨hk, hinv3⟩
    refine W_seq fun kz19 kq19 => ?_
    refine W_seq fun kz20 kq20 => ?_
    refine W_region [0, 4, 6, 7, 11, 76] fun R hR => ?_   -- r15
    simp only [go_sem, ldS_at hd, stX_at hd, ldS_sv hlt, stX_sv hlt, sv_ext hlt, sv_ext_sv hlt, hq4, hb1, hnf, hb2]
    refine hR _ _ (kq20 _ _ ?_); clear hR R; try clear kq20 kz20
    try simp only [go_sem, ldS_at hd, stX_at hd, ldS_sv hlt, stX_sv hlt, sv_ext hlt, sv_ext_sv hlt, hq4, hb1, hnf, hb2]
    refine W_cond rfl (fun c5 => ?_) (fun c5 => ?_)
    · -- c5 true
      try simp only [nrm] at c5
      obtain ⟨k, rfl⟩ : ∃ z, k = z + 1 := ⟨k - 1, by first | omega | (simp at c5; omega)⟩
      simp only [finesC, dbind] at hinv3
      obtain ⟨fa, hfa⟩ : ∃ zz, (roll s.schools b).1 = zz := ⟨_, rfl⟩
      obtain ⟨b1, hb1⟩ : ∃ zz, (roll s.schools b).2 = zz := ⟨_, rfl⟩
      have dfa := roll_bd s.schools b
      simp only [hfa] at dfa
      obtain ⟨fy, hfy⟩ : ∃ zz, (anyOf [3, 100] b1).1 = zz := ⟨_, rfl⟩
      obtain ⟨b2, hb2⟩ : ∃ zz, (anyOf [3, 100] b1).2 = zz := ⟨_, rfl⟩
      have dfy := anyOf_mem [3, 100] (by simp) b1
      simp only [hfy] at dfy
      obtain ⟨fp, hfp⟩ : ∃ zz, (roll fy b2).1 = zz := ⟨_, rfl⟩
      obtain ⟨b3, hb3⟩ : ∃ zz, (roll fy b2).2 = zz := ⟨_, rfl⟩
      have dfp := roll_bd fy b2
      simp only [hfp] at dfp
      simp only [hfa, hb1, hfy, hb2, hfp, hb3] at hinv3
      have hfyb : 0 ≤ fy ∧ fy ≤ 100 := by rcases mem2 dfy with h | h <;> omega
      refine W_skip (kq19 _ _ ?_)
      refine W_seq fun kz21 kq21 => ?_
      refine W_block ?_
      refine W_draw [0, 4, 6, 7, 11] [0, 1, 2, 3, 4, 5, 6, 7, 8, 9, 10, 11, 12, 13, 14, 15] [(0, 9), (0, 10), (0, 13), (1, 9), (1, 10), (1, 13), (6, 5), (6, 10), (7, 5), (8, 5)] [[], [0], [], [], [3], [2, 3, 4], [], [], [], [2, 3, 4, 5, 7, 8], [2, 3, 4, 5, 6, 7, 8, 9], [2, 3, 4, 5, 6, 7, 8, 9, 10], [2, 3, 4, 5, 6, 7, 8, 9, 10, 11], [0, 1, 2, 3, 4, 5, 6, 7, 8, 9, 10, 11, 12], [0, 1, 2, 3, 4, 5, 6, 7, 8, 9, 10, 11, 12, 13], [0, 1, 2, 3, 4, 5, 6, 7, 8, 9, 10, 11, 12, 13, 14]] mixed (by kernel_rfl) fun R hR => ?_   -- r17
      simp only [go_sem, ldS_at hd, stX_at hd, ldS_sv hlt, stX_sv hlt, sv_ext hlt, sv_ext_sv hlt, hq4, hb1, hnf, hb2, hfa, hb1, hfy, hb2, hfp, hb3]
      refine GCall_of (Roll_pc Y _ d b (by first | exact hd | exact sv_get hlt | exact get_svx hlt | exact get_extx hd) s.schools (by omega)) ?_   -- t84
      simp only [go_sem, ldS_at hd, stX_at hd, ldS_sv hlt, stX_sv hlt, sv_ext hlt, sv_ext_sv hlt, hq4, hb1, hnf, hb2, hfa, hb1, hfy, hb2, hfp, hb3]
      refine GCall_of (Any_pc Y _ d b1 (by first | exact hd | exact sv_get hlt | exact get_svx hlt | exact get_extx hd) [3, 100] (by simp) (by simp)) ?_   -- t88
      simp only [go_sem, ldS_at hd, stX_at hd, ldS_sv hlt, stX_sv hlt, sv_ext hlt, sv_ext_sv hlt, hq4, hb1, hnf, hb2, hfa, hb1, hfy, hb2, hfp, hb3]
      refine GCall_of (Roll_pc Y _ d b2 (by first | exact hd | exact sv_get hlt | exact get_svx hlt | exact get_extx hd) fy (by omega)) ?_   -- t89
      simp only [go_sem, ldS_at hd, stX_at hd, ldS_sv hlt, stX_sv hlt, sv_ext hlt, sv_ext_sv hlt, hq4, hb1, hnf, hb2, hfa, hb1, hfy, hb2, hfp, hb3]
      try simp (disch := first | omega | (simp only [go_sem] <;> omega)) only [wrapI, wrapU, appX_exact, appX_tok]
      try simp only [go_sem, ldS_at hd, stX_at hd, ldS_sv hlt, stX_sv hlt, sv_ext hlt, sv_ext_sv hlt, hq4, hb1, hnf, hb2, hfa, hb1, hfy, hb2, hfp, hb3]
      try refine And.intro (by repeat' (first | refine And.intro ?_ ?_ | exact GOr_right (fun _ => by simp only [go_sem, ldS_at hd, stX_at hd, ldS_sv hlt, stX_sv hlt, sv_ext hlt, sv_ext_sv hlt, hq4, hb1, hnf, hb2, hfa, hb1, hfy, hb2, hfp, hb3]))) ?_
      refine hR _ _ (kq21 _ _ ?_); clear hR R; try clear kq21 kz21
      try simp only [go_sem, ldS_at hd, stX_at hd, ldS_sv hlt, stX_sv hlt, sv_ext hlt, sv_ext_sv hlt, hq4, hb1, hnf, hb2, hfa, hb1, hfy, hb2, hfp, hb3]
      refine W_region [0, 4, 6, 7, 11] fun R hR => ?_   -- r16
      simp only [go_sem, ldS_at hd, stX_at hd, ldS_sv hlt, stX_sv hlt, sv_ext hlt, sv_ext_sv hlt, hq4, hb1, hnf, hb2, hfa, hb1, hfy, hb2, hfp, hb3]
      try simp (disch := omega) only [wrapI, wrapU]
      refine hR _ _ ?_; clear hR R
      try simp only [go_sem, ldS_at hd, stX_at hd, ldS_sv hlt, stX_sv hlt, sv_ext hlt, sv_ext_sv hlt, hq4, hb1, hnf, hb2, hfa, hb1, hfy, hb2, hfp, hb3]
      refine ⟨(k, fi ++ [(fa, fp)], b3), ?_, by (try simp only []); omega, ?_⟩
      · first | exact Weak.refl | exact Weak.eq (by first | rfl | (simp only [go_sem]; done) | (simp only [go_sem]; rfl) | (simp [go_sem]; done) | (simp [go_sem]; omega)) (by first | rfl | (simp only [go_sem]; done) | (simp [go_sem]; done))
      · try dsimp only
        exact ⟨by simp; omega, hinv3⟩
    · -- c5 false
      try simp only [nrm] at c5
      have hke : k = 0 := by first | omega | (simp at c5; omega)
      subst hke
      simp only [finesC, dret] at hinv3
      rw [hinv3] at hres
      simp only [] at hres
      obtain ⟨od, hod⟩ : ∃ zz, (orderD op.length b).1 = zz := ⟨_, rfl⟩
      obtain ⟨b1, hb1⟩ : ∃ zz, (orderD op.length b).2 = zz := ⟨_, rfl⟩
      have dod := orderD_perm op.length b
      simp only [hod] at dod
      simp only [hod, hb1, dret] at hres
      refine W_exit ?_
      simp only [go_sem, ldS_at hd, stX_at hd, ldS_sv hlt, stX_sv hlt, sv_ext hlt, sv_ext_sv hlt, hq4, hb1, hnf, hb2, hod, hb1]
      refine kq17 _ _ ?_
      refine W_seq fun kz22 kq22 => ?_
      refine W_region [6, 7, 12] fun R hR => ?_   -- r18
      simp only [go_sem, ldS_at hd, stX_at hd, ldS_sv hlt, stX_sv hlt, sv_ext hlt, sv_ext_sv hlt, hq4, hb1, hnf, hb2, hod, hb1]
      refine GCall_of (Order_pc Y _ d b (by first | exact hd | exact sv_get hlt | exact get_svx hlt | exact get_extx hd) op.length (by omega)) ?_   -- t98
      simp only [go_sem, ldS_at hd, stX_at hd, ldS_sv hlt, stX_sv hlt, sv_ext hlt, sv_ext_sv hlt, hq4, hb1, hnf, hb2, hod, hb1]
      refine hR _ _ (kq22 _ _ ?_); clear hR R; try clear kq22 kz22
      try simp only [go_sem, ldS_at hd, stX_at hd, ldS_sv hlt, stX_sv hlt, sv_ext hlt, sv_ext_sv hlt, hq4, hb1, hnf, hb2, hod, hb1]
      refine W_seq fun kz23 kq23 => ?_
      refine W_region [6, 7, 12, 13] fun R hR => ?_   -- r19
      simp only [go_sem, ldS_at hd, stX_at hd, ldS_sv hlt, stX_sv hlt, sv_ext hlt, sv_ext_sv hlt, hq4, hb1, hnf, hb2, hod, hb1]
      refine hR _ _ (kq23 _ _ ?_); clear hR R; try clear kq23 kz23
      try simp only [go_sem, ldS_at hd, stX_at hd, ldS_sv hlt, stX_sv hlt, sv_ext hlt, sv_ext_sv hlt, hq4, hb1, hnf, hb2, hod, hb1]
      refine W_seq fun kz24 kq24 => ?_
      refine W_seq fun kz25 kq25 => ?_
      refine W_region [6, 7, 12, 13, 14] fun R hR => ?_   -- r20
      simp only [go_sem, ldS_at hd, stX_at hd, ldS_sv hlt, stX_sv hlt, sv_ext hlt, sv_ext_sv hlt, hq4, hb1, hnf, hb2, hod, hb1]
      refine hR _ _ (kq25 _ _ ?_); clear hR R; try clear kq25 kz25
      try simp only [go_sem, ldS_at hd, stX_at hd, ldS_sv hlt, stX_sv hlt, sv_ext hlt, sv_ext_sv hlt, hq4, hb1, hnf, hb2, hod, hb1]
      refine W_block ?_
      have hol : od.length = op.length := by rw [dod.length_eq]; simp
      refine W_weak (Weak.room (t := 13) (es := 4) rfl (by simp)) ?_
      refine W_weak (Weak.keep [6, 7, 12, 13, 14]) ?_
      simp only [go_sem, ldS_at hd, stX_at hd, ldS_sv hlt, stX_sv hlt, sv_ext hlt, sv_ext_sv hlt, hq4, hb1, hnf, hb2, hod, hb1]
      refine W_loopT (α := Nat) (fun (i : Nat) => [(13, .isl ((pickE op (od.take i)).map evPV) (.tok (σ.rooms.length + 3) i 4)), (14, I i)]) (fun (i : Nat) => (σ.setVar d [.int .u64 b1]).ext [some (scCells s), some [.isl [] .exact, .isl [] .exact, .isl [] .exact], some [.isl (op.map evPV) (.tok σ.rooms.length op.length 4), .isl (ab.map stPV) (.tok (σ.rooms.length + 1) ab.length 2), .isl (fi.map stPV) (.tok (σ.rooms.length + 2) fi.length 2)]] [op.length, ab.length, fi.length, i]) (fun (i : Nat) => i ≤ od.length) (fun (i : Nat) => od.length - i) (0) rfl (by first | rfl | (simp only [go_sem]; done) | (simp only [go_sem]; rfl)) (Nat.zero_le _) ?_
      rintro i hi
      refine W_seq fun kz26 kq26 => ?_
      refine W_seq fun kz27 kq27 => ?_
      refine W_region [6, 7, 12, 13, 14, 102] fun R hR => ?_   -- r21
      simp only [go_sem, ldS_at hd, stX_at hd, ldS_sv hlt, stX_sv hlt, sv_ext hlt, sv_ext_sv hlt, hq4, hb1, hnf, hb2, hod, hb1]
      refine hR _ _ (kq27 _ _ ?_); clear hR R; try clear kq27 kz27
      try simp only [go_sem, ldS_at hd, stX_at hd, ldS_sv hlt, stX_sv hlt, sv_ext hlt, sv_ext_sv hlt, hq4, hb1, hnf, hb2, hod, hb1]
      refine W_cond rfl (fun c6 => ?_) (fun c6 => ?_)
      · -- c6 true
        try simp only [nrm] at c6
        have hi' : i < od.length := by first | omega | (simp at c6; omega)
        obtain ⟨x, hx⟩ : ∃ x, od[i]? = some x := ⟨od[i], by simp [hi']⟩
        obtain ⟨y, rfl, hy⟩ : ∃ y : Nat, x = y ∧ y < op.length := by
          obtain ⟨y, h1, h2⟩ := List.mem_map.1 (dod.mem_iff.1 (List.mem_of_getElem? hx))
          exact ⟨y, h2.symm, List.mem_range.1 h1⟩
        obtain ⟨e, he⟩ : ∃ e, op[y]? = some e := ⟨op[y], by simp [hy]⟩
        have hpl : (pickE op (od.take i)).length = i := by simp [pickE]; omega
        have hpk : pickE op (od.take (i + 1)) = pickE op (od.take i) ++ [e] := by rw [List.take_add_one, hx]; simp [pickE, he]
        refine W_skip (kq26 _ _ ?_)
        refine W_seq fun kz28 kq28 => ?_
        refine W_block ?_
        refine W_draw [6, 7, 12, 13, 14] [0, 1, 2, 3, 4, 5, 6, 7, 8, 9, 10, 11] [] [[], [], [1], [], [], [3, 4], [3, 4, 5], [1, 2, 3, 4, 5, 6], [1, 2, 3, 4, 5, 6, 7], [1, 2, 3, 4, 5, 6, 7, 8], [0, 1, 2, 3, 4, 5, 6, 7, 8, 9], [0, 1, 2, 3, 4, 5, 6, 7, 8, 9, 10]] mixed (by kernel_rfl) fun R hR => ?_   -- r23
        simp only [go_sem, ldS_at hd, stX_at hd, ldS_sv hlt, stX_sv hlt, sv_ext hlt, sv_ext_sv hlt, hq4, hb1, hnf, hb2, hod, hb1, hx, he]
        try simp (disch := first | omega | (simp only [go_sem] <;> omega)) only [wrapI, wrapU, appX_exact, appX_tok]
        try simp only [go_sem, ldS_at hd, stX_at hd, ldS_sv hlt, stX_sv hlt, sv_ext hlt, sv_ext_sv hlt, hq4, hb1, hnf, hb2, hod, hb1, hx, he]
        try refine And.intro (by repeat' (first | refine And.intro ?_ ?_ | exact GOr_right (fun _ => by simp only [go_sem, ldS_at hd, stX_at hd, ldS_sv hlt, stX_sv hlt, sv_ext hlt, sv_ext_sv hlt, hq4, hb1, hnf, hb2, hod, hb1, hx, he]))) ?_
        refine hR _ _ (kq28 _ _ ?_); clear hR R; try clear kq28 kz28
        try simp only [go_sem, ldS_at hd, stX_at hd, ldS_sv hlt, stX_sv hlt, sv_ext hlt, sv_ext_sv hlt, hq4, hb1, hnf, hb2, hod, hb1, hx, he]
        refine W_region [6, 7, 12, 13, 14] fun R hR => ?_   -- r22
        simp only [go_sem, ldS_at hd, stX_at hd, ldS_sv hlt, stX_sv hlt, sv_ext hlt, sv_ext_sv hlt, hq4, hb1, hnf, hb2, hod, hb1, hx, he]
        try simp (disch := omega) only [wrapI, wrapU]
        refine hR _ _ ?_; clear hR R
        try simp only [go_sem, ldS_at hd, stX_at hd, ldS_sv hlt, stX_sv hlt, sv_ext hlt, sv_ext_sv hlt, hq4, hb1, hnf, hb2, hod, hb1, hx, he]
        refine ⟨i + 1, ?_, by (try simp only []); omega, ?_⟩
        · refine Weak.eq (by first | rfl | (simp only [go_sem, hpk, hpl, List.map_append]; done) | (simp [go_sem, hpk, hpl]; done)) ?_
          simp only [go_sem, hpl]
        · try dsimp only
          omega
      · -- c6 false
        try simp only [nrm] at c6
        have hie : od.length = i := by first | omega | (simp at c6; omega)
        subst hie
        simp only [List.take_length, hol]
        refine W_exit ?_
        simp only [go_sem, ldS_at hd, stX_at hd, ldS_sv hlt, stX_sv hlt, sv_ext hlt, sv_ext_sv hlt, hq4, hb1, hnf, hb2, hod, hb1]
        refine kq24 _ _ ?_
        refine W_seq fun kz29 kq29 => ?_
        refine W_region [6, 7] fun R hR => ?_   -- r24
        simp only [go_sem, ldS_at hd, stX_at hd, ldS_sv hlt, stX_sv hlt, sv_ext hlt, sv_ext_sv hlt, hq4, hb1, hnf, hb2, hod, hb1]
        refine hR _ _ (kq29 _ _ ?_); clear hR R; try clear kq29 kz29
        try simp only [go_sem, ldS_at hd, stX_at hd, ldS_sv hlt, stX_sv hlt, sv_ext hlt, sv_ext_sv hlt, hq4, hb1, hnf, hb2, hod, hb1]
        refine W_seq fun kz30 kq30 => ?_
        refine W_region [6] fun R hR => ?_   -- r25
        simp only [go_sem, ldS_at hd, stX_at hd, ldS_sv hlt, stX_sv hlt, sv_ext hlt, sv_ext_sv hlt, hq4, hb1, hnf, hb2, hod, hb1]
        refine hR _ _ (kq30 _ _ ?_); clear hR R; try clear kq30 kz30
        try simp only [go_sem, ldS_at hd, stX_at hd, ldS_sv hlt, stX_sv hlt, sv_ext hlt, sv_ext_sv hlt, hq4, hb1, hnf, hb2, hod, hb1]
        refine W_ret ?_
        simp only [go_sem, ldS_at hd, stX_at hd, ldS_sv hlt, stX_sv hlt, sv_ext hlt, sv_ext_sv hlt, hq4, hb1, hnf, hb2, hod, hb1]
        refine ⟨.inr (by trivial), ?_⟩
        rw [← hres]; refine Fin_set hcl (by simp only [go_sem]) (by show resPV Tryz.prog _ _ [.cell 6 29] = some _; simp only [resPV, go_sem]; rfl) (Wk.ro (by simp only [go_sem]) ?_)
        try simp only [go_sem]
        all_goals
          rw [← hol, List.take_length]
end Go.Proofs.YtgelnjmddabgpaaGreat
namespace Go.Proofs.YtgelnjmddabgpaaGreat
set_option maxRecDepth 100000
def Bef (m j : Nat) (p : Int × Int) : Prop := p.1 < m ∨ (p.1 = m ∧ p.2 < j)
structure RInv (s : Scale) (dec : Bool) (m j : Nat) (here : Int) (op : List Envl) (ab : List (Int × Int)) : Prop where
  go : ∀ x, x ∈ op → GoodE s x ∧ Bef m j (jdE x)
  ga : ∀ a, a ∈ ab → ofSc s a = true ∧ Bef m j a
  nd : (op.map jdE ++ ab).Nodup
  sh : ∀ m' : Int, 0 ≤ m' → m' < m → ∃ q, (0 ≤ q ∧ q < s.judges) ∧ (m', q) ∉ ab
  he : 0 < here → ∃ q : Int, (0 ≤ q ∧ q < j) ∧ ((m : Int), q) ∉ ab
  h0 : 0 ≤ here
  dc : dec = true → ∀ p, ofSc s p = true → Bef m j p → p ∈ ab ∨ ∃ x, x ∈ op ∧ jdE x = p
  l1 : op.length ≤ 5 * m + j
  l2 : ab.length ≤ 5 * m + j
theorem Bef.mono {m j : Nat} {p : Int × Int} (h : Bef m j p) : Bef m (j + 1) p := by
  unfold Bef at *; omega
theorem sealed_good {s : Scale} (hc : chkSc s = 0) {m j : Int} {l : List Int} (hj : ofSc s (m, j) = true) (hl : (l.length : Int) = s.schools ∧ ∀ x, x ∈ l → s.low ≤ x ∧ x ≤ s.high) : GoodE s (sealedE s m j l) := by
  have hm : marked s (m, j) l = 0 := marked_of hj hl.1 hl.2
  refine ⟨hm, ?_⟩
  show (sealAns s (m, j) l).1 = sealOf (m, j) l
  unfold sealAns
  rw [if_neg (by simp [hc]), if_neg (by simp [hm])]
section
variable {s : Scale} {dec : Bool} {m j : Nat} {here : Int} {op : List Envl} {ab : List (Int × Int)}
theorem RInv.absent (h : RInv s dec m j here op ab) (hj : ofSc s ((m : Int), (j : Int)) = true) : RInv s dec m (j + 1) here op (ab ++ [((m : Int), (j : Int))]) where
  go := fun x hx => ⟨(h.go x hx).1, (h.go x hx).2.mono⟩
  ga := fun a ha => by
    rcases List.mem_append.1 ha with ha | ha
    · exact ⟨(h.ga a ha).1, (h.ga a ha).2.mono⟩
    · simp at ha; subst ha; exact ⟨hj, .inr ⟨rfl, by simp; omega⟩⟩
  nd := by
    rw [← List.append_assoc, List.nodup_append]
    refine ⟨h.nd, by simp, fun a ha b hb e => ?_⟩
    simp at hb
    subst hb e
    rcases List.mem_append.1 ha with ha | ha
    · obtain ⟨x, hx, e⟩ := List.mem_map.1 ha
      have := (h.go x hx).2
      rw [e] at this
      unfold Bef at this; simp at this
    · have := (h.ga _ ha).2
      unfold Bef at this; simp at this
  sh := fun m' a b => by
    obtain ⟨q, h1, h2⟩ := h.sh m' a b
    refine ⟨q, h1, fun hq => ?_⟩
    rcases List.mem_append.1 hq with hq | hq
    · exact h2 hq
    · simp at hq; omega
  he := fun hh => by
    obtain ⟨q, h1, h2⟩ := h.he hh
    refine ⟨q, by omega, fun hq => ?_⟩
    rcases List.mem_append.1 hq with hq | hq
    · exact h2 hq
    · simp at hq; omega
  h0 := h.h0
  dc := fun hd p hp hb => by
    by_cases e : p = ((m : Int), (j : Int))
    · exact .inl (by simp [e])
    · have : Bef m j p := by
        unfold Bef at *
        have : ¬ (p.1 = m ∧ p.2 = j) := fun ⟨a, b⟩ => e (Prod.ext a b)
        omega
      rcases h.dc hd p hp this with k | k
      · exact .inl (by simp [k])
      · exact .inr k
  l1 := by have := h.l1; omega
  l2 := by have := h.l2; simp; omega
theorem RInv.skip (h : RInv s dec m j here op ab) (hd : dec = false) : RInv s dec m (j + 1) (here + 1) op ab where
  go := fun x hx => ⟨(h.go x hx).1, (h.go x hx).2.mono⟩
  ga := fun a ha => ⟨(h.ga a ha).1, (h.ga a ha).2.mono⟩
  nd := h.nd
  sh := h.sh
  he := fun _ => ⟨j, by omega, fun ha => by have := (h.ga _ ha).2; unfold Bef at this; simp at this⟩
  h0 := by have := h.h0; omega
  dc := fun e => by rw [hd] at e; cases e
  l1 := by have := h.l1; omega
  l2 := by have := h.l2; omega
theorem RInv.opened (h : RInv s dec m j here op ab) (hc : chkSc s = 0) (hj : ofSc s ((m : Int), (j : Int)) = true) {l : List Int} (hl : (l.length : Int) = s.schools ∧ ∀ x, x ∈ l → s.low ≤ x ∧ x ≤ s.high) : RInv s dec m (j + 1) (here + 1) (op ++ [sealedE s m j l]) ab where
  go := fun x hx => by
    rcases List.mem_append.1 hx with hx | hx
    · exact ⟨(h.go x hx).1, (h.go x hx).2.mono⟩
    · simp at hx; subst hx; exact ⟨sealed_good hc hj hl, .inr ⟨rfl, by simp [jdE, sealedE]; omega⟩⟩
  ga := fun a ha => ⟨(h.ga a ha).1, (h.ga a ha).2.mono⟩
  nd := by
    have hnew : ((m : Int), (j : Int)) ∉ op.map jdE ++ ab := fun ha => by
      rcases List.mem_append.1 ha with ha | ha
      · obtain ⟨x, hx, e⟩ := List.mem_map.1 ha
        have := (h.go x hx).2
        rw [e] at this
        unfold Bef at this; simp at this
      · have := (h.ga _ ha).2
        unfold Bef at this; simp at this
    rw [List.map_append, List.append_assoc]
    show (op.map jdE ++ ([((m : Int), (j : Int))] ++ ab)).Nodup
    have : (op.map jdE ++ ([((m : Int), (j : Int))] ++ ab)).Perm (((m : Int), (j : Int)) :: (op.map jdE ++ ab)) := List.perm_middle
    rw [this.nodup_iff, List.nodup_cons]
    exact ⟨hnew, h.nd⟩
  sh := h.sh
  he := fun _ => ⟨j, by omega, fun ha => by have := (h.ga _ ha).2; unfold Bef at this; simp at this⟩
  h0 := by have := h.h0; omega
  dc := fun hd p hp hb => by
    by_cases e : p = ((m : Int), (j : Int))
    · exact .inr ⟨_, List.mem_append.2 (.inr (List.mem_singleton.2 rfl)), e.symm⟩
    · have : Bef m j p := by
        unfold Bef at *
        have : ¬ (p.1 = m ∧ p.2 = j) := fun ⟨a, b⟩ => e (Prod.ext a b)
        omega
      rcases h.dc hd p hp this with k | ⟨x, k1, k2⟩
      · exact .inl k
      · exact .inr ⟨x, by simp [k1], k2⟩
  l1 := by have := h.l1; simp; omega
  l2 := by have := h.l2; omega
theorem RInv.next (h : RInv s dec m j here op ab) (hv : s.V) (hJ : s.judges = j) (hh : 0 < here) : RInv s dec (m + 1) 0 0 op ab where
  go := fun x hx => ⟨(h.go x hx).1, by have := (h.go x hx).2; unfold Bef at *; omega⟩
  ga := fun a ha => ⟨(h.ga a ha).1, by have := (h.ga a ha).2; unfold Bef at *; omega⟩
  nd := h.nd
  sh := fun m' a b => by
    by_cases e : m' < m
    · exact h.sh m' a e
    · obtain ⟨q, h1, h2⟩ := h.he hh
      have e2 : m' = m := by omega
      subst e2
      exact ⟨q, by omega, h2⟩
  he := fun a => absurd a (by omega)
  h0 := Int.le_refl _
  dc := fun hd p hp hb => h.dc hd p hp (by
    obtain ⟨_, h2⟩ := ofSc_true.1 hp
    unfold Bef at *
    omega)
  l1 := by have := h.l1; have := hv.jd; omega
  l2 := by have := h.l2; have := hv.jd; omega
end
theorem nightJ_ok {s : Scale} {dec : Bool} (hc : chkSc s = 0) {J m : Nat} (hJ : s.judges = J) (hm : (m : Int) < s.matters) : ∀ (k : Nat) (here : Int) (op : List Envl) (ab : List (Int × Int)), k ≤ J → RInv s dec m (J - k) here op ab → (k = 0 → 0 < here) → Holds (nightJ s dec J m k here op ab) fun p => RInv s dec (m + 1) 0 0 p.1 p.2 := by
  have hv := Scale.v hc
  have hjd := hv.jd
  intro k
  induction k with
  | zero =>
    intro here op ab _ h h0
    exact .ret (h.next hv (by simpa using hJ) (h0 rfl))
  | succ k ih =>
    intro here op ab hk h _
    have e : J - k = (J - (k + 1)) + 1 := by omega
    have hj : ofSc s ((m : Int), ((J - (k + 1) : Nat) : Int)) = true := by rw [ofSc_true]; constructor <;> simp <;> omega
    have hh := h.h0
    simp only [nightJ]
    have hr : Holds (rare 5) fun _ => True := fun _ => trivial
    refine hr.bind fun a _ => ?_
    split
    · rename_i hcond
      refine ih _ _ _ (by omega) (by rw [e]; exact h.absent hj) fun hk0 => ?_
      subst hk0
      omega
    · split
      · exact (marksD_ok hv).bind fun l hl => ih _ _ _ (by omega) (by rw [e]; exact h.opened hc hj hl) fun _ => by omega
      · rename_i hd
        have hr : Holds (rare 3) fun _ => True := fun _ => trivial
        refine hr.bind fun r _ => ?_
        split
        · exact ih _ _ _ (by omega) (by rw [e]; exact h.skip (by simpa using hd)) fun _ => by omega
        · exact (marksD_ok hv).bind fun l hl => ih _ _ _ (by omega) (by rw [e]; exact h.opened hc hj hl) fun _ => by omega
theorem nightM_ok {s : Scale} {dec : Bool} (hc : chkSc s = 0) {M J : Nat} (hM : s.matters = M) (hJ : s.judges = J) : ∀ (k : Nat) (op : List Envl) (ab : List (Int × Int)), k ≤ M → RInv s dec (M - k) 0 0 op ab → Holds (nightM s dec M J k op ab) fun p => RInv s dec M 0 0 p.1 p.2 := by
  have hjd := (Scale.v hc).jd
  intro k
  induction k with
  | zero => intro op ab _ h; exact .ret h
  | succ k ih =>
    intro op ab hk h
    simp only [nightM]
    refine (nightJ_ok hc hJ (by omega) J 0 op ab (Nat.le_refl _) (by rw [Nat.sub_self]; exact h) (fun e => by omega)).bind fun p hp => ih _ _ (by omega) ?_
    rw [show M - k = M - (k + 1) + 1 by omega]
    exact hp
def FinesIn (sc : Int) (l : List (Int × Int)) : Prop := ∀ f, f ∈ l → (0 ≤ f.1 ∧ f.1 ≤ sc - 1) ∧ 0 ≤ f.2 ∧ f.2 ≤ 1000
theorem finesC_ok {sc : Int} (hs : 1 ≤ sc) : ∀ (k : Nat) (fi : List (Int × Int)), FinesIn sc fi → Holds (finesC sc k fi) fun l => FinesIn sc l ∧ l.length = fi.length + k := by
  intro k
  induction k with
  | zero => intro fi h; exact .ret ⟨h, rfl⟩
  | succ k ih =>
    intro fi h
    simp only [finesC]
    refine (roll_bd sc).bind fun a ha => (anyOf_mem [3, 100] (by simp)).bind fun y hy => (roll_bd y).bind fun p hp => (ih (fi ++ [(a, p)]) fun f hf => ?_).mono fun l hl => ⟨hl.1, by rw [hl.2]; simp; omega⟩
    rcases List.mem_append.1 hf with hf | hf
    · exact h f hf
    · simp at hf
      subst hf
      simp only
      rcases mem2 hy with rfl | rfl <;> omega
theorem finesD_ok {sc : Int} (hs : 1 ≤ sc) : Holds (finesD sc) fun l => FinesIn sc l ∧ l.length ≤ 3 := by
  unfold finesD
  refine (roll_bd 4).bind fun q hq => (anyOf_mem [0, 0, q] (by simp)).bind fun n hn => (finesC_ok hs n.toNat [] (fun f hf => by cases hf)).mono fun l hl => ⟨hl.1, ?_⟩
  have : 0 ≤ n ∧ n ≤ 3 := by rcases mem3 hn with rfl | rfl | rfl <;> omega
  rw [hl.2]; simp; omega
theorem finesR_zero {s : Scale} : ∀ {l : List (Int × Int)}, finesR s l = 0 ↔ FinesIn s.schools l := by
  intro l
  induction l with
  | nil => simp [finesR, FinesIn]
  | cons f l ih =>
    simp only [finesR]
    by_cases h1 : inR f.1 0 (s.schools - 1) = true
    · rw [h1]
      simp only [Bool.not_true, Bool.false_eq_true, if_false]
      by_cases h2 : inR f.2 0 1000 = true
      · rw [h2]
        simp only [Bool.not_true, Bool.false_eq_true, if_false]
        rw [ih]
        constructor
        · intro h g hg
          rcases List.mem_cons.1 hg with rfl | hg
          · exact ⟨inR_true.1 h1, inR_true.1 h2⟩
          · exact h g hg
        · intro h g hg; exact h g (by simp [hg])
      · have e : inR f.2 0 1000 = false := by simpa using h2
        rw [e]
        constructor
        · intro h; exact absurd h (by simp)
        · intro h; exact absurd (inR_true.2 (h f (by simp)).2) h2
    · have e : inR f.1 0 (s.schools - 1) = false := by simpa using h1
      rw [e]
      constructor
      · intro h; exact absurd h (by simp)
      · intro h; exact absurd (inR_true.2 (h f (by simp)).1) h1
theorem pickE_perm {op : List Envl} {od : List Int} (h : od.Perm ((List.range op.length).map fun (i : Nat) => (i : Int))) : (pickE op od).Perm op := by
  have h1 := h.map fun i : Int => (op[i.toNat]?).getD ⟨0, 0, [], 0⟩
  refine h1.trans ?_
  rw [List.map_map]
  have : (List.range op.length).map ((fun i : Int => (op[i.toNat]?).getD ⟨0, 0, [], 0⟩) ∘ fun (i : Nat) => (i : Int)) = op := by
    apply List.ext_getElem?
    intro i
    by_cases hi : i < op.length
    · simp [hi]
    · simp [hi]
  rw [this]
theorem sameE_of_nodup : ∀ {l : List Envl}, (l.map jdE).Nodup → SameE l := by
  intro l
  induction l with
  | nil => intro _ x hx; cases hx
  | cons a l ih =>
    intro h x hx y hy e
    rw [List.map_cons, List.nodup_cons] at h
    rcases List.mem_cons.1 hx with rfl | hx'
    · rcases List.mem_cons.1 hy with rfl | hy
      · rfl
      · exact absurd (List.mem_map.2 ⟨y, hy, e.symm⟩) h.1
    · rcases List.mem_cons.1 hy with rfl | hy
      · exact absurd (List.mem_map.2 ⟨x, hx', e⟩) h.1
      · exact ih h.2 x hx' y hy e
structure NightM (s : Scale) (dec : Bool) (n : Night) : Prop where
  v : NightV s n
  l1 : n.opened.length ≤ 30
  l2 : n.absent.length ≤ 30
  l3 : n.fines.length ≤ 3
  nd : (n.opened.map jdE).Nodup
  fi : FinesIn s.schools n.fines
  dc : dec = true → ∀ p, ofSc s p = true → p ∈ n.absent ∨ ∃ x, x ∈ n.opened ∧ jdE x = p
theorem nightD_ok {s : Scale} (hc : chkSc s = 0) (dec : Bool) : Holds (nightD s dec) (NightM s dec) := by
  have hv := Scale.v hc
  have q1 := hv.mt
  have q2 := hv.jd
  have q3 := hv.sc
  unfold nightD
  have h0 : RInv s dec (s.matters.toNat - s.matters.toNat) 0 0 [] [] := by
    rw [Nat.sub_self]
    exact ⟨(fun x hx => by cases hx), (fun x hx => by cases hx), by simp, (fun m' a b => by omega), (fun h => absurd h (by omega)), Int.le_refl _, (fun _ p hp hb => by
      obtain ⟨h1, _⟩ := ofSc_true.1 hp
      unfold Bef at hb; omega), by simp, by simp⟩
  refine (nightM_ok hc (by omega) (by omega) s.matters.toNat [] [] (Nat.le_refl _) h0).bind fun p hp => (finesD_ok q3.1).bind fun fi hfi => (orderD_perm p.1.length).bind fun od hod => .ret ?_
  have hpm := pickE_perm hod
  have hmem : ∀ x, x ∈ pickE p.1 od ↔ x ∈ p.1 := fun x => hpm.mem_iff
  have hnd : ((pickE p.1 od).map jdE).Nodup := (hpm.map jdE).nodup_iff.2 (List.nodup_append.1 hp.nd).1
  have l1 := hp.l1
  have l2 := hp.l2
  have hl := hpm.length_eq
  refine ⟨⟨hc, by simp only; omega, fun x hx => (hp.go x ((hmem x).1 hx)).1, sameE_of_nodup hnd, by simp only; omega, fun j hj => ⟨(hp.ga j hj).1, fun x hx e => ?_⟩, fun m m0 m1 => hp.sh m m0 (by omega), ?_⟩, by simp only; omega, by simp only; omega, hfi.2, hnd, hfi.1, fun hd q hq => ?_⟩
  · exact (List.nodup_append.1 hp.nd).2.2 (jdE x) (List.mem_map.2 ⟨x, (hmem x).1 hx, rfl⟩) j hj e
  · show finesE s fi = 0
    unfold finesE
    rw [if_neg (by omega)]
    exact finesR_zero.2 hfi.1
  · rcases hp.dc hd q hq (.inl (by obtain ⟨h1, _⟩ := ofSc_true.1 hq; omega)) with k | ⟨x, k1, k2⟩
    · exact .inl k
    · exact .inr ⟨x, (hmem x).2 k1, k2⟩
theorem NightV.ok {s : Scale} {n : Night} (h : NightV s n) : n.Ok := by
  have hv := Scale.v h.c
  have hs := hv.sc
  have h1 := h.o60
  have h2 := h.a60
  refine ⟨by omega, by omega, ?_, fun x hx => ?_⟩
  · have := h.fi
    unfold finesE at this
    split at this
    · cases this
    · omega
  · have := (marked_ok (h.op x hx).m).2.1
    omega
end Go.Proofs.YtgelnjmddabgpaaGreat
namespace Go.Proofs.YtgelnjmddabgpaaGreat
open Go Go.RowKit
set_option maxRecDepth 100000
def exTab : List Stand := [⟨0, 385, [195, 190]⟩, ⟨2, 365, [175, 195]⟩, ⟨1, 365, [195, 170]⟩]
def exTot : List (Int × Int) := [(340, 385), (355, 390), (345, 370)]
set_option maxHeartbeats 4000000 in
theorem awake_pc (Y : YEnv) (σ : Sg)  :
    PC Tryz.prog Y 10 [] σ (.bool true) (σ) := by
  refine PC_of_W Tryz.func10 rfl (by kernel_rfl) Tryz.ntmps10 (by simp) fun hcl hca => ?_
  refine W_seq fun kz1 kq1 => ?_
  refine W_region [] fun R hR => ?_   -- r0
  simp only [go_sem]
  refine hR _ _ (kq1 _ _ ?_); clear hR R; try clear kq1 kz1
  try simp only [go_sem]
  refine W_seq fun kz2 kq2 => ?_
  refine W_region [1, 2] fun R hR => ?_   -- r1
  simp only [go_sem]
  refine GCall_of (scale_pc Y _) ?_   -- t8
  simp only [go_sem]
  refine GCall_of (night_pc Y _) ?_   -- t9
  simp only [go_sem]
  refine GCall_of (PC.val (v' := .tuple [sds exTab, I 0]) (Table_pc Y _ exScale exNight exScale_ok exNight_ok) (by rw [exTable]; rfl)) ?_   -- t10
  simp only [go_sem]
  refine hR _ _ (kq2 _ _ ?_); clear hR R; try clear kq2 kz2
  try simp only [go_sem]
  refine W_seq fun kz3 kq3 => ?_
  refine W_region [1, 2, 3, 4] fun R hR => ?_   -- r2
  simp only [go_sem]
  refine GCall_of (scale_pc Y _) ?_   -- t14
  simp only [go_sem]
  refine GCall_of (before_pc Y _) ?_   -- t15
  simp only [go_sem]
  refine GCall_of (PC.val (v' := .tuple [sts exTot, I 0]) (Totals_pc Y _ exScale exBefore exScale_ok exBefore_ok) (by rw [exTotals]; rfl)) ?_   -- t16
  simp only [go_sem]
  refine hR _ _ (kq3 _ _ ?_); clear hR R; try clear kq3 kz3
  try simp only [go_sem]
  refine W_seq fun kz4 kq4 => ?_
  refine W_region [1, 2, 3, 4, 5, 6] fun R hR => ?_   -- r3
  simp only [go_sem]
  refine GCall_of (scale_pc Y _) ?_   -- t20
  simp only [go_sem]
  refine GCall_of (before_pc Y _) ?_   -- t21
  simp only [go_sem]
  refine GCall_of (PC.val (v' := .tuple [.agg [I 1, I 3], I 0]) (Place_pc Y _ exScale exBefore exScale_ok exBefore_ok 0) (by rw [exPlace])) ?_   -- t22
  simp only [go_sem]
  refine hR _ _ (kq4 _ _ ?_); clear hR R; try clear kq4 kz4
  try simp only [go_sem]
  refine W_seq fun kz5 kq5 => ?_
  refine W_draw [0] [0, 1, 2, 3, 4, 5, 6, 7, 8, 9, 10, 11, 12, 13, 14, 15, 16, 17, 18, 19, 20, 21, 22, 23, 24, 25, 26, 27, 28, 29, 30, 31, 32, 33, 34] [(22, 24), (22, 25), (22, 27), (30, 35)] [[], [0], [0, 1], [0, 1, 2], [0, 1, 2, 3], [0, 1, 2, 3, 4], [0, 1, 2, 3, 4, 5], [0, 1, 2, 3, 4, 5, 6], [0, 1, 2, 3, 4, 5, 6, 7], [0, 1, 2, 3, 4, 5, 6, 7, 8], [0, 1, 2, 3, 4, 5, 6, 7, 8, 9], [0, 1, 2, 3, 4, 5, 6, 7, 8, 9, 10], [0, 1, 2, 3, 4, 5, 6, 7, 8, 9, 10], [0, 1, 2, 3, 4, 5, 6, 7, 8, 9, 10, 12], [0, 1, 2, 3, 4, 5, 6, 7, 8, 9, 10], [0, 1, 2, 3, 4, 5, 6, 7, 8, 9, 10, 14], [0, 1, 2, 3, 4, 5, 6, 7, 8, 9, 10], [0, 1, 2, 3, 4, 5, 6, 7, 8, 9, 10, 16], [0, 1, 2, 3, 4, 5, 6, 7, 8, 9, 10, 12, 13, 14, 15, 16, 17], [0, 1, 2, 3, 4, 5, 6, 7, 8, 9, 10, 11, 12, 13, 14, 15, 16, 17, 18], [0, 1, 2, 3, 4, 5, 6, 7, 8, 9, 10, 11, 12, 13, 14, 15, 16, 17, 18, 19], [0, 1, 2, 3, 4, 5, 6, 7, 8, 9, 10, 11, 12, 13, 14, 15, 16, 17, 18, 19, 20], [0, 1, 2, 3, 4, 5, 6, 7, 8, 9, 10, 11, 12, 13, 14, 15, 16, 17, 18, 19, 20, 21], [0, 1, 2, 3, 4, 5, 6, 7, 8, 9, 10, 11, 12, 13, 14, 15, 16, 17, 18, 19, 20, 21], [0, 1, 2, 3, 4, 5, 6, 7, 8, 9, 10, 11, 12, 13, 14, 15, 16, 17, 18, 19, 20, 21, 23], [0, 1, 2, 3, 4, 5, 6, 7, 8, 9, 10, 11, 12, 13, 14, 15, 16, 17, 18, 19, 20, 21, 23, 24], [0, 1, 2, 3, 4, 5, 6, 7, 8, 9, 10, 11, 12, 13, 14, 15, 16, 17, 18, 19, 20, 21, 23, 24, 25], [0, 1, 2, 3, 4, 5, 6, 7, 8, 9, 10, 11, 12, 13, 14, 15, 16, 17, 18, 19, 20, 21, 22, 23, 24, 25, 26], [0, 1, 2, 3, 4, 5, 6, 7, 8, 9, 10, 11, 12, 13, 14, 15, 16, 17, 18, 19, 20, 21, 22, 23, 24, 25, 26, 27], [0, 1, 2, 3, 4, 5, 6, 7, 8, 9, 10, 11, 12, 13, 14, 15, 16, 17, 18, 19, 20, 21, 22, 23, 24, 25, 26, 27, 28], [0, 1, 2, 3, 4, 5, 6, 7, 8, 9, 10, 11, 12, 13, 14, 15, 16, 17, 18, 19, 20, 21, 22, 23, 24, 25, 26, 27, 28, 29], [0, 1, 2, 3, 4, 5, 6, 7, 8, 9, 10, 11, 12, 13, 14, 15, 16, 17, 18, 19, 20, 21, 22, 23, 24, 25, 26, 27, 28, 29], [0, 1, 2, 3, 4, 5, 6, 7, 8, 9, 10, 11, 12, 13, 14, 15, 16, 17, 18, 19, 20, 21, 22, 23, 24, 25, 26, 27, 28, 29, 30, 31], [0, 1, 2, 3, 4, 5, 6, 7, 8, 9, 10, 11, 12, 13, 14, 15, 16, 17, 18, 19, 20, 21, 22, 23, 24, 25, 26, 27, 28, 29, 30, 31, 32], [0, 1, 2, 3, 4, 5, 6, 7, 8, 9, 10, 11, 12, 13, 14, 15, 16, 17, 18, 19, 20, 21, 22, 23, 24, 25, 26, 27, 28, 29, 30, 31, 32, 33]] mixed (by kernel_rfl) fun R hR => ?_   -- r4
  simp only [go_sem]
  refine GCall_of (PC.val (v' := .bool true) (PC.ofRo (EqTables_pc Y _ exTab exTab .ro .ro (by decide) (by decide)) (by simp only [go_sem, exTab] <;> rfl)) (by rfl)) ?_   -- t44
  simp only [go_sem]
  refine GCall_of (span_pc Y _ 340 385) ?_   -- t48
  simp only [go_sem]
  refine GCall_of (span_pc Y _ 355 390) ?_   -- t49
  simp only [go_sem]
  refine GCall_of (span_pc Y _ 345 370) ?_   -- t50
  simp only [go_sem]
  refine GCall_of (EqSpans_pc Y _ exTot exTot .ro .exact (by decide)) ?_   -- t52
  simp only [go_sem]
  refine GCall_of (span_pc Y _ 1 3) ?_   -- t56
  simp only [go_sem]
  try refine And.intro (by repeat' (first | refine And.intro ?_ ?_ | exact GOr_right (fun _ => by simp only [go_sem]))) ?_
  refine hR _ _ (kq5 _ _ ?_); clear hR R; try clear kq5 kz5
  try simp only [go_sem]
  refine W_ret ?_
  simp only [go_sem]
  refine ⟨.inr (by trivial), ?_⟩
  first | refine Fin_same hcl rfl (Wk_eq ?_ (by simp only [go_sem])) | refine Fin_self hcl rfl (Wk_eq ?_ (by simp only [go_sem]))
  try simp only [go_sem]
  all_goals
    first | rfl | (simp_all; done) | (simp_all; omega)
end Go.Proofs.YtgelnjmddabgpaaGreat
namespace Go.Proofs.YtgelnjmddabgpaaGreat
open Go Go.RowKit
set_option maxRecDepth 100000
theorem Scale.V.okS {s : Scale} (h : s.V) : s.Ok := ⟨by have := h.ol; have := h.mt; omega⟩
theorem okC_sc {xs : List Scale} : okC 7 (xs.map scPV) = True := okC_map fun x => by simp [okC, scPV, scCells, PV.cells, PV.scalar]
theorem okC_ng {xs : List Night} : okC 3 (xs.map ngPV) = True := okC_map fun x => by simp [okC, ngPV, ngCells, PV.cells, PV.scalar]
theorem cA_sc {a b c : Nat} {xs : List Scale} : CleanAll a b c (xs.map scPV) = True := CleanAll_map clean_sc
theorem cA_ng {a b c : Nat} {xs : List Night} : CleanAll a b c (xs.map ngPV) = True := CleanAll_map clean_ng
attribute [go_sem] okC_sc okC_ng cA_sc cA_ng
theorem tableP_len (s : Scale) (g : Night) : (tableP s g).1.length ≤ 8 ∧ ∀ x, x ∈ (tableP s g).1 → x.points.length ≤ 6 := by
  unfold tableP
  by_cases h : knownE s g = 0
  · have hv := Scale.v (nightV_iff.1 h).c
    have q3 := hv.sc
    have q1 := hv.mt
    rw [if_neg (by simp [h])]
    split
    · simp
    · obtain ⟨N, hN⟩ : ∃ z : Nat, s.schools = z := ⟨s.schools.toNat, by omega⟩
      have T := tbl_ok (s := s) (k := knownK s g) (g := g) hN
      refine ⟨by simp only [T.ln]; omega, fun x hx => ?_⟩
      obtain ⟨c, _, rfl⟩ := T.of x hx
      simp only [standK, pointsL, List.length_map, toI, List.length_range]
      omega
  · rw [if_pos h]; simp
/-- What may come in. -/
structure RawIn (s : Scale) (n : Night) : Prop where
  hs : s.order.length < 2 ^ 50
  ho : n.opened.length < 2 ^ 50
  ha : n.absent.length < 2 ^ 50
  hf : n.fines.length < 2 ^ 50
  hm : ∀ x, x ∈ n.opened → x.marks.length < 2 ^ 50
set_option maxHeartbeats 16000000 in
theorem MarksTables_pc (Y : YEnv) (σ : Sg) (s : Scale) (n : Night) (nums : List Int) (hIn : RawIn s n) (hn : nums.length < 2 ^ 60) :
    PC Tryz.prog Y 3 [scPV s, ngPV n, ints nums] σ (.bool true) (σ) := by
  refine PC_of_W Tryz.func3 rfl (by kernel_rfl) Tryz.ntmps3 (by simp) fun hcl hca => ?_
  obtain ⟨b0, hb0⟩ : ∃ z, drumB nums 2685821657736338717 = z := ⟨_, rfl⟩
  obtain ⟨sm, hsm⟩ : ∃ zz, (scaleD 6 b0).1 = zz := ⟨_, rfl⟩
  obtain ⟨b1, hb1⟩ : ∃ zz, (scaleD 6 b0).2 = zz := ⟨_, rfl⟩
  have dsm := scaleD_ok 6 (by omega) (by omega) b0
  simp only [hsm] at dsm
  obtain ⟨dec, hdec⟩ : ∃ zz, (rare 8 b1).1 = zz := ⟨_, rfl⟩
  obtain ⟨b2, hb2⟩ : ∃ zz, (rare 8 b1).2 = zz := ⟨_, rfl⟩
  have hsc := dsm.1
  have hvS := Scale.v hsc
  have q3 := hvS.sc
  have hsO := hvS.okS
  obtain ⟨gm, hgm⟩ : ∃ zz, (nightD sm (!dec) b2).1 = zz := ⟨_, rfl⟩
  obtain ⟨b3, hb3⟩ : ∃ zz, (nightD sm (!dec) b2).2 = zz := ⟨_, rfl⟩
  have dgm := nightD_ok hsc (!dec) b2
  simp only [hgm] at dgm
  have hgO := dgm.v.ok
  refine W_seq fun kz1 kq1 => ?_
  refine W_region [2, 3, 4] fun R hR => ?_   -- r0
  simp only [go_sem, hb0, hsm, hb1, hdec, hb2, hgm, hb3]
  refine hR _ _ (kq1 _ _ ?_); clear hR R; try clear kq1 kz1
  try simp only [go_sem, hb0, hsm, hb1, hdec, hb2, hgm, hb3]
  refine W_seq fun kz2 kq2 => ?_
  refine W_seq fun kz3 kq3 => ?_
  refine W_region [2, 3, 4, 20] fun R hR => ?_   -- r1
  simp only [go_sem, hb0, hsm, hb1, hdec, hb2, hgm, hb3]
  refine GCall_of (wide_pc Y _ s n hIn.hs hIn.ho hIn.ha hIn.hf hIn.hm) ?_   -- t20
  simp only [go_sem, hb0, hsm, hb1, hdec, hb2, hgm, hb3]
  refine hR _ _ (kq3 _ _ ?_); clear hR R; try clear kq3 kz3
  try simp only [go_sem, hb0, hsm, hb1, hdec, hb2, hgm, hb3]
  refine W_cond rfl (fun c1 => ?_) (fun c1 => ?_)
  · -- c1 true
    try simp only [nrm] at c1
    refine W_seq fun kz4 kq4 => ?_
    refine W_region [6] fun R hR => ?_   -- r2
    simp only [go_sem, hb0, hsm, hb1, hdec, hb2, hgm, hb3]
    refine GCall_of (awake_pc Y _) ?_   -- t21
    simp only [go_sem, hb0, hsm, hb1, hdec, hb2, hgm, hb3]
    refine hR _ _ (kq4 _ _ ?_); clear hR R; try clear kq4 kz4
    try simp only [go_sem, hb0, hsm, hb1, hdec, hb2, hgm, hb3]
    refine W_ret ?_
    simp only [go_sem, hb0, hsm, hb1, hdec, hb2, hgm, hb3]
    refine ⟨.inr (by trivial), ?_⟩
    first | refine Fin_same hcl rfl (Wk_eq ?_ (by simp only [go_sem])) | refine Fin_self hcl rfl (Wk_eq ?_ (by simp only [go_sem]))
    try simp only [go_sem]
    all_goals
      first | rfl | (simp_all; done)
  · -- c1 false
    try simp only [nrm] at c1
    have few := wide_not c1
    refine W_skip (kq2 _ _ ?_)
    refine W_seq fun kz5 kq5 => ?_
    refine W_region [3, 4, 7] fun R hR => ?_   -- r3
    simp only [go_sem, hb0, hsm, hb1, hdec, hb2, hgm, hb3]
    refine GCall_of (DrumOf_pc Y _ nums hn) ?_   -- t23
    simp only [go_sem, hb0, hsm, hb1, hdec, hb2, hgm, hb3]
    refine hR _ _ (kq5 _ _ ?_); clear hR R; try clear kq5 kz5
    try simp only [go_sem, hb0, hsm, hb1, hdec, hb2, hgm, hb3]
    refine W_seq fun kz6 kq6 => ?_
    refine W_region [3, 4, 7, 8] fun R hR => ?_   -- r4
    simp only [go_sem, hb0, hsm, hb1, hdec, hb2, hgm, hb3]
    refine GCall_of (ScaleOf_pc Y _ _ b0 (Sg.get_ext _ _ _ _ 2) 6 (by omega) (by omega)) ?_   -- t25
    simp only [go_sem, hb0, hsm, hb1, hdec, hb2, hgm, hb3]
    refine hR _ _ (kq6 _ _ ?_); clear hR R; try clear kq6 kz6
    try simp only [go_sem, hb0, hsm, hb1, hdec, hb2, hgm, hb3]
    refine W_seq fun kz7 kq7 => ?_
    refine W_draw [9, 10] [0, 1, 2, 3, 4, 5, 6, 7, 8, 9, 10, 11, 12] [(0, 9), (0, 13), (1, 9), (1, 13), (2, 9), (2, 13), (3, 9), (3, 13), (4, 9), (5, 9)] [[], [], [0, 1], [], [], [], [], [6], [6, 7], [4, 5, 6, 7, 8], [3, 4, 5, 6, 7, 8, 9], [0, 1, 2, 4, 5, 6, 7, 8, 9], [0, 1, 2, 3, 4, 5, 6, 7, 8, 9, 10, 11]] mixed (by kernel_rfl) fun R hR => ?_   -- r5
    simp only [go_sem, hb0, hsm, hb1, hdec, hb2, hgm, hb3]
    refine GCall_of (Rare_pc Y _ _ b1 (Sg.get_ext _ _ _ _ 2) 8 (by omega)) ?_   -- t33
    simp only [go_sem, hb0, hsm, hb1, hdec, hb2, hgm, hb3]
    refine GCall_of (NightOf_pc Y _ _ b2 (Sg.get_ext _ _ _ _ 2) sm hvS hsO (!dec)) ?_   -- t35
    simp only [go_sem, hb0, hsm, hb1, hdec, hb2, hgm, hb3]
    try refine And.intro (by repeat' (first | refine And.intro ?_ ?_ | exact GOr_right (fun _ => by simp only [go_sem, hb0, hsm, hb1, hdec, hb2, hgm, hb3]))) ?_
    refine hR _ _ (kq7 _ _ ?_); clear hR R; try clear kq7 kz7
    try simp only [go_sem, hb0, hsm, hb1, hdec, hb2, hgm, hb3]
    refine W_seq fun kz8 kq8 => ?_
    refine W_seq fun kz9 kq9 => ?_
    refine W_region [9, 10, 11] fun R hR => ?_   -- r6
    simp only [go_sem, hb0, hsm, hb1, hdec, hb2, hgm, hb3]
    refine hR _ _ (kq9 _ _ ?_); clear hR R; try clear kq9 kz9
    try simp only [go_sem, hb0, hsm, hb1, hdec, hb2, hgm, hb3]
    refine W_block ?_
    obtain ⟨ss, hss⟩ : ∃ z, z = [s, sm] := ⟨_, rfl⟩
    obtain ⟨ns, hns⟩ : ∃ z, z = [n, gm] := ⟨_, rfl⟩
    refine W_weak (Weak.keep [9, 10, 11]) ?_
    simp only [go_sem]
    refine W_weak (Weak.eq (E' := [(9, .isl (ss.map scPV) .exact), (10, .isl (ns.map ngPV) .exact), (11, I 0)]) (by rw [hss, hns]; simp only [List.map_cons, List.map_nil, scPV, scCells, ngPV, ngCells]; first | done | rfl) rfl) ?_
    have ls : ss.length = 2 := by rw [hss]; rfl
    have ln : ns.length = 2 := by rw [hns]; rfl
    have hfs : ∀ z, z ∈ ss → z.Ok := fun z hz => by
      rw [hss] at hz; simp only [List.mem_cons, List.not_mem_nil, or_false] at hz
      rcases hz with rfl | rfl
      · exact few.okS
      · exact hsO
    have hfn : ∀ z, z ∈ ns → z.Ok := fun z hz => by
      rw [hns] at hz; simp only [List.mem_cons, List.not_mem_nil, or_false] at hz
      rcases hz with rfl | rfl
      · exact few.okN
      · exact hgO
    clear hss hns
    refine W_loopS (α := Nat) (fun (i : Nat) => [(11, I i)]) (fun (i : Nat) => i ≤ 2) (fun (i : Nat) => 2 - i) (0) rfl (Nat.zero_le _) ?_
    rintro i hi
    refine W_seq fun kz10 kq10 => ?_
    refine W_seq fun kz11 kq11 => ?_
    refine W_region [9, 10, 11, 40] fun R hR => ?_   -- r7
    simp only [go_sem, hb0, hsm, hb1, hdec, hb2, hgm, hb3, ls]
    refine hR _ _ (kq11 _ _ ?_); clear hR R; try clear kq11 kz11
    try simp only [go_sem, hb0, hsm, hb1, hdec, hb2, hgm, hb3, ls]
    refine W_cond rfl (fun c2 => ?_) (fun c2 => ?_)
    · -- c2 true
      try simp only [nrm] at c2
      have hi' : i < 2 := by first | assumption | omega
      obtain ⟨s1, hx1⟩ : ∃ z, ss[i]? = some z := ⟨ss[i]'(by rw [ls]; exact hi'), by simp⟩
      obtain ⟨n1, hx2⟩ : ∃ z, ns[i]? = some z := ⟨ns[i]'(by rw [ln]; exact hi'), by simp⟩
      have fs := hfs _ (List.mem_of_getElem? hx1)
      have fn := hfn _ (List.mem_of_getElem? hx2)
      obtain ⟨T, hT⟩ : ∃ z, (tableP s1 n1).1 = z := ⟨_, rfl⟩
      obtain ⟨te, hte⟩ : ∃ z, (tableP s1 n1).2 = z := ⟨_, rfl⟩
      have hTl := tableP_len s1 n1
      rw [hT] at hTl
      refine W_skip (kq10 _ _ ?_)
      refine W_seq fun kz12 kq12 => ?_
      refine W_block ?_
      refine W_seq fun kz13 kq13 => ?_
      refine W_draw [9, 10, 11, 12, 13] [0, 1, 2, 3, 4, 5, 6, 7, 8, 9, 10, 11, 12, 13] [(5, 4), (6, 4), (7, 4), (8, 4)] [[], [], [0, 1], [0, 1, 2], [0, 1, 2, 3], [], [], [5, 6], [5, 6, 7], [0, 1, 2, 3, 4, 5, 6, 7, 8], [], [], [0, 1, 2, 3, 4, 5, 6, 7, 8, 9, 10, 11], [0, 1, 2, 3, 4, 5, 6, 7, 8, 9, 10, 11, 12]] mixed (by kernel_rfl) fun R hR => ?_   -- r9
      simp only [go_sem, hb0, hsm, hb1, hdec, hb2, hgm, hb3, ls, hx1, hx2]
      refine GCall_of (OwnScale_pc Y _ s1 fs) ?_   -- t47
      simp only [go_sem, hb0, hsm, hb1, hdec, hb2, hgm, hb3, ls, hx1, hx2]
      refine GCall_of (OwnNight_pc Y _ n1 fn) ?_   -- t52
      simp only [go_sem, hb0, hsm, hb1, hdec, hb2, hgm, hb3, ls, hx1, hx2]
      try refine And.intro (by repeat' (first | refine And.intro ?_ ?_ | exact GOr_right (fun _ => by simp only [go_sem, hb0, hsm, hb1, hdec, hb2, hgm, hb3, ls, hx1, hx2]))) ?_
      refine hR _ _ (kq13 _ _ ?_); clear hR R; try clear kq13 kz13
      try simp only [go_sem, hb0, hsm, hb1, hdec, hb2, hgm, hb3, ls, hx1, hx2]
      refine W_seq fun kz14 kq14 => ?_
      refine W_region [9, 10, 11, 12, 13, 14, 15] fun R hR => ?_   -- r10
      simp only [go_sem, hb0, hsm, hb1, hdec, hb2, hgm, hb3, ls, hx1, hx2]
      refine GCall_of (PC.val (v' := .tuple [sds T, I te]) (Table_pc Y _ s1 n1 fs fn) (by rw [hT, hte])) ?_   -- t56
      simp only [go_sem, hb0, hsm, hb1, hdec, hb2, hgm, hb3, ls, hx1, hx2]
      refine hR _ _ (kq14 _ _ ?_); clear hR R; try clear kq14 kz14
      try simp only [go_sem, hb0, hsm, hb1, hdec, hb2, hgm, hb3, ls, hx1, hx2]
      refine W_seq fun kz15 kq15 => ?_
      refine W_draw [9, 10, 11, 12, 13, 14, 15, 16, 17] [0, 1, 2, 3, 4, 5, 6, 7, 8, 9, 10, 11, 12, 13] [] [[], [], [0, 1], [0, 1, 2], [], [], [4, 5], [4, 5, 6], [0, 1, 2, 3, 4, 5, 6, 7], [0, 1, 2, 3, 4, 5, 6, 7, 8], [0, 1, 2, 3, 4, 5, 6, 7, 8, 9], [0, 1, 2, 3, 4, 5, 6, 7, 8, 9], [0, 1, 2, 3, 4, 5, 6, 7, 8, 9, 10], [0, 1, 2, 3, 4, 5, 6, 7, 8, 9, 10, 11, 12]] mixed (by kernel_rfl) fun R hR => ?_   -- r11
      simp only [go_sem, hb0, hsm, hb1, hdec, hb2, hgm, hb3, ls, hx1, hx2]
      refine GCall_of (PC.val (v' := .tuple [sds T, I te]) (rTable_pc Y _ s1 n1 fs fn) (by rw [hT, hte])) ?_   -- t68
      simp only [go_sem, hb0, hsm, hb1, hdec, hb2, hgm, hb3, ls, hx1, hx2]
      try refine And.intro (by repeat' (first | refine And.intro ?_ ?_ | exact GOr_right (fun _ => by simp only [go_sem, hb0, hsm, hb1, hdec, hb2, hgm, hb3, ls, hx1, hx2]))) ?_
      refine hR _ _ (kq15 _ _ ?_); clear hR R; try clear kq15 kz15
      try simp only [go_sem, hb0, hsm, hb1, hdec, hb2, hgm, hb3, ls, hx1, hx2]
      refine W_seq fun kz16 kq16 => ?_
      refine W_draw [9, 10, 11, 97] [0, 1, 2, 3, 4, 5, 6, 7, 8, 9, 10, 11, 12, 13, 14, 15, 16, 17, 18, 19, 20, 21, 22, 23, 24, 25, 26] [] [[], [], [0, 1], [0, 1, 2], [0, 1, 2, 3], [0, 1, 2, 3], [0, 1, 2, 3, 4, 5], [0, 1, 2, 3, 4, 5, 6], [0, 1, 2, 3, 4, 5, 6, 7], [0, 1, 2, 3, 4, 5, 6, 7, 8], [0, 1, 2, 3, 4, 5, 6, 7, 8, 9], [0, 1, 2, 3, 4, 5, 6, 7, 8, 9], [0, 1, 2, 3, 4, 5, 6, 7, 8, 9], [0, 1, 2, 3, 4, 5, 6, 7, 8, 9, 11, 12], [0, 1, 2, 3, 4, 5, 6, 7, 8, 9, 11, 12, 13], [0, 1, 2, 3, 4, 5, 6, 7, 8, 9, 10, 11, 12, 13, 14], [0, 1, 2, 3, 4, 5, 6, 7, 8, 9, 10, 11, 12, 13, 14, 15], [0, 1, 2, 3, 4, 5, 6, 7, 8, 9, 10, 11, 12, 13, 14, 15, 16], [0, 1, 2, 3, 4, 5, 6, 7, 8, 9, 10, 11, 12, 13, 14, 15, 16, 17], [0, 1, 2, 3, 4, 5, 6, 7, 8, 9, 10, 11, 12, 13, 14, 15, 16, 17, 18], [0, 1, 2, 3, 4, 5, 6, 7, 8, 9, 10, 11, 12, 13, 14, 15, 16, 17, 18], [0, 1, 2, 3, 4, 5, 6, 7, 8, 9, 10, 11, 12, 13, 14, 15, 16, 17, 18], [0, 1, 2, 3, 4, 5, 6, 7, 8, 9, 10, 11, 12, 13, 14, 15, 16, 17, 18, 20, 21], [0, 1, 2, 3, 4, 5, 6, 7, 8, 9, 10, 11, 12, 13, 14, 15, 16, 17, 18, 20, 21, 22], [0, 1, 2, 3, 4, 5, 6, 7, 8, 9, 10, 11, 12, 13, 14, 15, 16, 17, 18, 19, 20, 21, 22, 23], [0, 1, 2, 3, 4, 5, 6, 7, 8, 9, 10, 11, 12, 13, 14, 15, 16, 17, 18, 19, 20, 21, 22, 23, 24], [0, 1, 2, 3, 4, 5, 6, 7, 8, 9, 10, 11, 12, 13, 14, 15, 16, 17, 18, 19, 20, 21, 22, 23, 24, 25]] mixed (by kernel_rfl) fun R hR => ?_   -- r12
      simp only [go_sem, hb0, hsm, hb1, hdec, hb2, hgm, hb3, ls, hx1, hx2]
      refine GCall_of (PC.val (v' := .bool true) (EqTables_pc Y _ T T .ro .ro (by omega) (fun x hx => by have := hTl.2 x hx; omega)) (by simp)) ?_   -- t77
      simp only [go_sem, hb0, hsm, hb1, hdec, hb2, hgm, hb3, ls, hx1, hx2]
      refine GCall_of (EqScales_pc Y _ s1 fs) ?_   -- t86
      simp only [go_sem, hb0, hsm, hb1, hdec, hb2, hgm, hb3, ls, hx1, hx2]
      refine GCall_of (EqNights_pc Y _ n1 fn) ?_   -- t95
      simp only [go_sem, hb0, hsm, hb1, hdec, hb2, hgm, hb3, ls, hx1, hx2]
      try refine And.intro (by repeat' (first | refine And.intro ?_ ?_ | exact GOr_right (fun _ => by simp only [go_sem, hb0, hsm, hb1, hdec, hb2, hgm, hb3, ls, hx1, hx2]))) ?_
      refine hR _ _ (kq16 _ _ ?_); clear hR R; try clear kq16 kz16
      try simp only [go_sem, hb0, hsm, hb1, hdec, hb2, hgm, hb3, ls, hx1, hx2]
      refine W_cond rfl (fun c3 => ?_) (fun c3 => ?_)
      · -- c3 true
        try simp only [nrm] at c3
        exfalso
        simp at c3
      · -- c3 false
        try simp only [nrm] at c3
        refine W_skip (kq12 _ _ ?_)
        refine W_region [9, 10, 11] fun R hR => ?_   -- r8
        simp only [go_sem, hb0, hsm, hb1, hdec, hb2, hgm, hb3, ls, hx1, hx2]
        try simp (disch := omega) only [wrapI, wrapU]
        refine hR _ _ ?_; clear hR R
        try simp only [go_sem, hb0, hsm, hb1, hdec, hb2, hgm, hb3, ls, hx1, hx2]
        refine ⟨i + 1, ?_, by (try simp only []); omega, ?_⟩
        · refine Weak.trans (Weak.cutX 4 0 (by omega) (by omega) hcl (by simp only [go_sem] <;> omega) (by simp only [go_sem] <;> omega)) ?_
          simp only [go_sem]
          exact Weak.eq (by first | rfl | (simp only [go_sem]; done) | (simp only [go_sem]; rfl) | (simp [go_sem]; done) | (simp [go_sem]; omega)) (by first | rfl | (simp only [go_sem]; done) | (simp [go_sem]; done))
        · try dsimp only
          omega
    · -- c2 false
      try simp only [nrm] at c2
      refine W_exit ?_
      simp only [go_sem, hb0, hsm, hb1, hdec, hb2, hgm, hb3, ls]
      refine kq8 _ _ ?_
      refine W_seq fun kz17 kq17 => ?_
      refine W_region [6] fun R hR => ?_   -- r14
      simp only [go_sem, hb0, hsm, hb1, hdec, hb2, hgm, hb3, ls]
      refine GCall_of (awake_pc Y _) ?_   -- t98
      simp only [go_sem, hb0, hsm, hb1, hdec, hb2, hgm, hb3, ls]
      refine hR _ _ (kq17 _ _ ?_); clear hR R; try clear kq17 kz17
      try simp only [go_sem, hb0, hsm, hb1, hdec, hb2, hgm, hb3, ls]
      refine W_ret ?_
      simp only [go_sem, hb0, hsm, hb1, hdec, hb2, hgm, hb3, ls]
      refine ⟨.inr (by trivial), ?_⟩
      first | refine Fin_same hcl rfl (Wk_eq ?_ (by simp only [go_sem])) | refine Fin_self hcl rfl (Wk_eq ?_ (by simp only [go_sem]))
      try simp only [go_sem]
      all_goals
        first | rfl | (simp_all; done)
end Go.Proofs.YtgelnjmddabgpaaGreat
namespace Go.Proofs.YtgelnjmddabgpaaGreat
open Go Go.RowKit
theorem rdMarksTablesArgs : All2 (fun t R => Rd Tryz.prog t R) Tryz.f3.params.toList [fun p => ∃ s : Scale, p = scPV s ∧ scaleSz s, fun p => ∃ n : Night, p = ngPV n ∧ nightSz n, fun p => ∃ xs : List Int, p = ints xs ∧ intsSz xs] :=
  .cons rdScale (.cons rdNight (.cons rdInts .nil))
set_option maxHeartbeats 4000000 in
theorem MarksTables_walk : ∀ qs, AllR [fun p => ∃ s : Scale, p = scPV s ∧ scaleSz s, fun p => ∃ n : Night, p = ngPV n ∧ nightSz n, fun p => ∃ xs : List Int, p = ints xs ∧ intsSz xs] qs → ∃ σ', PC Tryz.prog noY 3 qs Sg.zero (.bool true) σ' := by
  intro qs hq
  obtain ⟨px0, qs, rfl, ⟨x0, hx0, sx0⟩, hq⟩ := allR_cons hq
  obtain ⟨px1, qs, rfl, ⟨x1, hx1, sx1⟩, hq⟩ := allR_cons hq
  obtain ⟨px2, qs, rfl, ⟨x2, hx2, sx2⟩, hq⟩ := allR_cons hq
  obtain rfl := allR_nil hq
  subst hx0 hx1 hx2
  exact ⟨_, MarksTables_pc noY _ x0 x1 x2 ⟨by unfold scaleSz intsSz at sx0; omega, by have := sx1.so; omega, by have := sx1.sa; omega, by have := sx1.sf; omega, fun x hx => by have := sx1.sm x hx; unfold envSz intsSz at this; omega⟩ (by unfold intsSz at sx2; omega)⟩
theorem MarksTables_lifted (os : Os) (started : os.Started) (H : Type) (enc : TypeId × Value → H) :
    ReturnsInHanded {} Tryz.checked os 3 .any (Rows.marksTablesSpec.pre6 enc Tryz.prog Tryz.f3 Rows.marksTablesRow.domain false) (Rows.marksTablesSpec.post enc Tryz.prog Tryz.f3 false true false false) :=
  law_lifted (C := Tryz.checked) own started (by kernel_rfl) Tryz.func3 rfl laidOut (by kernel_rfl) rdMarksTablesArgs rfl Tryz.underlying4
    (fun ds h => match ds, h with | [_, _, _], _ => rfl)
    (ChangeSpec.witness6 (enc := enc) (C := Tryz.checked) false ⟨#[], #[Value.agg #[.int .i64 0, .int .i64 0, .int .i64 0, .int .i64 0, .int .i64 0, .int .i64 0, .slice none 0 0], Value.agg #[.slice none 0 0, .slice none 0 0, .slice none 0 0], .slice none 0 0], []⟩ 8 (by kernel_rfl) (by kernel_rfl) (by kernel_rfl) (by kernel_rfl))
    MarksTables_walk
theorem MarksTables_holds : Rows.MarksTablesSaid :=
  OpenClaim.holds_of_wide 3 Tryz.f3 rfl rfl rfl rfl rfl rfl rfl ⟨rfl, rfl, rfl, rfl, rfl⟩ rfl rfl rfl rfl rfl (by kernel_rfl) Tryz.func3 (by kernel_rfl)
    (of_decide_eq_true (by kernel_rfl)) (by unfold Func.isWrapper; first | (rw [if_pos (by decide +kernel)]; kernel_rfl) | (rw [if_neg (by decide +kernel)]; exact ⟨rfl, rfl⟩))
    (fun os started H enc _ => MarksTables_lifted os started H enc)
end Go.Proofs.YtgelnjmddabgpaaGreat
