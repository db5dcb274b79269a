/-
  Walks: the judges of whom nothing is known (marks).
  Walks: totals, places, who wins, who is missing (marks).
  Walks: standings sorted, as the library does it with few of them (marks).
  Walks: places, who wins, the table (marks).
  Walks: the table of a night that is decided (marks).
  Walks: lists compared; the chapter's examples.
  Walks: leagues of the next season (marks).
  Walks: leagues of the next season, as the document has them.
-/
import Derived.Test.YtgelnjmddabgpaaPd
import Derived.CallsIn
import Derived.RangeFuncLeaves
import Derived.RangeFuncRecord
import Derived.OrdersIn
import Derived.Below
import Derived.Laws.World
import Derived.Laws.StructEq
import Derived.Laws.Append
import Derived.MapKept
import Derived.ProofKit
import Derived.Carry
import Derived.Handed
import Derived.ChangeCalls
import Derived.RangeFuncIn
import Derived.RangeFuncNested
import Derived.Test.YtgelnjmddabgpaaProg
import Derived.KernelRfl
import Derived.IntWalk
import Derived.Test.YtgelnjmddabgpaaRows
import Derived.Sort.OwnSortedInts
import Derived.Lib.SlicesCompact
import Derived.Shelf.Sort.Plain
import Derived.Shelf.Slices.In.SortNone
import Derived.Shelf.Small.Bits
import Derived.JoinedOf
set_option linter.unusedSimpArgs false
set_option linter.unusedVariables false
namespace Go.Proofs.Ytgelnjmddabgpaa
open Go Go.RowKit
set_option maxRecDepth 100000
theorem filt_step {α : Type} (p : α → Bool) {l : List α} {t : Nat} {x : α} (h : l[t]? = some x) :
    (p x = true → (l.filter p)[((l.take t).filter p).length]? = some x ∧ ((l.take (t + 1)).filter p).length = ((l.take t).filter p).length + 1) ∧ (p x = false → ((l.take (t + 1)).filter p).length = ((l.take t).filter p).length) := by
  have e : l.take (t + 1) = l.take t ++ [x] := by rw [List.take_add_one, h]; rfl
  have hi := (List.getElem?_eq_some_iff.1 h).1
  have hx := (List.getElem?_eq_some_iff.1 h).2
  refine ⟨fun hp => ⟨?_, by rw [e, List.filter_append]; simp [hp]⟩, fun hp => by rw [e, List.filter_append]; simp [hp]⟩
  have e2 : l = l.take t ++ x :: l.drop (t + 1) := by
    conv => lhs; rw [← List.take_append_drop t l]
    rw [List.drop_eq_getElem_cons hi, hx]
  conv => lhs; arg 1; rw [e2]
  rw [List.filter_append, List.getElem?_append_right (Nat.le_refl _), Nat.sub_self]
  simp [hp]
theorem flat_get {β : Type} {J : Nat} {f : Nat → Nat → β} : ∀ (M m n : Nat), m < M → n < J → ((List.range M).flatMap fun m => (List.range J).map (f m))[m * J + n]? = some (f m n) := by
  intro M
  induction M with
  | zero => intro m n h; omega
  | succ M ih =>
    intro m n hm hn
    rw [List.range_succ, List.flatMap_append]
    have hlen : ((List.range M).flatMap fun m => (List.range J).map (f m)).length = M * J := by simp [List.length_flatMap, List.map_const']
    by_cases h : m < M
    · have : m * J + J ≤ M * J := by rw [← Nat.succ_mul]; exact Nat.mul_le_mul_right _ h
      rw [List.getElem?_append_left (by rw [hlen]; omega)]
      exact ih m n h hn
    · have e : m = M := by omega
      subst e
      rw [List.getElem?_append_right (by rw [hlen]; omega), hlen, Nat.add_sub_cancel_left]
      simp [hn]
theorem allJ_eq {s : Scale} {M J : Nat} (hM : s.matters = M) (hJ : s.judges = J) : allJ s = (List.range M).flatMap fun (m : Nat) => (List.range J).map fun (n : Nat) => ((m : Int), (n : Int)) := by
  simp only [allJ, toI, hM, hJ, Int.toNat_natCast, List.flatMap_map, List.map_map]
  rfl
theorem allJ_get {s : Scale} {M J m n : Nat} (hM : s.matters = M) (hJ : s.judges = J) (hm : m < M) (hn : n < J) : (allJ s)[m * J + n]? = some ((m : Int), (n : Int)) := by
  rw [allJ_eq hM hJ]; exact flat_get (f := fun m n => ((m : Int), (n : Int))) M m n hm hn
theorem allJ_len {s : Scale} {M J : Nat} (hM : s.matters = M) (hJ : s.judges = J) : (allJ s).length = M * J := by
  rw [allJ_eq hM hJ]; simp [List.length_flatMap, List.map_const']
theorem ysget_of {ρ : Sg} {l : List (Option (List PV))} {rm : List Nat} {s : LState} {q : Nat} (h : ρ.ys.length = q) : (ρ.ext l rm [s]).ys[q]? = some s := by subst h; exact Sg.ysget_ext0 ..
theorem setY_of {ρ : Sg} {l : List (Option (List PV))} {rm : List Nat} {s s' : LState} {q : Nat} (h : ρ.ys.length = q) : (ρ.ext l rm [s]).setY q s' = ρ.ext l rm [s'] := by subst h; simp only [go_sem]
theorem popY_of {ρ : Sg} {l : List (Option (List PV))} {rm : List Nat} {s : LState} {q : Nat} (h : ρ.ys.length = q) : (ρ.ext l rm [s]).popY q = ρ.ext l rm := by subst h; simp only [go_sem]
theorem Fin_len {P : Program} {fn : Func} {σ ρ σ' σ'' : Sg} {E : Env} {v : PV} (h1 : ρ.store.length = σ.store.length) (h2 : ρ.rooms.length = σ.rooms.length) (h3 : ρ.ys.length = σ.ys.length) (h : Fin P fn ρ v σ'' E σ') : Fin P fn σ v σ'' E σ' := by
  unfold Fin at h ⊢
  rw [← h1, ← h2, ← h3]
  exact h
/-- How many of the first judges are sealed. -/
def cntS (s : Scale) (k : Kn) (t : Nat) : Nat := (((allJ s).take t).filter fun j => (aget j k).isNone).length
theorem cntS_all {s : Scale} {M J : Nat} (hM : s.matters = M) (hJ : s.judges = J) (k : Kn) : cntS s k (M * J) = (sealedK s k).length := by
  rw [cntS, ← allJ_len hM hJ, List.take_length]; rfl
theorem cntS_le (s : Scale) (k : Kn) (t : Nat) : cntS s k t ≤ (sealedK s k).length := by
  unfold cntS sealedK
  exact (List.Sublist.filter _ (List.take_sublist t _)).length_le
theorem cntS_step {s : Scale} {M J m n : Nat} (hM : s.matters = M) (hJ : s.judges = J) (hm : m < M) (hn : n < J) (k : Kn) :
    ((aget ((m : Int), (n : Int)) k).isNone = true → (sealedK s k)[cntS s k (m * J + n)]? = some ((m : Int), (n : Int)) ∧ cntS s k (m * J + n + 1) = cntS s k (m * J + n) + 1) ∧ ((aget ((m : Int), (n : Int)) k).isNone = false → cntS s k (m * J + n + 1) = cntS s k (m * J + n)) :=
  filt_step (fun j => (aget j k).isNone) (allJ_get hM hJ hm hn)
set_option maxHeartbeats 2000000 in
theorem sealedA_pc (Y : YEnv) (σ : Sg) (y ids idk id : Nat) (s : Scale) (hv : s.V) (k : Kn) (τ : Nat → Sg)
    (h1 : ∀ c, c ≤ (sealedK s k).length → (τ c).store[ids]? = some (some (scCells s))) (h2 : ∀ c, c ≤ (sealedK s k).length → (τ c).store[idk]? = some (some [.map id])) (h3 : ∀ c, c ≤ (sealedK s k).length → (τ c).store[id]? = some (some (.mark :: knE k)))
    (hL : ∀ c, c ≤ (sealedK s k).length → (τ c).store.length = (τ 0).store.length ∧ (τ c).rooms.length = (τ 0).rooms.length ∧ (τ c).ys.length = (τ 0).ys.length)
    (hcl' : CleanSg (τ 0) → ∀ c, c ≤ (sealedK s k).length → CleanSg (τ c))
    (hY : ∀ c (m n : Nat), (sealedK s k)[c]? = some ((m : Int), (n : Int)) → Y y [.agg [I m, I n]] ((τ c).ext [some [.yield y], some (scCells s), some [I m, I n]] [] [.busy]) true ((τ (c + 1)).ext [some [.yield y], some (scCells s), some [I m, I n]] [] [.busy])) :
    PC Try.prog Y 66 [.yield y, .ptr ids 0, .ptr idk 0] (τ 0) (.tuple []) (τ (sealedK s k).length) := by
  refine PC_of_W Try.func66 rfl (by kernel_rfl) Try.ntmps66 (by simp) fun hcl hca => ?_
  have q1 := hv.mt
  have q2 := hv.jd
  obtain ⟨M, hM⟩ : ∃ z : Nat, s.matters = z := ⟨s.matters.toNat, by omega⟩
  obtain ⟨J, hJ⟩ : ∃ z : Nat, s.judges = z := ⟨s.judges.toNat, by omega⟩
  have hMb : M < 2 ^ 40 := by omega
  have hJb : J < 2 ^ 40 := by omega
  have h10 := h1 0 (Nat.zero_le _)
  refine W_seq fun kz1 kq1 => ?_
  refine W_region [1, 2, 3] fun R hR => ?_   -- r0
  simp only [go_sem, ldA_at (get_extx h10)]
  refine hR _ _ (kq1 _ _ ?_); clear hR R; try clear kq1 kz1
  try simp only [go_sem, ldA_at (get_extx h10)]
  refine W_seq fun kz2 kq2 => ?_
  refine W_region [2, 3, 8] fun R hR => ?_   -- r1
  simp only [go_sem, ldA_at (get_extx h10)]
  refine GCall_of (judges_pc Y _ s) ?_   -- t8
  simp only [go_sem, ldA_at (get_extx h10)]
  refine hR _ _ (kq2 _ _ ?_); clear hR R; try clear kq2 kz2
  try simp only [go_sem, ldA_at (get_extx h10)]
  refine W_block ?_
  let so : Nat → Sg := fun t => (τ (cntS s k t)).ext [some [.yield y], some (scCells s)] [] [.ready]
  have hcle : ∀ t, cntS s k t ≤ (sealedK s k).length := cntS_le s k
  have hyl : y < (τ 0).ys.length := by
    have := hca (.yield y) (by simp)
    cases this; assumption
  have hLc : ∀ (n r yy : Nat), y < yy → CleanLs n r yy [some [.yield y], some (scCells s)] := fun n r yy h => by
    have c2 := cleans_sc (a := n) (b := r) (c := yy) s
    refine CleanL_cons ?_ (CleanL_cons c2 CleanL_nil)
    exact Clean.all_cons (.yield _ h) Clean.all_nil
  refine W_rangeFunc (gf := 78) (v := .tuple []) (s := .ready) (σ5 := so (M * J)) rfl (by simp) (fun args ρ b' ρ' => ∃ m n : Nat, m < M ∧ n < J ∧ args = [.agg [I m, I n]] ∧ b' = true ∧ ρ = so (m * J + n) ∧ ρ' = so (m * J + n + 1)) ?_ ?_ ?_ ?_ ?_
  · rintro args τ b τ' ⟨m, n, hm, hn, rfl, rfl, rfl, rfl⟩
    refine ⟨rfl, ?_, ?_⟩
    · (simp only [so, go_sem]; exact ysget_of (hL _ (hcle _)).2.2)
    · simp only [so, go_sem]
      refine W_region [2, 3, 4] fun R hR => ?_   -- r2
      simp only [go_sem, ldA_at (get_extx h10), putAll]
      refine hR _ _ ?_; clear hR R
      try simp only [go_sem, ldA_at (get_extx h10), putAll]
      obtain ⟨st1, st2⟩ := cntS_step hM hJ hm hn k
      obtain ⟨c, hc⟩ : ∃ z, cntS s k (m * J + n) = z := ⟨_, rfl⟩
      have hcl1 := hcle (m * J + n)
      rw [hc] at st1 st2 hcl1
      simp only [hc]
      obtain ⟨b1, b2, b3⟩ := hL c hcl1
      have k2 := h2 c hcl1
      have k3 := h3 c hcl1
      rw [← b1, ← b3]
      obtain ⟨is, his⟩ : ∃ z, (aget ((m : Int), (n : Int)) k).isSome = z := ⟨_, rfl⟩
      simp only [go_sem]
      refine W_post_weak ?_
      refine W_block ?_
      refine W_seq fun kz3 kq3 => ?_
      refine W_region [3, 4, 6] fun R hR => ?_   -- r3
      simp only [go_sem, ldA_at (get_extx h10), putAll, ldS_at (get_extx k2), lkX_at (get_extx k3), his]
      refine hR _ _ (kq3 _ _ ?_); clear hR R; try clear kq3 kz3
      try simp only [go_sem, ldA_at (get_extx h10), putAll]
      refine W_seq fun kz4 kq4 => ?_
      refine W_region [23] fun R hR => ?_   -- r4
      simp only [go_sem, ldA_at (get_extx h10), putAll, ldS_at (get_extx k2)]
      refine GWant_split (fun g1 => ?_) (fun g1 => ?_)
      · try simp only [Bool.not_eq_true', Bool.not_eq_false'] at g1
        have n1 := g1; try simp only [nrm] at n1
        simp only [go_sem, ldA_at (get_extx h10), putAll, ldS_at (get_extx k2), g1]
        refine GYield_of (hY c m n (st1 (by rw [← Option.not_isSome, his, g1]; rfl)).1) ?_
        simp only [go_sem, ldA_at (get_extx h10), putAll, ldS_at (get_extx k2), g1]
        refine hR _ _ (kq4 _ _ ?_); clear hR R; try clear kq4 kz4
        try simp only [go_sem, ldA_at (get_extx h10), putAll]
        refine W_cond_false rfl ?_
        refine W_skip ?_
        simp only [go_sem, ldA_at (get_extx h10), putAll]
        obtain ⟨e1, e2⟩ := st1 (by rw [← Option.not_isSome, his, g1]; rfl)
        have hcl2 : c + 1 ≤ (sealedK s k).length := (List.getElem?_eq_some_iff.1 e1).1
        obtain ⟨d1, d2, d3⟩ := hL (c + 1) hcl2
        refine ⟨[], _, Weak.cutExt 2 0 (by rw [d1, ← b1]; simp only [go_sem] <;> omega) (by rw [d2, ← b2]; simp only [go_sem] <;> omega) (hcl' hcl _ hcl2) ?_ Wk.nil_get, ?_⟩
        · exact hLc _ _ _ (by rw [d3]; simp only [go_sem] <;> omega)
        · simp only [e2]
          exact ⟨ysget_of (d3.trans b3.symm), rfl, (setY_of (d3.trans b3.symm)).symm⟩
      · try simp only [Bool.not_eq_true', Bool.not_eq_false'] at g1
        have n1 := g1; try simp only [nrm] at n1
        simp only [go_sem, ldA_at (get_extx h10), putAll, ldS_at (get_extx k2), g1]
        refine hR _ _ (kq4 _ _ ?_); clear hR R; try clear kq4 kz4
        try simp only [go_sem, ldA_at (get_extx h10), putAll]
        refine W_cond_false rfl ?_
        refine W_skip ?_
        simp only [go_sem, ldA_at (get_extx h10), putAll]
        refine ⟨[], _, Weak.cutExt 2 0 (Nat.le_refl _) (Nat.le_refl _) (hcl' hcl _ hcl1) ?_ Wk.nil_get, ?_⟩
        · exact hLc _ _ _ (by rw [b3]; simp only [go_sem] <;> omega)
        · have e := st2 (by rw [← Option.not_isSome, his, g1]; rfl)
          simp only [e, RoundEnd, go_sem]
  · have hst := judges1_pc (Y.at (τ 0).ys.length (fun args ρ b' ρ' => ∃ m n : Nat, m < M ∧ n < J ∧ args = [.agg [I m, I n]] ∧ b' = true ∧ ρ = so (m * J + n) ∧ ρ' = so (m * J + n + 1))) (τ 0) (τ 0).ys.length ((τ 0).store.length + 1) s so M J (M * J) false hM hJ hMb hJb
      (fun t _ => by simp only [so]; rw [← (hL _ (hcle t)).1]; exact Sg.get_ext ..) (Nat.le_refl _) (fun _ => rfl) (fun h => by cases h)
      (fun m n h1 h2 _ => by rw [YEnv.at_self]; exact ⟨m, n, h1, h2, rfl, rfl, rfl, rfl⟩) (by simp only [so, go_sem, (hL _ (hcle (M * J))).1, (hL _ (hcle 0)).1]) (by simp only [so, go_sem, (hL _ (hcle (M * J))).2.1, (hL _ (hcle 0)).2.1]) (by simp only [so, go_sem, (hL _ (hcle (M * J))).2.2, (hL _ (hcle 0)).2.2])
      (fun _ => CleanSg_ext (hcl' hcl _ (hcle _)) (hLc _ _ _ (by rw [(hL _ (hcle (M * J))).2.2]; simp only [go_sem] <;> omega)))
    have e0 : so 0 = (τ 0).ext [some [.yield y], some (scCells s)] [] [.ready] := rfl
    rw [e0] at hst
    simp only [go_sem] at hst ⊢
    exact hst
  · (simp only [so, go_sem]; exact ysget_of (hL _ (hcle _)).2.2)
  · simp only [go_sem]
    have hb := hL _ (hcle (M * J))
    rw [← hb.2.2]
    exact CleanCut_ext (hcl' hcl _ (hcle _)) (by simp only [so, go_sem] <;> omega) (by simp only [so, go_sem] <;> omega) (by omega) (hLc _ _ _ (by rw [hb.2.2]; exact hyl))
  · simp only [go_sem]
    rw [popY_of (hL _ (hcle (M * J))).2.2]
    simp only [AfterLoop, go_sem]
    have hca2 := cntS_all hM hJ k
    simp only [hca2]
    obtain ⟨d1, d2, d3⟩ := hL _ (Nat.le_refl (sealedK s k).length)
    try simp only [go_sem, ldA_at (get_extx h10)]
    refine ⟨.inl (by trivial), ?_⟩
    exact Fin_len d1 d2 d3 (Fin_same (rs := []) (hcl' hcl _ (Nat.le_refl _)) rfl (Wk.of_clean (.tuple _ Clean.all_nil)))
    try simp only [go_sem]
    all_goals
      skip
/-- The first judge of whom nothing is known. -/
theorem cntS_first {s : Scale} {M J : Nat} (hM : s.matters = M) (hJ : s.judges = J) {k : Kn} (h : sealedK s k ≠ []) : ∃ e, 0 < e ∧ e ≤ M * J ∧ (∀ t, t < e → cntS s k t = 0) ∧ cntS s k e ≠ 0 := by
  have hex : ∃ t, cntS s k t ≠ 0 := ⟨M * J, by rw [cntS_all hM hJ]; intro e; exact h (List.eq_nil_of_length_eq_zero e)⟩
  obtain ⟨e, he, hmin⟩ := least (fun t => cntS s k t ≠ 0) hex
  have h0 : e ≠ 0 := by rintro rfl; exact he rfl
  refine ⟨e, by omega, ?_, fun t ht => ?_, he⟩
  · exact hmin (M * J) (by rw [cntS_all hM hJ]; intro e; exact h (List.eq_nil_of_length_eq_zero e))
  · by_cases q : cntS s k t = 0
    · exact q
    · have := hmin t q; omega
set_option maxHeartbeats 2000000 in
theorem sealedB_pc (Y : YEnv) (σ : Sg) (y ids idk id : Nat) (s : Scale) (hv : s.V) (k : Kn) (τ τ1 : Sg) (h10 : τ.store[ids]? = some (some (scCells s))) (k2 : τ.store[idk]? = some (some [.map id])) (k3 : τ.store[id]? = some (some (.mark :: knE k)))
    (b1 : τ1.store.length = τ.store.length) (b2 : τ1.rooms.length = τ.rooms.length) (b3 : τ1.ys.length = τ.ys.length) (hcl' : CleanSg τ → CleanSg τ1) (hne : sealedK s k ≠ [])
    (hY : ∀ (m n : Nat), (sealedK s k)[0]? = some ((m : Int), (n : Int)) → Y y [.agg [I m, I n]] (τ.ext [some [.yield y], some (scCells s), some [I m, I n]] [] [.busy]) false (τ1.ext [some [.yield y], some (scCells s), some [I m, I n]] [] [.busy])) :
    PC Try.prog Y 66 [.yield y, .ptr ids 0, .ptr idk 0] τ (.tuple []) (τ1) := by
  refine PC_of_W Try.func66 rfl (by kernel_rfl) Try.ntmps66 (by simp) fun hcl hca => ?_
  have q1 := hv.mt
  have q2 := hv.jd
  obtain ⟨M, hM⟩ : ∃ z : Nat, s.matters = z := ⟨s.matters.toNat, by omega⟩
  obtain ⟨J, hJ⟩ : ∃ z : Nat, s.judges = z := ⟨s.judges.toNat, by omega⟩
  have hMb : M < 2 ^ 40 := by omega
  have hJb : J < 2 ^ 40 := by omega
  refine W_seq fun kz1 kq1 => ?_
  refine W_region [1, 2, 3] fun R hR => ?_   -- r0
  simp only [go_sem, ldA_at (get_extx h10)]
  refine hR _ _ (kq1 _ _ ?_); clear hR R; try clear kq1 kz1
  try simp only [go_sem, ldA_at (get_extx h10)]
  refine W_seq fun kz2 kq2 => ?_
  refine W_region [2, 3, 8] fun R hR => ?_   -- r1
  simp only [go_sem, ldA_at (get_extx h10)]
  refine GCall_of (judges_pc Y _ s) ?_   -- t8
  simp only [go_sem, ldA_at (get_extx h10)]
  refine hR _ _ (kq2 _ _ ?_); clear hR R; try clear kq2 kz2
  try simp only [go_sem, ldA_at (get_extx h10)]
  refine W_block ?_
  obtain ⟨e, he0, he1, he2, he3⟩ := cntS_first hM hJ hne
  let so : Nat → Sg := fun t => if t < e then τ.ext [some [.yield y], some (scCells s)] [] [.ready] else τ1.ext [some [.yield y], some (scCells s)] [] [.done .ret]
  have so1 : ∀ t, t < e → so t = τ.ext [some [.yield y], some (scCells s)] [] [.ready] := fun t h => if_pos h
  have so2 : so e = τ1.ext [some [.yield y], some (scCells s)] [] [.done .ret] := if_neg (Nat.lt_irrefl _)
  have hyl : y < τ.ys.length := by
    have := hca (.yield y) (by simp)
    cases this; assumption
  have hLc : ∀ (n r yy : Nat), y < yy → CleanLs n r yy [some [.yield y], some (scCells s)] := fun n r yy h => by
    have c2 := cleans_sc (a := n) (b := r) (c := yy) s
    refine CleanL_cons ?_ (CleanL_cons c2 CleanL_nil)
    exact Clean.all_cons (.yield _ h) Clean.all_nil
  refine W_rangeFunc (gf := 78) (v := .tuple []) (s := .done .ret) (σ5 := so e) rfl (by simp) (fun args ρ b' ρ' => ∃ m n : Nat, m < M ∧ n < J ∧ m * J + n < e ∧ args = [.agg [I m, I n]] ∧ b' = (!(true && decide (m * J + n + 1 = e))) ∧ ρ = so (m * J + n) ∧ ρ' = so (m * J + n + 1)) ?_ ?_ ?_ ?_ ?_
  · rintro args τ b τ' ⟨m, n, hm, hn, hpe, rfl, rfl, rfl, rfl⟩
    refine ⟨rfl, ?_, ?_⟩
    · (rw [so1 _ hpe]; simp only [go_sem])
    · (rw [so1 _ hpe]; simp only [go_sem])
      refine W_region [2, 3, 4] fun R hR => ?_   -- r2
      simp only [go_sem, ldA_at (get_extx h10), putAll]
      refine hR _ _ ?_; clear hR R
      try simp only [go_sem, ldA_at (get_extx h10), putAll]
      obtain ⟨st1, st2⟩ := cntS_step hM hJ hm hn k
      rw [he2 _ hpe] at st1 st2
      obtain ⟨is, his⟩ : ∃ z, (aget ((m : Int), (n : Int)) k).isSome = z := ⟨_, rfl⟩
      refine W_post_weak ?_
      refine W_block ?_
      refine W_seq fun kz3 kq3 => ?_
      refine W_region [3, 4, 6] fun R hR => ?_   -- r3
      simp only [go_sem, ldA_at (get_extx h10), putAll, ldS_at (get_extx k2), lkX_at (get_extx k3), his]
      refine hR _ _ (kq3 _ _ ?_); clear hR R; try clear kq3 kz3
      try simp only [go_sem, ldA_at (get_extx h10), putAll]
      refine W_seq fun kz4 kq4 => ?_
      refine W_region [23] fun R hR => ?_   -- r4
      simp only [go_sem, ldA_at (get_extx h10), putAll, ldS_at (get_extx k2)]
      refine GWant_split (fun g1 => ?_) (fun g1 => ?_)
      · try simp only [Bool.not_eq_true', Bool.not_eq_false'] at g1
        have n1 := g1; try simp only [nrm] at n1
        simp only [go_sem, ldA_at (get_extx h10), putAll, ldS_at (get_extx k2), g1]
        refine GYield_of (hY m n (st1 (by rw [← Option.not_isSome, his, g1]; rfl)).1) ?_
        simp only [go_sem, ldA_at (get_extx h10), putAll, ldS_at (get_extx k2), g1]
        refine hR _ _ (kq4 _ _ ?_); clear hR R; try clear kq4 kz4
        try simp only [go_sem, ldA_at (get_extx h10), putAll]
        refine W_cond_true rfl ?_
        refine W_ret ?_
        simp only [go_sem, ldA_at (get_extx h10), putAll]
        obtain ⟨e1, e2⟩ := st1 (by rw [← Option.not_isSome, his, g1]; rfl)
        have hpe2 : m * J + n + 1 = e := by
          by_cases q : m * J + n + 1 < e
          · have := he2 _ q; omega
          · omega
        refine ⟨[], _, Weak.cutExt 2 0 (by rw [b1]; exact Nat.le_refl _) (by rw [b2]; exact Nat.le_refl _) (hcl' hcl) ?_ Wk.nil_get, ?_⟩
        · exact hLc _ _ _ (by rw [b3]; simp only [go_sem] <;> omega)
        · rw [hpe2, so2]
          exact ⟨ysget_of b3, by simp, (setY_of b3).symm⟩
      · try simp only [Bool.not_eq_true', Bool.not_eq_false'] at g1
        have n1 := g1; try simp only [nrm] at n1
        simp only [go_sem, ldA_at (get_extx h10), putAll, ldS_at (get_extx k2), g1]
        refine hR _ _ (kq4 _ _ ?_); clear hR R; try clear kq4 kz4
        try simp only [go_sem, ldA_at (get_extx h10), putAll]
        refine W_cond_false rfl ?_
        refine W_skip ?_
        simp only [go_sem, ldA_at (get_extx h10), putAll]
        have e1 := st2 (by rw [← Option.not_isSome, his, g1]; rfl)
        have hne2 : ¬ (m * J + n + 1 = e) := fun h => he3 (by rw [← h]; exact e1)
        refine ⟨[], _, Weak.cutExt 2 0 (Nat.le_refl _) (Nat.le_refl _) hcl ?_ Wk.nil_get, ?_⟩
        · exact hLc _ _ _ (by simp only [go_sem] <;> omega)
        · rw [so1 _ (by omega)]
          simp only [RoundEnd, go_sem]
          simp [hne2]
  · have hst := judges1_pc (Y.at τ.ys.length (fun args ρ b' ρ' => ∃ m n : Nat, m < M ∧ n < J ∧ m * J + n < e ∧ args = [.agg [I m, I n]] ∧ b' = (!(true && decide (m * J + n + 1 = e))) ∧ ρ = so (m * J + n) ∧ ρ' = so (m * J + n + 1))) τ τ.ys.length (τ.store.length + 1) s so M J e true hM hJ hMb hJb
      (fun t ht => by
        by_cases q : t < e
        · rw [so1 t q]; exact Sg.get_ext ..
        · have : t = e := by omega
          subst this
          rw [so2, ← b1]; exact Sg.get_ext ..) he1 (fun h => by cases h) (fun _ => he0)
      (fun m n h1 h2 h3 => by rw [YEnv.at_self]; exact ⟨m, n, h1, h2, h3, rfl, rfl, rfl, rfl⟩) (by rw [so2, so1 0 he0]; simp only [go_sem, b1]) (by rw [so2, so1 0 he0]; simp only [go_sem, b2]) (by rw [so2, so1 0 he0]; simp only [go_sem, b3])
      (fun _ => by rw [so2]; exact CleanSg_ext (hcl' hcl) (hLc _ _ _ (by rw [b3]; simp only [go_sem] <;> omega)))
    rw [so1 0 he0] at hst
    simp only [go_sem] at hst ⊢
    exact hst
  · (rw [so2]; simp only [go_sem]; exact ysget_of b3)
  · simp only [go_sem]
    rw [so2, ← b3]
    exact CleanCut_ext (hcl' hcl) (by simp only [go_sem] <;> omega) (by simp only [go_sem] <;> omega) (Nat.le_refl _) (hLc _ _ _ (by rw [b3]; exact hyl))
  · simp only [go_sem]
    rw [so2, popY_of b3]
    simp only [AfterLoop]
    refine W_ret ?_
    simp only [go_sem]
    refine ⟨.inr (by trivial), ?_⟩
    exact Fin_len b1 b2 b3 (Fin_same (rs := []) (hcl' hcl) rfl (Wk.of_clean (.tuple _ Clean.all_nil)))
end Go.Proofs.Ytgelnjmddabgpaa
namespace Go.Proofs.Ytgelnjmddabgpaa
open Go Go.RowKit
set_option maxRecDepth 100000
theorem aput_ok {s : Scale} {k : Kn} (hk : KnOk s k) {j : Int × Int} {l : List Int} (hl : l = [] ∨ ((l.length : Int) = s.schools ∧ ∀ x, x ∈ l → s.low ≤ x ∧ x ≤ s.high)) : KnOk s (aput j l k) := fun e he => by
  rcases aput_mem he with rfl | he
  · exact hl
  · exact hk e he
theorem openK_ok {s : Scale} : ∀ {l : List Envl} {k : Kn}, KnOk s k → KnOk s (openK s l k).2 := by
  intro l
  induction l with
  | nil => intro k h; exact h
  | cons x l ih =>
    intro k h
    simp only [openK]
    split
    · exact h
    · rename_i h1
      split
      · exact h
      · obtain ⟨_, q2, q3⟩ := marked_ok (s := s) (j := (x.matter, x.judge)) (l := x.marks) (by omega)
        have hn := ih (aput_ok (j := (x.matter, x.judge)) h (.inr ⟨q2, q3⟩))
        repeat' split
        all_goals first | exact h | exact hn
theorem missK_ok {s : Scale} : ∀ {l : List (Int × Int)} {k : Kn}, KnOk s k → KnOk s (missK s l k).2 := by
  intro l
  induction l with
  | nil => intro k h; exact h
  | cons x l ih =>
    intro k h
    simp only [missK]
    split
    · exact h
    · split
      · exact h
      · exact ih (aput_ok h (.inl rfl))
theorem finesR_ok {s : Scale} : ∀ {l : List (Int × Int)}, finesR s l = 0 → ∀ f, f ∈ l → (0 ≤ f.1 ∧ f.1 ≤ s.schools - 1) ∧ 0 ≤ f.2 ∧ f.2 ≤ 1000 := by
  intro l
  induction l with
  | nil => intro _ f hf; cases hf
  | cons x l ih =>
    intro h f hf
    simp only [finesR] at h
    split at h
    · cases h
    · rename_i h1
      split at h
      · cases h
      · rename_i h2
        rcases List.mem_cons.1 hf with rfl | hf
        · simp only [Bool.not_eq_true, Bool.not_eq_false', inR_true] at h1 h2
          exact ⟨h1, h2⟩
        · exact ih h f hf
theorem known_V {s : Scale} {g : Night} (h : knownE s g = 0) : KnV s (knownK s g) g := by
  obtain ⟨hv, h1, h2, h3, h4, h5, h6⟩ := known_ok h
  unfold finesE at h6
  split at h6
  · cases h6
  · rename_i hf
    exact ⟨hv, missK_ok (openK_ok fun e he => by cases he), h5, by omega, finesR_ok h6⟩
theorem chkOrd_ok {m : Int} : ∀ {l p : List Int}, chkOrd m p l = 0 → (∀ x, x ∈ l → 0 ≤ x ∧ x ≤ m - 1) ∧ l.Nodup ∧ ∀ x, x ∈ l → x ∉ p := by
  intro l
  induction l with
  | nil => intro p _; exact ⟨fun x hx => (by cases hx), List.nodup_nil, fun x hx => (by cases hx)⟩
  | cons n l ih =>
    intro p h
    simp only [chkOrd] at h
    split at h
    · cases h
    · rename_i h1
      split at h
      · cases h
      · rename_i h2
        obtain ⟨a1, a2, a3⟩ := ih h
        simp only [Bool.not_eq_true, Bool.not_eq_false', inR_true] at h1
        refine ⟨fun x hx => ?_, List.nodup_cons.2 ⟨fun hm => a3 n hm (by simp), a2⟩, fun x hx hp => ?_⟩
        · rcases List.mem_cons.1 hx with rfl | hx
          · exact h1
          · exact a1 x hx
        · rcases List.mem_cons.1 hx with rfl | hx
          · exact h2 (has_iff.2 hp)
          · exact a3 x hx (List.mem_append.2 (.inl hp))
theorem ptsL_get {s : Scale} {M i : Nat} (hM : s.matters = M) (hi : i < M) (k : Kn) (sc u : Int) : (pointsL s k sc u)[i]? = some (pointsK s k sc i u) := by
  simp [pointsL, toI, hM, hi]
theorem fines_bd {s : Scale} {k : Kn} {g : Night} (hV : KnV s k g) (sc : Int) : 0 ≤ finesOf g.fines sc ∧ finesOf g.fines sc ≤ 10000 := by
  have := sumI_bd (b := 1000) (l := g.fines.map fun f => if f.1 = sc then f.2 else 0) fun x hx => by
    obtain ⟨f, hf, rfl⟩ := List.mem_map.1 hx
    have := hV.fi f hf
    split <;> omega
  have hl := hV.fl
  unfold finesOf
  simp only [List.length_map] at this
  omega
theorem stand_bd {s : Scale} {k : Kn} {g : Night} (hV : KnV s k g) {u : Int} (hu : 0 ≤ u ∧ u ≤ 100) (sc : Int) : -10000 ≤ (standK s k g sc u).total ∧ (standK s k g sc u).total ≤ 3000 := by
  have h1 := sumI_bd (b := 500) (l := pointsL s k sc u) fun x hx => by
    obtain ⟨m, _, rfl⟩ := List.mem_map.1 hx
    exact points_bd hV.v hV.ok hu sc m
  have h2 := fines_bd hV sc
  have q := hV.v.mt
  have hl : (pointsL s k sc u).length = s.matters.toNat := by simp [pointsL, toI]
  simp only [standK]
  rw [hl] at h1
  omega
theorem cmp_ok {s : Scale} {k : Kn} {g : Night} (hV : KnV s k g) {u v : Int} (hu : 0 ≤ u ∧ u ≤ 100) (hv : 0 ≤ v ∧ v ≤ 100) {a b : Int} (ha : 0 ≤ a ∧ a < s.schools) (hb : 0 ≤ b ∧ b < s.schools) : CmpOk s.order (standK s k g a u) (standK s k g b v) := by
  have q1 := hV.v.mt
  have q3 := hV.v.sc
  have h1 := stand_bd hV hu a
  have h2 := stand_bd hV hv b
  obtain ⟨M, hM⟩ : ∃ z : Nat, s.matters = z := ⟨s.matters.toNat, by omega⟩
  refine ⟨by omega, by omega, by simp only [standK]; omega, by simp only [standK]; omega, fun m hm => ?_⟩
  have := (chkOrd_ok hV.v.od).1 m hm
  obtain ⟨i, rfl⟩ : ∃ i : Nat, m = i := ⟨m.toNat, by omega⟩
  have p1 := points_bd hV.v hV.ok hu a i
  have p2 := points_bd hV.v hV.ok hv b i
  exact ⟨i, _, _, rfl, ptsL_get hM (by omega) k a u, ptsL_get hM (by omega) k b v, by omega, by omega⟩
def spUp (s : Scale) (k : Kn) (g : Night) (i : Nat) : List (Int × Int) := (List.range i).map fun (j : Nat) => ((standK s k g j s.low).total, (standK s k g j s.high).total)
theorem spUp_succ (s : Scale) (k : Kn) (g : Night) (i : Nat) : spUp s k g (i + 1) = spUp s k g i ++ [((standK s k g i s.low).total, (standK s k g i s.high).total)] := by simp [spUp, List.range_succ]
def plUp (s : Scale) (k : Kn) (g : Night) (sc own oth : Int) (i : Nat) : Nat := (((List.range i).map fun (j : Nat) => (j : Int)).filter fun j => decide (j ≠ sc) && decide (cmpSt s.order (standK s k g j oth) (standK s k g sc own) < 0)).length
theorem plUp_succ (s : Scale) (k : Kn) (g : Night) (sc own oth : Int) (i : Nat) : plUp s k g sc own oth (i + 1) = plUp s k g sc own oth i + (if (decide ((i : Int) ≠ sc) && decide (cmpSt s.order (standK s k g i oth) (standK s k g sc own) < 0)) = true then 1 else 0) := by
  unfold plUp
  rw [List.range_succ, List.map_append, List.filter_append, List.length_append]
  congr 1
  simp only [List.map_cons, List.map_nil, List.filter_cons, List.filter_nil]
  split <;> rfl
theorem plUp_le (s : Scale) (k : Kn) (g : Night) (sc own oth : Int) (i : Nat) : plUp s k g sc own oth i ≤ i := by
  unfold plUp
  refine Nat.le_trans (List.length_filter_le _ _) (by simp)
theorem plUp_all {s : Scale} {N : Nat} (hN : s.schools = N) (k : Kn) (g : Night) (sc own oth : Int) : placeK s k g sc own oth = 1 + (plUp s k g sc own oth N : Int) := by
  simp only [placeK, plUp, toI, hN, Int.toNat_natCast]
set_option maxHeartbeats 2000000 in
theorem totE_pc (Y : YEnv) (σ : Sg) (s : Scale) (g : Night) (hs : s.Ok) (hg : g.Ok) (hE : knownE s g ≠ 0) :
    PC Try.prog Y 15 [scPV s, ngPV g] σ (.tuple [sts [], I (knownE s g)]) (σ) := by
  refine PC_of_W Try.func15 rfl (by kernel_rfl) Try.ntmps15 (by simp) fun hcl hca => ?_
  refine W_seq fun kz1 kq1 => ?_
  refine W_region [2, 3] fun R hR => ?_   -- r0
  simp only [go_sem]
  refine hR _ _ (kq1 _ _ ?_); clear hR R; try clear kq1 kz1
  try simp only [go_sem]
  refine W_seq fun kz2 kq2 => ?_
  refine W_region [2, 3, 6, 7] fun R hR => ?_   -- r1
  simp only [go_sem]
  refine GCall_of (knownOf_err Y _ s g hs hg hE) ?_   -- t13
  simp only [go_sem]
  refine hR _ _ (kq2 _ _ ?_); clear hR R; try clear kq2 kz2
  try simp only [go_sem]
  refine W_seq fun kz3 kq3 => ?_
  refine W_seq fun kz4 kq4 => ?_
  refine W_region [2, 3, 6, 7, 17] fun R hR => ?_   -- r2
  simp only [go_sem]
  refine hR _ _ (kq4 _ _ ?_); clear hR R; try clear kq4 kz4
  try simp only [go_sem]
  refine W_cond rfl (fun c1 => ?_) (fun c1 => ?_)
  · -- c1 true
    try simp only [nrm] at c1
    refine W_seq fun kz5 kq5 => ?_
    refine W_region [4, 5] fun R hR => ?_   -- r3
    simp only [go_sem]
    refine hR _ _ (kq5 _ _ ?_); clear hR R; try clear kq5 kz5
    try simp only [go_sem]
    refine W_ret ?_
    simp only [go_sem]
    refine ⟨.inr (by trivial), ?_⟩
    refine Fin_same hcl rfl (Wk.ro (by simp only [go_sem]) ?_)
    try simp only [go_sem]
    all_goals
      first | rfl | (simp [PV.ro, PV.roL]; done)
  · -- c1 false
    try simp only [nrm] at c1
    exfalso
    first | exact hE (by omega) | (simp at c1; exact hE (by omega))
set_option maxHeartbeats 2000000 in
theorem totO_pc (Y : YEnv) (σ : Sg) (s : Scale) (g : Night) (hs : s.Ok) (hg : g.Ok) (hE : knownE s g = 0) :
    PC Try.prog Y 15 [scPV s, ngPV g] σ (.tuple [sts ((toI s.schools).map fun i => ((standK s (knownK s g) g i s.low).total, (standK s (knownK s g) g i s.high).total)), I 0]) (σ) := by
  refine PC_of_W Try.func15 rfl (by kernel_rfl) Try.ntmps15 (by simp) fun hcl hca => ?_
  have hV := known_V hE
  obtain ⟨K, hK⟩ : ∃ z, knownK s g = z := ⟨_, rfl⟩
  rw [hK] at hV
  have hv := hV.v
  have q3 := hv.sc
  have q4 := hv.lo
  have q5 := hv.hi
  obtain ⟨N, hN⟩ : ∃ z : Nat, s.schools = z := ⟨s.schools.toNat, by omega⟩
  have hNi : (s.schools : Int) = (N : Int) := hN
  have hkn := fun Y σ => knownOf_ok Y σ s g hs hg hE
  rw [hK] at hkn
  rw [hK]
  have hall : ((toI s.schools).map fun i => ((standK s K g i s.low).total, (standK s K g i s.high).total)) = spUp s K g N := by simp only [toI, hN, Int.toNat_natCast, spUp, List.map_map]; rfl
  rw [hall]
  refine W_seq fun kz1 kq1 => ?_
  refine W_region [2, 3] fun R hR => ?_   -- r0
  simp only [go_sem]
  refine hR _ _ (kq1 _ _ ?_); clear hR R; try clear kq1 kz1
  try simp only [go_sem]
  refine W_seq fun kz2 kq2 => ?_
  refine W_region [2, 3, 6, 7] fun R hR => ?_   -- r1
  simp only [go_sem]
  refine GCall_of (hkn Y _) ?_   -- t13
  simp only [go_sem]
  refine hR _ _ (kq2 _ _ ?_); clear hR R; try clear kq2 kz2
  try simp only [go_sem]
  refine W_seq fun kz3 kq3 => ?_
  refine W_seq fun kz4 kq4 => ?_
  refine W_region [2, 3, 6, 7, 17] fun R hR => ?_   -- r2
  simp only [go_sem]
  refine hR _ _ (kq4 _ _ ?_); clear hR R; try clear kq4 kz4
  try simp only [go_sem]
  refine W_cond_false rfl ?_
  refine W_skip (kq3 _ _ ?_)
  refine W_seq fun kz5 kq5 => ?_
  refine W_region [2, 3, 6, 8] fun R hR => ?_   -- r4
  simp only [go_sem]
  refine hR _ _ (kq5 _ _ ?_); clear hR R; try clear kq5 kz5
  try simp only [go_sem]
  refine W_seq fun kz6 kq6 => ?_
  refine W_seq fun kz7 kq7 => ?_
  refine W_region [2, 3, 6, 8, 20, 21] fun R hR => ?_   -- r5
  simp only [go_sem]
  refine hR _ _ (kq7 _ _ ?_); clear hR R; try clear kq7 kz7
  try simp only [go_sem]
  refine W_block ?_
  refine W_weak (Weak.room (t := 8) (es := 2) rfl (by simp)) ?_
  refine W_weak (Weak.keep [2, 3, 6, 8, 20, 21]) ?_
  simp only [go_sem]
  refine W_loopT (α := Nat) (fun (i : Nat) => [(8, .isl ((spUp s K g i).map stPV) (.tok σ.rooms.length i 2)), (21, I i)]) (fun (i : Nat) => σ.ext [some (scCells s), some (ngCells g), some (scCells s), some (ngCells g), some (.mark :: knE K)] [i]) (fun (i : Nat) => i ≤ N) (fun (i : Nat) => N - i) (0) rfl (by first | rfl | (simp only [go_sem]; done) | (simp only [go_sem]; rfl)) (Nat.zero_le _) ?_
  rintro i hi
  have hsl : (spUp s K g i).length = i := by simp [spUp]
  refine W_seq fun kz8 kq8 => ?_
  refine W_region [2, 3, 6, 8, 20, 21, 22] fun R hR => ?_   -- r6
  simp only [go_sem]
  refine hR _ _ (kq8 _ _ ?_); clear hR R; try clear kq8 kz8
  try simp only [go_sem]
  refine W_seq fun kz9 kq9 => ?_
  refine W_cond rfl (fun c1 => ?_) (fun c1 => ?_)
  · -- c1 true
    try simp only [nrm] at c1
    have hiN : i < N := by first | omega | (simp at c1; omega)
    have hsu := spUp_succ s K g i
    refine W_skip (kq9 _ _ ?_)
    refine W_seq fun kz10 kq10 => ?_
    refine W_block ?_
    refine W_seq fun kz11 kq11 => ?_
    refine W_region [2, 3, 6, 8, 9, 20, 21] fun R hR => ?_   -- r7
    simp only [go_sem]
    refine hR _ _ (kq11 _ _ ?_); clear hR R; try clear kq11 kz11
    try simp only [go_sem]
    refine W_draw [2, 3, 6, 8, 20, 21] [0, 1, 2, 3, 4, 5, 6, 7, 8, 9, 10, 11, 12, 13, 14, 15, 16, 17, 18, 19, 20] [(0, 15), (0, 19), (8, 19), (9, 7), (10, 7), (11, 7), (12, 7), (13, 7), (14, 7)] [[], [], [], [], [], [], [5], [1, 2, 3, 4, 5, 6], [1, 2, 3, 4, 5, 6, 7], [], [], [], [], [], [13], [1, 2, 3, 4, 5, 6, 7, 9, 10, 11, 12, 13, 14], [1, 2, 3, 4, 5, 6, 7, 9, 10, 11, 12, 13, 14, 15], [1, 2, 3, 4, 5, 6, 7, 8, 9, 10, 11, 12, 13, 14, 15, 16], [1, 2, 3, 4, 5, 6, 7, 8, 9, 10, 11, 12, 13, 14, 15, 16, 17], [0, 1, 2, 3, 4, 5, 6, 7, 8, 9, 10, 11, 12, 13, 14, 15, 16, 17, 18], [0, 1, 2, 3, 4, 5, 6, 7, 8, 9, 10, 11, 12, 13, 14, 15, 16, 17, 18, 19]] mixed (by kernel_rfl) fun R hR => ?_   -- r8
    simp only [go_sem]
    refine GCall_of (standing_pc Y _ (σ.store.length + 4) K (Sg.get_ext ..) s g hV i (by omega) s.low (by omega)) ?_   -- t31
    simp only [go_sem]
    refine GCall_of (standing_pc Y _ (σ.store.length + 4) K (Sg.get_ext ..) s g hV i (by omega) s.high (by omega)) ?_   -- t39
    simp only [go_sem]
    try simp (disch := first | omega | (simp only [go_sem] <;> omega)) only [wrapI, wrapU, appX_exact, appX_tok]
    try simp only [go_sem]
    try refine And.intro (by repeat' (first | refine And.intro ?_ ?_ | exact GOr_right (fun _ => by simp only [go_sem]))) ?_
    refine hR _ _ (kq10 _ _ ?_); clear hR R; try clear kq10 kz10
    try simp only [go_sem]
    refine W_region [2, 3, 6, 8, 20, 21] fun R hR => ?_   -- r9
    simp only [go_sem]
    try simp (disch := omega) only [wrapI, wrapU]
    refine hR _ _ ?_; clear hR R
    try simp only [go_sem]
    refine ⟨i + 1, ?_, by (try simp only []); omega, ?_⟩
    · refine Weak.eq ?_ (by simp only [go_sem])
      simp only [go_sem, hsu, List.map_append]
      rfl
    · try dsimp only
      omega
  · -- c1 false
    try simp only [nrm] at c1
    have hie : N = i := by first | omega | (simp at c1; omega)
    subst hie
    refine W_exit ?_
    simp only [go_sem]
    refine kq6 _ _ ?_
    refine W_seq fun kz12 kq12 => ?_
    refine W_region [4, 5] fun R hR => ?_   -- r10
    simp only [go_sem]
    refine hR _ _ (kq12 _ _ ?_); clear hR R; try clear kq12 kz12
    try simp only [go_sem]
    refine W_ret ?_
    simp only [go_sem]
    refine ⟨.inr (by trivial), ?_⟩
    refine Fin_same hcl rfl (Wk.ro (by simp only [go_sem]) ?_)
    try simp only [go_sem]
    all_goals
      simp only [go_sem]
theorem Totals_pc (Y : YEnv) (σ : Sg) (s : Scale) (g : Night) (hs : s.Ok) (hg : g.Ok) : PC Try.prog Y 15 [scPV s, ngPV g] σ (.tuple [sts (totalsA s g).1, I (totalsA s g).2]) σ := by
  unfold totalsA
  by_cases h : knownE s g = 0
  · rw [if_neg (by simpa using h)]; exact totO_pc Y σ s g hs hg h
  · rw [if_pos h]; exact totE_pc Y σ s g hs hg h
set_option maxHeartbeats 4000000 in
theorem place1_pc (Y : YEnv) (σ : Sg) (ik id ib ic ie : Nat) (s : Scale) (k : Kn) (g : Night) (hV : KnV s k g) (sc : Nat) (hsc : (sc : Int) < s.schools) (own oth : Int) (ho : 0 ≤ own ∧ own ≤ 100) (ht : 0 ≤ oth ∧ oth ≤ 100) (h0 : σ.store[ik]? = some (some [.map id])) (hd : σ.store[id]? = some (some (.mark :: knE k))) (hb : σ.store[ib]? = some (some (scCells s))) (hc : σ.store[ic]? = some (some (ngCells g))) (he : σ.store[ie]? = some (some [I sc])) :
    PC Try.prog Y 41 [I own, I oth, .ptr ik 0, .ptr ib 0, .ptr ic 0, .ptr ie 0] σ (I (placeK s k g sc own oth)) (σ) := by
  refine PC_of_W Try.func41 rfl (by kernel_rfl) Try.ntmps41 (by simp) fun hcl hca => ?_
  have q3 := hV.v.sc
  have hol := hV.v.ol
  have q1 := hV.v.mt
  obtain ⟨N, hN⟩ : ∃ z : Nat, s.schools = z := ⟨s.schools.toNat, by omega⟩
  have hNi : (s.schools : Int) = (N : Int) := hN
  have hpl := plUp_all hN k g sc own oth
  refine W_seq fun kz1 kq1 => ?_
  refine W_region [0, 1, 2, 3, 4, 5] fun R hR => ?_   -- r0
  simp only [go_sem, ldS_at h0, ldA_at hb, ldA_at hc, ldS_at he, ldS_at hb, ldS_at (get_extx h0), ldA_at (get_extx hb), ldA_at (get_extx hc), ldS_at (get_extx he), ldS_at (get_extx hb)]
  refine hR _ _ (kq1 _ _ ?_); clear hR R; try clear kq1 kz1
  try simp only [go_sem, ldS_at h0, ldA_at hb, ldA_at hc, ldS_at he, ldS_at hb, ldS_at (get_extx h0), ldA_at (get_extx hb), ldA_at (get_extx hc), ldS_at (get_extx he), ldS_at (get_extx hb)]
  refine W_seq fun kz2 kq2 => ?_
  refine W_region [1, 2, 3, 4, 5, 9, 10] fun R hR => ?_   -- r1
  simp only [go_sem, ldS_at h0, ldA_at hb, ldA_at hc, ldS_at he, ldS_at hb, ldS_at (get_extx h0), ldA_at (get_extx hb), ldA_at (get_extx hc), ldS_at (get_extx he), ldS_at (get_extx hb)]
  refine GCall_of (standing_pc Y _ id k hd s g hV sc hsc own ho) ?_   -- t17
  simp only [go_sem, ldS_at h0, ldA_at hb, ldA_at hc, ldS_at he, ldS_at hb, ldS_at (get_extx h0), ldA_at (get_extx hb), ldA_at (get_extx hc), ldS_at (get_extx he), ldS_at (get_extx hb)]
  refine hR _ _ (kq2 _ _ ?_); clear hR R; try clear kq2 kz2
  try simp only [go_sem, ldS_at h0, ldA_at hb, ldA_at hc, ldS_at he, ldS_at hb, ldS_at (get_extx h0), ldA_at (get_extx hb), ldA_at (get_extx hc), ldS_at (get_extx he), ldS_at (get_extx hb)]
  refine W_seq fun kz3 kq3 => ?_
  refine W_seq fun kz4 kq4 => ?_
  refine W_region [1, 2, 3, 4, 5, 9, 10, 19, 20] fun R hR => ?_   -- r2
  simp only [go_sem, ldS_at h0, ldA_at hb, ldA_at hc, ldS_at he, ldS_at hb, ldS_at (get_extx h0), ldA_at (get_extx hb), ldA_at (get_extx hc), ldS_at (get_extx he), ldS_at (get_extx hb)]
  refine hR _ _ (kq4 _ _ ?_); clear hR R; try clear kq4 kz4
  try simp only [go_sem, ldS_at h0, ldA_at hb, ldA_at hc, ldS_at he, ldS_at hb, ldS_at (get_extx h0), ldA_at (get_extx hb), ldA_at (get_extx hc), ldS_at (get_extx he), ldS_at (get_extx hb)]
  refine W_block ?_
  refine W_loopS (α := Nat) (fun (i : Nat) => [(10, I (1 + (plUp s k g sc own oth i : Int))), (20, I i)]) (fun (i : Nat) => i ≤ N) (fun (i : Nat) => N - i) (0) rfl (Nat.zero_le _) ?_
  rintro i hi
  have hple := plUp_le s k g sc own oth i
  refine W_seq fun kz5 kq5 => ?_
  refine W_region [1, 2, 3, 4, 5, 9, 10, 19, 20, 21] fun R hR => ?_   -- r3
  simp only [go_sem, ldS_at h0, ldA_at hb, ldA_at hc, ldS_at he, ldS_at hb, ldS_at (get_extx h0), ldA_at (get_extx hb), ldA_at (get_extx hc), ldS_at (get_extx he), ldS_at (get_extx hb)]
  refine hR _ _ (kq5 _ _ ?_); clear hR R; try clear kq5 kz5
  try simp only [go_sem, ldS_at h0, ldA_at hb, ldA_at hc, ldS_at he, ldS_at hb, ldS_at (get_extx h0), ldA_at (get_extx hb), ldA_at (get_extx hc), ldS_at (get_extx he), ldS_at (get_extx hb)]
  refine W_seq fun kz6 kq6 => ?_
  refine W_cond rfl (fun c1 => ?_) (fun c1 => ?_)
  · -- c1 true
    try simp only [nrm] at c1
    have hiN : i < N := by first | omega | (simp at c1; omega)
    have hsu := plUp_succ s k g sc own oth i
    refine W_skip (kq6 _ _ ?_)
    refine W_seq fun kz7 kq7 => ?_
    refine W_block ?_
    refine W_seq fun kz8 kq8 => ?_
    refine W_region [1, 2, 3, 4, 5, 9, 10, 11, 19, 20] fun R hR => ?_   -- r4
    simp only [go_sem, ldS_at h0, ldA_at hb, ldA_at hc, ldS_at he, ldS_at hb, ldS_at (get_extx h0), ldA_at (get_extx hb), ldA_at (get_extx hc), ldS_at (get_extx he), ldS_at (get_extx hb)]
    refine hR _ _ (kq8 _ _ ?_); clear hR R; try clear kq8 kz8
    try simp only [go_sem, ldS_at h0, ldA_at hb, ldA_at hc, ldS_at he, ldS_at hb, ldS_at (get_extx h0), ldA_at (get_extx hb), ldA_at (get_extx hc), ldS_at (get_extx he), ldS_at (get_extx hb)]
    refine W_seq fun kz9 kq9 => ?_
    refine W_draw [1, 2, 3, 4, 5, 9, 10, 19, 20, 39] [0, 1, 2, 3, 4, 5, 6, 7, 8, 9, 10, 11, 12, 13, 14, 15, 16] [(4, 14), (5, 14), (6, 14), (13, 12)] [[], [], [0, 1], [0, 1, 2], [0, 1, 2, 3], [0, 1, 2, 3, 4], [0, 1, 2, 3, 4, 5], [0, 1, 2, 3], [0, 1, 2, 3], [0, 1, 2, 3], [0, 1, 2, 3], [0, 1, 2, 3], [0, 1, 2, 3, 7, 8, 9, 10, 11], [0, 1, 2, 3], [0, 1, 2, 3, 4, 5, 6, 7, 8, 9, 10, 11, 12, 13], [0, 1, 2, 3, 4, 5, 6, 7, 8, 9, 10, 11, 12, 13, 14], [0, 1, 2, 3, 4, 5, 6, 7, 8, 9, 10, 11, 12, 13, 14, 15]] mixed (by kernel_rfl) fun R hR => ?_   -- r5
    simp only [go_sem, ldS_at h0, ldA_at hb, ldA_at hc, ldS_at he, ldS_at hb, ldS_at (get_extx h0), ldA_at (get_extx hb), ldA_at (get_extx hc), ldS_at (get_extx he), ldS_at (get_extx hb)]
    refine GWant_split (fun g1 => ?_) (fun g1 => ?_)
    · try simp only [Bool.not_eq_true', Bool.not_eq_false'] at g1
      have n1 := g1; try simp only [nrm] at n1
      have hci : (i : Int) ≠ (sc : Int) := by intro e; rw [e] at g1; simp at g1
      simp only [go_sem, ldS_at h0, ldA_at hb, ldA_at hc, ldS_at he, ldS_at hb, ldS_at (get_extx h0), ldA_at (get_extx hb), ldA_at (get_extx hc), ldS_at (get_extx he), ldS_at (get_extx hb), g1]
      refine GCall_of (standing_pc Y _ id k (get_extx hd) s g hV i (by omega) oth ht) ?_   -- t35
      simp only [go_sem, ldS_at h0, ldA_at hb, ldA_at hc, ldS_at he, ldS_at hb, ldS_at (get_extx h0), ldA_at (get_extx hb), ldA_at (get_extx hc), ldS_at (get_extx he), ldS_at (get_extx hb), g1]
      refine GCall_of (compare_pc Y _ s.order (standK s k g i oth) (standK s k g sc own) (cmp_ok hV ht ho (by omega) (by omega)) (by omega)) ?_   -- t37
      simp only [go_sem, ldS_at h0, ldA_at hb, ldA_at hc, ldS_at he, ldS_at hb, ldS_at (get_extx h0), ldA_at (get_extx hb), ldA_at (get_extx hc), ldS_at (get_extx he), ldS_at (get_extx hb), g1]
      try refine And.intro (by repeat' (first | refine And.intro ?_ ?_ | exact GOr_right (fun _ => by simp only [go_sem, ldS_at h0, ldA_at hb, ldA_at hc, ldS_at he, ldS_at hb, ldS_at (get_extx h0), ldA_at (get_extx hb), ldA_at (get_extx hc), ldS_at (get_extx he), ldS_at (get_extx hb)]))) ?_
      refine hR _ _ (kq9 _ _ ?_); clear hR R; try clear kq9 kz9
      try simp only [go_sem, ldS_at h0, ldA_at hb, ldA_at hc, ldS_at he, ldS_at hb, ldS_at (get_extx h0), ldA_at (get_extx hb), ldA_at (get_extx hc), ldS_at (get_extx he), ldS_at (get_extx hb)]
      refine W_cond rfl (fun c2 => ?_) (fun c2 => ?_)
      · -- c2 true
        try simp only [nrm] at c2
        rw [if_pos (by rw [decide_eq_true hci, decide_eq_true (show cmpSt s.order (standK s k g i oth) (standK s k g sc own) < 0 by omega)]; rfl)] at hsu
        refine W_region [1, 2, 3, 4, 5, 9, 10, 19, 20] fun R hR => ?_   -- r6
        simp only [go_sem, ldS_at h0, ldA_at hb, ldA_at hc, ldS_at he, ldS_at hb, ldS_at (get_extx h0), ldA_at (get_extx hb), ldA_at (get_extx hc), ldS_at (get_extx he), ldS_at (get_extx hb)]
        try simp (disch := omega) only [wrapI, wrapU]
        refine hR _ _ (kq7 _ _ ?_); clear hR R; try clear kq7 kz7
        try simp only [go_sem, ldS_at h0, ldA_at hb, ldA_at hc, ldS_at he, ldS_at hb, ldS_at (get_extx h0), ldA_at (get_extx hb), ldA_at (get_extx hc), ldS_at (get_extx he), ldS_at (get_extx hb)]
        refine W_region [1, 2, 3, 4, 5, 9, 10, 19, 20] fun R hR => ?_   -- r7
        simp only [go_sem, ldS_at h0, ldA_at hb, ldA_at hc, ldS_at he, ldS_at hb, ldS_at (get_extx h0), ldA_at (get_extx hb), ldA_at (get_extx hc), ldS_at (get_extx he), ldS_at (get_extx hb)]
        try simp (disch := omega) only [wrapI, wrapU]
        refine hR _ _ ?_; clear hR R
        try simp only [go_sem, ldS_at h0, ldA_at hb, ldA_at hc, ldS_at he, ldS_at hb, ldS_at (get_extx h0), ldA_at (get_extx hb), ldA_at (get_extx hc), ldS_at (get_extx he), ldS_at (get_extx hb)]
        refine ⟨i + 1, ?_, by (try simp only []); omega, ?_⟩
        · refine Weak.eq ?_ rfl
          rw [hsu]
          try simp only [go_sem]
          first | done | rfl | (simp; done) | (simp; omega)
        · try dsimp only
          omega
      · -- c2 false
        try simp only [nrm] at c2
        rw [if_neg (by rw [decide_eq_false (show ¬ (cmpSt s.order (standK s k g i oth) (standK s k g sc own) < 0) by omega)]; simp)] at hsu
        refine W_skip (kq7 _ _ ?_)
        refine W_region [1, 2, 3, 4, 5, 9, 10, 19, 20] fun R hR => ?_   -- r7
        simp only [go_sem, ldS_at h0, ldA_at hb, ldA_at hc, ldS_at he, ldS_at hb, ldS_at (get_extx h0), ldA_at (get_extx hb), ldA_at (get_extx hc), ldS_at (get_extx he), ldS_at (get_extx hb)]
        try simp (disch := omega) only [wrapI, wrapU]
        refine hR _ _ ?_; clear hR R
        try simp only [go_sem, ldS_at h0, ldA_at hb, ldA_at hc, ldS_at he, ldS_at hb, ldS_at (get_extx h0), ldA_at (get_extx hb), ldA_at (get_extx hc), ldS_at (get_extx he), ldS_at (get_extx hb)]
        refine ⟨i + 1, ?_, by (try simp only []); omega, ?_⟩
        · refine Weak.eq ?_ rfl
          rw [hsu]
          try simp only [go_sem]
          first | done | rfl | (simp; done) | (simp; omega)
        · try dsimp only
          omega
    · try simp only [Bool.not_eq_true', Bool.not_eq_false'] at g1
      have n1 := g1; try simp only [nrm] at n1
      have hci : ¬ ((i : Int) ≠ (sc : Int)) := by intro e; apply e; simpa using g1
      rw [if_neg (by rw [decide_eq_false hci]; simp)] at hsu
      simp only [go_sem, ldS_at h0, ldA_at hb, ldA_at hc, ldS_at he, ldS_at hb, ldS_at (get_extx h0), ldA_at (get_extx hb), ldA_at (get_extx hc), ldS_at (get_extx he), ldS_at (get_extx hb), g1]
      try refine And.intro (by repeat' (first | refine And.intro ?_ ?_ | exact GOr_right (fun _ => by simp only [go_sem, ldS_at h0, ldA_at hb, ldA_at hc, ldS_at he, ldS_at hb, ldS_at (get_extx h0), ldA_at (get_extx hb), ldA_at (get_extx hc), ldS_at (get_extx he), ldS_at (get_extx hb)]))) ?_
      refine hR _ _ (kq9 _ _ ?_); clear hR R; try clear kq9 kz9
      try simp only [go_sem, ldS_at h0, ldA_at hb, ldA_at hc, ldS_at he, ldS_at hb, ldS_at (get_extx h0), ldA_at (get_extx hb), ldA_at (get_extx hc), ldS_at (get_extx he), ldS_at (get_extx hb)]
      refine W_cond_false rfl ?_
      refine W_skip (kq7 _ _ ?_)
      refine W_region [1, 2, 3, 4, 5, 9, 10, 19, 20] fun R hR => ?_   -- r7
      simp only [go_sem, ldS_at h0, ldA_at hb, ldA_at hc, ldS_at he, ldS_at hb, ldS_at (get_extx h0), ldA_at (get_extx hb), ldA_at (get_extx hc), ldS_at (get_extx he), ldS_at (get_extx hb)]
      try simp (disch := omega) only [wrapI, wrapU]
      refine hR _ _ ?_; clear hR R
      try simp only [go_sem, ldS_at h0, ldA_at hb, ldA_at hc, ldS_at he, ldS_at hb, ldS_at (get_extx h0), ldA_at (get_extx hb), ldA_at (get_extx hc), ldS_at (get_extx he), ldS_at (get_extx hb)]
      refine ⟨i + 1, ?_, by (try simp only []); omega, ?_⟩
      · refine Weak.eq ?_ rfl
        rw [hsu]
        try simp only [go_sem]
        first | done | rfl | (simp; done) | (simp; omega)
      · try dsimp only
        omega
  · -- c1 false
    try simp only [nrm] at c1
    have hie : N = i := by first | omega | (simp at c1; omega)
    subst hie
    refine W_exit ?_
    simp only [go_sem, ldS_at h0, ldA_at hb, ldA_at hc, ldS_at he, ldS_at hb, ldS_at (get_extx h0), ldA_at (get_extx hb), ldA_at (get_extx hc), ldS_at (get_extx he), ldS_at (get_extx hb)]
    refine kq3 _ _ ?_
    refine W_seq fun kz10 kq10 => ?_
    refine W_region [8] fun R hR => ?_   -- r8
    simp only [go_sem, ldS_at h0, ldA_at hb, ldA_at hc, ldS_at he, ldS_at hb, ldS_at (get_extx h0), ldA_at (get_extx hb), ldA_at (get_extx hc), ldS_at (get_extx he), ldS_at (get_extx hb)]
    refine hR _ _ (kq10 _ _ ?_); clear hR R; try clear kq10 kz10
    try simp only [go_sem, ldS_at h0, ldA_at hb, ldA_at hc, ldS_at he, ldS_at hb, ldS_at (get_extx h0), ldA_at (get_extx hb), ldA_at (get_extx hc), ldS_at (get_extx he), ldS_at (get_extx hb)]
    refine W_ret ?_
    simp only [go_sem, ldS_at h0, ldA_at hb, ldA_at hc, ldS_at he, ldS_at hb, ldS_at (get_extx h0), ldA_at (get_extx hb), ldA_at (get_extx hc), ldS_at (get_extx he), ldS_at (get_extx hb)]
    refine ⟨.inr (by trivial), ?_⟩
    first | refine Fin_same hcl rfl (Wk_eq ?_ (by simp only [go_sem])) | refine Fin_self hcl rfl (Wk_eq ?_ (by simp only [go_sem]))
    try simp only [go_sem]
    all_goals
      rw [hpl]
end Go.Proofs.Ytgelnjmddabgpaa
namespace Go.Proofs.Ytgelnjmddabgpaa
open Go Go.RowKit
set_option maxRecDepth 100000
theorem row3_cons (x : Stand) (l : List Stand) : rowC ((x :: l).map sdPV) = I x.school :: I x.total :: ints x.points :: rowC (l.map sdPV) := by simp [rowC, sdPV, sdCells]
theorem row3_len : ∀ l : List Stand, (rowC (l.map sdPV)).length = l.length * 3 := by
  intro l
  induction l with
  | nil => rfl
  | cons x l ih => rw [row3_cons]; simp only [List.length_cons, ih]; omega
theorem row3_ld : ∀ {l : List Stand} {j : Nat} {x : Stand}, l[j]? = some x → ((rowC (l.map sdPV)).drop (j * 3)).take 3 = [I x.school, I x.total, ints x.points] := by
  intro l
  induction l with
  | nil => intro j x h; simp at h
  | cons y l ih =>
    intro j x h
    rw [row3_cons]
    cases j with
    | zero =>
      simp only [List.getElem?_cons_zero, Option.some.injEq] at h
      subst h
      simp
    | succ j =>
      simp only [List.getElem?_cons_succ] at h
      rw [show (j + 1) * 3 = j * 3 + 1 + 1 + 1 by omega]
      simp only [List.drop_succ_cons]
      exact ih h
theorem row3_put (x : Stand) : ∀ {l : List Stand} {j : Nat}, j < l.length → (((rowC (l.map sdPV)).set (j * 3) (I x.school)).set (j * 3 + 1) (I x.total)).set (j * 3 + 1 + 1) (ints x.points) = rowC ((l.set j x).map sdPV) := by
  intro l
  induction l with
  | nil => intro j h; simp at h
  | cons y l ih =>
    intro j h
    rw [row3_cons]
    cases j with
    | zero =>
      have e : (y :: l).set 0 x = x :: l := rfl
      rw [e, row3_cons]; simp
    | succ j =>
      rw [List.set_cons_succ, row3_cons, show (j + 1) * 3 = j * 3 + 1 + 1 + 1 by omega]
      simp only [List.set_cons_succ]
      rw [ih (by simpa using h)]
theorem cA_row3 {a b c : Nat} {l : List Stand} : CleanAll a b c (rowC (l.map sdPV)) = True := eq_true fun p hp => by
  simp only [rowC, List.mem_flatMap, List.mem_map] at hp
  obtain ⟨q, ⟨x, _, rfl⟩, hp⟩ := hp
  exact cleans_sd x p hp
attribute [go_sem] cA_row3
theorem ld3 {σ : Sg} {id : Nat} (hlt : id < σ.store.length) {l : List Stand} {j : Nat} {x : Stand} (h : l[j]? = some x) : ldA 3 (σ.setVar id (rowC (l.map sdPV))) id (j * 3) = some (.agg [I x.school, I x.total, ints x.points]) := by
  have hj := (List.getElem?_eq_some_iff.1 h).1
  rw [ldA_at (sv_get hlt), if_pos (by rw [row3_len]; omega), row3_ld h]
/-- One standing sinks to its place. -/
def sink (ord : List Int) : Nat → List Stand → List Stand
  | 0, l => l
  | j + 1, l => match l[j + 1]?, l[j]? with
    | some x, some y => if cmpSt ord x y < 0 then sink ord j ((l.set (j + 1) y).set j x) else l
    | _, _ => l
def sinkAll (ord : List Int) : Nat → Nat → List Stand → List Stand
  | 0, _, l => l
  | k + 1, i, l => sinkAll ord k (i + 1) (sink ord i l)
def sortSd (ord : List Int) (l : List Stand) : List Stand := sinkAll ord (l.length - 1) 1 l
theorem mem_set2 {α : Type} {l : List α} {i j : Nat} {x y z : α} (hx : l[i]? = some x) (hy : l[j]? = some y) (h : z ∈ (l.set i y).set j x) : z ∈ l := by
  rcases List.mem_or_eq_of_mem_set h with h | h
  · rcases List.mem_or_eq_of_mem_set h with h | h
    · exact h
    · exact h ▸ List.mem_of_getElem? hy
  · exact h ▸ List.mem_of_getElem? hx
set_option maxHeartbeats 4000000 in
theorem insSort_pc (Y : YEnv) (σ : Sg) (id : Nat) (ord : List Int) (l : List Stand) (hd : σ.store[id]? = some (some (rowC (l.map sdPV)))) (hC : ∀ a b, a ∈ l → b ∈ l → CmpOk ord a b) (hol : ord.length < 2 ^ 40) (hl : 0 < l.length ∧ l.length ≤ 12) :
    PC Try.prog Y 82 [.gsl id l.length 3, I 0, I l.length, .func (.func 42) [.agg [ints ord]] []] σ (.tuple []) (σ.setVar id (rowC ((sortSd ord l).map sdPV))) := by
  refine PC_of_W Try.func82 rfl (by kernel_rfl) Try.ntmps82 (by simp) fun hcl hca => ?_
  have hlt := lt_of_get hd
  obtain ⟨res, hres⟩ : ∃ r, sortSd ord l = r := ⟨_, rfl⟩
  rw [hres]
  obtain ⟨n, hn⟩ : ∃ z, l.length = z := ⟨_, rfl⟩
  rw [hn] at hl ⊢
  refine W_seq fun kz1 kq1 => ?_
  refine W_region [0, 1, 2, 3, 8] fun R hR => ?_   -- r0
  simp only [go_sem, ldS_at hd, stX_at hd, ldS_sv hlt, stX_sv hlt, sv_ext hlt, sv_ext_sv hlt]
  try simp (disch := omega) only [wrapI, wrapU]
  refine hR _ _ (kq1 _ _ ?_); clear hR R; try clear kq1 kz1
  try simp only [go_sem, ldS_at hd, stX_at hd, ldS_sv hlt, stX_sv hlt, sv_ext hlt, sv_ext_sv hlt]
  refine W_block ?_
  refine W_loopT (α := Nat × (List Stand)) (fun ⟨i, m⟩ => [(8, I i)]) (fun ⟨i, m⟩ => σ.setVar id (rowC (m.map sdPV))) (fun ⟨i, m⟩ => 1 ≤ i ∧ i ≤ n ∧ m.length = n ∧ (∀ x, x ∈ m → x ∈ l) ∧ res = sinkAll ord (n - i) i m) (fun ⟨i, m⟩ => n - i) ((1, l)) rfl (by show σ.setVar id _ = σ; exact sv_self hd) (⟨Nat.le_refl _, by omega, hn, fun x hx => hx, by rw [← hres, sortSd, hn]⟩) ?_
  rintro ⟨i, m⟩ ⟨hi1, hi, hml, hmm, hinv⟩
  refine W_seq fun kz2 kq2 => ?_
  refine W_seq fun kz3 kq3 => ?_
  refine W_region [0, 1, 2, 3, 8, 14] fun R hR => ?_   -- r1
  simp only [go_sem, ldS_at hd, stX_at hd, ldS_sv hlt, stX_sv hlt, sv_ext hlt, sv_ext_sv hlt]
  refine hR _ _ (kq3 _ _ ?_); clear hR R; try clear kq3 kz3
  try simp only [go_sem, ldS_at hd, stX_at hd, ldS_sv hlt, stX_sv hlt, sv_ext hlt, sv_ext_sv hlt]
  refine W_cond rfl (fun c1 => ?_) (fun c1 => ?_)
  · -- c1 true
    try simp only [nrm] at c1
    have hin : i < n := by first | omega | (simp at c1; omega)
    rw [show n - i = (n - (i + 1)) + 1 by omega] at hinv
    simp only [sinkAll] at hinv
    refine W_skip (kq2 _ _ ?_)
    refine W_seq fun kz4 kq4 => ?_
    refine W_block ?_
    refine W_seq fun kz5 kq5 => ?_
    refine W_region [0, 1, 2, 3, 8, 9] fun R hR => ?_   -- r3
    simp only [go_sem, ldS_at hd, stX_at hd, ldS_sv hlt, stX_sv hlt, sv_ext hlt, sv_ext_sv hlt]
    refine hR _ _ (kq5 _ _ ?_); clear hR R; try clear kq5 kz5
    try simp only [go_sem, ldS_at hd, stX_at hd, ldS_sv hlt, stX_sv hlt, sv_ext hlt, sv_ext_sv hlt]
    refine W_block ?_
    refine W_loopT (α := Nat × (List Stand)) (fun ⟨j, m2⟩ => [(9, I j)]) (fun ⟨j, m2⟩ => σ.setVar id (rowC (m2.map sdPV))) (fun ⟨j, m2⟩ => j ≤ i ∧ m2.length = n ∧ (∀ x, x ∈ m2 → x ∈ l) ∧ sink ord i m = sink ord j m2) (fun ⟨j, m2⟩ => j) ((i, m)) rfl (by first | rfl | (simp only [go_sem]; done) | (simp only [go_sem]; rfl)) (⟨Nat.le_refl _, hml, hmm, rfl⟩) ?_
    rintro ⟨j, m2⟩ ⟨hj, hm2l, hm2, hsk⟩
    refine W_seq fun kz6 kq6 => ?_
    refine W_seq fun kz7 kq7 => ?_
    refine W_draw [0, 1, 2, 3, 8, 9, 34] [0, 1, 2, 3, 4, 5, 6, 7, 8, 9, 10, 11, 12, 13, 14, 15, 16] [] [[], [], [0, 1], [0, 1, 2], [0, 1, 2, 3], [0, 1, 2, 3], [0, 1, 2, 3], [0, 1, 2, 3, 5, 6], [0, 1, 2, 3, 5, 6, 7], [0, 1, 2, 3], [0, 1, 2, 3], [0, 1, 2, 3, 10], [0, 1, 2, 3, 9, 10, 11], [0, 1, 2, 3, 9, 10, 11, 12], [0, 1, 2, 3, 4, 5, 6, 7, 8, 9, 10, 11, 12, 13], [0, 1, 2, 3, 4, 5, 6, 7, 8, 9, 10, 11, 12, 13, 14], [0, 1, 2, 3, 4, 5, 6, 7, 8, 9, 10, 11, 12, 13, 14, 15]] mixed (by kernel_rfl) fun R hR => ?_   -- r4
    simp only [go_sem, ldS_at hd, stX_at hd, ldS_sv hlt, stX_sv hlt, sv_ext hlt, sv_ext_sv hlt]
    refine GWant_split (fun g1 => ?_) (fun g1 => ?_)
    · try simp only [Bool.not_eq_true', Bool.not_eq_false'] at g1
      have n1 := g1; try simp only [nrm] at n1
      obtain ⟨q, rfl⟩ : ∃ q, j = q + 1 := ⟨j - 1, by first | omega | (simp at g1; omega)⟩
      obtain ⟨x, hx⟩ : ∃ z, m2[q + 1]? = some z := ⟨m2[q + 1]'(by omega), by simp⟩
      obtain ⟨y, hy⟩ : ∃ z, m2[q]? = some z := ⟨m2[q]'(by omega), by simp⟩
      have hsk2 : sink ord (q + 1) m2 = if cmpSt ord x y < 0 then sink ord q ((m2.set (q + 1) y).set q x) else m2 := by simp only [sink, hx, hy]
      have hq1 : ((q + 1 : Nat) : Int) < (n : Int) := by omega
      have hq0 : ((q : Nat) : Int) < (n : Int) := by omega
      have hz1 : (0 : Int) ≤ ((q + 1 : Nat) : Int) := by omega
      have hqw : IntKind.i64.wrap (((q + 1 : Nat) : Int) - 1) = (q : Int) := by rw [wrapI (by omega) (by omega)]; omega
      have l1 := ld3 hlt hx
      have l2 := ld3 hlt hy
      have s1 : decide ((q + 1) * 3 + 3 ≤ (rowC (List.map sdPV m2)).length) = true := by rw [row3_len]; simp; omega
      have s2 : decide (q * 3 + 3 ≤ (rowC (List.map sdPV (m2.set (q + 1) y))).length) = true := by rw [row3_len]; simp; omega
      have s3 := row3_put y (l := m2) (j := q + 1) (by omega)
      have s4 := row3_put x (l := m2.set (q + 1) y) (j := q) (by simp; omega)
      simp only [go_sem, ldS_at hd, stX_at hd, ldS_sv hlt, stX_sv hlt, sv_ext hlt, sv_ext_sv hlt, hqw, hq1, hq0, iaM_nat (Int.ofNat_lt.1 hq1), iaM_nat (Int.ofNat_lt.1 hq0), Nat.zero_add, l1, l2, s1, s2, s3, s4, g1]
      try simp (disch := omega) only [wrapI, wrapU]
      refine GCall_of (compare_pc Y _ ord x y (hC x y (hm2 x (List.mem_of_getElem? hx)) (hm2 y (List.mem_of_getElem? hy))) hol) ?_   -- t32
      simp only [go_sem, ldS_at hd, stX_at hd, ldS_sv hlt, stX_sv hlt, sv_ext hlt, sv_ext_sv hlt, hqw, hq1, hq0, iaM_nat (Int.ofNat_lt.1 hq1), iaM_nat (Int.ofNat_lt.1 hq0), Nat.zero_add, l1, l2, s1, s2, s3, s4, g1]
      try simp (disch := omega) only [wrapI, wrapU]
      try refine And.intro (by repeat' (first | refine And.intro ?_ ?_ | exact GOr_right (fun _ => by simp only [go_sem, ldS_at hd, stX_at hd, ldS_sv hlt, stX_sv hlt, sv_ext hlt, sv_ext_sv hlt, hqw, hq1, hq0, iaM_nat (Int.ofNat_lt.1 hq1), iaM_nat (Int.ofNat_lt.1 hq0), Nat.zero_add, l1, l2, s1, s2, s3, s4]))) ?_
      refine hR _ _ (kq7 _ _ ?_); clear hR R; try clear kq7 kz7
      try simp only [go_sem, ldS_at hd, stX_at hd, ldS_sv hlt, stX_sv hlt, sv_ext hlt, sv_ext_sv hlt, hqw, hq1, hq0, iaM_nat (Int.ofNat_lt.1 hq1), iaM_nat (Int.ofNat_lt.1 hq0), Nat.zero_add, l1, l2, s1, s2, s3, s4]
      refine W_cond rfl (fun c2 => ?_) (fun c2 => ?_)
      · -- c2 true
        try simp only [nrm] at c2
        skip
        refine W_skip (kq6 _ _ ?_)
        refine W_seq fun kz8 kq8 => ?_
        refine W_block ?_
        refine W_draw [0, 1, 2, 3, 8, 9] [0, 1, 2, 3, 4, 5, 6, 7, 8, 9, 10, 11, 12, 13, 14, 15, 16, 17] [(2, 17), (3, 17), (4, 17)] [[], [], [], [], [3], [], [], [6], [5, 6, 7], [5, 6, 7, 8], [], [], [10, 11], [10, 11, 12], [0, 1, 5, 6, 7, 8, 9, 10, 11, 12, 13], [0, 1, 5, 6, 7, 8, 9, 10, 11, 12, 13, 14], [0, 1, 2, 3, 4, 5, 6, 7, 8, 9, 10, 11, 12, 13, 14, 15], [0, 1, 2, 3, 4, 5, 6, 7, 8, 9, 10, 11, 12, 13, 14, 15, 16]] mixed (by kernel_rfl) fun R hR => ?_   -- r6
        simp only [go_sem, ldS_at hd, stX_at hd, ldS_sv hlt, stX_sv hlt, sv_ext hlt, sv_ext_sv hlt, hqw, hq1, hq0, iaM_nat (Int.ofNat_lt.1 hq1), iaM_nat (Int.ofNat_lt.1 hq0), Nat.zero_add, l1, l2, s1, s2, s3, s4]
        try simp (disch := omega) only [wrapI, wrapU]
        try refine And.intro (by repeat' (first | refine And.intro ?_ ?_ | exact GOr_right (fun _ => by simp only [go_sem, ldS_at hd, stX_at hd, ldS_sv hlt, stX_sv hlt, sv_ext hlt, sv_ext_sv hlt, hqw, hq1, hq0, iaM_nat (Int.ofNat_lt.1 hq1), iaM_nat (Int.ofNat_lt.1 hq0), Nat.zero_add, l1, l2, s1, s2, s3, s4]))) ?_
        refine hR _ _ (kq8 _ _ ?_); clear hR R; try clear kq8 kz8
        try simp only [go_sem, ldS_at hd, stX_at hd, ldS_sv hlt, stX_sv hlt, sv_ext hlt, sv_ext_sv hlt, hqw, hq1, hq0, iaM_nat (Int.ofNat_lt.1 hq1), iaM_nat (Int.ofNat_lt.1 hq0), Nat.zero_add, l1, l2, s1, s2, s3, s4]
        refine W_region [0, 1, 2, 3, 8, 9] fun R hR => ?_   -- r5
        simp only [go_sem, ldS_at hd, stX_at hd, ldS_sv hlt, stX_sv hlt, sv_ext hlt, sv_ext_sv hlt, hqw, hq1, hq0, iaM_nat (Int.ofNat_lt.1 hq1), iaM_nat (Int.ofNat_lt.1 hq0), Nat.zero_add, l1, l2, s1, s2, s3, s4]
        try simp (disch := omega) only [wrapI, wrapU]
        refine hR _ _ ?_; clear hR R
        try simp only [go_sem, ldS_at hd, stX_at hd, ldS_sv hlt, stX_sv hlt, sv_ext hlt, sv_ext_sv hlt, hqw, hq1, hq0, iaM_nat (Int.ofNat_lt.1 hq1), iaM_nat (Int.ofNat_lt.1 hq0), Nat.zero_add, l1, l2, s1, s2, s3, s4]
        refine ⟨(q, (m2.set (q + 1) y).set q x), ?_, by (try simp only []); omega, ?_⟩
        · first | exact Weak.refl | exact Weak.eq (by first | rfl | (simp only [go_sem]; done) | (simp only [go_sem]; rfl) | (simp [go_sem]; done) | (simp [go_sem]; omega)) (by first | rfl | (simp only [go_sem]; done) | (simp [go_sem]; done))
        · try dsimp only
          refine ⟨by omega, by simp [hm2l], fun z hz => hm2 z (mem_set2 hx hy hz), ?_⟩
          rw [hsk, hsk2, if_pos (by simpa using c2)]
      · -- c2 false
        try simp only [nrm] at c2
        skip
        refine W_exit ?_
        simp only [go_sem, ldS_at hd, stX_at hd, ldS_sv hlt, stX_sv hlt, sv_ext hlt, sv_ext_sv hlt, hqw, hq1, hq0, iaM_nat (Int.ofNat_lt.1 hq1), iaM_nat (Int.ofNat_lt.1 hq0), Nat.zero_add, l1, l2, s1, s2, s3, s4]
        refine kq4 _ _ ?_
        refine W_region [0, 1, 2, 3, 8] fun R hR => ?_   -- r2
        simp only [go_sem, ldS_at hd, stX_at hd, ldS_sv hlt, stX_sv hlt, sv_ext hlt, sv_ext_sv hlt, hqw, hq1, hq0, iaM_nat (Int.ofNat_lt.1 hq1), iaM_nat (Int.ofNat_lt.1 hq0), Nat.zero_add, l1, l2, s1, s2, s3, s4]
        try simp (disch := omega) only [wrapI, wrapU]
        refine hR _ _ ?_; clear hR R
        try simp only [go_sem, ldS_at hd, stX_at hd, ldS_sv hlt, stX_sv hlt, sv_ext hlt, sv_ext_sv hlt, hqw, hq1, hq0, iaM_nat (Int.ofNat_lt.1 hq1), iaM_nat (Int.ofNat_lt.1 hq0), Nat.zero_add, l1, l2, s1, s2, s3, s4]
        refine ⟨(i + 1, m2), ?_, by (try simp only []); omega, ?_⟩
        · first | exact Weak.refl | exact Weak.eq (by first | rfl | (simp only [go_sem]; done) | (simp only [go_sem]; rfl) | (simp [go_sem]; done) | (simp [go_sem]; omega)) (by first | rfl | (simp only [go_sem]; done) | (simp [go_sem]; done))
        · try dsimp only
          refine ⟨by omega, by omega, hm2l, hm2, ?_⟩
          rw [hinv, hsk]
          first
          | rw [hsk2, if_neg (by simpa using c2)]
          | (have hj0 : j = 0 := by first | omega | (simp at g1; omega)
             subst hj0; rfl)
    · try simp only [Bool.not_eq_true', Bool.not_eq_false'] at g1
      have n1 := g1; try simp only [nrm] at n1
      simp only [go_sem, ldS_at hd, stX_at hd, ldS_sv hlt, stX_sv hlt, sv_ext hlt, sv_ext_sv hlt, g1]
      try simp (disch := omega) only [wrapI, wrapU]
      try refine And.intro (by repeat' (first | refine And.intro ?_ ?_ | exact GOr_right (fun _ => by simp only [go_sem, ldS_at hd, stX_at hd, ldS_sv hlt, stX_sv hlt, sv_ext hlt, sv_ext_sv hlt]))) ?_
      refine hR _ _ (kq7 _ _ ?_); clear hR R; try clear kq7 kz7
      try simp only [go_sem, ldS_at hd, stX_at hd, ldS_sv hlt, stX_sv hlt, sv_ext hlt, sv_ext_sv hlt]
      refine W_cond_false rfl ?_
      refine W_exit ?_
      simp only [go_sem, ldS_at hd, stX_at hd, ldS_sv hlt, stX_sv hlt, sv_ext hlt, sv_ext_sv hlt]
      refine kq4 _ _ ?_
      refine W_region [0, 1, 2, 3, 8] fun R hR => ?_   -- r2
      simp only [go_sem, ldS_at hd, stX_at hd, ldS_sv hlt, stX_sv hlt, sv_ext hlt, sv_ext_sv hlt]
      try simp (disch := omega) only [wrapI, wrapU]
      refine hR _ _ ?_; clear hR R
      try simp only [go_sem, ldS_at hd, stX_at hd, ldS_sv hlt, stX_sv hlt, sv_ext hlt, sv_ext_sv hlt]
      refine ⟨(i + 1, m2), ?_, by (try simp only []); omega, ?_⟩
      · first | exact Weak.refl | exact Weak.eq (by first | rfl | (simp only [go_sem]; done) | (simp only [go_sem]; rfl) | (simp [go_sem]; done) | (simp [go_sem]; omega)) (by first | rfl | (simp only [go_sem]; done) | (simp [go_sem]; done))
      · try dsimp only
        refine ⟨by omega, by omega, hm2l, hm2, ?_⟩
        rw [hinv, hsk]
        first
        | rw [hsk2, if_neg (by simpa using c2)]
        | (have hj0 : j = 0 := by first | omega | (simp at g1; omega)
           subst hj0; rfl)
  · -- c1 false
    try simp only [nrm] at c1
    have hie : n = i := by first | omega | (simp at c1; omega)
    subst hie
    rw [Nat.sub_self] at hinv
    simp only [sinkAll] at hinv
    subst hinv
    refine W_exit ?_
    simp only [go_sem, ldS_at hd, stX_at hd, ldS_sv hlt, stX_sv hlt, sv_ext hlt, sv_ext_sv hlt]
    try simp only [go_sem, ldS_at hd, stX_at hd, ldS_sv hlt, stX_sv hlt, sv_ext hlt, sv_ext_sv hlt]
    refine ⟨.inl (by trivial), ?_⟩
    first | refine Fin_set hcl (by simp only [go_sem]) rfl (Wk_eq ?_ (by simp only [go_sem])) | refine Fin_set0 hcl (by simp only [go_sem]) rfl (Wk_eq ?_ (by simp only [go_sem]))
    try simp only [go_sem]
    all_goals
      skip
set_option maxHeartbeats 2000000 in
theorem pdqSort_pc (Y : YEnv) (σ : Sg) (id : Nat) (ord : List Int) (l : List Stand) (hd : σ.store[id]? = some (some (rowC (l.map sdPV)))) (hC : ∀ a b, a ∈ l → b ∈ l → CmpOk ord a b) (hol : ord.length < 2 ^ 40) (hl : 0 < l.length ∧ l.length ≤ 12) (lim : Int) :
    PC Try.prog Y 67 [.gsl id l.length 3, I 0, I l.length, I lim, .func (.func 42) [.agg [ints ord]] []] σ (.tuple []) (σ.setVar id (rowC ((sortSd ord l).map sdPV))) := by
  refine PC_of_W Try.func67 rfl (by kernel_rfl) Try.ntmps67 (by simp) fun hcl hca => ?_
  have hlt := lt_of_get hd
  have hl2 : (l.length : Int) ≤ 12 := by omega
  refine W_seq fun kz1 kq1 => ?_
  refine W_region [0, 1, 2, 3, 4, 10] fun R hR => ?_   -- r0
  simp only [go_sem, ldS_at hd, stX_at hd, ldS_sv hlt, stX_sv hlt, sv_ext hlt, sv_ext_sv hlt]
  refine hR _ _ (kq1 _ _ ?_); clear hR R; try clear kq1 kz1
  try simp only [go_sem, ldS_at hd, stX_at hd, ldS_sv hlt, stX_sv hlt, sv_ext hlt, sv_ext_sv hlt]
  refine W_seq fun kz2 kq2 => ?_
  refine W_region [0, 1, 2, 3, 4, 10, 11] fun R hR => ?_   -- r1
  simp only [go_sem, ldS_at hd, stX_at hd, ldS_sv hlt, stX_sv hlt, sv_ext hlt, sv_ext_sv hlt]
  refine hR _ _ (kq2 _ _ ?_); clear hR R; try clear kq2 kz2
  try simp only [go_sem, ldS_at hd, stX_at hd, ldS_sv hlt, stX_sv hlt, sv_ext hlt, sv_ext_sv hlt]
  refine W_block ?_
  refine W_loopS (α := Nat) (fun (z : Nat) => []) (fun (z : Nat) => True) (fun (z : Nat) => 0) (0) rfl (trivial) ?_
  rintro z _
  refine W_block ?_
  refine W_seq fun kz3 kq3 => ?_
  refine W_region [0, 1, 2, 3, 4, 10, 11, 12] fun R hR => ?_   -- r2
  simp only [go_sem, ldS_at hd, stX_at hd, ldS_sv hlt, stX_sv hlt, sv_ext hlt, sv_ext_sv hlt]
  try simp (disch := omega) only [wrapI, wrapU]
  refine hR _ _ (kq3 _ _ ?_); clear hR R; try clear kq3 kz3
  try simp only [go_sem, ldS_at hd, stX_at hd, ldS_sv hlt, stX_sv hlt, sv_ext hlt, sv_ext_sv hlt]
  refine W_seq fun kz4 kq4 => ?_
  refine W_seq fun kz5 kq5 => ?_
  refine W_region [0, 1, 2, 3, 4, 10, 11, 12, 25] fun R hR => ?_   -- r3
  simp only [go_sem, ldS_at hd, stX_at hd, ldS_sv hlt, stX_sv hlt, sv_ext hlt, sv_ext_sv hlt]
  refine hR _ _ (kq5 _ _ ?_); clear hR R; try clear kq5 kz5
  try simp only [go_sem, ldS_at hd, stX_at hd, ldS_sv hlt, stX_sv hlt, sv_ext hlt, sv_ext_sv hlt]
  refine W_cond rfl (fun c1 => ?_) (fun c1 => ?_)
  · -- c1 true
    try simp only [nrm] at c1
    refine W_seq fun kz6 kq6 => ?_
    refine W_region [] fun R hR => ?_   -- r4
    simp only [go_sem, ldS_at hd, stX_at hd, ldS_sv hlt, stX_sv hlt, sv_ext hlt, sv_ext_sv hlt]
    refine GCall_of (insSort_pc Y _ id ord l hd hC hol hl) ?_   -- t30
    simp only [go_sem, ldS_at hd, stX_at hd, ldS_sv hlt, stX_sv hlt, sv_ext hlt, sv_ext_sv hlt]
    refine hR _ _ (kq6 _ _ ?_); clear hR R; try clear kq6 kz6
    try simp only [go_sem, ldS_at hd, stX_at hd, ldS_sv hlt, stX_sv hlt, sv_ext hlt, sv_ext_sv hlt]
    refine W_ret ?_
    simp only [go_sem, ldS_at hd, stX_at hd, ldS_sv hlt, stX_sv hlt, sv_ext hlt, sv_ext_sv hlt]
    refine ⟨.inr (by trivial), ?_⟩
    first | refine Fin_set hcl (by simp only [go_sem]) rfl (Wk_eq ?_ (by simp only [go_sem])) | refine Fin_set0 hcl (by simp only [go_sem]) rfl (Wk_eq ?_ (by simp only [go_sem]))
    try simp only [go_sem]
    all_goals
      skip
  · -- c1 false
    try simp only [nrm] at c1
    exfalso
    first | omega | (simp at c1; omega)
set_option maxHeartbeats 2000000 in
theorem sortFunc_pc (Y : YEnv) (σ : Sg) (id : Nat) (ord : List Int) (l : List Stand) (hd : σ.store[id]? = some (some (rowC (l.map sdPV)))) (hC : ∀ a b, a ∈ l → b ∈ l → CmpOk ord a b) (hol : ord.length < 2 ^ 40) (hl : 0 < l.length ∧ l.length ≤ 12) :
    PC Try.prog Y 44 [.gsl id l.length 3, .func (.func 42) [.agg [ints ord]] []] σ (.tuple []) (σ.setVar id (rowC ((sortSd ord l).map sdPV))) := by
  refine PC_of_W Try.func44 rfl (by kernel_rfl) Try.ntmps44 (by simp) fun hcl hca => ?_
  have hlt := lt_of_get hd
  refine W_seq fun kz1 kq1 => ?_
  refine W_region [0, 1, 4] fun R hR => ?_   -- r0
  simp only [go_sem, ldS_at hd, stX_at hd, ldS_sv hlt, stX_sv hlt, sv_ext hlt, sv_ext_sv hlt]
  refine hR _ _ (kq1 _ _ ?_); clear hR R; try clear kq1 kz1
  try simp only [go_sem, ldS_at hd, stX_at hd, ldS_sv hlt, stX_sv hlt, sv_ext hlt, sv_ext_sv hlt]
  refine W_region [] fun R hR => ?_   -- r1
  simp only [go_sem, ldS_at hd, stX_at hd, ldS_sv hlt, stX_sv hlt, sv_ext hlt, sv_ext_sv hlt]
  try simp (disch := omega) only [wrapI, wrapU]
  refine GCall_of (bitsLen_pc Y _ l.length (by omega) (by omega)) ?_   -- t11
  simp only [go_sem, ldS_at hd, stX_at hd, ldS_sv hlt, stX_sv hlt, sv_ext hlt, sv_ext_sv hlt]
  try simp (disch := omega) only [wrapI, wrapU]
  refine GCall_of (pdqSort_pc Y _ id ord l hd hC hol hl _) ?_   -- t13
  simp only [go_sem, ldS_at hd, stX_at hd, ldS_sv hlt, stX_sv hlt, sv_ext hlt, sv_ext_sv hlt]
  try simp (disch := omega) only [wrapI, wrapU]
  refine hR _ _ ?_; clear hR R
  try simp only [go_sem, ldS_at hd, stX_at hd, ldS_sv hlt, stX_sv hlt, sv_ext hlt, sv_ext_sv hlt]
  try simp only [go_sem, ldS_at hd, stX_at hd, ldS_sv hlt, stX_sv hlt, sv_ext hlt, sv_ext_sv hlt]
  refine ⟨.inl (by trivial), ?_⟩
  first | refine Fin_set hcl (by simp only [go_sem]) rfl (Wk_eq ?_ (by simp only [go_sem])) | refine Fin_set0 hcl (by simp only [go_sem]) rfl (Wk_eq ?_ (by simp only [go_sem]))
  try simp only [go_sem]
  all_goals
    skip
end Go.Proofs.Ytgelnjmddabgpaa
namespace Go.Proofs.Ytgelnjmddabgpaa
open Go Go.RowKit
set_option maxRecDepth 100000
/-- Standings that grow in place: nothing yet, or the last of a row of variables (those before it are gone). -/
def glS (n : Nat) (out : List Stand) : PV := match out with
  | [] => .gnil
  | _ :: t => .gsl (n + t.length) (t.length + 1) 3
def gsS (out : List Stand) : List (Option (List PV)) := match out with
  | [] => []
  | _ :: t => List.replicate t.length none ++ [some (rowC (out.map sdPV))]
theorem appendAny_gs {P : Program} {σ : Sg} {t t' : TypeId} {n : Nat} {out : List Stand} {y : PV} : appendAny P σ t t' (glS n out) y = appendG P σ t t' (glS n out) y := by cases out <;> rfl
attribute [go_sem] appendAny_gs
section
variable {σ : Sg} {A : List (Option (List PV))} {rm : List Nat} {ys : List LState} {out : List Stand}
theorem gsS_get {x : Stand} : (A ++ gsS (x :: out))[A.length + out.length]? = some (some (rowC ((x :: out).map sdPV))) := by
  have : A.length + out.length = (A ++ List.replicate out.length (none : Option (List PV))).length := by simp
  rw [this, gsS, ← List.append_assoc]
  exact get_mid
theorem gsS_set {x : Stand} {y : Option (List PV)} : (A ++ gsS (x :: out)).set (A.length + out.length) y = A ++ (List.replicate out.length none ++ [y]) := by
  have : A.length + out.length = (A ++ List.replicate out.length (none : Option (List PV))).length := by simp
  rw [this, gsS, ← List.append_assoc, ← List.append_assoc]
  exact set_mid
theorem appG_gs (b : Nat) (x : Stand) (h : (out.length + 1) * b ≤ 2 ^ 47) : appG 3 b (σ.ext (A ++ gsS out) rm ys) (glS (σ.store.length + A.length) out) [.agg [I x.school, I x.total, ints x.points]] = some (glS (σ.store.length + A.length) (out ++ [x]), σ.ext (A ++ gsS (out ++ [x])) rm ys) := by
  cases out with
  | nil =>
    rw [glS, appG_nil (by rfl) (by simp) (by simpa using h)]
    simp [gsS, glS, rowC, Sg.push_ext, Sg.len_ext, sdPV, sdCells]
  | cons y out =>
    simp only [glS]
    rw [appG_more (cs := rowC ((y :: out).map sdPV)) (by rw [Nat.add_assoc, Sg.get_ext]; exact gsS_get) (by rw [row3_len]; simp) (by rfl) (by simp) (by simpa using h)]
    rw [Nat.add_assoc (Sg.store σ).length, Sg.drop_ext, gsS_set]
    simp only [Sg.push_ext, Sg.len_ext]
    have e : List.replicate (out ++ [x]).length (none : Option (List PV)) = List.replicate out.length none ++ [none] := by simp [List.replicate_succ']
    simp only [List.cons_append, gsS, e, glS]
    have e2 : rowC ((y :: (out ++ [x])).map sdPV) = rowC ((y :: out).map sdPV) ++ rowC [.agg [I x.school, I x.total, ints x.points]] := by
      simp [rowC, sdPV, sdCells]
    rw [e2]
    simp [Nat.add_assoc]
end
theorem sink_len (ord : List Int) : ∀ (j : Nat) (l : List Stand), (sink ord j l).length = l.length := by
  intro j
  induction j with
  | zero => intro l; rfl
  | succ j ih =>
    intro l
    simp only [sink]
    split
    · split
      · rw [ih]; simp
      · rfl
    · rfl
theorem sinkAll_len (ord : List Int) : ∀ (k i : Nat) (l : List Stand), (sinkAll ord k i l).length = l.length := by
  intro k
  induction k with
  | zero => intro i l; rfl
  | succ k ih => intro i l; simp only [sinkAll, ih, sink_len]
theorem sortSd_len (ord : List Int) (l : List Stand) : (sortSd ord l).length = l.length := sinkAll_len _ _ _ _
theorem sort_gs (Y : YEnv) (σ : Sg) (A : List (Option (List PV))) (rm : List Nat) (ord : List Int) (out : List Stand) (hC : ∀ a b, a ∈ out → b ∈ out → CmpOk ord a b) (hol : ord.length < 2 ^ 40) (hl : 0 < out.length ∧ out.length ≤ 12) :
    PC Try.prog Y 44 [glS (σ.store.length + A.length) out, .func (.func 42) [.agg [ints ord]] []] (σ.ext (A ++ gsS out) rm) (.tuple []) (σ.ext (A ++ gsS (sortSd ord out)) rm) := by
  cases out with
  | nil => simp at hl
  | cons x out =>
    have h1 := sortFunc_pc Y (σ.ext (A ++ gsS (x :: out)) rm) (σ.store.length + A.length + out.length) ord (x :: out) (by rw [Nat.add_assoc, Sg.get_ext]; exact gsS_get) hC hol hl
    rw [Nat.add_assoc, Sg.set_ext, gsS_set] at h1
    have e : A ++ (List.replicate out.length none ++ [some (rowC ((sortSd ord (x :: out)).map sdPV))]) = A ++ gsS (sortSd ord (x :: out)) := by
      have hs := sortSd_len ord (x :: out)
      cases hc : sortSd ord (x :: out) with
      | nil => rw [hc] at hs; simp at hs
      | cons y s =>
        rw [hc] at hs
        simp only [List.length_cons] at hs
        simp only [gsS]
        rw [show out.length = s.length by omega]
    rw [e] at h1
    simp only [glS]
    rw [Nat.add_assoc]
    exact h1
theorem glS_sort (n : Nat) (ord : List Int) (out : List Stand) : glS n (sortSd ord out) = glS n out := by
  have hl := sortSd_len ord out
  cases h : sortSd ord out with
  | nil =>
    rw [h] at hl
    cases out with
    | nil => rfl
    | cons x out => simp at hl
  | cons y s =>
    rw [h] at hl
    cases out with
    | nil => simp at hl
    | cons x out => simp only [List.length_cons] at hl; simp only [glS]; rw [show s.length = out.length by omega]
def sdUp (s : Scale) (k : Kn) (g : Night) (i : Nat) : List Stand := (List.range i).map fun (j : Nat) => standK s k g j 0
theorem sdUp_succ (s : Scale) (k : Kn) (g : Night) (i : Nat) : sdUp s k g (i + 1) = sdUp s k g i ++ [standK s k g i 0] := by simp [sdUp, List.range_succ]
/-- The table as the program makes it. -/
def tblP (s : Scale) (k : Kn) (g : Night) : List Stand := sortSd s.order (sdUp s k g s.schools.toNat)
def tableP (s : Scale) (g : Night) : List Stand × Int :=
  if knownE s g ≠ 0 then ([], knownE s g) else if sealedK s (knownK s g) ≠ [] then ([], 11) else (tblP s (knownK s g) g, 0)
set_option maxHeartbeats 2000000 in
theorem plcE_pc (Y : YEnv) (σ : Sg) (s : Scale) (g : Night) (hs : s.Ok) (hg : g.Ok) (sc : Int) (hE : knownE s g ≠ 0) :
    PC Try.prog Y 16 [scPV s, ngPV g, I sc] σ (.tuple [.agg [I 0, I 0], I (knownE s g)]) (σ) := by
  refine PC_of_W Try.func16 rfl (by kernel_rfl) Try.ntmps16 (by simp) fun hcl hca => ?_
  refine W_seq fun kz1 kq1 => ?_
  refine W_region [3, 4, 5, 6] fun R hR => ?_   -- r0
  simp only [go_sem]
  refine hR _ _ (kq1 _ _ ?_); clear hR R; try clear kq1 kz1
  try simp only [go_sem]
  refine W_seq fun kz2 kq2 => ?_
  refine W_region [3, 4, 5, 6, 8, 9] fun R hR => ?_   -- r1
  simp only [go_sem]
  refine GCall_of (knownOf_err Y _ s g hs hg hE) ?_   -- t14
  simp only [go_sem]
  refine hR _ _ (kq2 _ _ ?_); clear hR R; try clear kq2 kz2
  try simp only [go_sem]
  refine W_seq fun kz3 kq3 => ?_
  refine W_seq fun kz4 kq4 => ?_
  refine W_region [3, 4, 5, 6, 8, 9, 18] fun R hR => ?_   -- r2
  simp only [go_sem]
  refine hR _ _ (kq4 _ _ ?_); clear hR R; try clear kq4 kz4
  try simp only [go_sem]
  refine W_cond rfl (fun c1 => ?_) (fun c1 => ?_)
  · -- c1 true
    try simp only [nrm] at c1
    refine W_seq fun kz5 kq5 => ?_
    refine W_region [6, 7] fun R hR => ?_   -- r3
    simp only [go_sem]
    refine hR _ _ (kq5 _ _ ?_); clear hR R; try clear kq5 kz5
    try simp only [go_sem]
    refine W_ret ?_
    simp only [go_sem]
    refine ⟨.inr (by trivial), ?_⟩
    first | refine Fin_same hcl (by show resPV Try.prog _ _ [.cell 6 48, .tmp 7] = some _; simp only [resPV, go_sem]; rfl) (Wk_eq ?_ (by simp only [go_sem])) | refine Fin_same hcl rfl (Wk_eq ?_ (by simp only [go_sem]))
    try simp only [go_sem]
    all_goals
      first | rfl | (simp_all; done) | (simp_all; omega)
  · -- c1 false
    try simp only [nrm] at c1
    exfalso
    first | exact hE (by omega) | (simp at c1; exact hE (by omega))
set_option maxHeartbeats 2000000 in
theorem plcO_pc (Y : YEnv) (σ : Sg) (s : Scale) (g : Night) (hs : s.Ok) (hg : g.Ok) (sc : Int) (hE : knownE s g = 0) :
    PC Try.prog Y 16 [scPV s, ngPV g, I sc] σ (.tuple [.agg [I (placeA s g sc).1.1, I (placeA s g sc).1.2], I (placeA s g sc).2]) (σ) := by
  refine PC_of_W Try.func16 rfl (by kernel_rfl) Try.ntmps16 (by simp) fun hcl hca => ?_
  have hV := known_V hE
  obtain ⟨K, hK⟩ : ∃ z, knownK s g = z := ⟨_, rfl⟩
  rw [hK] at hV
  have hv := hV.v
  have q3 := hv.sc
  have q4 := hv.lo
  have q5 := hv.hi
  obtain ⟨N, hN⟩ : ∃ z : Nat, s.schools = z := ⟨s.schools.toNat, by omega⟩
  have hNi : (s.schools : Int) = (N : Int) := hN
  have hkn := fun Y σ => knownOf_ok Y σ s g hs hg hE
  rw [hK] at hkn
  refine W_seq fun kz1 kq1 => ?_
  refine W_region [3, 4, 5, 6] fun R hR => ?_   -- r0
  simp only [go_sem]
  refine hR _ _ (kq1 _ _ ?_); clear hR R; try clear kq1 kz1
  try simp only [go_sem]
  refine W_seq fun kz2 kq2 => ?_
  refine W_region [3, 4, 5, 6, 8, 9] fun R hR => ?_   -- r1
  simp only [go_sem]
  refine GCall_of (hkn Y _) ?_   -- t14
  simp only [go_sem]
  refine hR _ _ (kq2 _ _ ?_); clear hR R; try clear kq2 kz2
  try simp only [go_sem]
  refine W_seq fun kz3 kq3 => ?_
  refine W_seq fun kz4 kq4 => ?_
  refine W_region [3, 4, 5, 6, 8, 9, 18] fun R hR => ?_   -- r2
  simp only [go_sem]
  refine hR _ _ (kq4 _ _ ?_); clear hR R; try clear kq4 kz4
  try simp only [go_sem]
  refine W_cond_false rfl ?_
  refine W_skip (kq3 _ _ ?_)
  refine W_seq fun kz5 kq5 => ?_
  refine W_seq fun kz6 kq6 => ?_
  refine W_region [3, 4, 5, 6, 8, 26] fun R hR => ?_   -- r4
  simp only [go_sem]
  try simp (disch := omega) only [wrapI, wrapU]
  refine GCall_of (in_pc Y _ sc 0 _) ?_   -- t25
  simp only [go_sem]
  try simp (disch := omega) only [wrapI, wrapU]
  refine hR _ _ (kq6 _ _ ?_); clear hR R; try clear kq6 kz6
  try simp only [go_sem]
  refine W_cond rfl (fun c1 => ?_) (fun c1 => ?_)
  · -- c1 true
    try simp only [nrm] at c1
    refine W_seq fun kz7 kq7 => ?_
    refine W_region [6, 7] fun R hR => ?_   -- r5
    simp only [go_sem]
    refine hR _ _ (kq7 _ _ ?_); clear hR R; try clear kq7 kz7
    try simp only [go_sem]
    refine W_ret ?_
    simp only [go_sem]
    refine ⟨.inr (by trivial), ?_⟩
    first | refine Fin_same hcl (by show resPV Try.prog _ _ [.cell 6 48, .tmp 7] = some _; simp only [resPV, go_sem]; rfl) (Wk_eq ?_ (by simp only [go_sem])) | refine Fin_same hcl rfl (Wk_eq ?_ (by simp only [go_sem]))
    try simp only [go_sem]
    all_goals
      clear hNi hN; simp [placeA, hE, hK, *]
  · -- c1 false
    try simp only [nrm] at c1
    have hin : inR sc 0 (s.schools - 1) = true := c1
    have hin2 := hin
    simp only [inR_true] at hin2
    obtain ⟨n, rfl⟩ : ∃ n : Nat, sc = n := ⟨sc.toNat, by omega⟩
    refine W_skip (kq5 _ _ ?_)
    refine W_seq fun kz8 kq8 => ?_
    refine W_region [3, 6, 10] fun R hR => ?_   -- r6
    simp only [go_sem]
    refine hR _ _ (kq8 _ _ ?_); clear hR R; try clear kq8 kz8
    try simp only [go_sem]
    refine W_seq fun kz9 kq9 => ?_
    refine W_draw [6, 7] [0, 1, 2, 3, 4, 5, 6, 7, 8, 9, 10, 11, 12, 13, 14] [(6, 5), (7, 5), (8, 5), (9, 5), (10, 5)] [[], [], [1], [], [3], [0, 1, 2, 3, 4], [], [], [7], [], [9], [0, 1, 2, 3, 4, 5, 6, 7, 8, 9, 10], [0, 1, 2, 3, 4, 5, 6, 7, 8, 9, 10, 11], [0, 1, 2, 3, 4, 5, 6, 7, 8, 9, 10, 11, 12], [0, 1, 2, 3, 4, 5, 6, 7, 8, 9, 10, 11, 12, 13]] mixed (by kernel_rfl) fun R hR => ?_   -- r7
    simp only [go_sem]
    refine GCall_of (place1_pc Y _ (σ.store.length + 7) (σ.store.length + 6) (σ.store.length) (σ.store.length + 1) (σ.store.length + 2) s K g hV n (by omega) s.high s.low (by omega) (by omega) (Sg.get_ext ..) (Sg.get_ext ..) (Sg.get_ext0 ..) (Sg.get_ext ..) (Sg.get_ext ..)) ?_   -- t34
    simp only [go_sem]
    refine GCall_of (place1_pc Y _ (σ.store.length + 7) (σ.store.length + 6) (σ.store.length) (σ.store.length + 1) (σ.store.length + 2) s K g hV n (by omega) s.low s.high (by omega) (by omega) (Sg.get_ext ..) (Sg.get_ext ..) (Sg.get_ext0 ..) (Sg.get_ext ..) (Sg.get_ext ..)) ?_   -- t40
    simp only [go_sem]
    try refine And.intro (by repeat' (first | refine And.intro ?_ ?_ | exact GOr_right (fun _ => by simp only [go_sem]))) ?_
    refine hR _ _ (kq9 _ _ ?_); clear hR R; try clear kq9 kz9
    try simp only [go_sem]
    refine W_ret ?_
    simp only [go_sem]
    refine ⟨.inr (by trivial), ?_⟩
    first | refine Fin_same hcl (by show resPV Try.prog _ _ [.cell 6 48, .tmp 7] = some _; simp only [resPV, go_sem]; rfl) (Wk_eq ?_ (by simp only [go_sem])) | refine Fin_same hcl rfl (Wk_eq ?_ (by simp only [go_sem]))
    try simp only [go_sem]
    all_goals
      clear hNi hN; simp [placeA, hE, hK, *]
theorem Place_pc (Y : YEnv) (σ : Sg) (s : Scale) (g : Night) (hs : s.Ok) (hg : g.Ok) (sc : Int) : PC Try.prog Y 16 [scPV s, ngPV g, I sc] σ (.tuple [.agg [I (placeA s g sc).1.1, I (placeA s g sc).1.2], I (placeA s g sc).2]) σ := by
  by_cases h : knownE s g = 0
  · exact plcO_pc Y σ s g hs hg sc h
  · have e : placeA s g sc = ((0, 0), knownE s g) := by unfold placeA; rw [if_pos h]
    rw [e]; exact plcE_pc Y σ s g hs hg sc h
set_option maxHeartbeats 2000000 in
theorem tabE_pc (Y : YEnv) (σ : Sg) (s : Scale) (g : Night) (hs : s.Ok) (hg : g.Ok) (hE : knownE s g ≠ 0) :
    PC Try.prog Y 17 [scPV s, ngPV g] σ (.tuple [sds [], I (knownE s g)]) (σ) := by
  refine PC_of_W Try.func17 rfl (by kernel_rfl) Try.ntmps17 (by simp) fun hcl hca => ?_
  refine W_seq fun kz1 kq1 => ?_
  refine W_region [2, 3, 4, 5] fun R hR => ?_   -- r0
  simp only [go_sem]
  refine hR _ _ (kq1 _ _ ?_); clear hR R; try clear kq1 kz1
  try simp only [go_sem]
  refine W_seq fun kz2 kq2 => ?_
  refine W_region [2, 3, 4, 5, 6, 7] fun R hR => ?_   -- r1
  simp only [go_sem]
  refine GCall_of (knownOf_err Y _ s g hs hg hE) ?_   -- t14
  simp only [go_sem]
  refine hR _ _ (kq2 _ _ ?_); clear hR R; try clear kq2 kz2
  try simp only [go_sem]
  refine W_seq fun kz3 kq3 => ?_
  refine W_seq fun kz4 kq4 => ?_
  refine W_region [2, 3, 4, 5, 6, 7, 18] fun R hR => ?_   -- r2
  simp only [go_sem]
  refine hR _ _ (kq4 _ _ ?_); clear hR R; try clear kq4 kz4
  try simp only [go_sem]
  refine W_cond rfl (fun c1 => ?_) (fun c1 => ?_)
  · -- c1 true
    try simp only [nrm] at c1
    refine W_seq fun kz5 kq5 => ?_
    refine W_region [4, 5] fun R hR => ?_   -- r3
    simp only [go_sem]
    refine hR _ _ (kq5 _ _ ?_); clear hR R; try clear kq5 kz5
    try simp only [go_sem]
    refine W_ret ?_
    simp only [go_sem]
    refine ⟨.inr (by trivial), ?_⟩
    refine Fin_same hcl (by show resPV Try.prog _ _ [.cell 4 51, .cell 5 44] = some _; simp only [resPV, go_sem]; rfl) (Wk.ro (by simp only [go_sem]) ?_)
    try simp only [go_sem]
    all_goals
      first | rfl | (simp [PV.ro, PV.roL]; done)
  · -- c1 false
    try simp only [nrm] at c1
    exfalso
    first | exact hE (by omega) | (simp at c1; exact hE (by omega))
set_option maxHeartbeats 2000000 in
theorem tabS_pc (Y : YEnv) (σ : Sg) (s : Scale) (g : Night) (hs : s.Ok) (hg : g.Ok) (hE : knownE s g = 0) (hne0 : sealedK s (knownK s g) ≠ []) :
    PC Try.prog Y 17 [scPV s, ngPV g] σ (.tuple [sds [], I 11]) (σ) := by
  refine PC_of_W Try.func17 rfl (by kernel_rfl) Try.ntmps17 (by simp) fun hcl hca => ?_
  have hV := known_V hE
  obtain ⟨K, hK⟩ : ∃ z, knownK s g = z := ⟨_, rfl⟩
  rw [hK] at hV
  have hv := hV.v
  have q3 := hv.sc
  have q4 := hv.lo
  have q5 := hv.hi
  obtain ⟨N, hN⟩ : ∃ z : Nat, s.schools = z := ⟨s.schools.toNat, by omega⟩
  have hNi : (s.schools : Int) = (N : Int) := hN
  have hkn := fun Y σ => knownOf_ok Y σ s g hs hg hE
  rw [hK] at hkn
  have hne : sealedK s K ≠ [] := by rw [← hK]; exact hne0
  refine W_seq fun kz1 kq1 => ?_
  refine W_region [2, 3, 4, 5] fun R hR => ?_   -- r0
  simp only [go_sem]
  refine hR _ _ (kq1 _ _ ?_); clear hR R; try clear kq1 kz1
  try simp only [go_sem]
  refine W_seq fun kz2 kq2 => ?_
  refine W_region [2, 3, 4, 5, 6, 7] fun R hR => ?_   -- r1
  simp only [go_sem]
  refine GCall_of (hkn Y _) ?_   -- t14
  simp only [go_sem]
  refine hR _ _ (kq2 _ _ ?_); clear hR R; try clear kq2 kz2
  try simp only [go_sem]
  refine W_seq fun kz3 kq3 => ?_
  refine W_seq fun kz4 kq4 => ?_
  refine W_region [2, 3, 4, 5, 6, 7, 18] fun R hR => ?_   -- r2
  simp only [go_sem]
  refine hR _ _ (kq4 _ _ ?_); clear hR R; try clear kq4 kz4
  try simp only [go_sem]
  refine W_cond_false rfl ?_
  refine W_skip (kq3 _ _ ?_)
  refine W_seq fun kz5 kq5 => ?_
  refine W_seq fun kz6 kq6 => ?_
  refine W_region [2, 3, 4, 5, 6, 22] fun R hR => ?_   -- r4
  simp only [go_sem]
  refine GCall_of (sealed_pc Y _ (σ.store.length + 6) (by simp only [go_sem] <;> omega) s) ?_   -- t22
  simp only [go_sem]
  refine hR _ _ (kq6 _ _ ?_); clear hR R; try clear kq6 kz6
  try simp only [go_sem]
  refine W_block ?_
  have hLc : ∀ (z : Int) (n r yy : Nat), σ.store.length + 9 ≤ n → CleanLs n r yy [some (scCells s), some (ngCells g), some [.isl [] .exact], some [I z], some (scCells s), some (ngCells g), some (.mark :: knE K), some [.map (σ.store.length + 6)], some (scCells s)] := fun z n r yy h => by
    have c1 := cleans_ng (a := n) (b := r) (c := yy) g
    have c2 := cleans_sc (a := n) (b := r) (c := yy) s
    have c3 : CleanAll n r yy (knE K) := cA_kn.mpr trivial
    have c1' : CleanAll n r yy (ngCells g) := c1
    have c2' : CleanAll n r yy (scCells s) := c2
    simp only [CleanLs_cons, CleanLs_nil, CleanAll_cons, CleanAll_nil, Cl_map, Cl_mark, Cl_isl, OwnLt_exact, Cl_int, c1', c2', c3, true_and, and_true]
    omega
  refine W_rangeFunc (gf := 66) (v := .tuple []) (s := .done .ret) (σ5 := σ.ext [some (scCells s), some (ngCells g), some [.isl [] .exact], some [I 11], some (scCells s), some (ngCells g), some (.mark :: knE K), some [.map (σ.store.length + 6)], some (scCells s)] [] [.done .ret]) rfl (by simp) (fun args ρ b' ρ' => ∃ m n : Nat, args = [.agg [I m, I n]] ∧ b' = false ∧ ρ = (σ.ext [some (scCells s), some (ngCells g), some [.isl [] .exact], some [I 0], some (scCells s), some (ngCells g), some (.mark :: knE K), some [.map (σ.store.length + 6)], some (scCells s)] [] [.ready]).ext [some [.yield σ.ys.length], some (scCells s), some [I m, I n]] [] [.busy] ∧ ρ' = (σ.ext [some (scCells s), some (ngCells g), some [.isl [] .exact], some [I 11], some (scCells s), some (ngCells g), some (.mark :: knE K), some [.map (σ.store.length + 6)], some (scCells s)] [] [.done .ret]).ext [some [.yield σ.ys.length], some (scCells s), some [I m, I n]] [] [.busy]) ?_ ?_ ?_ ?_ ?_
  · rintro args τ b τ' ⟨m, n, rfl, rfl, rfl, rfl⟩
    refine ⟨rfl, ?_, ?_⟩
    · simp only [go_sem]
    · simp only [go_sem]
      refine W_skip ?_
      simp only [go_sem, putAll]
      skip
      refine W_post_weak ?_
      refine W_block ?_
      refine W_seq fun kz7 kq7 => ?_
      refine W_region [4, 5] fun R hR => ?_   -- r5
      simp only [go_sem, putAll]
      refine hR _ _ (kq7 _ _ ?_); clear hR R; try clear kq7 kz7
      try simp only [go_sem, putAll]
      refine W_ret ?_
      simp only [go_sem, putAll]
      refine ⟨[], _, Weak.keep [], ?_⟩
      simp only [RoundEnd, go_sem]
  · have hst := sealedB_pc (Y.at σ.ys.length (fun args ρ b' ρ' => ∃ m n : Nat, args = [.agg [I m, I n]] ∧ b' = false ∧ ρ = (σ.ext [some (scCells s), some (ngCells g), some [.isl [] .exact], some [I 0], some (scCells s), some (ngCells g), some (.mark :: knE K), some [.map (σ.store.length + 6)], some (scCells s)] [] [.ready]).ext [some [.yield σ.ys.length], some (scCells s), some [I m, I n]] [] [.busy] ∧ ρ' = (σ.ext [some (scCells s), some (ngCells g), some [.isl [] .exact], some [I 11], some (scCells s), some (ngCells g), some (.mark :: knE K), some [.map (σ.store.length + 6)], some (scCells s)] [] [.done .ret]).ext [some [.yield σ.ys.length], some (scCells s), some [I m, I n]] [] [.busy])) σ σ.ys.length (σ.store.length + 8) (σ.store.length + 7) (σ.store.length + 6) s hv K (σ.ext [some (scCells s), some (ngCells g), some [.isl [] .exact], some [I 0], some (scCells s), some (ngCells g), some (.mark :: knE K), some [.map (σ.store.length + 6)], some (scCells s)] [] [.ready]) (σ.ext [some (scCells s), some (ngCells g), some [.isl [] .exact], some [I 11], some (scCells s), some (ngCells g), some (.mark :: knE K), some [.map (σ.store.length + 6)], some (scCells s)] [] [.done .ret])
      (Sg.get_ext ..) (Sg.get_ext ..) (Sg.get_ext ..) (by simp only [go_sem]) (by simp only [go_sem]) (by simp only [go_sem]) (fun _ => CleanSg_ext hcl (hLc 11 _ _ _ (by simp only [go_sem] <;> omega))) hne
      (fun m n _ => by rw [YEnv.at_self]; exact ⟨m, n, rfl, rfl, rfl, rfl⟩)
    simp only [go_sem] at hst ⊢
    exact hst
  · simp only [go_sem]
  · simp only [go_sem]
    exact CleanCut_ext hcl (by first | omega | (simp only [go_sem] <;> omega)) (by first | omega | (simp only [go_sem] <;> omega)) (Nat.le_refl _) (hLc 11 _ _ _ (by first | omega | (simp only [go_sem] <;> omega)))
  · simp only [go_sem]
    simp only [AfterLoop]
    refine W_ret ?_
    simp only [go_sem]
    refine ⟨.inr (by trivial), ?_⟩
    refine Fin_same hcl (by show resPV Try.prog _ _ [.cell 4 51, .cell 5 44] = some _; simp only [resPV, go_sem]; rfl) (Wk.ro (by simp only [go_sem]) ?_)
    rfl
end Go.Proofs.Ytgelnjmddabgpaa
namespace Go.Proofs.Ytgelnjmddabgpaa
open Go Go.RowKit
set_option maxRecDepth 100000
theorem Weak.freezeS {N : Nat} {lo : Nat × Nat} {E : Env} {σ : Sg} {t : Nat} {A : List (Option (List PV))} {rm : List Nat} {ys : List LState} {out : List Stand} (ht : E.get t = glS (σ.store.length + A.length) out) (hne : out ≠ []) :
    Weak N lo E (σ.ext (A ++ gsS out) rm ys) (E.put (some t) (.isl (out.map sdPV) .ro)) (σ.ext (A ++ List.replicate out.length none) rm ys) := by
  cases out with
  | nil => exact absurd rfl hne
  | cons z zs =>
    have h := Weak.freeze (N := N) (lo := lo) (E := E) (σ := σ.ext (A ++ gsS (z :: zs)) rm ys) (t := t) (id := σ.store.length + (A.length + zs.length)) (len := zs.length + 1) (es := 3) (l := (z :: zs).map sdPV) (by rw [ht]; simp only [glS, Nat.add_assoc]) (by rw [Sg.get_ext]; exact gsS_get) (by simp) (fun q hq => by obtain ⟨x, _, rfl⟩ := List.mem_map.1 hq; rfl)
    rw [Sg.drop_ext, gsS_set] at h
    have e : List.replicate (z :: zs).length (none : Option (List PV)) = List.replicate zs.length none ++ [none] := by simp [List.replicate_succ']
    rw [e]
    exact h
set_option maxHeartbeats 4000000 in
theorem tabO_pc (Y : YEnv) (σ : Sg) (s : Scale) (g : Night) (hs : s.Ok) (hg : g.Ok) (hE : knownE s g = 0) (hne0 : sealedK s (knownK s g) = []) :
    PC Try.prog Y 17 [scPV s, ngPV g] σ (.tuple [sds (tblP s (knownK s g) g), I 0]) (σ) := by
  refine PC_of_W Try.func17 rfl (by kernel_rfl) Try.ntmps17 (by simp) fun hcl hca => ?_
  have hV := known_V hE
  obtain ⟨K, hK⟩ : ∃ z, knownK s g = z := ⟨_, rfl⟩
  rw [hK] at hV
  have hv := hV.v
  have q3 := hv.sc
  have q4 := hv.lo
  have q5 := hv.hi
  obtain ⟨N, hN⟩ : ∃ z : Nat, s.schools = z := ⟨s.schools.toNat, by omega⟩
  have hNi : (s.schools : Int) = (N : Int) := hN
  have hkn := fun Y σ => knownOf_ok Y σ s g hs hg hE
  rw [hK] at hkn
  have hne : sealedK s K = [] := by rw [← hK]; exact hne0
  have htb : tblP s (knownK s g) g = sortSd s.order (sdUp s K g N) := by rw [hK, tblP, hN, Int.toNat_natCast]
  rw [htb]
  have hol := hv.ol
  have q1 := hv.mt
  refine W_seq fun kz1 kq1 => ?_
  refine W_region [2, 3, 4, 5] fun R hR => ?_   -- r0
  simp only [go_sem]
  refine hR _ _ (kq1 _ _ ?_); clear hR R; try clear kq1 kz1
  try simp only [go_sem]
  refine W_seq fun kz2 kq2 => ?_
  refine W_region [2, 3, 4, 5, 6, 7] fun R hR => ?_   -- r1
  simp only [go_sem]
  refine GCall_of (hkn Y _) ?_   -- t14
  simp only [go_sem]
  refine hR _ _ (kq2 _ _ ?_); clear hR R; try clear kq2 kz2
  try simp only [go_sem]
  refine W_seq fun kz3 kq3 => ?_
  refine W_seq fun kz4 kq4 => ?_
  refine W_region [2, 3, 4, 5, 6, 7, 18] fun R hR => ?_   -- r2
  simp only [go_sem]
  refine hR _ _ (kq4 _ _ ?_); clear hR R; try clear kq4 kz4
  try simp only [go_sem]
  refine W_cond_false rfl ?_
  refine W_skip (kq3 _ _ ?_)
  refine W_seq fun kz5 kq5 => ?_
  refine W_seq fun kz6 kq6 => ?_
  refine W_region [2, 3, 4, 5, 6, 22] fun R hR => ?_   -- r4
  simp only [go_sem]
  refine GCall_of (sealed_pc Y _ (σ.store.length + 6) (by simp only [go_sem] <;> omega) s) ?_   -- t22
  simp only [go_sem]
  refine hR _ _ (kq6 _ _ ?_); clear hR R; try clear kq6 kz6
  try simp only [go_sem]
  refine W_block ?_
  have hLc : ∀ (z : Int) (n r yy : Nat), σ.store.length + 9 ≤ n → CleanLs n r yy [some (scCells s), some (ngCells g), some [.isl [] .exact], some [I z], some (scCells s), some (ngCells g), some (.mark :: knE K), some [.map (σ.store.length + 6)], some (scCells s)] := fun z n r yy h => by
    have c1 := cleans_ng (a := n) (b := r) (c := yy) g
    have c2 := cleans_sc (a := n) (b := r) (c := yy) s
    have c3 : CleanAll n r yy (knE K) := cA_kn.mpr trivial
    have c1' : CleanAll n r yy (ngCells g) := c1
    have c2' : CleanAll n r yy (scCells s) := c2
    simp only [CleanLs_cons, CleanLs_nil, CleanAll_cons, CleanAll_nil, Cl_map, Cl_mark, Cl_isl, OwnLt_exact, Cl_int, c1', c2', c3, true_and, and_true]
    omega
  refine W_rangeFunc (gf := 66) (v := .tuple []) (s := .ready) (σ5 := σ.ext [some (scCells s), some (ngCells g), some [.isl [] .exact], some [I 0], some (scCells s), some (ngCells g), some (.mark :: knE K), some [.map (σ.store.length + 6)], some (scCells s)] [] [.ready]) rfl (by simp) (fun _ _ _ _ => False) ?_ ?_ ?_ ?_ ?_
  · intro args τ b τ' h; exact h.elim
  · have hst := sealedA_pc (Y.at σ.ys.length (fun _ _ _ _ => False)) σ σ.ys.length (σ.store.length + 8) (σ.store.length + 7) (σ.store.length + 6) s hv K (fun _ => σ.ext [some (scCells s), some (ngCells g), some [.isl [] .exact], some [I 0], some (scCells s), some (ngCells g), some (.mark :: knE K), some [.map (σ.store.length + 6)], some (scCells s)] [] [.ready])
      (fun _ _ => Sg.get_ext ..) (fun _ _ => Sg.get_ext ..) (fun _ _ => Sg.get_ext ..) (fun _ _ => ⟨rfl, rfl, rfl⟩) (fun h _ _ => h)
      (fun c m n h => by rw [hne] at h; simp at h)
    simp only [go_sem] at hst ⊢
    exact hst
  · simp only [go_sem]
  · simp only [go_sem]
    exact CleanCut_ext hcl (by first | omega | (simp only [go_sem] <;> omega)) (by first | omega | (simp only [go_sem] <;> omega)) (Nat.le_refl _) (hLc 0 _ _ _ (by first | omega | (simp only [go_sem] <;> omega)))
  · simp only [AfterLoop, go_sem]
    refine kq5 _ _ ?_
    refine W_seq fun kz7 kq7 => ?_
    refine W_region [2, 3, 4, 5, 6, 8] fun R hR => ?_   -- r6
    simp only [go_sem]
    refine hR _ _ (kq7 _ _ ?_); clear hR R; try clear kq7 kz7
    try simp only [go_sem]
    refine W_seq fun kz8 kq8 => ?_
    refine W_seq fun kz9 kq9 => ?_
    refine W_region [2, 3, 4, 5, 6, 8, 25, 26] fun R hR => ?_   -- r7
    simp only [go_sem]
    refine hR _ _ (kq9 _ _ ?_); clear hR R; try clear kq9 kz9
    try simp only [go_sem]
    refine W_block ?_
    refine W_weak (Weak.gnil (t := 8) rfl) ?_
    refine W_weak (Weak.keep [2, 3, 4, 5, 6, 8, 25, 26]) ?_
    simp only [go_sem]
    refine W_loopT (α := Nat) (fun (i : Nat) => [(8, glS (σ.store.length + 9) (sdUp s K g i)), (26, I i)]) (fun (i : Nat) => σ.ext ([some (scCells s), some (ngCells g), some [.isl [] .exact], some [I 0], some (scCells s), some (ngCells g), some (.mark :: knE K), some [.map (σ.store.length + 6)], some (scCells s)] ++ gsS (sdUp s K g i)) []) (fun (i : Nat) => i ≤ N) (fun (i : Nat) => N - i) (0) rfl (by first | rfl | (simp only [go_sem]; done) | (simp only [go_sem]; rfl)) (Nat.zero_le _) ?_
    rintro i hi
    refine W_seq fun kz10 kq10 => ?_
    refine W_region [2, 3, 4, 5, 6, 8, 25, 26, 27] fun R hR => ?_   -- r8
    simp only [go_sem]
    refine hR _ _ (kq10 _ _ ?_); clear hR R; try clear kq10 kz10
    try simp only [go_sem]
    refine W_seq fun kz11 kq11 => ?_
    refine W_cond rfl (fun c1 => ?_) (fun c1 => ?_)
    · -- c1 true
      try simp only [nrm] at c1
      have hiN : i < N := by first | omega | (simp at c1; omega)
      have hsu := sdUp_succ s K g i
      have hsl : (sdUp s K g i).length = i := by simp [sdUp]
      have happ := appG_gs (σ := σ) (A := [some (scCells s), some (ngCells g), some [.isl [] .exact], some [I 0], some (scCells s), some (ngCells g), some (.mark :: knE K), some [.map (σ.store.length + 6)], some (scCells s)]) (rm := []) (ys := []) (out := sdUp s K g i) 40 (standK s K g i 0) (by omega)
      rw [← hsu] at happ
      simp only [go_sem, List.length_cons, List.length_nil] at happ
      refine W_skip (kq11 _ _ ?_)
      refine W_seq fun kz12 kq12 => ?_
      refine W_block ?_
      refine W_seq fun kz13 kq13 => ?_
      refine W_region [2, 3, 4, 5, 6, 8, 9, 25, 26] fun R hR => ?_   -- r9
      simp only [go_sem, happ]
      refine hR _ _ (kq13 _ _ ?_); clear hR R; try clear kq13 kz13
      try simp only [go_sem, happ]
      refine W_region [2, 3, 4, 5, 6, 8, 25, 26] fun R hR => ?_   -- r10
      simp only [go_sem, happ]
      refine GCall_of (standing_pc Y _ (σ.store.length + 6) K (Sg.get_ext ..) s g hV i (by omega) 0 (by omega)) ?_   -- t34
      simp only [go_sem, happ]
      try simp (disch := first | omega | (simp only [go_sem] <;> omega)) only [wrapI, wrapU, appX_exact, appX_tok]
      try simp only [go_sem, happ]
      refine hR _ _ (kq12 _ _ ?_); clear hR R; try clear kq12 kz12
      try simp only [go_sem, happ]
      refine W_region [2, 3, 4, 5, 6, 8, 25, 26] fun R hR => ?_   -- r11
      simp only [go_sem, happ]
      try simp (disch := omega) only [wrapI, wrapU]
      refine hR _ _ ?_; clear hR R
      try simp only [go_sem, happ]
      refine ⟨i + 1, ?_, by (try simp only []); omega, ?_⟩
      · exact Weak.refl
      · try dsimp only
        omega
    · -- c1 false
      try simp only [nrm] at c1
      have hie : N = i := by first | omega | (simp at c1; omega)
      subst hie
      have hsl : (sdUp s K g N).length = N := by simp [sdUp]
      have hCmp : ∀ a b, a ∈ sdUp s K g N → b ∈ sdUp s K g N → CmpOk s.order a b := fun a b ha hb => by
        obtain ⟨x, hx, rfl⟩ := List.mem_map.1 ha
        obtain ⟨y, hy, rfl⟩ := List.mem_map.1 hb
        have h1 := List.mem_range.1 hx
        have h2 := List.mem_range.1 hy
        exact cmp_ok hV (by omega) (by omega) (by omega) (by omega)
      refine W_exit ?_
      simp only [go_sem]
      refine kq8 _ _ ?_
      refine W_seq fun kz14 kq14 => ?_
      refine W_region [4, 5, 8, 10] fun R hR => ?_   -- r12
      simp only [go_sem]
      refine hR _ _ (kq14 _ _ ?_); clear hR R; try clear kq14 kz14
      try simp only [go_sem]
      refine W_seq fun kz15 kq15 => ?_
      refine W_region [4, 5, 8] fun R hR => ?_   -- r13
      simp only [go_sem]
      refine GCall_of (sort_gs Y σ [_, _, _, _, _, _, _, _, _] [] s.order (sdUp s K g N) hCmp (by omega) (by omega)) ?_   -- t44
      simp only [go_sem]
      refine hR _ _ (kq15 _ _ ?_); clear hR R; try clear kq15 kz15
      try simp only [go_sem]
      refine W_seq fun kz16 kq16 => ?_
      have hne3 : sortSd s.order (sdUp s K g N) ≠ [] := fun e => by
        have := sortSd_len s.order (sdUp s K g N)
        rw [e, hsl] at this
        simp at this; omega
      refine W_weak (Weak.freezeS (t := 8) (A := [_, _, _, _, _, _, _, _, _]) (out := sortSd s.order (sdUp s K g N)) (by rw [glS_sort]; rfl) hne3) ?_
      refine W_weak (Weak.keep [4, 5, 8]) ?_
      simp only [go_sem]
      refine W_region [4, 5] fun R hR => ?_   -- r14
      simp only [go_sem]
      refine hR _ _ (kq16 _ _ ?_); clear hR R; try clear kq16 kz16
      try simp only [go_sem]
      refine W_ret ?_
      simp only [go_sem]
      refine ⟨.inr (by trivial), ?_⟩
      refine Fin_same hcl (by show resPV Try.prog _ _ [.cell 4 51, .cell 5 44] = some _; simp only [resPV, go_sem]; rfl) (Wk.ro (by simp only [go_sem]) ?_)
      try simp only [go_sem]
      all_goals
        first | rfl | simp only [go_sem]
theorem Table_pc (Y : YEnv) (σ : Sg) (s : Scale) (g : Night) (hs : s.Ok) (hg : g.Ok) : PC Try.prog Y 17 [scPV s, ngPV g] σ (.tuple [sds (tableP s g).1, I (tableP s g).2]) σ := by
  unfold tableP
  by_cases h : knownE s g = 0
  · rw [if_neg (by simpa using h)]
    by_cases h2 : sealedK s (knownK s g) = []
    · rw [if_neg (by simpa using h2)]; exact tabO_pc Y σ s g hs hg h h2
    · rw [if_pos h2]; exact tabS_pc Y σ s g hs hg h h2
  · rw [if_pos h]; exact tabE_pc Y σ s g hs hg h
end Go.Proofs.Ytgelnjmddabgpaa
namespace Go.Proofs.Ytgelnjmddabgpaa
open Go Go.RowKit
set_option maxRecDepth 100000
def insI (x : Int) : List Int → List Int
  | [] => [x]
  | y :: l => if x ≤ y then x :: y :: l else y :: insI x l
def isortI : List Int → List Int
  | [] => []
  | x :: l => insI x (isortI l)
theorem sorted_sortI (l : List Int) : (sortI l).Pairwise (· ≤ ·) := by
  have h := List.pairwise_mergeSort (le := fun (a b : Int) => decide (a ≤ b)) (by intro a b c h1 h2; simp at *; omega) (by intro a b; simp; omega) l
  exact h.imp fun h => by simpa using h
theorem perm_sortI (l : List Int) : (sortI l).Perm l := List.mergeSort_perm l _
theorem insI_perm (x : Int) : ∀ l : List Int, (insI x l).Perm (x :: l) := by
  intro l
  induction l with
  | nil => exact .refl _
  | cons y l ih =>
    simp only [insI]
    split
    · exact .refl _
    · exact (ih.cons y).trans (.swap x y l)
theorem insI_sorted (x : Int) : ∀ {l : List Int}, l.Pairwise (· ≤ ·) → (insI x l).Pairwise (· ≤ ·) := by
  intro l
  induction l with
  | nil => intro _; simp [insI]
  | cons y l ih =>
    intro h
    obtain ⟨h1, h2⟩ := List.pairwise_cons.1 h
    simp only [insI]
    split
    · rename_i hxy
      exact List.pairwise_cons.2 ⟨fun z hz => by rcases List.mem_cons.1 hz with rfl | hz; exact hxy; exact Int.le_trans hxy (h1 z hz), h⟩
    · rename_i hxy
      refine List.pairwise_cons.2 ⟨fun z hz => ?_, ih h2⟩
      rcases List.mem_cons.1 ((insI_perm x l).mem_iff.1 hz) with rfl | hz
      · omega
      · exact h1 z hz
theorem isortI_perm : ∀ l : List Int, (isortI l).Perm l := by
  intro l
  induction l with
  | nil => exact .refl _
  | cons x l ih => exact (insI_perm x _).trans (ih.cons x)
theorem isortI_sorted : ∀ l : List Int, (isortI l).Pairwise (· ≤ ·) := by
  intro l
  induction l with
  | nil => exact .nil
  | cons x l ih => exact insI_sorted x ih
theorem sorted_unique : ∀ {l m : List Int}, l.Perm m → l.Pairwise (· ≤ ·) → m.Pairwise (· ≤ ·) → l = m := by
  intro l
  induction l with
  | nil => intro m h _ _; exact h.nil_eq
  | cons x l ih =>
    intro m h h1 h2
    obtain ⟨a1, a2⟩ := List.pairwise_cons.1 h1
    cases m with
    | nil => exact absurd h.length_eq (by simp)
    | cons y m =>
      obtain ⟨b1, b2⟩ := List.pairwise_cons.1 h2
      have e : x = y := by
        have hx : x ∈ y :: m := h.mem_iff.1 (by simp)
        have hy : y ∈ x :: l := h.mem_iff.2 (by simp)
        rcases List.mem_cons.1 hx with e | hx
        · exact e
        · rcases List.mem_cons.1 hy with e | hy
          · exact e.symm
          · have := b1 x hx; have := a1 y hy; omega
      subst e
      rw [ih ((List.perm_cons x).1 h) a2 b2]
theorem sortI_eq : sortI = isortI := by
  funext l
  exact sorted_unique ((perm_sortI l).trans (isortI_perm l).symm) (sorted_sortI l) (isortI_sorted l)
def exScale : Scale := ⟨3, 2, 3, 1, 50, 100, [1, 0]⟩
def exNight : Night := ⟨[⟨0, 0, [100, 90, 80], 633⟩, ⟨0, 1, [90, 100, 80], 655⟩, ⟨0, 2, [95, 95, 95], 707⟩, ⟨1, 0, [80, 90, 100], 774⟩, ⟨1, 1, [100, 70, 90], 736⟩], [(1, 2)], [(2, 5)]⟩
def exBefore : Night := ⟨[⟨0, 0, [100, 90, 80], 633⟩, ⟨0, 1, [90, 100, 80], 655⟩, ⟨0, 2, [95, 95, 95], 707⟩, ⟨1, 0, [80, 90, 100], 774⟩], [(1, 2)], [(2, 5)]⟩
theorem exTable : tableP exScale exNight = ([⟨0, 385, [195, 190]⟩, ⟨2, 365, [175, 195]⟩, ⟨1, 365, [195, 170]⟩], 0) := by
  simp only [tableP, tblP, sdUp, standK, pointsL, pointsK, sortI_eq]
  decide +kernel
theorem exTotals : totalsA exScale exBefore = ([(340, 385), (355, 390), (345, 370)], 0) := by
  simp only [totalsA, standK, pointsL, pointsK, sortI_eq]
  decide +kernel
theorem exPlace : placeA exScale exBefore 0 = ((1, 3), 0) := by
  simp only [placeA, placeK, standK, pointsL, pointsK, sortI_eq]
  decide +kernel
theorem exScale_ok : exScale.Ok := ⟨by decide⟩
theorem exNight_ok : exNight.Ok := ⟨by decide, by decide, by decide, by decide⟩
theorem exBefore_ok : exBefore.Ok := ⟨by decide, by decide, by decide, by decide⟩
set_option maxHeartbeats 2000000 in
theorem EqInts_pc (Y : YEnv) (σ : Sg) (xs ys : List Int) (o o2 : Own) (hx : xs.length < 2 ^ 50) :
    PC Try.prog Y 31 [.isl (xs.map I) o, .isl (ys.map I) o2] σ (.bool (decide (xs = ys))) (σ) := by
  refine PC_of_W Try.func31 rfl (by kernel_rfl) Try.ntmps31 (by simp) fun hcl hca => ?_
  refine W_seq fun kz1 kq1 => ?_
  refine W_region [0, 1] fun R hR => ?_   -- r0
  simp only [go_sem]
  refine hR _ _ (kq1 _ _ ?_); clear hR R; try clear kq1 kz1
  try simp only [go_sem]
  refine W_seq fun kz2 kq2 => ?_
  refine W_seq fun kz3 kq3 => ?_
  refine W_region [0, 1, 10] fun R hR => ?_   -- r1
  simp only [go_sem]
  refine hR _ _ (kq3 _ _ ?_); clear hR R; try clear kq3 kz3
  try simp only [go_sem]
  refine W_cond rfl (fun c1 => ?_) (fun c1 => ?_)
  · -- c1 true
    try simp only [nrm] at c1
    refine W_seq fun kz4 kq4 => ?_
    refine W_region [4] fun R hR => ?_   -- r2
    simp only [go_sem]
    refine hR _ _ (kq4 _ _ ?_); clear hR R; try clear kq4 kz4
    try simp only [go_sem]
    refine W_ret ?_
    simp only [go_sem]
    refine ⟨.inr (by trivial), ?_⟩
    first | refine Fin_same hcl rfl (Wk_eq ?_ (by simp only [go_sem])) | refine Fin_self hcl rfl (Wk_eq ?_ (by simp only [go_sem]))
    try simp only [go_sem]
    all_goals
      simp; intro h; subst h; exact c1 rfl
  · -- c1 false
    try simp only [nrm] at c1
    refine W_skip (kq2 _ _ ?_)
    refine W_seq fun kz5 kq5 => ?_
    refine W_seq fun kz6 kq6 => ?_
    refine W_region [0, 1, 5] fun R hR => ?_   -- r3
    simp only [go_sem]
    refine hR _ _ (kq6 _ _ ?_); clear hR R; try clear kq6 kz6
    try simp only [go_sem]
    refine W_block ?_
    refine W_loopS (α := Nat) (fun (i : Nat) => [(5, I i)]) (fun (i : Nat) => i ≤ xs.length ∧ xs.take i = ys.take i) (fun (i : Nat) => xs.length - i) (0) rfl (⟨Nat.zero_le _, rfl⟩) ?_
    rintro i ⟨hi, ht⟩
    refine W_seq fun kz7 kq7 => ?_
    refine W_seq fun kz8 kq8 => ?_
    refine W_region [0, 1, 5, 14] fun R hR => ?_   -- r4
    simp only [go_sem]
    refine hR _ _ (kq8 _ _ ?_); clear hR R; try clear kq8 kz8
    try simp only [go_sem]
    refine W_cond rfl (fun c2 => ?_) (fun c2 => ?_)
    · -- c2 true
      try simp only [nrm] at c2
      have hi' : i < xs.length := by first | assumption | omega
      obtain ⟨x, hxi⟩ : ∃ x, xs[i]? = some x := ⟨xs[i], by simp⟩
      obtain ⟨y, hyi⟩ : ∃ y, ys[i]? = some y := ⟨ys[i]'(by omega), by simp⟩
      refine W_skip (kq7 _ _ ?_)
      refine W_seq fun kz9 kq9 => ?_
      refine W_block ?_
      refine W_seq fun kz10 kq10 => ?_
      refine W_draw [0, 1, 5, 25] [0, 1, 2, 3, 4, 5, 6, 7, 8] [] [[], [], [0, 1], [0, 1, 2], [], [], [4, 5], [4, 5, 6], [0, 1, 2, 3, 4, 5, 6, 7]] mixed (by kernel_rfl) fun R hR => ?_   -- r6
      simp only [go_sem, hxi, hyi]
      try refine And.intro (by repeat' (first | refine And.intro ?_ ?_ | exact GOr_right (fun _ => by simp only [go_sem, hxi, hyi]))) ?_
      refine hR _ _ (kq10 _ _ ?_); clear hR R; try clear kq10 kz10
      try simp only [go_sem, hxi, hyi]
      refine W_cond rfl (fun c3 => ?_) (fun c3 => ?_)
      · -- c3 true
        try simp only [nrm] at c3
        refine W_seq fun kz11 kq11 => ?_
        refine W_region [4] fun R hR => ?_   -- r7
        simp only [go_sem, hxi, hyi]
        refine hR _ _ (kq11 _ _ ?_); clear hR R; try clear kq11 kz11
        try simp only [go_sem, hxi, hyi]
        refine W_ret ?_
        simp only [go_sem, hxi, hyi]
        refine ⟨.inr (by trivial), ?_⟩
        first | refine Fin_same hcl rfl (Wk_eq ?_ (by simp only [go_sem])) | refine Fin_self hcl rfl (Wk_eq ?_ (by simp only [go_sem]))
        try simp only [go_sem]
        all_goals
          simp; intro h; subst h; rw [hxi] at hyi; injection hyi with h; exact c3 h
      · -- c3 false
        try simp only [nrm] at c3
        refine W_skip (kq9 _ _ ?_)
        refine W_region [0, 1, 5] fun R hR => ?_   -- r5
        simp only [go_sem, hxi, hyi]
        try simp (disch := omega) only [wrapI, wrapU]
        refine hR _ _ ?_; clear hR R
        try simp only [go_sem, hxi, hyi]
        refine ⟨i + 1, ?_, by (try simp only []); omega, ?_⟩
        · first | exact Weak.refl | exact Weak.eq (by first | rfl | (simp only [go_sem]; done) | (simp only [go_sem]; rfl) | (simp [go_sem]; done) | (simp [go_sem] <;> omega)) (by first | rfl | (simp only [go_sem]; done) | (simp [go_sem]; done))
        · try dsimp only
          refine ⟨hi', ?_⟩
          rw [List.take_add_one, List.take_add_one, ht, hxi, hyi, c3]
    · -- c2 false
      try simp only [nrm] at c2
      have hie : i = xs.length := by omega
      subst hie
      have hxy : xs = ys := by rw [List.take_length] at ht; rw [c1, List.take_length] at ht; exact ht
      refine W_exit ?_
      simp only [go_sem]
      refine kq5 _ _ ?_
      refine W_seq fun kz12 kq12 => ?_
      refine W_region [4] fun R hR => ?_   -- r8
      simp only [go_sem]
      refine hR _ _ (kq12 _ _ ?_); clear hR R; try clear kq12 kz12
      try simp only [go_sem]
      refine W_ret ?_
      simp only [go_sem]
      refine ⟨.inr (by trivial), ?_⟩
      first | refine Fin_same hcl rfl (Wk_eq ?_ (by simp only [go_sem])) | refine Fin_self hcl rfl (Wk_eq ?_ (by simp only [go_sem]))
      try simp only [go_sem]
      all_goals
        simp [hxy]
theorem eqSp {a b c d : Int} : eqPV Try.prog 48 (.agg [.int .i64 a, .int .i64 b]) (.agg [.int .i64 c, .int .i64 d]) = some (decide ((a, b) = (c, d))) := by
  rw [eqs48]
  refine congrArg some ?_
  rw [Bool.eq_iff_iff]
  simp
attribute [go_sem high] eqSp
set_option maxHeartbeats 2000000 in
theorem EqSpans_pc (Y : YEnv) (σ : Sg) (xs ys : List (Int × Int)) (o o2 : Own) (hx : xs.length < 2 ^ 50) :
    PC Try.prog Y 18 [.isl (xs.map stPV) o, .isl (ys.map stPV) o2] σ (.bool (decide (xs = ys))) (σ) := by
  refine PC_of_W Try.func18 rfl (by kernel_rfl) Try.ntmps18 (by simp) fun hcl hca => ?_
  refine W_seq fun kz1 kq1 => ?_
  refine W_region [0, 1] fun R hR => ?_   -- r0
  simp only [go_sem]
  refine hR _ _ (kq1 _ _ ?_); clear hR R; try clear kq1 kz1
  try simp only [go_sem]
  refine W_seq fun kz2 kq2 => ?_
  refine W_seq fun kz3 kq3 => ?_
  refine W_region [0, 1, 10] fun R hR => ?_   -- r1
  simp only [go_sem]
  refine hR _ _ (kq3 _ _ ?_); clear hR R; try clear kq3 kz3
  try simp only [go_sem]
  refine W_cond rfl (fun c1 => ?_) (fun c1 => ?_)
  · -- c1 true
    try simp only [nrm] at c1
    refine W_seq fun kz4 kq4 => ?_
    refine W_region [4] fun R hR => ?_   -- r2
    simp only [go_sem]
    refine hR _ _ (kq4 _ _ ?_); clear hR R; try clear kq4 kz4
    try simp only [go_sem]
    refine W_ret ?_
    simp only [go_sem]
    refine ⟨.inr (by trivial), ?_⟩
    first | refine Fin_same hcl rfl (Wk_eq ?_ (by simp only [go_sem])) | refine Fin_self hcl rfl (Wk_eq ?_ (by simp only [go_sem]))
    try simp only [go_sem]
    all_goals
      simp; intro h; subst h; exact c1 rfl
  · -- c1 false
    try simp only [nrm] at c1
    refine W_skip (kq2 _ _ ?_)
    refine W_seq fun kz5 kq5 => ?_
    refine W_seq fun kz6 kq6 => ?_
    refine W_region [0, 1, 5] fun R hR => ?_   -- r3
    simp only [go_sem]
    refine hR _ _ (kq6 _ _ ?_); clear hR R; try clear kq6 kz6
    try simp only [go_sem]
    refine W_block ?_
    refine W_loopS (α := Nat) (fun (i : Nat) => [(5, I i)]) (fun (i : Nat) => i ≤ xs.length ∧ xs.take i = ys.take i) (fun (i : Nat) => xs.length - i) (0) rfl (⟨Nat.zero_le _, rfl⟩) ?_
    rintro i ⟨hi, ht⟩
    refine W_seq fun kz7 kq7 => ?_
    refine W_seq fun kz8 kq8 => ?_
    refine W_region [0, 1, 5, 14] fun R hR => ?_   -- r4
    simp only [go_sem]
    refine hR _ _ (kq8 _ _ ?_); clear hR R; try clear kq8 kz8
    try simp only [go_sem]
    refine W_cond rfl (fun c2 => ?_) (fun c2 => ?_)
    · -- c2 true
      try simp only [nrm] at c2
      have hi' : i < xs.length := by first | assumption | omega
      obtain ⟨x, hxi⟩ : ∃ x, xs[i]? = some x := ⟨xs[i], by simp⟩
      obtain ⟨y, hyi⟩ : ∃ y, ys[i]? = some y := ⟨ys[i]'(by omega), by simp⟩
      refine W_skip (kq7 _ _ ?_)
      refine W_seq fun kz9 kq9 => ?_
      refine W_block ?_
      refine W_seq fun kz10 kq10 => ?_
      refine W_draw [0, 1, 5, 25] [0, 1, 2, 3, 4, 5, 6, 7, 8] [] [[], [], [0, 1], [0, 1, 2], [], [], [4, 5], [4, 5, 6], [0, 1, 2, 3, 4, 5, 6, 7]] mixed (by kernel_rfl) fun R hR => ?_   -- r6
      simp only [go_sem, hxi, hyi]
      try refine And.intro (by repeat' (first | refine And.intro ?_ ?_ | exact GOr_right (fun _ => by simp only [go_sem, hxi, hyi]))) ?_
      refine hR _ _ (kq10 _ _ ?_); clear hR R; try clear kq10 kz10
      try simp only [go_sem, hxi, hyi]
      refine W_cond rfl (fun c3 => ?_) (fun c3 => ?_)
      · -- c3 true
        try simp only [nrm] at c3
        refine W_seq fun kz11 kq11 => ?_
        refine W_region [4] fun R hR => ?_   -- r7
        simp only [go_sem, hxi, hyi]
        refine hR _ _ (kq11 _ _ ?_); clear hR R; try clear kq11 kz11
        try simp only [go_sem, hxi, hyi]
        refine W_ret ?_
        simp only [go_sem, hxi, hyi]
        refine ⟨.inr (by trivial), ?_⟩
        first | refine Fin_same hcl rfl (Wk_eq ?_ (by simp only [go_sem])) | refine Fin_self hcl rfl (Wk_eq ?_ (by simp only [go_sem]))
        try simp only [go_sem]
        all_goals
          simp; intro h; subst h; rw [hxi] at hyi; injection hyi with h; subst h; simp at c3
      · -- c3 false
        try simp only [nrm] at c3
        refine W_skip (kq9 _ _ ?_)
        refine W_region [0, 1, 5] fun R hR => ?_   -- r5
        simp only [go_sem, hxi, hyi]
        try simp (disch := omega) only [wrapI, wrapU]
        refine hR _ _ ?_; clear hR R
        try simp only [go_sem, hxi, hyi]
        refine ⟨i + 1, ?_, by (try simp only []); omega, ?_⟩
        · first | exact Weak.refl | exact Weak.eq (by first | rfl | (simp only [go_sem]; done) | (simp only [go_sem]; rfl) | (simp [go_sem]; done) | (simp [go_sem] <;> omega)) (by first | rfl | (simp only [go_sem]; done) | (simp [go_sem]; done))
        · try dsimp only
          refine ⟨hi', ?_⟩
          rw [List.take_add_one, List.take_add_one, ht, hxi, hyi, show x = y by obtain ⟨a, b⟩ := x; obtain ⟨c, d⟩ := y; simpa using c3]
    · -- c2 false
      try simp only [nrm] at c2
      have hie : i = xs.length := by omega
      subst hie
      have hxy : xs = ys := by rw [List.take_length] at ht; rw [c1, List.take_length] at ht; exact ht
      refine W_exit ?_
      simp only [go_sem]
      refine kq5 _ _ ?_
      refine W_seq fun kz12 kq12 => ?_
      refine W_region [4] fun R hR => ?_   -- r8
      simp only [go_sem]
      refine hR _ _ (kq12 _ _ ?_); clear hR R; try clear kq12 kz12
      try simp only [go_sem]
      refine W_ret ?_
      simp only [go_sem]
      refine ⟨.inr (by trivial), ?_⟩
      first | refine Fin_same hcl rfl (Wk_eq ?_ (by simp only [go_sem])) | refine Fin_self hcl rfl (Wk_eq ?_ (by simp only [go_sem]))
      try simp only [go_sem]
      all_goals
        simp [hxy]
set_option maxHeartbeats 2000000 in
theorem EqLists_pc (Y : YEnv) (σ : Sg) (xs ys : List (List Int)) (o o2 : Own) (hx : xs.length < 2 ^ 50) (hy : ∀ x, x ∈ xs → x.length < 2 ^ 40) :
    PC Try.prog Y 36 [.isl (xs.map llPV) o, .isl (ys.map llPV) o2] σ (.bool (decide (xs = ys))) (σ) := by
  refine PC_of_W Try.func36 rfl (by kernel_rfl) Try.ntmps36 (by simp) fun hcl hca => ?_
  refine W_seq fun kz1 kq1 => ?_
  refine W_region [0, 1] fun R hR => ?_   -- r0
  simp only [go_sem, llPV]
  refine hR _ _ (kq1 _ _ ?_); clear hR R; try clear kq1 kz1
  try simp only [go_sem, llPV]
  refine W_seq fun kz2 kq2 => ?_
  refine W_seq fun kz3 kq3 => ?_
  refine W_region [0, 1, 10] fun R hR => ?_   -- r1
  simp only [go_sem, llPV]
  refine hR _ _ (kq3 _ _ ?_); clear hR R; try clear kq3 kz3
  try simp only [go_sem, llPV]
  refine W_cond rfl (fun c1 => ?_) (fun c1 => ?_)
  · -- c1 true
    try simp only [nrm] at c1
    refine W_seq fun kz4 kq4 => ?_
    refine W_region [4] fun R hR => ?_   -- r2
    simp only [go_sem, llPV]
    refine hR _ _ (kq4 _ _ ?_); clear hR R; try clear kq4 kz4
    try simp only [go_sem, llPV]
    refine W_ret ?_
    simp only [go_sem, llPV]
    refine ⟨.inr (by trivial), ?_⟩
    first | refine Fin_same hcl rfl (Wk_eq ?_ (by simp only [go_sem])) | refine Fin_self hcl rfl (Wk_eq ?_ (by simp only [go_sem]))
    try simp only [go_sem]
    all_goals
      simp; intro h; subst h; exact c1 rfl
  · -- c1 false
    try simp only [nrm] at c1
    refine W_skip (kq2 _ _ ?_)
    refine W_seq fun kz5 kq5 => ?_
    refine W_seq fun kz6 kq6 => ?_
    refine W_region [0, 1, 5] fun R hR => ?_   -- r3
    simp only [go_sem, llPV]
    refine hR _ _ (kq6 _ _ ?_); clear hR R; try clear kq6 kz6
    try simp only [go_sem, llPV]
    refine W_block ?_
    refine W_loopS (α := Nat) (fun (i : Nat) => [(5, I i)]) (fun (i : Nat) => i ≤ xs.length ∧ xs.take i = ys.take i) (fun (i : Nat) => xs.length - i) (0) rfl (⟨Nat.zero_le _, rfl⟩) ?_
    rintro i ⟨hi, ht⟩
    refine W_seq fun kz7 kq7 => ?_
    refine W_seq fun kz8 kq8 => ?_
    refine W_region [0, 1, 5, 14] fun R hR => ?_   -- r4
    simp only [go_sem, llPV]
    refine hR _ _ (kq8 _ _ ?_); clear hR R; try clear kq8 kz8
    try simp only [go_sem, llPV]
    refine W_cond rfl (fun c2 => ?_) (fun c2 => ?_)
    · -- c2 true
      try simp only [nrm] at c2
      have hi' : i < xs.length := by first | assumption | omega
      obtain ⟨x, hxi⟩ : ∃ x, xs[i]? = some x := ⟨xs[i], by simp⟩
      obtain ⟨y, hyi⟩ : ∃ y, ys[i]? = some y := ⟨ys[i]'(by omega), by simp⟩
      refine W_skip (kq7 _ _ ?_)
      refine W_seq fun kz9 kq9 => ?_
      refine W_block ?_
      refine W_seq fun kz10 kq10 => ?_
      refine W_draw [0, 1, 5, 26] [0, 1, 2, 3, 4, 5, 6, 7, 8, 9] [] [[], [], [0, 1], [0, 1, 2], [], [], [4, 5], [4, 5, 6], [0, 1, 2, 3, 4, 5, 6, 7], [0, 1, 2, 3, 4, 5, 6, 7, 8]] mixed (by kernel_rfl) fun R hR => ?_   -- r6
      simp only [go_sem, llPV, hxi, hyi]
      refine GCall_of (EqInts_pc Y _ x y .ro .ro (by have := hy x (List.mem_of_getElem? hxi); omega)) ?_   -- t25
      simp only [go_sem, llPV, hxi, hyi]
      try refine And.intro (by repeat' (first | refine And.intro ?_ ?_ | exact GOr_right (fun _ => by simp only [go_sem, llPV, hxi, hyi]))) ?_
      refine hR _ _ (kq10 _ _ ?_); clear hR R; try clear kq10 kz10
      try simp only [go_sem, llPV, hxi, hyi]
      refine W_cond rfl (fun c3 => ?_) (fun c3 => ?_)
      · -- c3 true
        try simp only [nrm] at c3
        refine W_seq fun kz11 kq11 => ?_
        refine W_region [4] fun R hR => ?_   -- r7
        simp only [go_sem, llPV, hxi, hyi]
        refine hR _ _ (kq11 _ _ ?_); clear hR R; try clear kq11 kz11
        try simp only [go_sem, llPV, hxi, hyi]
        refine W_ret ?_
        simp only [go_sem, llPV, hxi, hyi]
        refine ⟨.inr (by trivial), ?_⟩
        first | refine Fin_same hcl rfl (Wk_eq ?_ (by simp only [go_sem])) | refine Fin_self hcl rfl (Wk_eq ?_ (by simp only [go_sem]))
        try simp only [go_sem]
        all_goals
          simp; intro h; subst h; rw [hxi] at hyi; injection hyi with h; subst h; simp at c3
      · -- c3 false
        try simp only [nrm] at c3
        refine W_skip (kq9 _ _ ?_)
        refine W_region [0, 1, 5] fun R hR => ?_   -- r5
        simp only [go_sem, llPV, hxi, hyi]
        try simp (disch := omega) only [wrapI, wrapU]
        refine hR _ _ ?_; clear hR R
        try simp only [go_sem, llPV, hxi, hyi]
        refine ⟨i + 1, ?_, by (try simp only []); omega, ?_⟩
        · first | exact Weak.refl | exact Weak.eq (by first | rfl | (simp only [go_sem]; done) | (simp only [go_sem]; rfl) | (simp [go_sem]; done) | (simp [go_sem] <;> omega)) (by first | rfl | (simp only [go_sem]; done) | (simp [go_sem]; done))
        · try dsimp only
          refine ⟨hi', ?_⟩
          rw [List.take_add_one, List.take_add_one, ht, hxi, hyi, show x = y by simpa using c3]
    · -- c2 false
      try simp only [nrm] at c2
      have hie : i = xs.length := by omega
      subst hie
      have hxy : xs = ys := by rw [List.take_length] at ht; rw [c1, List.take_length] at ht; exact ht
      refine W_exit ?_
      simp only [go_sem, llPV]
      refine kq5 _ _ ?_
      refine W_seq fun kz12 kq12 => ?_
      refine W_region [4] fun R hR => ?_   -- r8
      simp only [go_sem, llPV]
      refine hR _ _ (kq12 _ _ ?_); clear hR R; try clear kq12 kz12
      try simp only [go_sem, llPV]
      refine W_ret ?_
      simp only [go_sem, llPV]
      refine ⟨.inr (by trivial), ?_⟩
      first | refine Fin_same hcl rfl (Wk_eq ?_ (by simp only [go_sem])) | refine Fin_self hcl rfl (Wk_eq ?_ (by simp only [go_sem]))
      try simp only [go_sem]
      all_goals
        simp [hxy]
set_option maxHeartbeats 2000000 in
theorem EqTables_pc (Y : YEnv) (σ : Sg) (xs ys : List Stand) (o o2 : Own) (hx : xs.length < 2 ^ 50) (hy : ∀ x, x ∈ xs → x.points.length < 2 ^ 40) :
    PC Try.prog Y 19 [.isl (xs.map sdPV) o, .isl (ys.map sdPV) o2] σ (.bool (decide (xs = ys))) (σ) := by
  refine PC_of_W Try.func19 rfl (by kernel_rfl) Try.ntmps19 (by simp) fun hcl hca => ?_
  refine W_seq fun kz1 kq1 => ?_
  refine W_region [0, 1] fun R hR => ?_   -- r0
  simp only [go_sem]
  refine hR _ _ (kq1 _ _ ?_); clear hR R; try clear kq1 kz1
  try simp only [go_sem]
  refine W_seq fun kz2 kq2 => ?_
  refine W_seq fun kz3 kq3 => ?_
  refine W_region [0, 1, 10] fun R hR => ?_   -- r1
  simp only [go_sem]
  refine hR _ _ (kq3 _ _ ?_); clear hR R; try clear kq3 kz3
  try simp only [go_sem]
  refine W_cond rfl (fun c1 => ?_) (fun c1 => ?_)
  · -- c1 true
    try simp only [nrm] at c1
    refine W_seq fun kz4 kq4 => ?_
    refine W_region [4] fun R hR => ?_   -- r2
    simp only [go_sem]
    refine hR _ _ (kq4 _ _ ?_); clear hR R; try clear kq4 kz4
    try simp only [go_sem]
    refine W_ret ?_
    simp only [go_sem]
    refine ⟨.inr (by trivial), ?_⟩
    first | refine Fin_same hcl rfl (Wk_eq ?_ (by simp only [go_sem])) | refine Fin_self hcl rfl (Wk_eq ?_ (by simp only [go_sem]))
    try simp only [go_sem]
    all_goals
      simp; intro h; subst h; exact c1 rfl
  · -- c1 false
    try simp only [nrm] at c1
    refine W_skip (kq2 _ _ ?_)
    refine W_seq fun kz5 kq5 => ?_
    refine W_seq fun kz6 kq6 => ?_
    refine W_region [0, 1, 5] fun R hR => ?_   -- r3
    simp only [go_sem]
    refine hR _ _ (kq6 _ _ ?_); clear hR R; try clear kq6 kz6
    try simp only [go_sem]
    refine W_block ?_
    refine W_loopS (α := Nat) (fun (i : Nat) => [(5, I i)]) (fun (i : Nat) => i ≤ xs.length ∧ xs.take i = ys.take i) (fun (i : Nat) => xs.length - i) (0) rfl (⟨Nat.zero_le _, rfl⟩) ?_
    rintro i ⟨hi, ht⟩
    refine W_seq fun kz7 kq7 => ?_
    refine W_seq fun kz8 kq8 => ?_
    refine W_region [0, 1, 5, 14] fun R hR => ?_   -- r4
    simp only [go_sem]
    refine hR _ _ (kq8 _ _ ?_); clear hR R; try clear kq8 kz8
    try simp only [go_sem]
    refine W_cond rfl (fun c2 => ?_) (fun c2 => ?_)
    · -- c2 true
      try simp only [nrm] at c2
      have hi' : i < xs.length := by first | assumption | omega
      obtain ⟨x, hxi⟩ : ∃ x, xs[i]? = some x := ⟨xs[i], by simp⟩
      obtain ⟨y, hyi⟩ : ∃ y, ys[i]? = some y := ⟨ys[i]'(by omega), by simp⟩
      refine W_skip (kq7 _ _ ?_)
      refine W_seq fun kz9 kq9 => ?_
      refine W_block ?_
      refine W_seq fun kz10 kq10 => ?_
      refine W_draw [0, 1, 5, 54] [0, 1, 2, 3, 4, 5, 6, 7, 8, 9, 10, 11, 12, 13, 14, 15, 16, 17, 18, 19, 20, 21, 22, 23, 24, 25, 26, 27, 28, 29, 30, 31, 32, 33, 34, 35, 36, 37] [] [[], [], [0, 1], [0, 1, 2], [0, 1, 2, 3], [], [], [5, 6], [5, 6, 7], [5, 6, 7, 8], [0, 1, 2, 3, 4, 5, 6, 7, 8, 9], [0, 1, 2, 3, 4, 5, 6, 7, 8, 9, 10], [0, 1, 2, 3, 4, 5, 6, 7, 8, 9, 10, 11], [0, 1, 2, 3, 4, 5, 6, 7, 8, 9, 10, 11], [0, 1, 2, 3, 4, 5, 6, 7, 8, 9, 10, 11, 12, 13], [0, 1, 2, 3, 4, 5, 6, 7, 8, 9, 10, 11, 12, 13, 14], [0, 1, 2, 3, 4, 5, 6, 7, 8, 9, 10, 11, 12, 13, 14, 15], [0, 1, 2, 3, 4, 5, 6, 7, 8, 9, 10, 11], [0, 1, 2, 3, 4, 5, 6, 7, 8, 9, 10, 11], [0, 1, 2, 3, 4, 5, 6, 7, 8, 9, 10, 11, 17, 18], [0, 1, 2, 3, 4, 5, 6, 7, 8, 9, 10, 11, 17, 18, 19], [0, 1, 2, 3, 4, 5, 6, 7, 8, 9, 10, 11, 17, 18, 19, 20], [0, 1, 2, 3, 4, 5, 6, 7, 8, 9, 10, 11, 12, 13, 14, 15, 16, 17, 18, 19, 20, 21], [0, 1, 2, 3, 4, 5, 6, 7, 8, 9, 10, 11, 12, 13, 14, 15, 16, 17, 18, 19, 20, 21, 22], [0, 1, 2, 3, 4, 5, 6, 7, 8, 9, 10, 11, 12, 13, 14, 15, 16, 17, 18, 19, 20, 21, 22, 23], [0, 1, 2, 3, 4, 5, 6, 7, 8, 9, 10, 11, 12, 13, 14, 15, 16, 17, 18, 19, 20, 21, 22, 23, 24], [0, 1, 2, 3, 4, 5, 6, 7, 8, 9, 10, 11, 12, 13, 14, 15, 16, 17, 18, 19, 20, 21, 22, 23, 24], [0, 1, 2, 3, 4, 5, 6, 7, 8, 9, 10, 11, 12, 13, 14, 15, 16, 17, 18, 19, 20, 21, 22, 23, 24, 25, 26], [0, 1, 2, 3, 4, 5, 6, 7, 8, 9, 10, 11, 12, 13, 14, 15, 16, 17, 18, 19, 20, 21, 22, 23, 24, 25, 26, 27], [0, 1, 2, 3, 4, 5, 6, 7, 8, 9, 10, 11, 12, 13, 14, 15, 16, 17, 18, 19, 20, 21, 22, 23, 24, 25, 26, 27, 28], [0, 1, 2, 3, 4, 5, 6, 7, 8, 9, 10, 11, 12, 13, 14, 15, 16, 17, 18, 19, 20, 21, 22, 23, 24], [0, 1, 2, 3, 4, 5, 6, 7, 8, 9, 10, 11, 12, 13, 14, 15, 16, 17, 18, 19, 20, 21, 22, 23, 24], [0, 1, 2, 3, 4, 5, 6, 7, 8, 9, 10, 11, 12, 13, 14, 15, 16, 17, 18, 19, 20, 21, 22, 23, 24, 30, 31], [0, 1, 2, 3, 4, 5, 6, 7, 8, 9, 10, 11, 12, 13, 14, 15, 16, 17, 18, 19, 20, 21, 22, 23, 24, 30, 31, 32], [0, 1, 2, 3, 4, 5, 6, 7, 8, 9, 10, 11, 12, 13, 14, 15, 16, 17, 18, 19, 20, 21, 22, 23, 24, 30, 31, 32, 33], [0, 1, 2, 3, 4, 5, 6, 7, 8, 9, 10, 11, 12, 13, 14, 15, 16, 17, 18, 19, 20, 21, 22, 23, 24, 25, 26, 27, 28, 29, 30, 31, 32, 33, 34], [0, 1, 2, 3, 4, 5, 6, 7, 8, 9, 10, 11, 12, 13, 14, 15, 16, 17, 18, 19, 20, 21, 22, 23, 24, 25, 26, 27, 28, 29, 30, 31, 32, 33, 34, 35], [0, 1, 2, 3, 4, 5, 6, 7, 8, 9, 10, 11, 12, 13, 14, 15, 16, 17, 18, 19, 20, 21, 22, 23, 24, 25, 26, 27, 28, 29, 30, 31, 32, 33, 34, 35, 36]] mixed (by kernel_rfl) fun R hR => ?_   -- r6
      simp only [go_sem, hxi, hyi]
      refine GWant_split (fun g1 => ?_) (fun g1 => ?_)
      · try simp only [Bool.not_eq_true', Bool.not_eq_false'] at g1
        have n1 := g1; try simp only [nrm] at n1
        simp only [go_sem, hxi, hyi, g1]
        refine GWant_split (fun g2 => ?_) (fun g2 => ?_)
        · try simp only [Bool.not_eq_true', Bool.not_eq_false'] at g2
          have n2 := g2; try simp only [nrm] at n2
          simp only [go_sem, hxi, hyi, g1, g2]
          refine GCall_of (EqInts_pc Y _ x.points y.points .ro .ro (by have := hy x (List.mem_of_getElem? hxi); omega)) ?_   -- t52
          simp only [go_sem, hxi, hyi, g1, g2]
          try refine And.intro (by repeat' (first | refine And.intro ?_ ?_ | exact GOr_right (fun _ => by simp only [go_sem, hxi, hyi]))) ?_
          refine hR _ _ (kq10 _ _ ?_); clear hR R; try clear kq10 kz10
          try simp only [go_sem, hxi, hyi]
          refine W_cond rfl (fun c3 => ?_) (fun c3 => ?_)
          · -- c3 true
            try simp only [nrm] at c3
            refine W_seq fun kz11 kq11 => ?_
            refine W_region [4] fun R hR => ?_   -- r7
            simp only [go_sem, hxi, hyi]
            refine hR _ _ (kq11 _ _ ?_); clear hR R; try clear kq11 kz11
            try simp only [go_sem, hxi, hyi]
            refine W_ret ?_
            simp only [go_sem, hxi, hyi]
            refine ⟨.inr (by trivial), ?_⟩
            first | refine Fin_same hcl rfl (Wk_eq ?_ (by simp only [go_sem])) | refine Fin_self hcl rfl (Wk_eq ?_ (by simp only [go_sem]))
            try simp only [go_sem]
            all_goals
              simp; intro h; subst h; rw [hxi] at hyi; injection hyi with h; subst h; simp_all
          · -- c3 false
            try simp only [nrm] at c3
            refine W_skip (kq9 _ _ ?_)
            refine W_region [0, 1, 5] fun R hR => ?_   -- r5
            simp only [go_sem, hxi, hyi]
            try simp (disch := omega) only [wrapI, wrapU]
            refine hR _ _ ?_; clear hR R
            try simp only [go_sem, hxi, hyi]
            refine ⟨i + 1, ?_, by (try simp only []); omega, ?_⟩
            · first | exact Weak.refl | exact Weak.eq (by first | rfl | (simp only [go_sem]; done) | (simp only [go_sem]; rfl) | (simp [go_sem]; done) | (simp [go_sem] <;> omega)) (by first | rfl | (simp only [go_sem]; done) | (simp [go_sem]; done))
            · try dsimp only
              refine ⟨hi', ?_⟩
              rw [List.take_add_one, List.take_add_one, ht, hxi, hyi, show x = y by obtain ⟨a, b, c⟩ := x; obtain ⟨a2, b2, c2⟩ := y; simp_all]
        · try simp only [Bool.not_eq_true', Bool.not_eq_false'] at g2
          have n2 := g2; try simp only [nrm] at n2
          simp only [go_sem, hxi, hyi, g1, g2]
          try refine And.intro (by repeat' (first | refine And.intro ?_ ?_ | exact GOr_right (fun _ => by simp only [go_sem, hxi, hyi]))) ?_
          refine hR _ _ (kq10 _ _ ?_); clear hR R; try clear kq10 kz10
          try simp only [go_sem, hxi, hyi]
          refine W_cond_true rfl ?_
          refine W_seq fun kz12 kq12 => ?_
          refine W_region [4] fun R hR => ?_   -- r7
          simp only [go_sem, hxi, hyi]
          refine hR _ _ (kq12 _ _ ?_); clear hR R; try clear kq12 kz12
          try simp only [go_sem, hxi, hyi]
          refine W_ret ?_
          simp only [go_sem, hxi, hyi]
          refine ⟨.inr (by trivial), ?_⟩
          first | refine Fin_same hcl rfl (Wk_eq ?_ (by simp only [go_sem])) | refine Fin_self hcl rfl (Wk_eq ?_ (by simp only [go_sem]))
          try simp only [go_sem]
          all_goals
            simp; intro h; subst h; rw [hxi] at hyi; injection hyi with h; subst h; simp_all
      · try simp only [Bool.not_eq_true', Bool.not_eq_false'] at g1
        have n1 := g1; try simp only [nrm] at n1
        simp only [go_sem, hxi, hyi, g1]
        try refine And.intro (by repeat' (first | refine And.intro ?_ ?_ | exact GOr_right (fun _ => by simp only [go_sem, hxi, hyi]))) ?_
        refine hR _ _ (kq10 _ _ ?_); clear hR R; try clear kq10 kz10
        try simp only [go_sem, hxi, hyi]
        refine W_cond_true rfl ?_
        refine W_seq fun kz13 kq13 => ?_
        refine W_region [4] fun R hR => ?_   -- r7
        simp only [go_sem, hxi, hyi]
        refine hR _ _ (kq13 _ _ ?_); clear hR R; try clear kq13 kz13
        try simp only [go_sem, hxi, hyi]
        refine W_ret ?_
        simp only [go_sem, hxi, hyi]
        refine ⟨.inr (by trivial), ?_⟩
        first | refine Fin_same hcl rfl (Wk_eq ?_ (by simp only [go_sem])) | refine Fin_self hcl rfl (Wk_eq ?_ (by simp only [go_sem]))
        try simp only [go_sem]
        all_goals
          simp; intro h; subst h; rw [hxi] at hyi; injection hyi with h; subst h; simp_all
    · -- c2 false
      try simp only [nrm] at c2
      have hie : i = xs.length := by omega
      subst hie
      have hxy : xs = ys := by rw [List.take_length] at ht; rw [c1, List.take_length] at ht; exact ht
      refine W_exit ?_
      simp only [go_sem]
      refine kq5 _ _ ?_
      refine W_seq fun kz14 kq14 => ?_
      refine W_region [4] fun R hR => ?_   -- r8
      simp only [go_sem]
      refine hR _ _ (kq14 _ _ ?_); clear hR R; try clear kq14 kz14
      try simp only [go_sem]
      refine W_ret ?_
      simp only [go_sem]
      refine ⟨.inr (by trivial), ?_⟩
      first | refine Fin_same hcl rfl (Wk_eq ?_ (by simp only [go_sem])) | refine Fin_self hcl rfl (Wk_eq ?_ (by simp only [go_sem]))
      try simp only [go_sem]
      all_goals
        simp [hxy]
set_option maxHeartbeats 2000000 in
theorem Lists_pc (Y : YEnv) (σ : Sg) (ls : List (List Int)) (hl : ls.length < 2 ^ 40) (hxl : ∀ x, x ∈ ls → x.length < 2 ^ 40) :
    PC Try.prog Y 33 [lls ls] σ (lls ls) (σ) := by
  refine PC_of_W Try.func33 rfl (by kernel_rfl) Try.ntmps33 (by simp) fun hcl hca => ?_
  refine W_seq fun kz1 kq1 => ?_
  refine W_region [0] fun R hR => ?_   -- r0
  simp only [go_sem, llPV]
  refine hR _ _ (kq1 _ _ ?_); clear hR R; try clear kq1 kz1
  try simp only [go_sem, llPV]
  refine W_seq fun kz2 kq2 => ?_
  refine W_region [0, 3] fun R hR => ?_   -- r1
  simp only [go_sem, llPV]
  refine hR _ _ (kq2 _ _ ?_); clear hR R; try clear kq2 kz2
  try simp only [go_sem, llPV]
  refine W_seq fun kz3 kq3 => ?_
  refine W_seq fun kz4 kq4 => ?_
  refine W_region [0, 3, 4] fun R hR => ?_   -- r2
  simp only [go_sem, llPV]
  refine hR _ _ (kq4 _ _ ?_); clear hR R; try clear kq4 kz4
  try simp only [go_sem, llPV]
  refine W_block ?_
  refine W_weak (Weak.room (t := 3) (es := 1) rfl (by simp)) ?_
  refine W_weak (Weak.keep [0, 3, 4]) ?_
  simp only [go_sem, llPV]
  refine W_loopT (α := Nat) (fun (i : Nat) => [(3, .isl ((ls.take i).map llPV) (.tok σ.rooms.length i 1)), (4, I i)]) (fun (i : Nat) => σ.ext [] [i]) (fun (i : Nat) => i ≤ ls.length) (fun (i : Nat) => ls.length - i) (0) rfl (by first | rfl | (simp only [go_sem]; done) | (simp only [go_sem]; rfl)) (Nat.zero_le _) ?_
  rintro i hi
  have htl : (ls.take i).length = i := by simp; omega
  refine W_seq fun kz5 kq5 => ?_
  refine W_seq fun kz6 kq6 => ?_
  refine W_region [0, 3, 4, 8] fun R hR => ?_   -- r3
  simp only [go_sem, llPV]
  refine hR _ _ (kq6 _ _ ?_); clear hR R; try clear kq6 kz6
  try simp only [go_sem, llPV]
  refine W_cond rfl (fun c1 => ?_) (fun c1 => ?_)
  · -- c1 true
    try simp only [nrm] at c1
    have hi' : i < ls.length := by first | assumption | omega
    obtain ⟨x, hx⟩ : ∃ x, ls[i]? = some x := ⟨ls[i], by simp [hi']⟩
    have hdrop : ls.drop i = x :: ls.drop (i + 1) := by
      rw [List.drop_eq_getElem_cons hi']; congr 1; exact (List.getElem?_eq_some_iff.1 hx).2
    have hsn : (ls.take i).map llPV ++ [ints x] = (ls.take (i + 1)).map llPV := by rw [List.take_add_one, hx]; simp [llPV]
    refine W_skip (kq5 _ _ ?_)
    refine W_seq fun kz7 kq7 => ?_
    refine W_block ?_
    refine W_region [0, 3, 4] fun R hR => ?_   -- r5
    simp only [go_sem, llPV, hx, htl]
    refine GCall_of (Ints_pc Y _ x .ro (hxl x (List.mem_of_getElem? hx))) ?_   -- t16
    simp only [go_sem, llPV, hx, htl]
    try simp (disch := first | omega | (simp only [go_sem] <;> omega)) only [wrapI, wrapU, appX_exact, appX_tok]
    try simp only [go_sem, llPV, hx, htl]
    refine hR _ _ (kq7 _ _ ?_); clear hR R; try clear kq7 kz7
    try simp only [go_sem, llPV, hx, htl]
    refine W_region [0, 3, 4] fun R hR => ?_   -- r4
    simp only [go_sem, llPV, hx, htl]
    try simp (disch := omega) only [wrapI, wrapU]
    refine hR _ _ ?_; clear hR R
    try simp only [go_sem, llPV, hx, htl]
    refine ⟨i + 1, ?_, by (try simp only []); omega, ?_⟩
    · refine Weak.eq ?_ (by simp only [go_sem])
      simp only [go_sem, hsn]
      first | done | rfl | simp
    · try dsimp only
      exact hi'
  · -- c1 false
    try simp only [nrm] at c1
    have hdrop : ls.drop i = [] := List.drop_eq_nil_of_le (by omega)
    have hie : ls.length = i := by omega
    rw [← hie, List.take_length]
    refine W_exit ?_
    simp only [go_sem, llPV]
    refine kq3 _ _ ?_
    refine W_seq fun kz8 kq8 => ?_
    refine W_region [2] fun R hR => ?_   -- r6
    simp only [go_sem, llPV]
    refine hR _ _ (kq8 _ _ ?_); clear hR R; try clear kq8 kz8
    try simp only [go_sem, llPV]
    refine W_ret ?_
    simp only [go_sem, llPV]
    refine ⟨.inr (by trivial), ?_⟩
    refine Fin_same hcl rfl (Wk.ro (by simp only [go_sem]) ?_)
    try simp only [go_sem]
    all_goals
      first | rfl | simp only [go_sem]
set_option maxHeartbeats 2000000 in
theorem span_pc (Y : YEnv) (σ : Sg) (a b : Int) :
    PC Try.prog Y 48 [I a, I b] σ (.agg [I a, I b]) (σ) := by
  refine PC_of_W Try.func48 rfl (by kernel_rfl) Try.ntmps48 (by simp) fun hcl hca => ?_
  refine W_seq fun kz1 kq1 => ?_
  refine W_region [0, 1, 4] fun R hR => ?_   -- r0
  simp only [go_sem]
  refine hR _ _ (kq1 _ _ ?_); clear hR R; try clear kq1 kz1
  try simp only [go_sem]
  refine W_seq fun kz2 kq2 => ?_
  refine W_region [4] fun R hR => ?_   -- r1
  simp only [go_sem]
  refine hR _ _ (kq2 _ _ ?_); clear hR R; try clear kq2 kz2
  try simp only [go_sem]
  refine W_ret ?_
  simp only [go_sem]
  refine ⟨.inr (by trivial), ?_⟩
  first | refine Fin_same hcl (by show resPV Try.prog _ _ [.cell 4 48] = some _; simp only [resPV, go_sem]; rfl) (Wk_eq ?_ (by simp only [go_sem])) | refine Fin_same hcl rfl (Wk_eq ?_ (by simp only [go_sem]))
  try simp only [go_sem]
  all_goals
    first | rfl | (simp_all; done) | (simp_all; omega)
set_option maxHeartbeats 2000000 in
theorem scale_pc (Y : YEnv) (σ : Sg)  :
    PC Try.prog Y 45 [] σ (scPV exScale) (σ) := by
  refine PC_of_W Try.func45 rfl (by kernel_rfl) Try.ntmps45 (by simp) fun hcl hca => ?_
  refine W_seq fun kz1 kq1 => ?_
  refine W_region [0] fun R hR => ?_   -- r0
  simp only [go_sem]
  refine hR _ _ (kq1 _ _ ?_); clear hR R; try clear kq1 kz1
  try simp only [go_sem]
  refine W_seq fun kz2 kq2 => ?_
  refine W_region [0] fun R hR => ?_   -- r1
  simp only [go_sem]
  refine hR _ _ (kq2 _ _ ?_); clear hR R; try clear kq2 kz2
  try simp only [go_sem]
  refine W_ret ?_
  simp only [go_sem]
  refine ⟨.inr (by trivial), ?_⟩
  refine Fin_same hcl (by show resPV Try.prog _ _ [.cell 0 26] = some _; simp only [resPV, go_sem]; rfl) (Wk.ro (by simp only [go_sem]) ?_)
  try simp only [go_sem]
  all_goals
    rfl
set_option maxHeartbeats 2000000 in
theorem night_pc (Y : YEnv) (σ : Sg)  :
    PC Try.prog Y 46 [] σ (ngPV exNight) (σ) := by
  refine PC_of_W Try.func46 rfl (by kernel_rfl) Try.ntmps46 (by simp) fun hcl hca => ?_
  refine W_seq fun kz1 kq1 => ?_
  refine W_region [0] fun R hR => ?_   -- r0
  simp only [go_sem]
  refine hR _ _ (kq1 _ _ ?_); clear hR R; try clear kq1 kz1
  try simp only [go_sem]
  refine W_seq fun kz2 kq2 => ?_
  refine W_region [0] fun R hR => ?_   -- r1
  simp only [go_sem]
  refine hR _ _ (kq2 _ _ ?_); clear hR R; try clear kq2 kz2
  try simp only [go_sem]
  refine W_ret ?_
  simp only [go_sem]
  refine ⟨.inr (by trivial), ?_⟩
  refine Fin_same hcl (by show resPV Try.prog _ _ [.cell 0 32] = some _; simp only [resPV, go_sem]; rfl) (Wk.ro (by simp only [go_sem]) ?_)
  try simp only [go_sem]
  all_goals
    rfl
set_option maxHeartbeats 2000000 in
theorem before_pc (Y : YEnv) (σ : Sg)  :
    PC Try.prog Y 47 [] σ (ngPV exBefore) (σ) := by
  refine PC_of_W Try.func47 rfl (by kernel_rfl) Try.ntmps47 (by simp) fun hcl hca => ?_
  refine W_seq fun kz1 kq1 => ?_
  refine W_region [0] fun R hR => ?_   -- r0
  simp only [go_sem]
  refine hR _ _ (kq1 _ _ ?_); clear hR R; try clear kq1 kz1
  try simp only [go_sem]
  refine W_seq fun kz2 kq2 => ?_
  refine W_region [0, 1] fun R hR => ?_   -- r1
  simp only [go_sem]
  refine GCall_of (night_pc Y _) ?_   -- t2
  simp only [go_sem]
  refine hR _ _ (kq2 _ _ ?_); clear hR R; try clear kq2 kz2
  try simp only [go_sem]
  refine W_seq fun kz3 kq3 => ?_
  have hz4 : ((0 : Int) ≤ 4) = True := by decide
  have hb4 : (Int.toNat 4 ≤ exNight.opened.length) = True := by decide
  refine W_region [0, 1] fun R hR => ?_   -- r2
  simp only [go_sem, hz4, hb4]
  refine hR _ _ (kq3 _ _ ?_); clear hR R; try clear kq3 kz3
  try simp only [go_sem]
  refine W_seq fun kz4 kq4 => ?_
  refine W_region [0] fun R hR => ?_   -- r3
  simp only [go_sem]
  refine hR _ _ (kq4 _ _ ?_); clear hR R; try clear kq4 kz4
  try simp only [go_sem]
  refine W_ret ?_
  simp only [go_sem]
  refine ⟨.inr (by trivial), ?_⟩
  refine Fin_same hcl (by show resPV Try.prog _ _ [.cell 0 32] = some _; simp only [resPV, go_sem]; rfl) (Wk.ro (by simp only [go_sem]) ?_)
  try simp only [go_sem]
  all_goals
    rfl
end Go.Proofs.Ytgelnjmddabgpaa
namespace Go.Proofs.Ytgelnjmddabgpaa
open Go Go.RowKit
set_option maxRecDepth 100000
def nb (L i : Nat) : Int := (if 0 < i then 1 else 0) + (if i + 1 < L then 1 else 0)
def dupL : List Int → List Int → Bool
  | _, [] => false
  | met, x :: l => has met x || dupL (met ++ [x]) l
def chkL (L : Nat) (n : Int) : Nat → List Int → List (List Int) → Int
  | _, _, [] => 0
  | i, met, l :: r => if 8 < (l.length : Int) then 5 else if dupL met l = true then 8 else if (l.length : Int) < n * nb L i then 4 else chkL L n (i + 1) (met ++ l) r
def lgAt (ls : List (List Int)) (i : Nat) : List Int := (ls[i]?).getD []
def nextL (ls : List (List Int)) (n i : Nat) : List Int :=
  (if 0 < i then (lgAt ls (i - 1)).drop ((lgAt ls (i - 1)).length - n) else []) ++ (((lgAt ls i).drop (if 0 < i then n else 0)).take (((lgAt ls i).length - (if i + 1 < ls.length then n else 0)) - (if 0 < i then n else 0)) ++ (if i + 1 < ls.length then (lgAt ls (i + 1)).take n else []))
def nextA (ls : List (List Int)) (n i : Nat) : List (List Int) := (List.range i).map (nextL ls n)
def moveA (ls : List (List Int)) (n : Int) : List (List Int) × Int :=
  if 6 < (ls.length : Int) then ([], 5) else if !(inR n 0 8) then ([], 2) else if chkL ls.length n 0 [] ls ≠ 0 then ([], chkL ls.length n 0 [] ls) else (nextA ls n.toNat ls.length, 0)
theorem nextA_succ (ls : List (List Int)) (n i : Nat) : nextA ls n (i + 1) = nextA ls n i ++ [nextL ls n i] := by simp [nextA, List.range_succ]
theorem nextA_len (ls : List (List Int)) (n i : Nat) : (nextA ls n i).length = i := by simp [nextA]
def metM (l : List Int) : List (Int × Bool) := l.foldl (fun m x => aput x true m) []
theorem metM_snoc (l : List Int) (x : Int) : aput x true (metM l) = metM (l ++ [x]) := by simp [metM, List.foldl_append]
theorem metM_has (l : List Int) : ∀ v, (aget v (metM l)).getD false = has l v := by
  suffices h : ∀ (l : List Int) (m : List (Int × Bool)) (v : Int), (aget v (l.foldl (fun m x => aput x true m) m)).getD false = ((aget v m).getD false || has l v) by
    intro v
    have := h l [] v
    simpa [metM, aget] using this
  intro l
  induction l with
  | nil => intro m v; simp [has_nil]
  | cons x l ih =>
    intro m v
    rw [List.foldl_cons, ih, aget_put, has_cons]
    by_cases e : v = x
    · subst e; simp
    · rw [if_neg e]
      have : decide (x = v) = false := by simp; exact fun h => e h.symm
      rw [this, Bool.false_or]
theorem nb_bd (L i : Nat) : 0 ≤ nb L i ∧ nb L i ≤ 2 := by unfold nb; split <;> split <;> omega
theorem chkL_ok {L : Nat} {n : Int} : ∀ {r : List (List Int)} {i : Nat} {met : List Int}, chkL L n i met r = 0 → ∀ (j : Nat) (x : List Int), r[j]? = some x → (x.length : Int) ≤ 8 ∧ n * nb L (i + j) ≤ x.length := by
  intro r
  induction r with
  | nil => intro i met _ j x hx; simp at hx
  | cons l r ih =>
    intro i met h j x hx
    simp only [chkL] at h
    split at h
    · omega
    · split at h
      · omega
      · split at h
        · omega
        · cases j with
          | zero => simp at hx; subst hx; exact ⟨by omega, by rw [Nat.add_zero]; omega⟩
          | succ j =>
            have := ih h j x (by simpa using hx)
            rw [show i + (j + 1) = i + 1 + j by omega]
            exact this
theorem nb_lo {n : Int} (hn : 0 ≤ n) {L i : Nat} {k : Int} (h : n * nb L i ≤ k) : (0 < i → n ≤ k) ∧ (i + 1 < L → n ≤ k) ∧ (0 < i → i + 1 < L → 2 * n ≤ k) := by
  unfold nb at h
  refine ⟨fun a => ?_, fun a => ?_, fun a b => ?_⟩
  · rw [if_pos a] at h
    split at h <;> simp [Int.mul_add] at h <;> omega
  · rw [if_pos a] at h
    split at h <;> simp [Int.mul_add] at h <;> omega
  · rw [if_pos a, if_pos b] at h
    simp [Int.mul_add] at h; omega
set_option maxHeartbeats 2000000 in
theorem neighb_pc (Y : YEnv) (σ : Sg) (ls : List (List Int)) (i : Nat) (hl : ls.length < 2 ^ 40) (hi : i < ls.length) :
    PC Try.prog Y 53 [lls ls, I i] σ (I (nb ls.length i)) (σ) := by
  refine PC_of_W Try.func53 rfl (by kernel_rfl) Try.ntmps53 (by simp) fun hcl hca => ?_
  refine W_seq fun kz1 kq1 => ?_
  refine W_region [0, 1] fun R hR => ?_   -- r0
  simp only [go_sem]
  refine hR _ _ (kq1 _ _ ?_); clear hR R; try clear kq1 kz1
  try simp only [go_sem]
  refine W_seq fun kz2 kq2 => ?_
  refine W_region [0, 1, 5] fun R hR => ?_   -- r1
  simp only [go_sem]
  refine hR _ _ (kq2 _ _ ?_); clear hR R; try clear kq2 kz2
  try simp only [go_sem]
  refine W_seq fun kz3 kq3 => ?_
  refine W_seq fun kz4 kq4 => ?_
  refine W_region [0, 1, 5, 7] fun R hR => ?_   -- r2
  simp only [go_sem]
  refine hR _ _ (kq4 _ _ ?_); clear hR R; try clear kq4 kz4
  try simp only [go_sem]
  refine W_cond rfl (fun c1 => ?_) (fun c1 => ?_)
  · -- c1 true
    try simp only [nrm] at c1
    refine W_region [0, 1, 5] fun R hR => ?_   -- r3
    simp only [go_sem]
    try simp (disch := omega) only [wrapI, wrapU]
    refine hR _ _ (kq3 _ _ ?_); clear hR R; try clear kq3 kz3
    try simp only [go_sem]
    refine W_seq fun kz5 kq5 => ?_
    refine W_seq fun kz6 kq6 => ?_
    refine W_region [5, 14] fun R hR => ?_   -- r4
    simp only [go_sem]
    try simp (disch := omega) only [wrapI, wrapU]
    refine hR _ _ (kq6 _ _ ?_); clear hR R; try clear kq6 kz6
    try simp only [go_sem]
    refine W_cond rfl (fun c2 => ?_) (fun c2 => ?_)
    · -- c2 true
      try simp only [nrm] at c2
      refine W_region [5] fun R hR => ?_   -- r5
      simp only [go_sem]
      try simp (disch := omega) only [wrapI, wrapU]
      refine hR _ _ (kq5 _ _ ?_); clear hR R; try clear kq5 kz5
      try simp only [go_sem]
      refine W_seq fun kz7 kq7 => ?_
      refine W_region [4] fun R hR => ?_   -- r6
      simp only [go_sem]
      refine hR _ _ (kq7 _ _ ?_); clear hR R; try clear kq7 kz7
      try simp only [go_sem]
      refine W_ret ?_
      simp only [go_sem]
      refine ⟨.inr (by trivial), ?_⟩
      first | refine Fin_same hcl rfl (Wk_eq ?_ (by simp only [go_sem])) | refine Fin_self hcl rfl (Wk_eq ?_ (by simp only [go_sem]))
      try simp only [go_sem]
      all_goals
        congr 1; simp only [nb]; (repeat' split) <;> omega
    · -- c2 false
      try simp only [nrm] at c2
      refine W_skip (kq5 _ _ ?_)
      refine W_seq fun kz8 kq8 => ?_
      refine W_region [4] fun R hR => ?_   -- r6
      simp only [go_sem]
      refine hR _ _ (kq8 _ _ ?_); clear hR R; try clear kq8 kz8
      try simp only [go_sem]
      refine W_ret ?_
      simp only [go_sem]
      refine ⟨.inr (by trivial), ?_⟩
      first | refine Fin_same hcl rfl (Wk_eq ?_ (by simp only [go_sem])) | refine Fin_self hcl rfl (Wk_eq ?_ (by simp only [go_sem]))
      try simp only [go_sem]
      all_goals
        congr 1; simp only [nb]; (repeat' split) <;> omega
  · -- c1 false
    try simp only [nrm] at c1
    refine W_skip (kq3 _ _ ?_)
    refine W_seq fun kz9 kq9 => ?_
    refine W_seq fun kz10 kq10 => ?_
    refine W_region [5, 14] fun R hR => ?_   -- r4
    simp only [go_sem]
    try simp (disch := omega) only [wrapI, wrapU]
    refine hR _ _ (kq10 _ _ ?_); clear hR R; try clear kq10 kz10
    try simp only [go_sem]
    refine W_cond rfl (fun c3 => ?_) (fun c3 => ?_)
    · -- c3 true
      try simp only [nrm] at c3
      refine W_region [5] fun R hR => ?_   -- r5
      simp only [go_sem]
      try simp (disch := omega) only [wrapI, wrapU]
      refine hR _ _ (kq9 _ _ ?_); clear hR R; try clear kq9 kz9
      try simp only [go_sem]
      refine W_seq fun kz11 kq11 => ?_
      refine W_region [4] fun R hR => ?_   -- r6
      simp only [go_sem]
      refine hR _ _ (kq11 _ _ ?_); clear hR R; try clear kq11 kz11
      try simp only [go_sem]
      refine W_ret ?_
      simp only [go_sem]
      refine ⟨.inr (by trivial), ?_⟩
      first | refine Fin_same hcl rfl (Wk_eq ?_ (by simp only [go_sem])) | refine Fin_self hcl rfl (Wk_eq ?_ (by simp only [go_sem]))
      try simp only [go_sem]
      all_goals
        congr 1; simp only [nb]; (repeat' split) <;> omega
    · -- c3 false
      try simp only [nrm] at c3
      refine W_skip (kq9 _ _ ?_)
      refine W_seq fun kz12 kq12 => ?_
      refine W_region [4] fun R hR => ?_   -- r6
      simp only [go_sem]
      refine hR _ _ (kq12 _ _ ?_); clear hR R; try clear kq12 kz12
      try simp only [go_sem]
      refine W_ret ?_
      simp only [go_sem]
      refine ⟨.inr (by trivial), ?_⟩
      first | refine Fin_same hcl rfl (Wk_eq ?_ (by simp only [go_sem])) | refine Fin_self hcl rfl (Wk_eq ?_ (by simp only [go_sem]))
      try simp only [go_sem]
      all_goals
        congr 1; simp only [nb]; (repeat' split) <;> omega
set_option maxHeartbeats 16000000 in
theorem Move_pc (Y : YEnv) (σ : Sg) (ls : List (List Int)) (n : Int) (hl : ls.length < 2 ^ 40) (hx8 : ∀ x, x ∈ ls → x.length < 2 ^ 40) :
    PC Try.prog Y 34 [lls ls, I n] σ (.tuple [lls (moveA ls n).1, I (moveA ls n).2]) (σ) := by
  refine PC_of_W Try.func34 rfl (by kernel_rfl) Try.ntmps34 (by simp) fun hcl hca => ?_
  obtain ⟨res, hres⟩ : ∃ r, moveA ls n = r := ⟨_, rfl⟩
  rw [hres]
  refine W_seq fun kz1 kq1 => ?_
  refine W_region [0, 1] fun R hR => ?_   -- r0
  simp only [go_sem, llPV]
  refine hR _ _ (kq1 _ _ ?_); clear hR R; try clear kq1 kz1
  try simp only [go_sem, llPV]
  refine W_seq fun kz2 kq2 => ?_
  refine W_block ?_
  refine W_seq fun kz3 kq3 => ?_
  refine W_region [0, 1, 18] fun R hR => ?_   -- r1
  simp only [go_sem, llPV]
  refine hR _ _ (kq3 _ _ ?_); clear hR R; try clear kq3 kz3
  try simp only [go_sem, llPV]
  refine W_cond rfl (fun c1 => ?_) (fun c1 => ?_)
  · -- c1 true
    try simp only [nrm] at c1
    refine W_seq fun kz4 kq4 => ?_
    refine W_region [4, 5] fun R hR => ?_   -- r2
    simp only [go_sem, llPV]
    refine hR _ _ (kq4 _ _ ?_); clear hR R; try clear kq4 kz4
    try simp only [go_sem, llPV]
    refine W_ret ?_
    simp only [go_sem, llPV]
    refine ⟨.inr (by trivial), ?_⟩
    first | refine Fin_same hcl rfl (Wk.ro (by simp only [go_sem]) ?_) | refine Fin_self hcl rfl (Wk.ro (by simp only [go_sem]) ?_)
    try simp only [go_sem]
    all_goals
      rw [← hres]; clear hres; simp [moveA, *]
  · -- c1 false
    try simp only [nrm] at c1
    refine W_seq fun kz5 kq5 => ?_
    refine W_region [0, 1, 22] fun R hR => ?_   -- r3
    simp only [go_sem, llPV]
    refine GCall_of (in_pc Y _ n 0 8) ?_   -- t24
    simp only [go_sem, llPV]
    refine hR _ _ (kq5 _ _ ?_); clear hR R; try clear kq5 kz5
    try simp only [go_sem, llPV]
    refine W_cond rfl (fun c2 => ?_) (fun c2 => ?_)
    · -- c2 true
      try simp only [nrm] at c2
      refine W_seq fun kz6 kq6 => ?_
      refine W_region [4, 5] fun R hR => ?_   -- r4
      simp only [go_sem, llPV]
      refine hR _ _ (kq6 _ _ ?_); clear hR R; try clear kq6 kz6
      try simp only [go_sem, llPV]
      refine W_ret ?_
      simp only [go_sem, llPV]
      refine ⟨.inr (by trivial), ?_⟩
      first | refine Fin_same hcl rfl (Wk.ro (by simp only [go_sem]) ?_) | refine Fin_self hcl rfl (Wk.ro (by simp only [go_sem]) ?_)
      try simp only [go_sem]
      all_goals
        rw [← hres]; clear hres; simp [moveA, *]
    · -- c2 false
      try simp only [nrm] at c2
      have hin : inR n 0 8 = true := by simpa using c2
      have hin2 := hin
      simp only [inR_true] at hin2
      refine W_skip (kq2 _ _ ?_)
      refine W_seq fun kz7 kq7 => ?_
      refine W_region [0, 1, 6] fun R hR => ?_   -- r5
      simp only [go_sem, llPV]
      refine hR _ _ (kq7 _ _ ?_); clear hR R; try clear kq7 kz7
      try simp only [go_sem, llPV]
      refine W_seq fun kz8 kq8 => ?_
      refine W_seq fun kz9 kq9 => ?_
      refine W_region [0, 1, 6, 27, 28, 29] fun R hR => ?_   -- r6
      simp only [go_sem, llPV]
      refine hR _ _ (kq9 _ _ ?_); clear hR R; try clear kq9 kz9
      try simp only [go_sem, llPV]
      refine W_block ?_
      refine W_loopT (α := Nat × (List Int)) (fun ⟨i, met⟩ => [(29, I i)]) (fun ⟨i, met⟩ => σ.ext [some (.mark :: mapE I PV.bool (metM met))] []) (fun ⟨i, met⟩ => i ≤ ls.length ∧ chkL ls.length n 0 [] ls = chkL ls.length n i met (ls.drop i)) (fun ⟨i, met⟩ => ls.length - i) ((0, [])) rfl (by first | rfl | (simp only [go_sem]; done) | (simp only [go_sem]; rfl)) (⟨Nat.zero_le _, rfl⟩) ?_
      rintro ⟨i, met⟩ ⟨hi, hinv⟩
      refine W_seq fun kz10 kq10 => ?_
      refine W_region [0, 1, 6, 27, 28, 29, 30] fun R hR => ?_   -- r7
      simp only [go_sem, llPV]
      refine hR _ _ (kq10 _ _ ?_); clear hR R; try clear kq10 kz10
      try simp only [go_sem, llPV]
      refine W_seq fun kz11 kq11 => ?_
      refine W_cond rfl (fun c3 => ?_) (fun c3 => ?_)
      · -- c3 true
        try simp only [nrm] at c3
        have hi' : i < ls.length := by first | assumption | omega
        obtain ⟨l, hx⟩ : ∃ l, ls[i]? = some l := ⟨ls[i], by simp [hi']⟩
        have hdrop : ls.drop i = l :: ls.drop (i + 1) := by
          rw [List.drop_eq_getElem_cons hi']; congr 1; exact (List.getElem?_eq_some_iff.1 hx).2
        rw [hdrop] at hinv
        simp only [chkL] at hinv
        have hl40 := hx8 l (List.mem_of_getElem? hx)
        have hnb := nb_bd ls.length i
        have hm1 : 0 ≤ n * nb ls.length i := Int.mul_nonneg hin2.1 hnb.1
        have hm2 : n * nb ls.length i ≤ 8 * nb ls.length i := Int.mul_le_mul_of_nonneg_right hin2.2 hnb.1
        refine W_skip (kq11 _ _ ?_)
        refine W_seq fun kz12 kq12 => ?_
        refine W_block ?_
        refine W_seq fun kz13 kq13 => ?_
        refine W_region [0, 1, 6, 7, 8, 27, 28, 29] fun R hR => ?_   -- r8
        simp only [go_sem, llPV, hx]
        refine hR _ _ (kq13 _ _ ?_); clear hR R; try clear kq13 kz13
        try simp only [go_sem, llPV, hx]
        refine W_seq fun kz14 kq14 => ?_
        refine W_seq fun kz15 kq15 => ?_
        refine W_region [0, 1, 6, 7, 8, 27, 28, 29, 36] fun R hR => ?_   -- r9
        simp only [go_sem, llPV, hx]
        refine hR _ _ (kq15 _ _ ?_); clear hR R; try clear kq15 kz15
        try simp only [go_sem, llPV, hx]
        refine W_cond rfl (fun c4 => ?_) (fun c4 => ?_)
        · -- c4 true
          try simp only [nrm] at c4
          refine W_seq fun kz16 kq16 => ?_
          refine W_region [4, 5] fun R hR => ?_   -- r10
          simp only [go_sem, llPV, hx]
          refine hR _ _ (kq16 _ _ ?_); clear hR R; try clear kq16 kz16
          try simp only [go_sem, llPV, hx]
          refine W_ret ?_
          simp only [go_sem, llPV, hx]
          refine ⟨.inr (by trivial), ?_⟩
          first | refine Fin_same hcl rfl (Wk.ro (by simp only [go_sem]) ?_) | refine Fin_self hcl rfl (Wk.ro (by simp only [go_sem]) ?_)
          try simp only [go_sem]
          all_goals
            rw [← hres]; clear hres; simp [moveA, *]
        · -- c4 false
          try simp only [nrm] at c4
          refine W_skip (kq14 _ _ ?_)
          refine W_seq fun kz17 kq17 => ?_
          refine W_seq fun kz18 kq18 => ?_
          refine W_region [0, 1, 6, 7, 8, 27, 28, 29, 37, 38, 39] fun R hR => ?_   -- r11
          simp only [go_sem, llPV, hx]
          refine hR _ _ (kq18 _ _ ?_); clear hR R; try clear kq18 kz18
          try simp only [go_sem, llPV, hx]
          refine W_block ?_
          refine W_loopT (α := Nat × (List Int)) (fun ⟨j, met2⟩ => [(39, I j)]) (fun ⟨j, met2⟩ => σ.ext [some (.mark :: mapE I PV.bool (metM met2))] []) (fun ⟨j, met2⟩ => j ≤ l.length ∧ met2 = met ++ l.take j ∧ dupL met l = dupL met2 (l.drop j)) (fun ⟨j, met2⟩ => l.length - j) ((0, met)) rfl (by first | rfl | (simp only [go_sem]; done) | (simp only [go_sem]; rfl)) (⟨Nat.zero_le _, by simp, rfl⟩) ?_
          rintro ⟨j, met2⟩ ⟨hj, hmet, hdup⟩
          refine W_seq fun kz19 kq19 => ?_
          refine W_region [0, 1, 6, 7, 8, 27, 28, 29, 37, 38, 39, 40] fun R hR => ?_   -- r12
          simp only [go_sem, llPV, hx, metM_snoc]
          refine hR _ _ (kq19 _ _ ?_); clear hR R; try clear kq19 kz19
          try simp only [go_sem, llPV, hx, metM_snoc]
          refine W_seq fun kz20 kq20 => ?_
          refine W_cond rfl (fun c5 => ?_) (fun c5 => ?_)
          · -- c5 true
            try simp only [nrm] at c5
            have hj' : j < l.length := by first | assumption | omega
            obtain ⟨x, hx2⟩ : ∃ x, l[j]? = some x := ⟨l[j], by simp [hj']⟩
            have hdrop2 : l.drop j = x :: l.drop (j + 1) := by
              rw [List.drop_eq_getElem_cons hj']; congr 1; exact (List.getElem?_eq_some_iff.1 hx2).2
            rw [hdrop2] at hdup
            simp only [dupL] at hdup
            refine W_skip (kq20 _ _ ?_)
            refine W_seq fun kz21 kq21 => ?_
            refine W_block ?_
            refine W_seq fun kz22 kq22 => ?_
            refine W_region [0, 1, 6, 7, 8, 10, 27, 28, 29, 37, 38, 39] fun R hR => ?_   -- r13
            simp only [go_sem, llPV, hx, metM_snoc, hx2, metM_has]
            refine hR _ _ (kq22 _ _ ?_); clear hR R; try clear kq22 kz22
            try simp only [go_sem, llPV, hx, metM_snoc, hx2, metM_has]
            refine W_seq fun kz23 kq23 => ?_
            refine W_seq fun kz24 kq24 => ?_
            refine W_region [0, 1, 6, 7, 8, 10, 27, 28, 29, 37, 38, 39, 45] fun R hR => ?_   -- r14
            simp only [go_sem, llPV, hx, metM_snoc, hx2, metM_has]
            refine hR _ _ (kq24 _ _ ?_); clear hR R; try clear kq24 kz24
            try simp only [go_sem, llPV, hx, metM_snoc, hx2, metM_has]
            refine W_cond rfl (fun c6 => ?_) (fun c6 => ?_)
            · -- c6 true
              try simp only [nrm] at c6
              refine W_seq fun kz25 kq25 => ?_
              refine W_region [4, 5] fun R hR => ?_   -- r15
              simp only [go_sem, llPV, hx, metM_snoc, hx2, metM_has]
              refine hR _ _ (kq25 _ _ ?_); clear hR R; try clear kq25 kz25
              try simp only [go_sem, llPV, hx, metM_snoc, hx2, metM_has]
              refine W_ret ?_
              simp only [go_sem, llPV, hx, metM_snoc, hx2, metM_has]
              refine ⟨.inr (by trivial), ?_⟩
              first | refine Fin_same hcl rfl (Wk.ro (by simp only [go_sem]) ?_) | refine Fin_self hcl rfl (Wk.ro (by simp only [go_sem]) ?_)
              try simp only [go_sem]
              all_goals
                have hd : dupL met l = true := by rw [hdup, c6]; rfl
                rw [← hres]; simp [moveA, c1, hin, hinv, hd, c4]
            · -- c6 false
              try simp only [nrm] at c6
              refine W_skip (kq23 _ _ ?_)
              refine W_region [0, 1, 6, 7, 8, 27, 28, 29, 37, 38, 39] fun R hR => ?_   -- r16
              simp only [go_sem, llPV, hx, metM_snoc, hx2, metM_has]
              refine hR _ _ (kq21 _ _ ?_); clear hR R; try clear kq21 kz21
              try simp only [go_sem, llPV, hx, metM_snoc, hx2, metM_has]
              refine W_region [0, 1, 6, 7, 8, 27, 28, 29, 37, 38, 39] fun R hR => ?_   -- r17
              simp only [go_sem, llPV, hx, metM_snoc, hx2, metM_has]
              try simp (disch := omega) only [wrapI, wrapU]
              refine hR _ _ ?_; clear hR R
              try simp only [go_sem, llPV, hx, metM_snoc, hx2, metM_has]
              refine ⟨(j + 1, met2 ++ [x]), ?_, by (try simp only []); omega, ?_⟩
              · first | exact Weak.refl | exact Weak.eq (by first | rfl | (simp only [go_sem]; done) | (simp only [go_sem]; rfl) | (simp [go_sem]; done) | (simp [go_sem]; omega)) (by first | rfl | (simp only [go_sem]; done) | (simp [go_sem]; done))
              · try dsimp only
                refine ⟨hj', ?_, ?_⟩
                · rw [hmet, List.take_add_one, hx2, ← List.append_assoc]; rfl
                · rw [hdup, c6]; rfl
          · -- c5 false
            try simp only [nrm] at c5
            have hdrop2 : l.drop j = [] := List.drop_eq_nil_of_le (by omega)
            rw [hdrop2] at hdup
            simp only [dupL] at hdup
            have hje : l.length = j := by first | omega | (simp at c5; omega)
            have hmetl : met2 = met ++ l := by rw [hmet, ← hje, List.take_length]
            refine W_exit ?_
            simp only [go_sem, llPV, hx, metM_snoc]
            refine kq17 _ _ ?_
            refine W_seq fun kz26 kq26 => ?_
            refine W_region [0, 1, 6, 27, 28, 29, 56] fun R hR => ?_   -- r18
            simp only [go_sem, llPV, hx, metM_snoc]
            refine GCall_of (neighb_pc Y _ ls i hl (by omega)) ?_   -- t54
            simp only [go_sem, llPV, hx, metM_snoc]
            try simp (disch := omega) only [wrapI, wrapU]
            refine hR _ _ (kq26 _ _ ?_); clear hR R; try clear kq26 kz26
            try simp only [go_sem, llPV, hx, metM_snoc]
            refine W_cond rfl (fun c7 => ?_) (fun c7 => ?_)
            · -- c7 true
              try simp only [nrm] at c7
              refine W_seq fun kz27 kq27 => ?_
              refine W_region [4, 5] fun R hR => ?_   -- r19
              simp only [go_sem, llPV, hx, metM_snoc]
              refine hR _ _ (kq27 _ _ ?_); clear hR R; try clear kq27 kz27
              try simp only [go_sem, llPV, hx, metM_snoc]
              refine W_ret ?_
              simp only [go_sem, llPV, hx, metM_snoc]
              refine ⟨.inr (by trivial), ?_⟩
              first | refine Fin_same hcl rfl (Wk.ro (by simp only [go_sem]) ?_) | refine Fin_self hcl rfl (Wk.ro (by simp only [go_sem]) ?_)
              try simp only [go_sem]
              all_goals
                rw [← hres]; simp [moveA, c1, hin, hinv, hdup, c4, c7]
            · -- c7 false
              try simp only [nrm] at c7
              refine W_skip (kq12 _ _ ?_)
              refine W_region [0, 1, 6, 27, 28, 29] fun R hR => ?_   -- r20
              simp only [go_sem, llPV, hx, metM_snoc]
              try simp (disch := omega) only [wrapI, wrapU]
              refine hR _ _ ?_; clear hR R
              try simp only [go_sem, llPV, hx, metM_snoc]
              refine ⟨(i + 1, met2), ?_, by (try simp only []); omega, ?_⟩
              · first | exact Weak.refl | exact Weak.eq (by first | rfl | (simp only [go_sem]; done) | (simp only [go_sem]; rfl) | (simp [go_sem]; done) | (simp [go_sem]; omega)) (by first | rfl | (simp only [go_sem]; done) | (simp [go_sem]; done))
              · try dsimp only
                refine ⟨hi', ?_⟩
                rw [hinv, if_neg (by omega), if_neg (by rw [hdup]; simp), if_neg (by omega), hmetl]
      · -- c3 false
        try simp only [nrm] at c3
        have hdrop : ls.drop i = [] := List.drop_eq_nil_of_le (by omega)
        rw [hdrop] at hinv
        simp only [chkL] at hinv
        refine W_exit ?_
        simp only [go_sem, llPV]
        refine kq8 _ _ ?_
        refine W_seq fun kz28 kq28 => ?_
        refine W_region [0, 1, 11] fun R hR => ?_   -- r21
        simp only [go_sem, llPV]
        refine hR _ _ (kq28 _ _ ?_); clear hR R; try clear kq28 kz28
        try simp only [go_sem, llPV]
        refine W_seq fun kz29 kq29 => ?_
        refine W_seq fun kz30 kq30 => ?_
        refine W_region [0, 1, 11, 58, 59, 60] fun R hR => ?_   -- r22
        simp only [go_sem, llPV]
        refine hR _ _ (kq30 _ _ ?_); clear hR R; try clear kq30 kz30
        try simp only [go_sem, llPV]
        refine W_block ?_
        have hok0 := chkL_ok hinv
        obtain ⟨N, hN⟩ : ∃ z : Nat, n = z := ⟨n.toNat, by omega⟩
        subst hN
        have hok : ∀ (j : Nat) (x : List Int), ls[j]? = some x → (x.length : Int) ≤ 8 ∧ (N : Int) * nb ls.length j ≤ x.length := fun j x hx => by have := hok0 j x hx; rw [Nat.zero_add] at this; exact this
        have hz : ∀ k : Nat, ((0 : Int) ≤ (k : Int)) = True := fun k => by simp
        refine W_weak (Weak.room (t := 11) (es := 1) rfl (by simp)) ?_
        refine W_weak (Weak.keep [0, 1, 11, 58, 59, 60]) ?_
        simp only [go_sem, llPV]
        refine W_loopT (α := Nat) (fun (i : Nat) => [(11, .isl ((nextA ls N i).map llPV) (.tok σ.rooms.length i 1)), (60, I i)]) (fun (i : Nat) => σ.ext [some (.mark :: mapE I PV.bool (metM met))] [i]) (fun (i : Nat) => i ≤ ls.length) (fun (i : Nat) => ls.length - i) (0) rfl (by first | rfl | (simp only [go_sem]; done) | (simp only [go_sem]; rfl)) (Nat.zero_le _) ?_
        rintro i hi
        refine W_seq fun kz31 kq31 => ?_
        refine W_region [0, 1, 11, 58, 59, 60, 61] fun R hR => ?_   -- r23
        simp only [go_sem, llPV, hz, Int.toNat_natCast, Int.toNat_zero, List.drop_zero, Nat.sub_zero, nextA_len, Int.le_refl, Nat.le_refl, Nat.zero_le]
        refine hR _ _ (kq31 _ _ ?_); clear hR R; try clear kq31 kz31
        try simp only [go_sem, llPV, hz, Int.toNat_natCast, Int.toNat_zero, List.drop_zero, Nat.sub_zero, nextA_len, Int.le_refl, Nat.le_refl, Nat.zero_le]
        refine W_seq fun kz32 kq32 => ?_
        refine W_cond rfl (fun c8 => ?_) (fun c8 => ?_)
        · -- c8 true
          try simp only [nrm] at c8
          have hi' : i < ls.length := by first | assumption | omega
          obtain ⟨l, hx⟩ : ∃ l, ls[i]? = some l := ⟨ls[i], by simp [hi']⟩
          have hdrop : ls.drop i = l :: ls.drop (i + 1) := by
            rw [List.drop_eq_getElem_cons hi']; congr 1; exact (List.getElem?_eq_some_iff.1 hx).2
          have hnl := nextA_len ls N i
          refine W_skip (kq32 _ _ ?_)
          refine W_seq fun kz33 kq33 => ?_
          refine W_block ?_
          refine W_seq fun kz34 kq34 => ?_
          refine W_region [0, 1, 11, 12, 13, 58, 59, 60] fun R hR => ?_   -- r24
          simp only [go_sem, llPV, hz, Int.toNat_natCast, Int.toNat_zero, List.drop_zero, Nat.sub_zero, nextA_len, Int.le_refl, Nat.le_refl, Nat.zero_le, hx]
          refine hR _ _ (kq34 _ _ ?_); clear hR R; try clear kq34 kz34
          try simp only [go_sem, llPV, hz, Int.toNat_natCast, Int.toNat_zero, List.drop_zero, Nat.sub_zero, nextA_len, Int.le_refl, Nat.le_refl, Nat.zero_le, hx]
          refine W_seq fun kz35 kq35 => ?_
          refine W_region [0, 1, 11, 12, 13, 14, 58, 59, 60] fun R hR => ?_   -- r25
          simp only [go_sem, llPV, hz, Int.toNat_natCast, Int.toNat_zero, List.drop_zero, Nat.sub_zero, nextA_len, Int.le_refl, Nat.le_refl, Nat.zero_le, hx]
          refine hR _ _ (kq35 _ _ ?_); clear hR R; try clear kq35 kz35
          try simp only [go_sem, llPV, hz, Int.toNat_natCast, Int.toNat_zero, List.drop_zero, Nat.sub_zero, nextA_len, Int.le_refl, Nat.le_refl, Nat.zero_le, hx]
          refine W_seq fun kz36 kq36 => ?_
          refine W_region [0, 1, 11, 12, 13, 14, 15, 16, 58, 59, 60] fun R hR => ?_   -- r26
          simp only [go_sem, llPV, hz, Int.toNat_natCast, Int.toNat_zero, List.drop_zero, Nat.sub_zero, nextA_len, Int.le_refl, Nat.le_refl, Nat.zero_le, hx]
          refine hR _ _ (kq36 _ _ ?_); clear hR R; try clear kq36 kz36
          try simp only [go_sem, llPV, hz, Int.toNat_natCast, Int.toNat_zero, List.drop_zero, Nat.sub_zero, nextA_len, Int.le_refl, Nat.le_refl, Nat.zero_le, hx]
          refine W_seq fun kz37 kq37 => ?_
          refine W_seq fun kz38 kq38 => ?_
          refine W_weak (Weak.room (t := 14) (es := 1) rfl (by simp)) ?_
          refine W_weak (Weak.keep [0, 1, 11, 12, 13, 14, 15, 16, 58, 59, 60]) ?_
          simp only [go_sem]
          refine W_region [0, 1, 11, 12, 13, 14, 15, 16, 58, 59, 60, 68] fun R hR => ?_   -- r27
          simp only [go_sem, llPV, hz, Int.toNat_natCast, Int.toNat_zero, List.drop_zero, Nat.sub_zero, nextA_len, Int.le_refl, Nat.le_refl, Nat.zero_le, hx]
          refine hR _ _ (kq38 _ _ ?_); clear hR R; try clear kq38 kz38
          try simp only [go_sem, llPV, hz, Int.toNat_natCast, Int.toNat_zero, List.drop_zero, Nat.sub_zero, nextA_len, Int.le_refl, Nat.le_refl, Nat.zero_le, hx]
          refine W_cond rfl (fun c9 => ?_) (fun c9 => ?_)
          · -- c9 true
            try simp only [nrm] at c9
            have hi0 : 0 < i := by first | omega | (simp at c9; omega)
            obtain ⟨ab, hab⟩ : ∃ z, ls[i - 1]? = some z := ⟨ls[i - 1]'(by omega), by simp⟩
            have hab8 := (hok (i - 1) ab hab).1
            have hNa : N ≤ ab.length := by have := (nb_lo (by omega) (hok (i - 1) ab hab).2).2.1 (by omega); omega
            have hw1 : IntKind.i64.wrap ((i : Int) - 1) = ((i - 1 : Nat) : Int) := by rw [wrapI (by omega) (by omega)]; omega
            have hw2 : IntKind.i64.wrap ((ab.length : Int) - (N : Int)) = ((ab.length - N : Nat) : Int) := by rw [wrapI (by omega) (by omega)]; omega
            have hle : ab.length - N ≤ ab.length := by omega
            have hpla : (ab.drop (ab.length - N)).length ≤ 8 := by simp only [List.length_drop] <;> omega
            refine W_seq fun kz39 kq39 => ?_
            refine W_region [0, 1, 11, 12, 13, 14, 16, 17, 58, 59, 60] fun R hR => ?_   -- r28
            simp only [go_sem, llPV, hz, Int.toNat_natCast, Int.toNat_zero, List.drop_zero, Nat.sub_zero, nextA_len, Int.le_refl, Nat.le_refl, Nat.zero_le, hx, hab, hw1, hw2, hle]
            try simp (disch := omega) only [wrapI, wrapU]
            refine hR _ _ (kq39 _ _ ?_); clear hR R; try clear kq39 kz39
            try simp only [go_sem, llPV, hz, Int.toNat_natCast, Int.toNat_zero, List.drop_zero, Nat.sub_zero, nextA_len, Int.le_refl, Nat.le_refl, Nat.zero_le, hx, hab, hw1, hw2, hle]
            refine W_region [0, 1, 11, 12, 13, 14, 15, 16, 58, 59, 60] fun R hR => ?_   -- r29
            simp only [go_sem, llPV, hz, Int.toNat_natCast, Int.toNat_zero, List.drop_zero, Nat.sub_zero, nextA_len, Int.le_refl, Nat.le_refl, Nat.zero_le, hx, hab, hw1, hw2, hle]
            try simp (disch := first | omega | (simp only [go_sem] <;> omega)) only [wrapI, wrapU, appX_exact, appX_tok]
            try simp only [go_sem, llPV, hz, Int.toNat_natCast, Int.toNat_zero, List.drop_zero, Nat.sub_zero, nextA_len, Int.le_refl, Nat.le_refl, Nat.zero_le, hx, hab, hw1, hw2, hle]
            refine hR _ _ (kq37 _ _ ?_); clear hR R; try clear kq37 kz37
            try simp only [go_sem, llPV, hz, Int.toNat_natCast, Int.toNat_zero, List.drop_zero, Nat.sub_zero, nextA_len, Int.le_refl, Nat.le_refl, Nat.zero_le, hx, hab, hw1, hw2, hle]
            refine W_seq fun kz40 kq40 => ?_
            refine W_seq fun kz41 kq41 => ?_
            refine W_region [0, 1, 11, 12, 13, 14, 15, 16, 58, 59, 60, 87] fun R hR => ?_   -- r30
            simp only [go_sem, llPV, hz, Int.toNat_natCast, Int.toNat_zero, List.drop_zero, Nat.sub_zero, nextA_len, Int.le_refl, Nat.le_refl, Nat.zero_le, hx, hab, hw1, hw2, hle]
            try simp (disch := omega) only [wrapI, wrapU]
            refine hR _ _ (kq41 _ _ ?_); clear hR R; try clear kq41 kz41
            try simp only [go_sem, llPV, hz, Int.toNat_natCast, Int.toNat_zero, List.drop_zero, Nat.sub_zero, nextA_len, Int.le_refl, Nat.le_refl, Nat.zero_le, hx, hab, hw1, hw2, hle]
            refine W_cond rfl (fun c10 => ?_) (fun c10 => ?_)
            · -- c10 true
              try simp only [nrm] at c10
              have hok3 := nb_lo (by omega) (hok i l hx).2
              have hl8 := (hok i l hx).1
              have hi1 : i + 1 < ls.length := by first | omega | (simp at c10; omega)
              have hNl : N ≤ l.length := by have := hok3.2.1 hi1; omega
              obtain ⟨be, hbe⟩ : ∃ z, ls[i + 1]? = some z := ⟨ls[i + 1]'hi1, by simp⟩
              have hbe8 := (hok (i + 1) be hbe).1
              have hNb : N ≤ be.length := by have := (nb_lo (by omega) (hok (i + 1) be hbe).2).1 (by omega); omega
              have hw3 : IntKind.i64.wrap ((l.length : Int) - (N : Int)) = ((l.length - N : Nat) : Int) := by rw [wrapI (by omega) (by omega)]; omega
              have hw4 : IntKind.i64.wrap ((i : Int) + 1) = ((i + 1 : Nat) : Int) := by rw [wrapI (by omega) (by omega)]; omega
              have hr1 : l.length - N ≤ l.length := by omega
              have hNN : 2 * N ≤ l.length := by have := hok3.2.2 hi0 hi1; omega
              have hpl0 : ((ab.drop (ab.length - N))).length ≤ 8 := by simp only [List.length_drop, List.length_take] <;> omega
              have hpl1 : (((l.drop N).take (l.length - N - N))).length ≤ 8 := by simp only [List.length_drop, List.length_take] <;> omega
              have hpl2 : ((be.take N)).length ≤ 8 := by simp only [List.length_drop, List.length_take] <;> omega
              have hr2 : N ≤ l.length - N := by omega
              have hfold : (ab.drop (ab.length - N)).map I ++ ((l.drop N).take (l.length - N - N)).map I ++ (be.take N).map I = (nextL ls N i).map I := by
                simp only [nextL, lgAt, hx, hab, hbe, Option.getD_some, hi0, hi1, if_true, if_false]
                simp
              refine W_region [0, 1, 11, 12, 13, 14, 15, 16, 58, 59, 60] fun R hR => ?_   -- r31
              simp only [go_sem, llPV, hz, Int.toNat_natCast, Int.toNat_zero, List.drop_zero, Nat.sub_zero, nextA_len, Int.le_refl, Nat.le_refl, Nat.zero_le, hx, hab, hw1, hw2, hle, hr1, hr2, hbe, hw3, hw4, hNb]
              try simp (disch := omega) only [wrapI, wrapU]
              refine hR _ _ (kq40 _ _ ?_); clear hR R; try clear kq40 kz40
              try simp only [go_sem, llPV, hz, Int.toNat_natCast, Int.toNat_zero, List.drop_zero, Nat.sub_zero, nextA_len, Int.le_refl, Nat.le_refl, Nat.zero_le, hx, hab, hw1, hw2, hle, hr1, hr2, hbe, hw3, hw4, hNb]
              refine W_seq fun kz42 kq42 => ?_
              refine W_region [0, 1, 11, 12, 14, 58, 59, 60] fun R hR => ?_   -- r32
              simp only [go_sem, llPV, hz, Int.toNat_natCast, Int.toNat_zero, List.drop_zero, Nat.sub_zero, nextA_len, Int.le_refl, Nat.le_refl, Nat.zero_le, hx, hab, hw1, hw2, hle, hr1, hr2, hbe, hw3, hw4, hNb]
              try simp (disch := first | omega | (simp only [go_sem] <;> omega)) only [wrapI, wrapU, appX_exact, appX_tok]
              try simp only [go_sem, llPV, hz, Int.toNat_natCast, Int.toNat_zero, List.drop_zero, Nat.sub_zero, nextA_len, Int.le_refl, Nat.le_refl, Nat.zero_le, hx, hab, hw1, hw2, hle, hr1, hr2, hbe, hw3, hw4, hNb]
              refine hR _ _ (kq42 _ _ ?_); clear hR R; try clear kq42 kz42
              try simp only [go_sem, llPV, hz, Int.toNat_natCast, Int.toNat_zero, List.drop_zero, Nat.sub_zero, nextA_len, Int.le_refl, Nat.le_refl, Nat.zero_le, hx, hab, hw1, hw2, hle, hr1, hr2, hbe, hw3, hw4, hNb]
              refine W_seq fun kz43 kq43 => ?_
              refine W_seq fun kz44 kq44 => ?_
              refine W_region [0, 1, 11, 12, 14, 58, 59, 60, 101] fun R hR => ?_   -- r33
              simp only [go_sem, llPV, hz, Int.toNat_natCast, Int.toNat_zero, List.drop_zero, Nat.sub_zero, nextA_len, Int.le_refl, Nat.le_refl, Nat.zero_le, hx, hab, hw1, hw2, hle, hr1, hr2, hbe, hw3, hw4, hNb]
              try simp (disch := omega) only [wrapI, wrapU]
              refine hR _ _ (kq44 _ _ ?_); clear hR R; try clear kq44 kz44
              try simp only [go_sem, llPV, hz, Int.toNat_natCast, Int.toNat_zero, List.drop_zero, Nat.sub_zero, nextA_len, Int.le_refl, Nat.le_refl, Nat.zero_le, hx, hab, hw1, hw2, hle, hr1, hr2, hbe, hw3, hw4, hNb]
              refine W_cond rfl (fun c11 => ?_) (fun c11 => ?_)
              · -- c11 true
                try simp only [nrm] at c11
                refine W_region [0, 1, 11, 14, 58, 59, 60] fun R hR => ?_   -- r34
                simp only [go_sem, llPV, hz, Int.toNat_natCast, Int.toNat_zero, List.drop_zero, Nat.sub_zero, nextA_len, Int.le_refl, Nat.le_refl, Nat.zero_le, hx, hab, hw1, hw2, hle, hr1, hr2, hbe, hw3, hw4, hNb, ← List.map_take]
                try simp (disch := first | omega | (simp only [go_sem] <;> omega)) only [wrapI, wrapU, appX_exact, appX_tok]
                try simp only [go_sem, llPV, hz, Int.toNat_natCast, Int.toNat_zero, List.drop_zero, Nat.sub_zero, nextA_len, Int.le_refl, Nat.le_refl, Nat.zero_le, hx, hab, hw1, hw2, hle, hr1, hr2, hbe, hw3, hw4, hNb, ← List.map_take]
                refine hR _ _ (kq43 _ _ ?_); clear hR R; try clear kq43 kz43
                try simp only [go_sem, llPV, hz, Int.toNat_natCast, Int.toNat_zero, List.drop_zero, Nat.sub_zero, nextA_len, Int.le_refl, Nat.le_refl, Nat.zero_le, hx, hab, hw1, hw2, hle, hr1, hr2, hbe, hw3, hw4, hNb]
                try simp only [List.append_assoc] at hfold ⊢
                simp only [hfold]
                refine W_weak (Weak.ro 14) ?_
                refine W_weak (Weak.keep [0, 1, 11, 14, 58, 59, 60]) ?_
                simp only [go_sem]
                refine W_region [0, 1, 11, 58, 59, 60] fun R hR => ?_   -- r35
                simp only [go_sem, llPV, hz, Int.toNat_natCast, Int.toNat_zero, List.drop_zero, Nat.sub_zero, nextA_len, Int.le_refl, Nat.le_refl, Nat.zero_le, hx, hab, hw1, hw2, hle, hr1, hr2, hbe, hw3, hw4, hNb]
                try simp (disch := first | omega | (simp only [go_sem] <;> omega)) only [wrapI, wrapU, appX_exact, appX_tok]
                try simp only [go_sem, llPV, hz, Int.toNat_natCast, Int.toNat_zero, List.drop_zero, Nat.sub_zero, nextA_len, Int.le_refl, Nat.le_refl, Nat.zero_le, hx, hab, hw1, hw2, hle, hr1, hr2, hbe, hw3, hw4, hNb]
                refine hR _ _ (kq33 _ _ ?_); clear hR R; try clear kq33 kz33
                try simp only [go_sem, llPV, hz, Int.toNat_natCast, Int.toNat_zero, List.drop_zero, Nat.sub_zero, nextA_len, Int.le_refl, Nat.le_refl, Nat.zero_le, hx, hab, hw1, hw2, hle, hr1, hr2, hbe, hw3, hw4, hNb]
                refine W_region [0, 1, 11, 58, 59, 60] fun R hR => ?_   -- r36
                simp only [go_sem, llPV, hz, Int.toNat_natCast, Int.toNat_zero, List.drop_zero, Nat.sub_zero, nextA_len, Int.le_refl, Nat.le_refl, Nat.zero_le, hx, hab, hw1, hw2, hle, hr1, hr2, hbe, hw3, hw4, hNb]
                try simp (disch := omega) only [wrapI, wrapU]
                refine hR _ _ ?_; clear hR R
                try simp only [go_sem, llPV, hz, Int.toNat_natCast, Int.toNat_zero, List.drop_zero, Nat.sub_zero, nextA_len, Int.le_refl, Nat.le_refl, Nat.zero_le, hx, hab, hw1, hw2, hle, hr1, hr2, hbe, hw3, hw4, hNb]
                refine ⟨i + 1, ?_, by (try simp only []); omega, ?_⟩
                · refine Weak.trans (Weak.cutX 1 1 (by omega) (by omega) hcl (by simp only [go_sem] <;> omega) (by simp only [go_sem] <;> omega)) ?_
                  simp only [go_sem]
                  refine Weak.eq ?_ ?_
                  · simp only [go_sem, nextA_succ, List.map_append, List.map_cons, List.map_nil, llPV, ints]
                    first | done | rfl
                  · simp only [go_sem]
                · try dsimp only
                  omega
              · -- c11 false
                try simp only [nrm] at c11
                exfalso
                first | omega | (simp at c11; omega)
            · -- c10 false
              try simp only [nrm] at c10
              have hok3 := nb_lo (by omega) (hok i l hx).2
              have hl8 := (hok i l hx).1
              have hi1 : ¬ i + 1 < ls.length := by first | omega | (simp at c10; omega)
              have hr1 : l.length ≤ l.length := Nat.le_refl _
              have hNN : N ≤ l.length := by have := hok3.1 hi0; omega
              have hpl0 : ((ab.drop (ab.length - N))).length ≤ 8 := by simp only [List.length_drop, List.length_take] <;> omega
              have hpl1 : (((l.drop N).take (l.length - N))).length ≤ 8 := by simp only [List.length_drop, List.length_take] <;> omega
              have hr2 : N ≤ l.length := by omega
              have hfold : (ab.drop (ab.length - N)).map I ++ ((l.drop N).take (l.length - N)).map I = (nextL ls N i).map I := by
                simp only [nextL, lgAt, hx, hab, Option.getD_some, hi0, hi1, if_true, if_false]
                simp
              refine W_skip (kq40 _ _ ?_)
              refine W_seq fun kz45 kq45 => ?_
              refine W_region [0, 1, 11, 12, 14, 58, 59, 60] fun R hR => ?_   -- r32
              simp only [go_sem, llPV, hz, Int.toNat_natCast, Int.toNat_zero, List.drop_zero, Nat.sub_zero, nextA_len, Int.le_refl, Nat.le_refl, Nat.zero_le, hx, hab, hw1, hw2, hle, hr1, hr2]
              try simp (disch := first | omega | (simp only [go_sem] <;> omega)) only [wrapI, wrapU, appX_exact, appX_tok]
              try simp only [go_sem, llPV, hz, Int.toNat_natCast, Int.toNat_zero, List.drop_zero, Nat.sub_zero, nextA_len, Int.le_refl, Nat.le_refl, Nat.zero_le, hx, hab, hw1, hw2, hle, hr1, hr2]
              refine hR _ _ (kq45 _ _ ?_); clear hR R; try clear kq45 kz45
              try simp only [go_sem, llPV, hz, Int.toNat_natCast, Int.toNat_zero, List.drop_zero, Nat.sub_zero, nextA_len, Int.le_refl, Nat.le_refl, Nat.zero_le, hx, hab, hw1, hw2, hle, hr1, hr2]
              refine W_seq fun kz46 kq46 => ?_
              refine W_seq fun kz47 kq47 => ?_
              refine W_region [0, 1, 11, 12, 14, 58, 59, 60, 101] fun R hR => ?_   -- r33
              simp only [go_sem, llPV, hz, Int.toNat_natCast, Int.toNat_zero, List.drop_zero, Nat.sub_zero, nextA_len, Int.le_refl, Nat.le_refl, Nat.zero_le, hx, hab, hw1, hw2, hle, hr1, hr2]
              try simp (disch := omega) only [wrapI, wrapU]
              refine hR _ _ (kq47 _ _ ?_); clear hR R; try clear kq47 kz47
              try simp only [go_sem, llPV, hz, Int.toNat_natCast, Int.toNat_zero, List.drop_zero, Nat.sub_zero, nextA_len, Int.le_refl, Nat.le_refl, Nat.zero_le, hx, hab, hw1, hw2, hle, hr1, hr2]
              refine W_cond rfl (fun c12 => ?_) (fun c12 => ?_)
              · -- c12 true
                try simp only [nrm] at c12
                exfalso
                first | omega | (simp at c12; omega)
              · -- c12 false
                try simp only [nrm] at c12
                refine W_skip (kq46 _ _ ?_)
                try simp only [List.append_assoc] at hfold ⊢
                simp only [hfold]
                refine W_weak (Weak.ro 14) ?_
                refine W_weak (Weak.keep [0, 1, 11, 14, 58, 59, 60]) ?_
                simp only [go_sem]
                refine W_region [0, 1, 11, 58, 59, 60] fun R hR => ?_   -- r35
                simp only [go_sem, llPV, hz, Int.toNat_natCast, Int.toNat_zero, List.drop_zero, Nat.sub_zero, nextA_len, Int.le_refl, Nat.le_refl, Nat.zero_le, hx, hab, hw1, hw2, hle, hr1, hr2]
                try simp (disch := first | omega | (simp only [go_sem] <;> omega)) only [wrapI, wrapU, appX_exact, appX_tok]
                try simp only [go_sem, llPV, hz, Int.toNat_natCast, Int.toNat_zero, List.drop_zero, Nat.sub_zero, nextA_len, Int.le_refl, Nat.le_refl, Nat.zero_le, hx, hab, hw1, hw2, hle, hr1, hr2]
                refine hR _ _ (kq33 _ _ ?_); clear hR R; try clear kq33 kz33
                try simp only [go_sem, llPV, hz, Int.toNat_natCast, Int.toNat_zero, List.drop_zero, Nat.sub_zero, nextA_len, Int.le_refl, Nat.le_refl, Nat.zero_le, hx, hab, hw1, hw2, hle, hr1, hr2]
                refine W_region [0, 1, 11, 58, 59, 60] fun R hR => ?_   -- r36
                simp only [go_sem, llPV, hz, Int.toNat_natCast, Int.toNat_zero, List.drop_zero, Nat.sub_zero, nextA_len, Int.le_refl, Nat.le_refl, Nat.zero_le, hx, hab, hw1, hw2, hle, hr1, hr2]
                try simp (disch := omega) only [wrapI, wrapU]
                refine hR _ _ ?_; clear hR R
                try simp only [go_sem, llPV, hz, Int.toNat_natCast, Int.toNat_zero, List.drop_zero, Nat.sub_zero, nextA_len, Int.le_refl, Nat.le_refl, Nat.zero_le, hx, hab, hw1, hw2, hle, hr1, hr2]
                refine ⟨i + 1, ?_, by (try simp only []); omega, ?_⟩
                · refine Weak.trans (Weak.cutX 1 1 (by omega) (by omega) hcl (by simp only [go_sem] <;> omega) (by simp only [go_sem] <;> omega)) ?_
                  simp only [go_sem]
                  refine Weak.eq ?_ ?_
                  · simp only [go_sem, nextA_succ, List.map_append, List.map_cons, List.map_nil, llPV, ints]
                    first | done | rfl
                  · simp only [go_sem]
                · try dsimp only
                  omega
          · -- c9 false
            try simp only [nrm] at c9
            have hi0 : ¬ 0 < i := by first | omega | (simp at c9; omega)
            refine W_skip (kq37 _ _ ?_)
            refine W_seq fun kz48 kq48 => ?_
            refine W_seq fun kz49 kq49 => ?_
            refine W_region [0, 1, 11, 12, 13, 14, 15, 16, 58, 59, 60, 87] fun R hR => ?_   -- r30
            simp only [go_sem, llPV, hz, Int.toNat_natCast, Int.toNat_zero, List.drop_zero, Nat.sub_zero, nextA_len, Int.le_refl, Nat.le_refl, Nat.zero_le, hx]
            try simp (disch := omega) only [wrapI, wrapU]
            refine hR _ _ (kq49 _ _ ?_); clear hR R; try clear kq49 kz49
            try simp only [go_sem, llPV, hz, Int.toNat_natCast, Int.toNat_zero, List.drop_zero, Nat.sub_zero, nextA_len, Int.le_refl, Nat.le_refl, Nat.zero_le, hx]
            refine W_cond rfl (fun c13 => ?_) (fun c13 => ?_)
            · -- c13 true
              try simp only [nrm] at c13
              have hok3 := nb_lo (by omega) (hok i l hx).2
              have hl8 := (hok i l hx).1
              have hi1 : i + 1 < ls.length := by first | omega | (simp at c13; omega)
              have hNl : N ≤ l.length := by have := hok3.2.1 hi1; omega
              obtain ⟨be, hbe⟩ : ∃ z, ls[i + 1]? = some z := ⟨ls[i + 1]'hi1, by simp⟩
              have hbe8 := (hok (i + 1) be hbe).1
              have hNb : N ≤ be.length := by have := (nb_lo (by omega) (hok (i + 1) be hbe).2).1 (by omega); omega
              have hw3 : IntKind.i64.wrap ((l.length : Int) - (N : Int)) = ((l.length - N : Nat) : Int) := by rw [wrapI (by omega) (by omega)]; omega
              have hw4 : IntKind.i64.wrap ((i : Int) + 1) = ((i + 1 : Nat) : Int) := by rw [wrapI (by omega) (by omega)]; omega
              have hr1 : l.length - N ≤ l.length := by omega
              have hpl0 : ((l.take (l.length - N))).length ≤ 8 := by simp only [List.length_drop, List.length_take] <;> omega
              have hpl1 : ((be.take N)).length ≤ 8 := by simp only [List.length_drop, List.length_take] <;> omega
              have hr2 : 0 ≤ l.length - N := by omega
              have hfold : (l.take (l.length - N)).map I ++ (be.take N).map I = (nextL ls N i).map I := by
                simp only [nextL, lgAt, hx, hbe, Option.getD_some, hi0, hi1, if_true, if_false]
                simp
              refine W_region [0, 1, 11, 12, 13, 14, 15, 16, 58, 59, 60] fun R hR => ?_   -- r31
              simp only [go_sem, llPV, hz, Int.toNat_natCast, Int.toNat_zero, List.drop_zero, Nat.sub_zero, nextA_len, Int.le_refl, Nat.le_refl, Nat.zero_le, hx, hr1, hr2, hbe, hw3, hw4, hNb]
              try simp (disch := omega) only [wrapI, wrapU]
              refine hR _ _ (kq48 _ _ ?_); clear hR R; try clear kq48 kz48
              try simp only [go_sem, llPV, hz, Int.toNat_natCast, Int.toNat_zero, List.drop_zero, Nat.sub_zero, nextA_len, Int.le_refl, Nat.le_refl, Nat.zero_le, hx, hr1, hr2, hbe, hw3, hw4, hNb]
              refine W_seq fun kz50 kq50 => ?_
              refine W_region [0, 1, 11, 12, 14, 58, 59, 60] fun R hR => ?_   -- r32
              simp only [go_sem, llPV, hz, Int.toNat_natCast, Int.toNat_zero, List.drop_zero, Nat.sub_zero, nextA_len, Int.le_refl, Nat.le_refl, Nat.zero_le, hx, hr1, hr2, hbe, hw3, hw4, hNb]
              try simp (disch := first | omega | (simp only [go_sem] <;> omega)) only [wrapI, wrapU, appX_exact, appX_tok]
              try simp only [go_sem, llPV, hz, Int.toNat_natCast, Int.toNat_zero, List.drop_zero, Nat.sub_zero, nextA_len, Int.le_refl, Nat.le_refl, Nat.zero_le, hx, hr1, hr2, hbe, hw3, hw4, hNb]
              refine hR _ _ (kq50 _ _ ?_); clear hR R; try clear kq50 kz50
              try simp only [go_sem, llPV, hz, Int.toNat_natCast, Int.toNat_zero, List.drop_zero, Nat.sub_zero, nextA_len, Int.le_refl, Nat.le_refl, Nat.zero_le, hx, hr1, hr2, hbe, hw3, hw4, hNb]
              refine W_seq fun kz51 kq51 => ?_
              refine W_seq fun kz52 kq52 => ?_
              refine W_region [0, 1, 11, 12, 14, 58, 59, 60, 101] fun R hR => ?_   -- r33
              simp only [go_sem, llPV, hz, Int.toNat_natCast, Int.toNat_zero, List.drop_zero, Nat.sub_zero, nextA_len, Int.le_refl, Nat.le_refl, Nat.zero_le, hx, hr1, hr2, hbe, hw3, hw4, hNb]
              try simp (disch := omega) only [wrapI, wrapU]
              refine hR _ _ (kq52 _ _ ?_); clear hR R; try clear kq52 kz52
              try simp only [go_sem, llPV, hz, Int.toNat_natCast, Int.toNat_zero, List.drop_zero, Nat.sub_zero, nextA_len, Int.le_refl, Nat.le_refl, Nat.zero_le, hx, hr1, hr2, hbe, hw3, hw4, hNb]
              refine W_cond rfl (fun c14 => ?_) (fun c14 => ?_)
              · -- c14 true
                try simp only [nrm] at c14
                refine W_region [0, 1, 11, 14, 58, 59, 60] fun R hR => ?_   -- r34
                simp only [go_sem, llPV, hz, Int.toNat_natCast, Int.toNat_zero, List.drop_zero, Nat.sub_zero, nextA_len, Int.le_refl, Nat.le_refl, Nat.zero_le, hx, hr1, hr2, hbe, hw3, hw4, hNb, ← List.map_take]
                try simp (disch := first | omega | (simp only [go_sem] <;> omega)) only [wrapI, wrapU, appX_exact, appX_tok]
                try simp only [go_sem, llPV, hz, Int.toNat_natCast, Int.toNat_zero, List.drop_zero, Nat.sub_zero, nextA_len, Int.le_refl, Nat.le_refl, Nat.zero_le, hx, hr1, hr2, hbe, hw3, hw4, hNb, ← List.map_take]
                refine hR _ _ (kq51 _ _ ?_); clear hR R; try clear kq51 kz51
                try simp only [go_sem, llPV, hz, Int.toNat_natCast, Int.toNat_zero, List.drop_zero, Nat.sub_zero, nextA_len, Int.le_refl, Nat.le_refl, Nat.zero_le, hx, hr1, hr2, hbe, hw3, hw4, hNb]
                try simp only [List.append_assoc] at hfold ⊢
                simp only [hfold]
                refine W_weak (Weak.ro 14) ?_
                refine W_weak (Weak.keep [0, 1, 11, 14, 58, 59, 60]) ?_
                simp only [go_sem]
                refine W_region [0, 1, 11, 58, 59, 60] fun R hR => ?_   -- r35
                simp only [go_sem, llPV, hz, Int.toNat_natCast, Int.toNat_zero, List.drop_zero, Nat.sub_zero, nextA_len, Int.le_refl, Nat.le_refl, Nat.zero_le, hx, hr1, hr2, hbe, hw3, hw4, hNb]
                try simp (disch := first | omega | (simp only [go_sem] <;> omega)) only [wrapI, wrapU, appX_exact, appX_tok]
                try simp only [go_sem, llPV, hz, Int.toNat_natCast, Int.toNat_zero, List.drop_zero, Nat.sub_zero, nextA_len, Int.le_refl, Nat.le_refl, Nat.zero_le, hx, hr1, hr2, hbe, hw3, hw4, hNb]
                refine hR _ _ (kq33 _ _ ?_); clear hR R; try clear kq33 kz33
                try simp only [go_sem, llPV, hz, Int.toNat_natCast, Int.toNat_zero, List.drop_zero, Nat.sub_zero, nextA_len, Int.le_refl, Nat.le_refl, Nat.zero_le, hx, hr1, hr2, hbe, hw3, hw4, hNb]
                refine W_region [0, 1, 11, 58, 59, 60] fun R hR => ?_   -- r36
                simp only [go_sem, llPV, hz, Int.toNat_natCast, Int.toNat_zero, List.drop_zero, Nat.sub_zero, nextA_len, Int.le_refl, Nat.le_refl, Nat.zero_le, hx, hr1, hr2, hbe, hw3, hw4, hNb]
                try simp (disch := omega) only [wrapI, wrapU]
                refine hR _ _ ?_; clear hR R
                try simp only [go_sem, llPV, hz, Int.toNat_natCast, Int.toNat_zero, List.drop_zero, Nat.sub_zero, nextA_len, Int.le_refl, Nat.le_refl, Nat.zero_le, hx, hr1, hr2, hbe, hw3, hw4, hNb]
                refine ⟨i + 1, ?_, by (try simp only []); omega, ?_⟩
                · refine Weak.trans (Weak.cutX 1 1 (by omega) (by omega) hcl (by simp only [go_sem] <;> omega) (by simp only [go_sem] <;> omega)) ?_
                  simp only [go_sem]
                  refine Weak.eq ?_ ?_
                  · simp only [go_sem, nextA_succ, List.map_append, List.map_cons, List.map_nil, llPV, ints]
                    first | done | rfl
                  · simp only [go_sem]
                · try dsimp only
                  omega
              · -- c14 false
                try simp only [nrm] at c14
                exfalso
                first | omega | (simp at c14; omega)
            · -- c13 false
              try simp only [nrm] at c13
              have hok3 := nb_lo (by omega) (hok i l hx).2
              have hl8 := (hok i l hx).1
              have hi1 : ¬ i + 1 < ls.length := by first | omega | (simp at c13; omega)
              have hr1 : l.length ≤ l.length := Nat.le_refl _
              have hpl0 : ((l.take l.length)).length ≤ 8 := by simp only [List.length_drop, List.length_take] <;> omega
              have hr2 : 0 ≤ l.length := by omega
              have hfold : (l.take l.length).map I = (nextL ls N i).map I := by
                simp only [nextL, lgAt, hx, Option.getD_some, hi0, hi1, if_true, if_false]
                simp
              refine W_skip (kq48 _ _ ?_)
              refine W_seq fun kz53 kq53 => ?_
              refine W_region [0, 1, 11, 12, 14, 58, 59, 60] fun R hR => ?_   -- r32
              simp only [go_sem, llPV, hz, Int.toNat_natCast, Int.toNat_zero, List.drop_zero, Nat.sub_zero, nextA_len, Int.le_refl, Nat.le_refl, Nat.zero_le, hx, hr1, hr2]
              try simp (disch := first | omega | (simp only [go_sem] <;> omega)) only [wrapI, wrapU, appX_exact, appX_tok]
              try simp only [go_sem, llPV, hz, Int.toNat_natCast, Int.toNat_zero, List.drop_zero, Nat.sub_zero, nextA_len, Int.le_refl, Nat.le_refl, Nat.zero_le, hx, hr1, hr2]
              refine hR _ _ (kq53 _ _ ?_); clear hR R; try clear kq53 kz53
              try simp only [go_sem, llPV, hz, Int.toNat_natCast, Int.toNat_zero, List.drop_zero, Nat.sub_zero, nextA_len, Int.le_refl, Nat.le_refl, Nat.zero_le, hx, hr1, hr2]
              refine W_seq fun kz54 kq54 => ?_
              refine W_seq fun kz55 kq55 => ?_
              refine W_region [0, 1, 11, 12, 14, 58, 59, 60, 101] fun R hR => ?_   -- r33
              simp only [go_sem, llPV, hz, Int.toNat_natCast, Int.toNat_zero, List.drop_zero, Nat.sub_zero, nextA_len, Int.le_refl, Nat.le_refl, Nat.zero_le, hx, hr1, hr2]
              try simp (disch := omega) only [wrapI, wrapU]
              refine hR _ _ (kq55 _ _ ?_); clear hR R; try clear kq55 kz55
              try simp only [go_sem, llPV, hz, Int.toNat_natCast, Int.toNat_zero, List.drop_zero, Nat.sub_zero, nextA_len, Int.le_refl, Nat.le_refl, Nat.zero_le, hx, hr1, hr2]
              refine W_cond rfl (fun c15 => ?_) (fun c15 => ?_)
              · -- c15 true
                try simp only [nrm] at c15
                exfalso
                first | omega | (simp at c15; omega)
              · -- c15 false
                try simp only [nrm] at c15
                refine W_skip (kq54 _ _ ?_)
                try simp only [List.append_assoc] at hfold ⊢
                simp only [hfold]
                refine W_weak (Weak.ro 14) ?_
                refine W_weak (Weak.keep [0, 1, 11, 14, 58, 59, 60]) ?_
                simp only [go_sem]
                refine W_region [0, 1, 11, 58, 59, 60] fun R hR => ?_   -- r35
                simp only [go_sem, llPV, hz, Int.toNat_natCast, Int.toNat_zero, List.drop_zero, Nat.sub_zero, nextA_len, Int.le_refl, Nat.le_refl, Nat.zero_le, hx, hr1, hr2]
                try simp (disch := first | omega | (simp only [go_sem] <;> omega)) only [wrapI, wrapU, appX_exact, appX_tok]
                try simp only [go_sem, llPV, hz, Int.toNat_natCast, Int.toNat_zero, List.drop_zero, Nat.sub_zero, nextA_len, Int.le_refl, Nat.le_refl, Nat.zero_le, hx, hr1, hr2]
                refine hR _ _ (kq33 _ _ ?_); clear hR R; try clear kq33 kz33
                try simp only [go_sem, llPV, hz, Int.toNat_natCast, Int.toNat_zero, List.drop_zero, Nat.sub_zero, nextA_len, Int.le_refl, Nat.le_refl, Nat.zero_le, hx, hr1, hr2]
                refine W_region [0, 1, 11, 58, 59, 60] fun R hR => ?_   -- r36
                simp only [go_sem, llPV, hz, Int.toNat_natCast, Int.toNat_zero, List.drop_zero, Nat.sub_zero, nextA_len, Int.le_refl, Nat.le_refl, Nat.zero_le, hx, hr1, hr2]
                try simp (disch := omega) only [wrapI, wrapU]
                refine hR _ _ ?_; clear hR R
                try simp only [go_sem, llPV, hz, Int.toNat_natCast, Int.toNat_zero, List.drop_zero, Nat.sub_zero, nextA_len, Int.le_refl, Nat.le_refl, Nat.zero_le, hx, hr1, hr2]
                refine ⟨i + 1, ?_, by (try simp only []); omega, ?_⟩
                · refine Weak.trans (Weak.cutX 1 1 (by omega) (by omega) hcl (by simp only [go_sem] <;> omega) (by simp only [go_sem] <;> omega)) ?_
                  simp only [go_sem]
                  refine Weak.eq ?_ ?_
                  · simp only [go_sem, nextA_succ, List.map_append, List.map_cons, List.map_nil, llPV, ints]
                    first | done | rfl
                  · simp only [go_sem]
                · try dsimp only
                  omega
        · -- c8 false
          try simp only [nrm] at c8
          have hdrop : ls.drop i = [] := List.drop_eq_nil_of_le (by omega)
          have hie : i = ls.length := by first | omega | (simp at c8; omega)
          subst hie
          refine W_exit ?_
          simp only [go_sem, llPV, hz, Int.toNat_natCast, Int.toNat_zero, List.drop_zero, Nat.sub_zero, nextA_len, Int.le_refl, Nat.le_refl, Nat.zero_le]
          refine kq29 _ _ ?_
          refine W_seq fun kz56 kq56 => ?_
          refine W_region [4, 5] fun R hR => ?_   -- r37
          simp only [go_sem, llPV, hz, Int.toNat_natCast, Int.toNat_zero, List.drop_zero, Nat.sub_zero, nextA_len, Int.le_refl, Nat.le_refl, Nat.zero_le]
          refine hR _ _ (kq56 _ _ ?_); clear hR R; try clear kq56 kz56
          try simp only [go_sem, llPV, hz, Int.toNat_natCast, Int.toNat_zero, List.drop_zero, Nat.sub_zero, nextA_len, Int.le_refl, Nat.le_refl, Nat.zero_le]
          refine W_ret ?_
          simp only [go_sem, llPV, hz, Int.toNat_natCast, Int.toNat_zero, List.drop_zero, Nat.sub_zero, nextA_len, Int.le_refl, Nat.le_refl, Nat.zero_le]
          refine ⟨.inr (by trivial), ?_⟩
          first | refine Fin_same hcl rfl (Wk.ro (by simp only [go_sem]) ?_) | refine Fin_self hcl rfl (Wk.ro (by simp only [go_sem]) ?_)
          try simp only [go_sem]
          all_goals
            rw [← hres]; clear hres; simp [moveA, *]
end Go.Proofs.Ytgelnjmddabgpaa
namespace Go.Proofs.Ytgelnjmddabgpaa
open Go Go.RowKit
set_option maxRecDepth 100000
theorem has_seen {ls : List (List Int)} {at' i : Nat} {x : Int} : has ((ls.take at').flatten ++ (lgAt ls at').take i) x = true ↔ ∃ k j, (k < at' ∨ (k = at' ∧ j < i)) ∧ (lgAt ls k)[j]? = some x := by
  rw [has_iff, List.mem_append, List.mem_flatten]
  constructor
  · rintro (⟨l, hl, hx⟩ | hx)
    · obtain ⟨k, hk⟩ := List.mem_iff_getElem?.1 hl
      obtain ⟨j, hj⟩ := List.mem_iff_getElem?.1 hx
      rw [List.getElem?_take] at hk
      split at hk
      · exact ⟨k, j, .inl (by assumption), by simp only [lgAt, hk, Option.getD_some]; exact hj⟩
      · cases hk
    · obtain ⟨j, hj⟩ := List.mem_iff_getElem?.1 hx
      rw [List.getElem?_take] at hj
      split at hj
      · exact ⟨at', j, .inr ⟨rfl, by assumption⟩, hj⟩
      · cases hj
  · rintro ⟨k, j, h | ⟨rfl, h⟩, hx⟩
    · left
      unfold lgAt at hx
      cases hk : ls[k]? with
      | none => rw [hk] at hx; simp at hx
      | some l =>
        rw [hk, Option.getD_some] at hx
        refine ⟨l, List.mem_of_getElem? (i := k) ?_, List.mem_of_getElem? hx⟩
        rw [List.getElem?_take_of_lt h, hk]
    · right
      refine List.mem_of_getElem? (i := j) ?_
      rw [List.getElem?_take_of_lt h, hx]
def rChk (ls : List (List Int)) (n : Int) (i : Nat) : Int := if 8 < ((lgAt ls i).length : Int) then 5 else if dupL (ls.take i).flatten (lgAt ls i) = true then 8 else if ((lgAt ls i).length : Int) < n * nb ls.length i then 4 else 0
theorem chkL_rChk {ls : List (List Int)} {n : Int} {i : Nat} {l : List Int} (hx : ls[i]? = some l) (met : List Int) (h : met = (ls.take i).flatten) (r : List (List Int)) :
    chkL ls.length n i met (l :: r) = if rChk ls n i ≠ 0 then rChk ls n i else chkL ls.length n (i + 1) (met ++ l) r := by
  have e : lgAt ls i = l := by simp [lgAt, hx]
  simp only [chkL, rChk, e, ← h]
  split
  · simp
  · split
    · simp
    · split
      · simp
      · simp
theorem nb_mul (n : Int) (L i : Nat) : n * nb L i = (if 0 < i then n else 0) + (if i + 1 < L then n else 0) := by
  unfold nb
  split <;> split <;> simp [Int.mul_add] <;> omega
set_option maxHeartbeats 8000000 in
theorem rLeague_pc (Y : YEnv) (σ : Sg) (ls : List (List Int)) (at' : Nat) (n : Int) (hl : ls.length < 2 ^ 40) (hx8 : ∀ x, x ∈ ls → x.length < 2 ^ 40) (hn : 0 ≤ n ∧ n ≤ 8) (l : List Int) (hx : ls[at']? = some l) :
    PC Try.prog Y 55 [lls ls, I at', I n] σ (I (rChk ls n at')) (σ) := by
  refine PC_of_W Try.func55 rfl (by kernel_rfl) Try.ntmps55 (by simp) fun hcl hca => ?_
  have ha := (List.getElem?_eq_some_iff.1 hx).1
  have hl40 := hx8 l (List.mem_of_getElem? hx)
  have elg : lgAt ls at' = l := by simp [lgAt, hx]
  have hnm := nb_mul n ls.length at'
  obtain ⟨met, hmet⟩ : ∃ z, (ls.take at').flatten = z := ⟨_, rfl⟩
  have hseen := fun (i : Nat) (x : Int) => has_seen (ls := ls) (at' := at') (i := i) (x := x)
  rw [hmet, elg] at hseen
  refine W_seq fun kz1 kq1 => ?_
  refine W_region [0, 1, 2] fun R hR => ?_   -- r0
  simp only [go_sem, llPV, hx]
  refine hR _ _ (kq1 _ _ ?_); clear hR R; try clear kq1 kz1
  try simp only [go_sem, llPV, hx]
  refine W_seq fun kz2 kq2 => ?_
  refine W_region [0, 1, 2, 7] fun R hR => ?_   -- r1
  simp only [go_sem, llPV, hx]
  refine hR _ _ (kq2 _ _ ?_); clear hR R; try clear kq2 kz2
  try simp only [go_sem, llPV, hx]
  refine W_seq fun kz3 kq3 => ?_
  refine W_seq fun kz4 kq4 => ?_
  refine W_region [0, 1, 2, 7, 18] fun R hR => ?_   -- r2
  simp only [go_sem, llPV, hx]
  refine hR _ _ (kq4 _ _ ?_); clear hR R; try clear kq4 kz4
  try simp only [go_sem, llPV, hx]
  refine W_cond rfl (fun c1 => ?_) (fun c1 => ?_)
  · -- c1 true
    try simp only [nrm] at c1
    refine W_seq fun kz5 kq5 => ?_
    refine W_region [6] fun R hR => ?_   -- r3
    simp only [go_sem, llPV, hx]
    refine hR _ _ (kq5 _ _ ?_); clear hR R; try clear kq5 kz5
    try simp only [go_sem, llPV, hx]
    refine W_ret ?_
    simp only [go_sem, llPV, hx]
    refine ⟨.inr (by trivial), ?_⟩
    first | refine Fin_same hcl rfl (Wk_eq ?_ (by simp only [go_sem])) | refine Fin_self hcl rfl (Wk_eq ?_ (by simp only [go_sem]))
    try simp only [go_sem]
    all_goals
      first | (simp [rChk, elg, hmet, hnm, *]; done) | (simp [rChk, elg, hmet, hnm, *]; split <;> split <;> omega)
  · -- c1 false
    try simp only [nrm] at c1
    refine W_skip (kq3 _ _ ?_)
    refine W_seq fun kz6 kq6 => ?_
    refine W_seq fun kz7 kq7 => ?_
    refine W_region [0, 1, 2, 7, 8] fun R hR => ?_   -- r4
    simp only [go_sem, llPV, hx]
    refine hR _ _ (kq7 _ _ ?_); clear hR R; try clear kq7 kz7
    try simp only [go_sem, llPV, hx]
    refine W_block ?_
    refine W_loopS (α := Nat) (fun (i : Nat) => [(8, I i)]) (fun (i : Nat) => i ≤ l.length ∧ dupL met l = dupL (met ++ l.take i) (l.drop i)) (fun (i : Nat) => l.length - i) (0) rfl (⟨Nat.zero_le _, by simp⟩) ?_
    rintro i ⟨hi, hinv⟩
    refine W_seq fun kz8 kq8 => ?_
    refine W_seq fun kz9 kq9 => ?_
    refine W_region [0, 1, 2, 7, 8, 22] fun R hR => ?_   -- r5
    simp only [go_sem, llPV, hx]
    refine hR _ _ (kq9 _ _ ?_); clear hR R; try clear kq9 kz9
    try simp only [go_sem, llPV, hx]
    refine W_cond rfl (fun c2 => ?_) (fun c2 => ?_)
    · -- c2 true
      try simp only [nrm] at c2
      have hi' : i < l.length := by first | assumption | omega
      obtain ⟨x, hxi⟩ : ∃ x, l[i]? = some x := ⟨l[i], by simp [hi']⟩
      have hdrop : l.drop i = x :: l.drop (i + 1) := by
        rw [List.drop_eq_getElem_cons hi']; congr 1; exact (List.getElem?_eq_some_iff.1 hxi).2
      rw [hdrop] at hinv
      simp only [dupL] at hinv
      refine W_skip (kq8 _ _ ?_)
      refine W_seq fun kz10 kq10 => ?_
      refine W_block ?_
      refine W_seq fun kz11 kq11 => ?_
      refine W_region [0, 1, 2, 7, 8, 9] fun R hR => ?_   -- r7
      simp only [go_sem, llPV, hx, hx, hxi]
      refine hR _ _ (kq11 _ _ ?_); clear hR R; try clear kq11 kz11
      try simp only [go_sem, llPV, hx, hx, hxi]
      refine W_block ?_
      refine W_loopS (α := Nat) (fun (k : Nat) => [(9, I k)]) (fun (k : Nat) => k ≤ at' + 1 ∧ ∀ k', k' < k → ∀ j', (k' < at' ∨ j' < i) → (lgAt ls k')[j']? ≠ some x) (fun (k : Nat) => at' + 1 - k) (0) rfl (⟨Nat.zero_le _, fun k' h => by omega⟩) ?_
      rintro k ⟨hk, hall⟩
      refine W_seq fun kz12 kq12 => ?_
      refine W_seq fun kz13 kq13 => ?_
      refine W_region [0, 1, 2, 7, 8, 9, 27] fun R hR => ?_   -- r8
      simp only [go_sem, llPV, hx, hx, hxi]
      refine hR _ _ (kq13 _ _ ?_); clear hR R; try clear kq13 kz13
      try simp only [go_sem, llPV, hx, hx, hxi]
      refine W_cond rfl (fun c3 => ?_) (fun c3 => ?_)
      · -- c3 true
        try simp only [nrm] at c3
        have hka : k ≤ at' := by first | omega | (simp at c3; omega)
        obtain ⟨lk, hlk⟩ : ∃ z, ls[k]? = some z := ⟨ls[k]'(by omega), by simp⟩
        have elk : lgAt ls k = lk := by simp [lgAt, hlk]
        have hlk40 := hx8 lk (List.mem_of_getElem? hlk)
        refine W_skip (kq12 _ _ ?_)
        refine W_seq fun kz14 kq14 => ?_
        refine W_block ?_
        refine W_seq fun kz15 kq15 => ?_
        refine W_region [0, 1, 2, 7, 8, 9, 10] fun R hR => ?_   -- r10
        simp only [go_sem, llPV, hx, hx, hxi, hlk]
        refine hR _ _ (kq15 _ _ ?_); clear hR R; try clear kq15 kz15
        try simp only [go_sem, llPV, hx, hx, hxi, hlk]
        refine W_block ?_
        refine W_loopS (α := Nat) (fun (j : Nat) => [(10, I j)]) (fun (j : Nat) => j ≤ lk.length ∧ ∀ j', j' < j → lk[j']? ≠ some x) (fun (j : Nat) => lk.length - j) (0) rfl (⟨Nat.zero_le _, fun j' h => by omega⟩) ?_
        rintro j ⟨hj, hin⟩
        refine W_seq fun kz16 kq16 => ?_
        refine W_seq fun kz17 kq17 => ?_
        refine W_regionJ [0, 1, 2, 7, 8, 9, 10, 46] [(46, .bool (decide (j < lk.length) && (decide (k < at') || decide (j < i))))] ?_ fun R hR => ?_   -- r11
        · refine kq17 _ _ ?_
          simp only [go_sem, llPV, hx, hx, hxi, hlk]
          refine W_cond rfl (fun c4 => ?_) (fun c4 => ?_)
          · -- c4 true
            try simp only [nrm] at c4
            have hjj : j < lk.length ∧ (k < at' ∨ j < i) := by simpa using c4
            have hj' := hjj.1
            obtain ⟨z, hz⟩ : ∃ z, lk[j]? = some z := ⟨lk[j], by simp⟩
            refine W_skip (kq16 _ _ ?_)
            refine W_seq fun kz18 kq18 => ?_
            refine W_block ?_
            refine W_seq fun kz19 kq19 => ?_
            refine W_draw [0, 1, 2, 7, 8, 9, 10, 60] [0, 1, 2, 3, 4, 5, 6, 7, 8, 9, 10, 11] [] [[], [], [0, 1], [0, 1, 2], [], [0, 1, 2, 3, 4], [0, 1, 2, 3, 4, 5], [], [], [7, 8], [7, 8, 9], [0, 1, 2, 3, 4, 5, 6, 7, 8, 9, 10]] mixed (by kernel_rfl) fun R hR => ?_   -- r13
            simp only [go_sem, llPV, hx, hx, hxi, hlk, hz]
            try refine And.intro (by repeat' (first | refine And.intro ?_ ?_ | exact GOr_right (fun _ => by simp only [go_sem, llPV, hx, hx, hxi, hlk, hz]))) ?_
            refine hR _ _ (kq19 _ _ ?_); clear hR R; try clear kq19 kz19
            try simp only [go_sem, llPV, hx, hx, hxi, hlk, hz]
            refine W_cond rfl (fun c5 => ?_) (fun c5 => ?_)
            · -- c5 true
              try simp only [nrm] at c5
              refine W_seq fun kz20 kq20 => ?_
              refine W_region [6] fun R hR => ?_   -- r14
              simp only [go_sem, llPV, hx, hx, hxi, hlk, hz]
              refine hR _ _ (kq20 _ _ ?_); clear hR R; try clear kq20 kz20
              try simp only [go_sem, llPV, hx, hx, hxi, hlk, hz]
              refine W_ret ?_
              simp only [go_sem, llPV, hx, hx, hxi, hlk, hz]
              refine ⟨.inr (by trivial), ?_⟩
              first | refine Fin_same hcl rfl (Wk_eq ?_ (by simp only [go_sem])) | refine Fin_self hcl rfl (Wk_eq ?_ (by simp only [go_sem]))
              try simp only [go_sem]
              all_goals
                have hd : dupL met l = true := by
                  rw [hinv, (hseen i x).2 ⟨k, j, by omega, by rw [elk, hz, c5]⟩]; rfl
                simp [rChk, elg, hmet, hd, c1]
            · -- c5 false
              try simp only [nrm] at c5
              refine W_skip (kq18 _ _ ?_)
              refine W_region [0, 1, 2, 7, 8, 9, 10] fun R hR => ?_   -- r12
              simp only [go_sem, llPV, hx, hx, hxi, hlk, hz]
              try simp (disch := omega) only [wrapI, wrapU]
              refine hR _ _ ?_; clear hR R
              try simp only [go_sem, llPV, hx, hx, hxi, hlk, hz]
              refine ⟨j + 1, ?_, by (try simp only []); omega, ?_⟩
              · first | exact Weak.refl | exact Weak.eq (by first | rfl | (simp only [go_sem]; done) | (simp only [go_sem]; rfl) | (simp [go_sem]; done) | (simp [go_sem]; omega)) (by first | rfl | (simp only [go_sem]; done) | (simp [go_sem]; done))
              · try dsimp only
                refine ⟨by omega, fun j' hj2 he => ?_⟩
                by_cases e : j' = j
                · subst e
                  rw [hz] at he
                  simp only [Option.some.injEq] at he
                  exact c5 he
                · exact hin j' (by omega) he
          · -- c4 false
            try simp only [nrm] at c4
            skip
            refine W_exit ?_
            simp only [go_sem, llPV, hx, hx, hxi, hlk]
            refine kq14 _ _ ?_
            refine W_region [0, 1, 2, 7, 8, 9] fun R hR => ?_   -- r9
            simp only [go_sem, llPV, hx, hx, hxi, hlk]
            try simp (disch := omega) only [wrapI, wrapU]
            refine hR _ _ ?_; clear hR R
            try simp only [go_sem, llPV, hx, hx, hxi, hlk]
            refine ⟨k + 1, ?_, by (try simp only []); omega, ?_⟩
            · first | exact Weak.refl | exact Weak.eq (by first | rfl | (simp only [go_sem]; done) | (simp only [go_sem]; rfl) | (simp [go_sem]; done) | (simp [go_sem]; omega)) (by first | rfl | (simp only [go_sem]; done) | (simp [go_sem]; done))
            · try dsimp only
              refine ⟨by omega, fun k' hk' j' hv he => ?_⟩
              by_cases e : k' = k
              · subst e
                rw [elk] at he
                have hjl := (List.getElem?_eq_some_iff.1 he).1
                exact hin j' (by simp at c4; omega) he
              · exact hall k' (by omega) j' hv he
        · simp only [go_sem, llPV, hx, hx, hxi, hlk]
          refine GWant_split (fun g1 => ?_) (fun g1 => ?_)
          · try simp only [Bool.not_eq_true', Bool.not_eq_false'] at g1
            have n1 := g1; try simp only [nrm] at n1
            simp only [go_sem, llPV, hx, hx, hxi, hlk, g1]
            refine GWant_split (fun g2 => ?_) (fun g2 => ?_)
            · try simp only [Bool.not_eq_true', Bool.not_eq_false'] at g2
              have n2 := g2; try simp only [nrm] at n2
              simp only [go_sem, llPV, hx, hx, hxi, hlk, g1, g2]
              refine hR _ ?_
              all_goals try simp only [go_sem, llPV, hx, hx, hxi, hlk]
              all_goals
                simp [hlk, *]
            · try simp only [Bool.not_eq_true', Bool.not_eq_false'] at g2
              have n2 := g2; try simp only [nrm] at n2
              simp only [go_sem, llPV, hx, hx, hxi, hlk, g1, g2]
              refine hR _ ?_
              all_goals try simp only [go_sem, llPV, hx, hx, hxi, hlk]
              all_goals
                simp [hlk, *]
          · try simp only [Bool.not_eq_true', Bool.not_eq_false'] at g1
            have n1 := g1; try simp only [nrm] at n1
            simp only [go_sem, llPV, hx, hx, hxi, hlk, g1]
            refine hR _ ?_
            all_goals try simp only [go_sem, llPV, hx, hx, hxi, hlk]
            all_goals
              simp [hlk, *]
      · -- c3 false
        try simp only [nrm] at c3
        have hke : k = at' + 1 := by first | omega | (simp at c3; omega)
        subst hke
        refine W_exit ?_
        simp only [go_sem, llPV, hx, hx, hxi]
        refine kq10 _ _ ?_
        refine W_region [0, 1, 2, 7, 8] fun R hR => ?_   -- r6
        simp only [go_sem, llPV, hx, hx, hxi]
        try simp (disch := omega) only [wrapI, wrapU]
        refine hR _ _ ?_; clear hR R
        try simp only [go_sem, llPV, hx, hx, hxi]
        refine ⟨i + 1, ?_, by (try simp only []); omega, ?_⟩
        · first | exact Weak.refl | exact Weak.eq (by first | rfl | (simp only [go_sem]; done) | (simp only [go_sem]; rfl) | (simp [go_sem]; done) | (simp [go_sem]; omega)) (by first | rfl | (simp only [go_sem]; done) | (simp [go_sem]; done))
        · try dsimp only
          refine ⟨hi', ?_⟩
          have hno : has (met ++ l.take i) x = false := by
            cases hh : has (met ++ l.take i) x with
            | false => rfl
            | true =>
              obtain ⟨k', j', hv, he⟩ := (hseen i x).1 hh
              exact absurd he (hall k' (by omega) j' (by omega))
          rw [hinv, hno, List.take_add_one, hxi, ← List.append_assoc]; rfl
    · -- c2 false
      try simp only [nrm] at c2
      have hdrop : l.drop i = [] := List.drop_eq_nil_of_le (by omega)
      rw [hdrop] at hinv
      simp only [dupL] at hinv
      refine W_exit ?_
      simp only [go_sem, llPV, hx]
      refine kq6 _ _ ?_
      refine W_seq fun kz21 kq21 => ?_
      refine W_region [0, 1, 2, 7, 11] fun R hR => ?_   -- r15
      simp only [go_sem, llPV, hx]
      refine hR _ _ (kq21 _ _ ?_); clear hR R; try clear kq21 kz21
      try simp only [go_sem, llPV, hx]
      refine W_seq fun kz22 kq22 => ?_
      refine W_seq fun kz23 kq23 => ?_
      refine W_region [0, 1, 2, 7, 11, 62] fun R hR => ?_   -- r16
      simp only [go_sem, llPV, hx]
      refine hR _ _ (kq23 _ _ ?_); clear hR R; try clear kq23 kz23
      try simp only [go_sem, llPV, hx]
      refine W_cond rfl (fun c6 => ?_) (fun c6 => ?_)
      · -- c6 true
        try simp only [nrm] at c6
        refine W_region [0, 1, 2, 7, 11] fun R hR => ?_   -- r17
        simp only [go_sem, llPV, hx]
        try simp (disch := omega) only [wrapI, wrapU]
        refine hR _ _ (kq22 _ _ ?_); clear hR R; try clear kq22 kz22
        try simp only [go_sem, llPV, hx]
        refine W_seq fun kz24 kq24 => ?_
        refine W_seq fun kz25 kq25 => ?_
        refine W_region [2, 7, 11, 70] fun R hR => ?_   -- r18
        simp only [go_sem, llPV, hx]
        try simp (disch := omega) only [wrapI, wrapU]
        refine hR _ _ (kq25 _ _ ?_); clear hR R; try clear kq25 kz25
        try simp only [go_sem, llPV, hx]
        refine W_cond rfl (fun c7 => ?_) (fun c7 => ?_)
        · -- c7 true
          try simp only [nrm] at c7
          refine W_region [7, 11] fun R hR => ?_   -- r19
          simp only [go_sem, llPV, hx]
          try simp (disch := omega) only [wrapI, wrapU]
          refine hR _ _ (kq24 _ _ ?_); clear hR R; try clear kq24 kz24
          try simp only [go_sem, llPV, hx]
          refine W_seq fun kz26 kq26 => ?_
          refine W_seq fun kz27 kq27 => ?_
          refine W_region [77] fun R hR => ?_   -- r20
          simp only [go_sem, llPV, hx]
          refine hR _ _ (kq27 _ _ ?_); clear hR R; try clear kq27 kz27
          try simp only [go_sem, llPV, hx]
          refine W_cond rfl (fun c8 => ?_) (fun c8 => ?_)
          · -- c8 true
            try simp only [nrm] at c8
            refine W_seq fun kz28 kq28 => ?_
            refine W_region [6] fun R hR => ?_   -- r21
            simp only [go_sem, llPV, hx]
            refine hR _ _ (kq28 _ _ ?_); clear hR R; try clear kq28 kz28
            try simp only [go_sem, llPV, hx]
            refine W_ret ?_
            simp only [go_sem, llPV, hx]
            refine ⟨.inr (by trivial), ?_⟩
            first | refine Fin_same hcl rfl (Wk_eq ?_ (by simp only [go_sem])) | refine Fin_self hcl rfl (Wk_eq ?_ (by simp only [go_sem]))
            try simp only [go_sem]
            all_goals
              first | (simp [rChk, elg, hmet, hnm, *]; done) | (simp [rChk, elg, hmet, hnm, *]; split <;> split <;> omega)
          · -- c8 false
            try simp only [nrm] at c8
            refine W_skip (kq26 _ _ ?_)
            refine W_seq fun kz29 kq29 => ?_
            refine W_region [6] fun R hR => ?_   -- r22
            simp only [go_sem, llPV, hx]
            refine hR _ _ (kq29 _ _ ?_); clear hR R; try clear kq29 kz29
            try simp only [go_sem, llPV, hx]
            refine W_ret ?_
            simp only [go_sem, llPV, hx]
            refine ⟨.inr (by trivial), ?_⟩
            first | refine Fin_same hcl rfl (Wk_eq ?_ (by simp only [go_sem])) | refine Fin_self hcl rfl (Wk_eq ?_ (by simp only [go_sem]))
            try simp only [go_sem]
            all_goals
              first | (simp [rChk, elg, hmet, hnm, *]; done) | (simp [rChk, elg, hmet, hnm, *]; split <;> split <;> omega)
        · -- c7 false
          try simp only [nrm] at c7
          refine W_skip (kq24 _ _ ?_)
          refine W_seq fun kz30 kq30 => ?_
          refine W_seq fun kz31 kq31 => ?_
          refine W_region [77] fun R hR => ?_   -- r20
          simp only [go_sem, llPV, hx]
          refine hR _ _ (kq31 _ _ ?_); clear hR R; try clear kq31 kz31
          try simp only [go_sem, llPV, hx]
          refine W_cond rfl (fun c9 => ?_) (fun c9 => ?_)
          · -- c9 true
            try simp only [nrm] at c9
            refine W_seq fun kz32 kq32 => ?_
            refine W_region [6] fun R hR => ?_   -- r21
            simp only [go_sem, llPV, hx]
            refine hR _ _ (kq32 _ _ ?_); clear hR R; try clear kq32 kz32
            try simp only [go_sem, llPV, hx]
            refine W_ret ?_
            simp only [go_sem, llPV, hx]
            refine ⟨.inr (by trivial), ?_⟩
            first | refine Fin_same hcl rfl (Wk_eq ?_ (by simp only [go_sem])) | refine Fin_self hcl rfl (Wk_eq ?_ (by simp only [go_sem]))
            try simp only [go_sem]
            all_goals
              first | (simp [rChk, elg, hmet, hnm, *]; done) | (simp [rChk, elg, hmet, hnm, *]; split <;> split <;> omega)
          · -- c9 false
            try simp only [nrm] at c9
            refine W_skip (kq30 _ _ ?_)
            refine W_seq fun kz33 kq33 => ?_
            refine W_region [6] fun R hR => ?_   -- r22
            simp only [go_sem, llPV, hx]
            refine hR _ _ (kq33 _ _ ?_); clear hR R; try clear kq33 kz33
            try simp only [go_sem, llPV, hx]
            refine W_ret ?_
            simp only [go_sem, llPV, hx]
            refine ⟨.inr (by trivial), ?_⟩
            first | refine Fin_same hcl rfl (Wk_eq ?_ (by simp only [go_sem])) | refine Fin_self hcl rfl (Wk_eq ?_ (by simp only [go_sem]))
            try simp only [go_sem]
            all_goals
              first | (simp [rChk, elg, hmet, hnm, *]; done) | (simp [rChk, elg, hmet, hnm, *]; split <;> split <;> omega)
      · -- c6 false
        try simp only [nrm] at c6
        refine W_skip (kq22 _ _ ?_)
        refine W_seq fun kz34 kq34 => ?_
        refine W_seq fun kz35 kq35 => ?_
        refine W_region [2, 7, 11, 70] fun R hR => ?_   -- r18
        simp only [go_sem, llPV, hx]
        try simp (disch := omega) only [wrapI, wrapU]
        refine hR _ _ (kq35 _ _ ?_); clear hR R; try clear kq35 kz35
        try simp only [go_sem, llPV, hx]
        refine W_cond rfl (fun c10 => ?_) (fun c10 => ?_)
        · -- c10 true
          try simp only [nrm] at c10
          refine W_region [7, 11] fun R hR => ?_   -- r19
          simp only [go_sem, llPV, hx]
          try simp (disch := omega) only [wrapI, wrapU]
          refine hR _ _ (kq34 _ _ ?_); clear hR R; try clear kq34 kz34
          try simp only [go_sem, llPV, hx]
          refine W_seq fun kz36 kq36 => ?_
          refine W_seq fun kz37 kq37 => ?_
          refine W_region [77] fun R hR => ?_   -- r20
          simp only [go_sem, llPV, hx]
          refine hR _ _ (kq37 _ _ ?_); clear hR R; try clear kq37 kz37
          try simp only [go_sem, llPV, hx]
          refine W_cond rfl (fun c11 => ?_) (fun c11 => ?_)
          · -- c11 true
            try simp only [nrm] at c11
            refine W_seq fun kz38 kq38 => ?_
            refine W_region [6] fun R hR => ?_   -- r21
            simp only [go_sem, llPV, hx]
            refine hR _ _ (kq38 _ _ ?_); clear hR R; try clear kq38 kz38
            try simp only [go_sem, llPV, hx]
            refine W_ret ?_
            simp only [go_sem, llPV, hx]
            refine ⟨.inr (by trivial), ?_⟩
            first | refine Fin_same hcl rfl (Wk_eq ?_ (by simp only [go_sem])) | refine Fin_self hcl rfl (Wk_eq ?_ (by simp only [go_sem]))
            try simp only [go_sem]
            all_goals
              first | (simp [rChk, elg, hmet, hnm, *]; done) | (simp [rChk, elg, hmet, hnm, *]; split <;> split <;> omega)
          · -- c11 false
            try simp only [nrm] at c11
            refine W_skip (kq36 _ _ ?_)
            refine W_seq fun kz39 kq39 => ?_
            refine W_region [6] fun R hR => ?_   -- r22
            simp only [go_sem, llPV, hx]
            refine hR _ _ (kq39 _ _ ?_); clear hR R; try clear kq39 kz39
            try simp only [go_sem, llPV, hx]
            refine W_ret ?_
            simp only [go_sem, llPV, hx]
            refine ⟨.inr (by trivial), ?_⟩
            first | refine Fin_same hcl rfl (Wk_eq ?_ (by simp only [go_sem])) | refine Fin_self hcl rfl (Wk_eq ?_ (by simp only [go_sem]))
            try simp only [go_sem]
            all_goals
              first | (simp [rChk, elg, hmet, hnm, *]; done) | (simp [rChk, elg, hmet, hnm, *]; split <;> split <;> omega)
        · -- c10 false
          try simp only [nrm] at c10
          refine W_skip (kq34 _ _ ?_)
          refine W_seq fun kz40 kq40 => ?_
          refine W_seq fun kz41 kq41 => ?_
          refine W_region [77] fun R hR => ?_   -- r20
          simp only [go_sem, llPV, hx]
          refine hR _ _ (kq41 _ _ ?_); clear hR R; try clear kq41 kz41
          try simp only [go_sem, llPV, hx]
          refine W_cond rfl (fun c12 => ?_) (fun c12 => ?_)
          · -- c12 true
            try simp only [nrm] at c12
            refine W_seq fun kz42 kq42 => ?_
            refine W_region [6] fun R hR => ?_   -- r21
            simp only [go_sem, llPV, hx]
            refine hR _ _ (kq42 _ _ ?_); clear hR R; try clear kq42 kz42
            try simp only [go_sem, llPV, hx]
            refine W_ret ?_
            simp only [go_sem, llPV, hx]
            refine ⟨.inr (by trivial), ?_⟩
            first | refine Fin_same hcl rfl (Wk_eq ?_ (by simp only [go_sem])) | refine Fin_self hcl rfl (Wk_eq ?_ (by simp only [go_sem]))
            try simp only [go_sem]
            all_goals
              first | (simp [rChk, elg, hmet, hnm, *]; done) | (simp [rChk, elg, hmet, hnm, *]; split <;> split <;> omega)
          · -- c12 false
            try simp only [nrm] at c12
            refine W_skip (kq40 _ _ ?_)
            refine W_seq fun kz43 kq43 => ?_
            refine W_region [6] fun R hR => ?_   -- r22
            simp only [go_sem, llPV, hx]
            refine hR _ _ (kq43 _ _ ?_); clear hR R; try clear kq43 kz43
            try simp only [go_sem, llPV, hx]
            refine W_ret ?_
            simp only [go_sem, llPV, hx]
            refine ⟨.inr (by trivial), ?_⟩
            first | refine Fin_same hcl rfl (Wk_eq ?_ (by simp only [go_sem])) | refine Fin_self hcl rfl (Wk_eq ?_ (by simp only [go_sem]))
            try simp only [go_sem]
            all_goals
              first | (simp [rChk, elg, hmet, hnm, *]; done) | (simp [rChk, elg, hmet, hnm, *]; split <;> split <;> omega)
set_option maxHeartbeats 16000000 in
theorem rMove_pc (Y : YEnv) (σ : Sg) (ls : List (List Int)) (n : Int) (hl : ls.length < 2 ^ 40) (hx8 : ∀ x, x ∈ ls → x.length < 2 ^ 40) :
    PC Try.prog Y 35 [lls ls, I n] σ (.tuple [lls (moveA ls n).1, I (moveA ls n).2]) (σ) := by
  refine PC_of_W Try.func35 rfl (by kernel_rfl) Try.ntmps35 (by simp) fun hcl hca => ?_
  obtain ⟨res, hres⟩ : ∃ r, moveA ls n = r := ⟨_, rfl⟩
  rw [hres]
  refine W_seq fun kz1 kq1 => ?_
  refine W_region [0, 1] fun R hR => ?_   -- r0
  simp only [go_sem, llPV]
  refine hR _ _ (kq1 _ _ ?_); clear hR R; try clear kq1 kz1
  try simp only [go_sem, llPV]
  refine W_seq fun kz2 kq2 => ?_
  refine W_seq fun kz3 kq3 => ?_
  refine W_region [0, 1, 17] fun R hR => ?_   -- r1
  simp only [go_sem, llPV]
  refine hR _ _ (kq3 _ _ ?_); clear hR R; try clear kq3 kz3
  try simp only [go_sem, llPV]
  refine W_cond rfl (fun c1 => ?_) (fun c1 => ?_)
  · -- c1 true
    try simp only [nrm] at c1
    refine W_seq fun kz4 kq4 => ?_
    refine W_region [4, 5] fun R hR => ?_   -- r2
    simp only [go_sem, llPV]
    refine hR _ _ (kq4 _ _ ?_); clear hR R; try clear kq4 kz4
    try simp only [go_sem, llPV]
    refine W_ret ?_
    simp only [go_sem, llPV]
    refine ⟨.inr (by trivial), ?_⟩
    first | refine Fin_same hcl rfl (Wk.ro (by simp only [go_sem]) ?_) | refine Fin_self hcl rfl (Wk.ro (by simp only [go_sem]) ?_)
    try simp only [go_sem]
    all_goals
      rw [← hres]; clear hres; simp [moveA, *]
  · -- c1 false
    try simp only [nrm] at c1
    refine W_skip (kq2 _ _ ?_)
    refine W_seq fun kz5 kq5 => ?_
    refine W_seq fun kz6 kq6 => ?_
    refine W_region [0, 1, 20] fun R hR => ?_   -- r3
    simp only [go_sem, llPV]
    refine GCall_of (rin_pc Y _ n 0 8) ?_   -- t19
    simp only [go_sem, llPV]
    refine hR _ _ (kq6 _ _ ?_); clear hR R; try clear kq6 kz6
    try simp only [go_sem, llPV]
    refine W_cond rfl (fun c2 => ?_) (fun c2 => ?_)
    · -- c2 true
      try simp only [nrm] at c2
      refine W_seq fun kz7 kq7 => ?_
      refine W_region [4, 5] fun R hR => ?_   -- r4
      simp only [go_sem, llPV]
      refine hR _ _ (kq7 _ _ ?_); clear hR R; try clear kq7 kz7
      try simp only [go_sem, llPV]
      refine W_ret ?_
      simp only [go_sem, llPV]
      refine ⟨.inr (by trivial), ?_⟩
      first | refine Fin_same hcl rfl (Wk.ro (by simp only [go_sem]) ?_) | refine Fin_self hcl rfl (Wk.ro (by simp only [go_sem]) ?_)
      try simp only [go_sem]
      all_goals
        rw [← hres]; clear hres; simp [moveA, *]
    · -- c2 false
      try simp only [nrm] at c2
      have hin : inR n 0 8 = true := by simpa using c2
      have hin2 := hin
      simp only [inR_true] at hin2
      refine W_skip (kq5 _ _ ?_)
      refine W_seq fun kz8 kq8 => ?_
      refine W_seq fun kz9 kq9 => ?_
      refine W_region [0, 1, 6] fun R hR => ?_   -- r5
      simp only [go_sem, llPV]
      refine hR _ _ (kq9 _ _ ?_); clear hR R; try clear kq9 kz9
      try simp only [go_sem, llPV]
      refine W_block ?_
      refine W_loopS (α := Nat) (fun (i : Nat) => [(6, I i)]) (fun (i : Nat) => i ≤ ls.length ∧ chkL ls.length n 0 [] ls = chkL ls.length n i (ls.take i).flatten (ls.drop i)) (fun (i : Nat) => ls.length - i) (0) rfl (⟨Nat.zero_le _, rfl⟩) ?_
      rintro i ⟨hi, hinv⟩
      refine W_seq fun kz10 kq10 => ?_
      refine W_seq fun kz11 kq11 => ?_
      refine W_region [0, 1, 6, 24] fun R hR => ?_   -- r6
      simp only [go_sem, llPV]
      refine hR _ _ (kq11 _ _ ?_); clear hR R; try clear kq11 kz11
      try simp only [go_sem, llPV]
      refine W_cond rfl (fun c3 => ?_) (fun c3 => ?_)
      · -- c3 true
        try simp only [nrm] at c3
        have hi' : i < ls.length := by first | assumption | omega
        obtain ⟨l, hx⟩ : ∃ l, ls[i]? = some l := ⟨ls[i], by simp [hi']⟩
        have hdrop : ls.drop i = l :: ls.drop (i + 1) := by
          rw [List.drop_eq_getElem_cons hi']; congr 1; exact (List.getElem?_eq_some_iff.1 hx).2
        rw [hdrop, chkL_rChk hx _ rfl] at hinv
        have hfl : (ls.take i).flatten ++ l = (ls.take (i + 1)).flatten := by rw [List.take_add_one, hx]; simp
        rw [hfl] at hinv
        refine W_skip (kq10 _ _ ?_)
        refine W_seq fun kz12 kq12 => ?_
        refine W_block ?_
        refine W_seq fun kz13 kq13 => ?_
        refine W_region [0, 1, 6, 7] fun R hR => ?_   -- r8
        simp only [go_sem, llPV, hx]
        refine GCall_of (rLeague_pc Y _ ls i n hl hx8 hin2 l hx) ?_   -- t30
        simp only [go_sem, llPV, hx]
        refine hR _ _ (kq13 _ _ ?_); clear hR R; try clear kq13 kz13
        try simp only [go_sem, llPV, hx]
        refine W_seq fun kz14 kq14 => ?_
        refine W_region [0, 1, 6, 7, 32] fun R hR => ?_   -- r9
        simp only [go_sem, llPV, hx]
        refine hR _ _ (kq14 _ _ ?_); clear hR R; try clear kq14 kz14
        try simp only [go_sem, llPV, hx]
        refine W_cond rfl (fun c4 => ?_) (fun c4 => ?_)
        · -- c4 true
          try simp only [nrm] at c4
          refine W_seq fun kz15 kq15 => ?_
          refine W_region [4, 5] fun R hR => ?_   -- r10
          simp only [go_sem, llPV, hx]
          refine hR _ _ (kq15 _ _ ?_); clear hR R; try clear kq15 kz15
          try simp only [go_sem, llPV, hx]
          refine W_ret ?_
          simp only [go_sem, llPV, hx]
          refine ⟨.inr (by trivial), ?_⟩
          first | refine Fin_same hcl rfl (Wk.ro (by simp only [go_sem]) ?_) | refine Fin_self hcl rfl (Wk.ro (by simp only [go_sem]) ?_)
          try simp only [go_sem]
          all_goals
            rw [← hres]; simp [moveA, c1, hin, hinv, c4]
        · -- c4 false
          try simp only [nrm] at c4
          refine W_skip (kq12 _ _ ?_)
          refine W_region [0, 1, 6] fun R hR => ?_   -- r7
          simp only [go_sem, llPV, hx]
          try simp (disch := omega) only [wrapI, wrapU]
          refine hR _ _ ?_; clear hR R
          try simp only [go_sem, llPV, hx]
          refine ⟨i + 1, ?_, by (try simp only []); omega, ?_⟩
          · first | exact Weak.refl | exact Weak.eq (by first | rfl | (simp only [go_sem]; done) | (simp only [go_sem]; rfl) | (simp [go_sem]; done) | (simp [go_sem]; omega)) (by first | rfl | (simp only [go_sem]; done) | (simp [go_sem]; done))
          · try dsimp only
            exact ⟨hi', by rw [hinv]; simp [c4]⟩
      · -- c3 false
        try simp only [nrm] at c3
        have hdrop : ls.drop i = [] := List.drop_eq_nil_of_le (by omega)
        rw [hdrop] at hinv
        simp only [chkL] at hinv
        refine W_exit ?_
        simp only [go_sem, llPV]
        refine kq8 _ _ ?_
        refine W_seq fun kz16 kq16 => ?_
        refine W_region [0, 1, 8] fun R hR => ?_   -- r11
        simp only [go_sem, llPV]
        refine hR _ _ (kq16 _ _ ?_); clear hR R; try clear kq16 kz16
        try simp only [go_sem, llPV]
        refine W_seq fun kz17 kq17 => ?_
        refine W_seq fun kz18 kq18 => ?_
        refine W_region [0, 1, 8, 9] fun R hR => ?_   -- r12
        simp only [go_sem, llPV]
        refine hR _ _ (kq18 _ _ ?_); clear hR R; try clear kq18 kz18
        try simp only [go_sem, llPV]
        refine W_block ?_
        have hok0 := chkL_ok hinv
        obtain ⟨N, hN⟩ : ∃ z : Nat, n = z := ⟨n.toNat, by omega⟩
        subst hN
        have hok : ∀ (j : Nat) (x : List Int), ls[j]? = some x → (x.length : Int) ≤ 8 ∧ (N : Int) * nb ls.length j ≤ x.length := fun j x hx => by have := hok0 j x hx; rw [Nat.zero_add] at this; exact this
        have hz : ∀ k : Nat, ((0 : Int) ≤ (k : Int)) = True := fun k => by simp
        refine W_weak (Weak.room (t := 8) (es := 1) rfl (by simp)) ?_
        refine W_weak (Weak.keep [0, 1, 8, 9]) ?_
        simp only [go_sem, llPV]
        refine W_loopT (α := Nat) (fun (i : Nat) => [(8, .isl ((nextA ls N i).map llPV) (.tok σ.rooms.length i 1)), (9, I i)]) (fun (i : Nat) => σ.ext [] [i]) (fun (i : Nat) => i ≤ ls.length) (fun (i : Nat) => ls.length - i) (0) rfl (by first | rfl | (simp only [go_sem]; done) | (simp only [go_sem]; rfl)) (Nat.zero_le _) ?_
        rintro i hi
        refine W_seq fun kz19 kq19 => ?_
        refine W_seq fun kz20 kq20 => ?_
        refine W_region [0, 1, 8, 9, 37] fun R hR => ?_   -- r13
        simp only [go_sem, llPV, hz, Int.toNat_natCast, Int.toNat_zero, List.drop_zero, Nat.sub_zero, nextA_len, Int.le_refl, Nat.le_refl, Nat.zero_le]
        refine hR _ _ (kq20 _ _ ?_); clear hR R; try clear kq20 kz20
        try simp only [go_sem, llPV, hz, Int.toNat_natCast, Int.toNat_zero, List.drop_zero, Nat.sub_zero, nextA_len, Int.le_refl, Nat.le_refl, Nat.zero_le]
        refine W_cond rfl (fun c5 => ?_) (fun c5 => ?_)
        · -- c5 true
          try simp only [nrm] at c5
          have hi' : i < ls.length := by first | assumption | omega
          obtain ⟨l, hx⟩ : ∃ l, ls[i]? = some l := ⟨ls[i], by simp [hi']⟩
          have hdrop : ls.drop i = l :: ls.drop (i + 1) := by
            rw [List.drop_eq_getElem_cons hi']; congr 1; exact (List.getElem?_eq_some_iff.1 hx).2
          have hnl := nextA_len ls N i
          refine W_skip (kq19 _ _ ?_)
          refine W_seq fun kz21 kq21 => ?_
          refine W_block ?_
          refine W_seq fun kz22 kq22 => ?_
          refine W_region [0, 1, 8, 9, 10] fun R hR => ?_   -- r15
          simp only [go_sem, llPV, hz, Int.toNat_natCast, Int.toNat_zero, List.drop_zero, Nat.sub_zero, nextA_len, Int.le_refl, Nat.le_refl, Nat.zero_le, hx]
          refine hR _ _ (kq22 _ _ ?_); clear hR R; try clear kq22 kz22
          try simp only [go_sem, llPV, hz, Int.toNat_natCast, Int.toNat_zero, List.drop_zero, Nat.sub_zero, nextA_len, Int.le_refl, Nat.le_refl, Nat.zero_le, hx]
          refine W_seq fun kz23 kq23 => ?_
          refine W_region [0, 1, 8, 9, 10, 11, 12] fun R hR => ?_   -- r16
          simp only [go_sem, llPV, hz, Int.toNat_natCast, Int.toNat_zero, List.drop_zero, Nat.sub_zero, nextA_len, Int.le_refl, Nat.le_refl, Nat.zero_le, hx]
          refine hR _ _ (kq23 _ _ ?_); clear hR R; try clear kq23 kz23
          try simp only [go_sem, llPV, hz, Int.toNat_natCast, Int.toNat_zero, List.drop_zero, Nat.sub_zero, nextA_len, Int.le_refl, Nat.le_refl, Nat.zero_le, hx]
          refine W_seq fun kz24 kq24 => ?_
          refine W_region [0, 1, 8, 9, 10, 11, 12, 13] fun R hR => ?_   -- r17
          simp only [go_sem, llPV, hz, Int.toNat_natCast, Int.toNat_zero, List.drop_zero, Nat.sub_zero, nextA_len, Int.le_refl, Nat.le_refl, Nat.zero_le, hx]
          refine hR _ _ (kq24 _ _ ?_); clear hR R; try clear kq24 kz24
          try simp only [go_sem, llPV, hz, Int.toNat_natCast, Int.toNat_zero, List.drop_zero, Nat.sub_zero, nextA_len, Int.le_refl, Nat.le_refl, Nat.zero_le, hx]
          refine W_seq fun kz25 kq25 => ?_
          refine W_seq fun kz26 kq26 => ?_
          refine W_weak (Weak.room (t := 13) (es := 1) rfl (by simp)) ?_
          refine W_weak (Weak.keep [0, 1, 8, 9, 10, 11, 12, 13]) ?_
          simp only [go_sem]
          refine W_region [0, 1, 8, 9, 10, 11, 12, 13, 47] fun R hR => ?_   -- r18
          simp only [go_sem, llPV, hz, Int.toNat_natCast, Int.toNat_zero, List.drop_zero, Nat.sub_zero, nextA_len, Int.le_refl, Nat.le_refl, Nat.zero_le, hx]
          refine hR _ _ (kq26 _ _ ?_); clear hR R; try clear kq26 kz26
          try simp only [go_sem, llPV, hz, Int.toNat_natCast, Int.toNat_zero, List.drop_zero, Nat.sub_zero, nextA_len, Int.le_refl, Nat.le_refl, Nat.zero_le, hx]
          refine W_cond rfl (fun c6 => ?_) (fun c6 => ?_)
          · -- c6 true
            try simp only [nrm] at c6
            have hi0 : 0 < i := by first | omega | (simp at c6; omega)
            obtain ⟨ab, hab⟩ : ∃ z, ls[i - 1]? = some z := ⟨ls[i - 1]'(by omega), by simp⟩
            have hab8 := (hok (i - 1) ab hab).1
            have hNa : N ≤ ab.length := by have := (nb_lo (by omega) (hok (i - 1) ab hab).2).2.1 (by omega); omega
            have hw1 : IntKind.i64.wrap ((i : Int) - 1) = ((i - 1 : Nat) : Int) := by rw [wrapI (by omega) (by omega)]; omega
            have hw2 : IntKind.i64.wrap ((ab.length : Int) - (N : Int)) = ((ab.length - N : Nat) : Int) := by rw [wrapI (by omega) (by omega)]; omega
            have hle : ab.length - N ≤ ab.length := by omega
            have hpla : (ab.drop (ab.length - N)).length ≤ 8 := by simp only [List.length_drop] <;> omega
            refine W_seq fun kz27 kq27 => ?_
            refine W_region [0, 1, 8, 9, 10, 12, 13, 14] fun R hR => ?_   -- r19
            simp only [go_sem, llPV, hz, Int.toNat_natCast, Int.toNat_zero, List.drop_zero, Nat.sub_zero, nextA_len, Int.le_refl, Nat.le_refl, Nat.zero_le, hx, hab, hw1, hw2, hle]
            try simp (disch := omega) only [wrapI, wrapU]
            refine hR _ _ (kq27 _ _ ?_); clear hR R; try clear kq27 kz27
            try simp only [go_sem, llPV, hz, Int.toNat_natCast, Int.toNat_zero, List.drop_zero, Nat.sub_zero, nextA_len, Int.le_refl, Nat.le_refl, Nat.zero_le, hx, hab, hw1, hw2, hle]
            refine W_region [0, 1, 8, 9, 10, 11, 12, 13] fun R hR => ?_   -- r20
            simp only [go_sem, llPV, hz, Int.toNat_natCast, Int.toNat_zero, List.drop_zero, Nat.sub_zero, nextA_len, Int.le_refl, Nat.le_refl, Nat.zero_le, hx, hab, hw1, hw2, hle]
            try simp (disch := first | omega | (simp only [go_sem] <;> omega)) only [wrapI, wrapU, appX_exact, appX_tok]
            try simp only [go_sem, llPV, hz, Int.toNat_natCast, Int.toNat_zero, List.drop_zero, Nat.sub_zero, nextA_len, Int.le_refl, Nat.le_refl, Nat.zero_le, hx, hab, hw1, hw2, hle]
            refine hR _ _ (kq25 _ _ ?_); clear hR R; try clear kq25 kz25
            try simp only [go_sem, llPV, hz, Int.toNat_natCast, Int.toNat_zero, List.drop_zero, Nat.sub_zero, nextA_len, Int.le_refl, Nat.le_refl, Nat.zero_le, hx, hab, hw1, hw2, hle]
            refine W_seq fun kz28 kq28 => ?_
            refine W_seq fun kz29 kq29 => ?_
            refine W_region [0, 1, 8, 9, 10, 11, 12, 13, 66] fun R hR => ?_   -- r21
            simp only [go_sem, llPV, hz, Int.toNat_natCast, Int.toNat_zero, List.drop_zero, Nat.sub_zero, nextA_len, Int.le_refl, Nat.le_refl, Nat.zero_le, hx, hab, hw1, hw2, hle]
            try simp (disch := omega) only [wrapI, wrapU]
            refine hR _ _ (kq29 _ _ ?_); clear hR R; try clear kq29 kz29
            try simp only [go_sem, llPV, hz, Int.toNat_natCast, Int.toNat_zero, List.drop_zero, Nat.sub_zero, nextA_len, Int.le_refl, Nat.le_refl, Nat.zero_le, hx, hab, hw1, hw2, hle]
            refine W_cond rfl (fun c7 => ?_) (fun c7 => ?_)
            · -- c7 true
              try simp only [nrm] at c7
              have hok3 := nb_lo (by omega) (hok i l hx).2
              have hl8 := (hok i l hx).1
              have hi1 : i + 1 < ls.length := by first | omega | (simp at c7; omega)
              have hNl : N ≤ l.length := by have := hok3.2.1 hi1; omega
              obtain ⟨be, hbe⟩ : ∃ z, ls[i + 1]? = some z := ⟨ls[i + 1]'hi1, by simp⟩
              have hbe8 := (hok (i + 1) be hbe).1
              have hNb : N ≤ be.length := by have := (nb_lo (by omega) (hok (i + 1) be hbe).2).1 (by omega); omega
              have hw3 : IntKind.i64.wrap ((l.length : Int) - (N : Int)) = ((l.length - N : Nat) : Int) := by rw [wrapI (by omega) (by omega)]; omega
              have hw4 : IntKind.i64.wrap ((i : Int) + 1) = ((i + 1 : Nat) : Int) := by rw [wrapI (by omega) (by omega)]; omega
              have hr1 : l.length - N ≤ l.length := by omega
              have hNN : 2 * N ≤ l.length := by have := hok3.2.2 hi0 hi1; omega
              have hpl0 : ((ab.drop (ab.length - N))).length ≤ 8 := by simp only [List.length_drop, List.length_take] <;> omega
              have hpl1 : (((l.drop N).take (l.length - N - N))).length ≤ 8 := by simp only [List.length_drop, List.length_take] <;> omega
              have hpl2 : ((be.take N)).length ≤ 8 := by simp only [List.length_drop, List.length_take] <;> omega
              have hr2 : N ≤ l.length - N := by omega
              have hfold : (ab.drop (ab.length - N)).map I ++ ((l.drop N).take (l.length - N - N)).map I ++ (be.take N).map I = (nextL ls N i).map I := by
                simp only [nextL, lgAt, hx, hab, hbe, Option.getD_some, hi0, hi1, if_true, if_false]
                simp
              refine W_region [0, 1, 8, 9, 10, 11, 12, 13] fun R hR => ?_   -- r22
              simp only [go_sem, llPV, hz, Int.toNat_natCast, Int.toNat_zero, List.drop_zero, Nat.sub_zero, nextA_len, Int.le_refl, Nat.le_refl, Nat.zero_le, hx, hab, hw1, hw2, hle, hr1, hr2, hbe, hw3, hw4, hNb]
              try simp (disch := omega) only [wrapI, wrapU]
              refine hR _ _ (kq28 _ _ ?_); clear hR R; try clear kq28 kz28
              try simp only [go_sem, llPV, hz, Int.toNat_natCast, Int.toNat_zero, List.drop_zero, Nat.sub_zero, nextA_len, Int.le_refl, Nat.le_refl, Nat.zero_le, hx, hab, hw1, hw2, hle, hr1, hr2, hbe, hw3, hw4, hNb]
              refine W_seq fun kz30 kq30 => ?_
              refine W_region [0, 1, 8, 9, 13] fun R hR => ?_   -- r23
              simp only [go_sem, llPV, hz, Int.toNat_natCast, Int.toNat_zero, List.drop_zero, Nat.sub_zero, nextA_len, Int.le_refl, Nat.le_refl, Nat.zero_le, hx, hab, hw1, hw2, hle, hr1, hr2, hbe, hw3, hw4, hNb]
              try simp (disch := first | omega | (simp only [go_sem] <;> omega)) only [wrapI, wrapU, appX_exact, appX_tok]
              try simp only [go_sem, llPV, hz, Int.toNat_natCast, Int.toNat_zero, List.drop_zero, Nat.sub_zero, nextA_len, Int.le_refl, Nat.le_refl, Nat.zero_le, hx, hab, hw1, hw2, hle, hr1, hr2, hbe, hw3, hw4, hNb]
              refine hR _ _ (kq30 _ _ ?_); clear hR R; try clear kq30 kz30
              try simp only [go_sem, llPV, hz, Int.toNat_natCast, Int.toNat_zero, List.drop_zero, Nat.sub_zero, nextA_len, Int.le_refl, Nat.le_refl, Nat.zero_le, hx, hab, hw1, hw2, hle, hr1, hr2, hbe, hw3, hw4, hNb]
              refine W_seq fun kz31 kq31 => ?_
              refine W_seq fun kz32 kq32 => ?_
              refine W_region [0, 1, 8, 9, 13, 81] fun R hR => ?_   -- r24
              simp only [go_sem, llPV, hz, Int.toNat_natCast, Int.toNat_zero, List.drop_zero, Nat.sub_zero, nextA_len, Int.le_refl, Nat.le_refl, Nat.zero_le, hx, hab, hw1, hw2, hle, hr1, hr2, hbe, hw3, hw4, hNb]
              try simp (disch := omega) only [wrapI, wrapU]
              refine hR _ _ (kq32 _ _ ?_); clear hR R; try clear kq32 kz32
              try simp only [go_sem, llPV, hz, Int.toNat_natCast, Int.toNat_zero, List.drop_zero, Nat.sub_zero, nextA_len, Int.le_refl, Nat.le_refl, Nat.zero_le, hx, hab, hw1, hw2, hle, hr1, hr2, hbe, hw3, hw4, hNb]
              refine W_cond rfl (fun c8 => ?_) (fun c8 => ?_)
              · -- c8 true
                try simp only [nrm] at c8
                refine W_region [0, 1, 8, 9, 13] fun R hR => ?_   -- r25
                simp only [go_sem, llPV, hz, Int.toNat_natCast, Int.toNat_zero, List.drop_zero, Nat.sub_zero, nextA_len, Int.le_refl, Nat.le_refl, Nat.zero_le, hx, hab, hw1, hw2, hle, hr1, hr2, hbe, hw3, hw4, hNb, ← List.map_take]
                try simp (disch := first | omega | (simp only [go_sem] <;> omega)) only [wrapI, wrapU, appX_exact, appX_tok]
                try simp only [go_sem, llPV, hz, Int.toNat_natCast, Int.toNat_zero, List.drop_zero, Nat.sub_zero, nextA_len, Int.le_refl, Nat.le_refl, Nat.zero_le, hx, hab, hw1, hw2, hle, hr1, hr2, hbe, hw3, hw4, hNb, ← List.map_take]
                refine hR _ _ (kq31 _ _ ?_); clear hR R; try clear kq31 kz31
                try simp only [go_sem, llPV, hz, Int.toNat_natCast, Int.toNat_zero, List.drop_zero, Nat.sub_zero, nextA_len, Int.le_refl, Nat.le_refl, Nat.zero_le, hx, hab, hw1, hw2, hle, hr1, hr2, hbe, hw3, hw4, hNb]
                try simp only [List.append_assoc] at hfold ⊢
                simp only [hfold]
                refine W_weak (Weak.ro 13) ?_
                refine W_weak (Weak.keep [0, 1, 8, 9, 13]) ?_
                simp only [go_sem]
                refine W_region [0, 1, 8, 9] fun R hR => ?_   -- r26
                simp only [go_sem, llPV, hz, Int.toNat_natCast, Int.toNat_zero, List.drop_zero, Nat.sub_zero, nextA_len, Int.le_refl, Nat.le_refl, Nat.zero_le, hx, hab, hw1, hw2, hle, hr1, hr2, hbe, hw3, hw4, hNb]
                try simp (disch := first | omega | (simp only [go_sem] <;> omega)) only [wrapI, wrapU, appX_exact, appX_tok]
                try simp only [go_sem, llPV, hz, Int.toNat_natCast, Int.toNat_zero, List.drop_zero, Nat.sub_zero, nextA_len, Int.le_refl, Nat.le_refl, Nat.zero_le, hx, hab, hw1, hw2, hle, hr1, hr2, hbe, hw3, hw4, hNb]
                refine hR _ _ (kq21 _ _ ?_); clear hR R; try clear kq21 kz21
                try simp only [go_sem, llPV, hz, Int.toNat_natCast, Int.toNat_zero, List.drop_zero, Nat.sub_zero, nextA_len, Int.le_refl, Nat.le_refl, Nat.zero_le, hx, hab, hw1, hw2, hle, hr1, hr2, hbe, hw3, hw4, hNb]
                refine W_region [0, 1, 8, 9] fun R hR => ?_   -- r14
                simp only [go_sem, llPV, hz, Int.toNat_natCast, Int.toNat_zero, List.drop_zero, Nat.sub_zero, nextA_len, Int.le_refl, Nat.le_refl, Nat.zero_le, hx, hab, hw1, hw2, hle, hr1, hr2, hbe, hw3, hw4, hNb]
                try simp (disch := omega) only [wrapI, wrapU]
                refine hR _ _ ?_; clear hR R
                try simp only [go_sem, llPV, hz, Int.toNat_natCast, Int.toNat_zero, List.drop_zero, Nat.sub_zero, nextA_len, Int.le_refl, Nat.le_refl, Nat.zero_le, hx, hab, hw1, hw2, hle, hr1, hr2, hbe, hw3, hw4, hNb]
                refine ⟨i + 1, ?_, by (try simp only []); omega, ?_⟩
                · refine Weak.trans (Weak.cutX 0 1 (by omega) (by omega) hcl (by simp only [go_sem] <;> omega) (by simp only [go_sem] <;> omega)) ?_
                  simp only [go_sem]
                  refine Weak.eq ?_ ?_
                  · simp only [go_sem, nextA_succ, List.map_append, List.map_cons, List.map_nil, llPV, ints]
                    first | done | rfl
                  · simp only [go_sem]
                · try dsimp only
                  omega
              · -- c8 false
                try simp only [nrm] at c8
                exfalso
                first | omega | (simp at c8; omega)
            · -- c7 false
              try simp only [nrm] at c7
              have hok3 := nb_lo (by omega) (hok i l hx).2
              have hl8 := (hok i l hx).1
              have hi1 : ¬ i + 1 < ls.length := by first | omega | (simp at c7; omega)
              have hr1 : l.length ≤ l.length := Nat.le_refl _
              have hNN : N ≤ l.length := by have := hok3.1 hi0; omega
              have hpl0 : ((ab.drop (ab.length - N))).length ≤ 8 := by simp only [List.length_drop, List.length_take] <;> omega
              have hpl1 : (((l.drop N).take (l.length - N))).length ≤ 8 := by simp only [List.length_drop, List.length_take] <;> omega
              have hr2 : N ≤ l.length := by omega
              have hfold : (ab.drop (ab.length - N)).map I ++ ((l.drop N).take (l.length - N)).map I = (nextL ls N i).map I := by
                simp only [nextL, lgAt, hx, hab, Option.getD_some, hi0, hi1, if_true, if_false]
                simp
              refine W_skip (kq28 _ _ ?_)
              refine W_seq fun kz33 kq33 => ?_
              refine W_region [0, 1, 8, 9, 13] fun R hR => ?_   -- r23
              simp only [go_sem, llPV, hz, Int.toNat_natCast, Int.toNat_zero, List.drop_zero, Nat.sub_zero, nextA_len, Int.le_refl, Nat.le_refl, Nat.zero_le, hx, hab, hw1, hw2, hle, hr1, hr2]
              try simp (disch := first | omega | (simp only [go_sem] <;> omega)) only [wrapI, wrapU, appX_exact, appX_tok]
              try simp only [go_sem, llPV, hz, Int.toNat_natCast, Int.toNat_zero, List.drop_zero, Nat.sub_zero, nextA_len, Int.le_refl, Nat.le_refl, Nat.zero_le, hx, hab, hw1, hw2, hle, hr1, hr2]
              refine hR _ _ (kq33 _ _ ?_); clear hR R; try clear kq33 kz33
              try simp only [go_sem, llPV, hz, Int.toNat_natCast, Int.toNat_zero, List.drop_zero, Nat.sub_zero, nextA_len, Int.le_refl, Nat.le_refl, Nat.zero_le, hx, hab, hw1, hw2, hle, hr1, hr2]
              refine W_seq fun kz34 kq34 => ?_
              refine W_seq fun kz35 kq35 => ?_
              refine W_region [0, 1, 8, 9, 13, 81] fun R hR => ?_   -- r24
              simp only [go_sem, llPV, hz, Int.toNat_natCast, Int.toNat_zero, List.drop_zero, Nat.sub_zero, nextA_len, Int.le_refl, Nat.le_refl, Nat.zero_le, hx, hab, hw1, hw2, hle, hr1, hr2]
              try simp (disch := omega) only [wrapI, wrapU]
              refine hR _ _ (kq35 _ _ ?_); clear hR R; try clear kq35 kz35
              try simp only [go_sem, llPV, hz, Int.toNat_natCast, Int.toNat_zero, List.drop_zero, Nat.sub_zero, nextA_len, Int.le_refl, Nat.le_refl, Nat.zero_le, hx, hab, hw1, hw2, hle, hr1, hr2]
              refine W_cond rfl (fun c9 => ?_) (fun c9 => ?_)
              · -- c9 true
                try simp only [nrm] at c9
                exfalso
                first | omega | (simp at c9; omega)
              · -- c9 false
                try simp only [nrm] at c9
                refine W_skip (kq34 _ _ ?_)
                try simp only [List.append_assoc] at hfold ⊢
                simp only [hfold]
                refine W_weak (Weak.ro 13) ?_
                refine W_weak (Weak.keep [0, 1, 8, 9, 13]) ?_
                simp only [go_sem]
                refine W_region [0, 1, 8, 9] fun R hR => ?_   -- r26
                simp only [go_sem, llPV, hz, Int.toNat_natCast, Int.toNat_zero, List.drop_zero, Nat.sub_zero, nextA_len, Int.le_refl, Nat.le_refl, Nat.zero_le, hx, hab, hw1, hw2, hle, hr1, hr2]
                try simp (disch := first | omega | (simp only [go_sem] <;> omega)) only [wrapI, wrapU, appX_exact, appX_tok]
                try simp only [go_sem, llPV, hz, Int.toNat_natCast, Int.toNat_zero, List.drop_zero, Nat.sub_zero, nextA_len, Int.le_refl, Nat.le_refl, Nat.zero_le, hx, hab, hw1, hw2, hle, hr1, hr2]
                refine hR _ _ (kq21 _ _ ?_); clear hR R; try clear kq21 kz21
                try simp only [go_sem, llPV, hz, Int.toNat_natCast, Int.toNat_zero, List.drop_zero, Nat.sub_zero, nextA_len, Int.le_refl, Nat.le_refl, Nat.zero_le, hx, hab, hw1, hw2, hle, hr1, hr2]
                refine W_region [0, 1, 8, 9] fun R hR => ?_   -- r14
                simp only [go_sem, llPV, hz, Int.toNat_natCast, Int.toNat_zero, List.drop_zero, Nat.sub_zero, nextA_len, Int.le_refl, Nat.le_refl, Nat.zero_le, hx, hab, hw1, hw2, hle, hr1, hr2]
                try simp (disch := omega) only [wrapI, wrapU]
                refine hR _ _ ?_; clear hR R
                try simp only [go_sem, llPV, hz, Int.toNat_natCast, Int.toNat_zero, List.drop_zero, Nat.sub_zero, nextA_len, Int.le_refl, Nat.le_refl, Nat.zero_le, hx, hab, hw1, hw2, hle, hr1, hr2]
                refine ⟨i + 1, ?_, by (try simp only []); omega, ?_⟩
                · refine Weak.trans (Weak.cutX 0 1 (by omega) (by omega) hcl (by simp only [go_sem] <;> omega) (by simp only [go_sem] <;> omega)) ?_
                  simp only [go_sem]
                  refine Weak.eq ?_ ?_
                  · simp only [go_sem, nextA_succ, List.map_append, List.map_cons, List.map_nil, llPV, ints]
                    first | done | rfl
                  · simp only [go_sem]
                · try dsimp only
                  omega
          · -- c6 false
            try simp only [nrm] at c6
            have hi0 : ¬ 0 < i := by first | omega | (simp at c6; omega)
            refine W_skip (kq25 _ _ ?_)
            refine W_seq fun kz36 kq36 => ?_
            refine W_seq fun kz37 kq37 => ?_
            refine W_region [0, 1, 8, 9, 10, 11, 12, 13, 66] fun R hR => ?_   -- r21
            simp only [go_sem, llPV, hz, Int.toNat_natCast, Int.toNat_zero, List.drop_zero, Nat.sub_zero, nextA_len, Int.le_refl, Nat.le_refl, Nat.zero_le, hx]
            try simp (disch := omega) only [wrapI, wrapU]
            refine hR _ _ (kq37 _ _ ?_); clear hR R; try clear kq37 kz37
            try simp only [go_sem, llPV, hz, Int.toNat_natCast, Int.toNat_zero, List.drop_zero, Nat.sub_zero, nextA_len, Int.le_refl, Nat.le_refl, Nat.zero_le, hx]
            refine W_cond rfl (fun c10 => ?_) (fun c10 => ?_)
            · -- c10 true
              try simp only [nrm] at c10
              have hok3 := nb_lo (by omega) (hok i l hx).2
              have hl8 := (hok i l hx).1
              have hi1 : i + 1 < ls.length := by first | omega | (simp at c10; omega)
              have hNl : N ≤ l.length := by have := hok3.2.1 hi1; omega
              obtain ⟨be, hbe⟩ : ∃ z, ls[i + 1]? = some z := ⟨ls[i + 1]'hi1, by simp⟩
              have hbe8 := (hok (i + 1) be hbe).1
              have hNb : N ≤ be.length := by have := (nb_lo (by omega) (hok (i + 1) be hbe).2).1 (by omega); omega
              have hw3 : IntKind.i64.wrap ((l.length : Int) - (N : Int)) = ((l.length - N : Nat) : Int) := by rw [wrapI (by omega) (by omega)]; omega
              have hw4 : IntKind.i64.wrap ((i : Int) + 1) = ((i + 1 : Nat) : Int) := by rw [wrapI (by omega) (by omega)]; omega
              have hr1 : l.length - N ≤ l.length := by omega
              have hpl0 : ((l.take (l.length - N))).length ≤ 8 := by simp only [List.length_drop, List.length_take] <;> omega
              have hpl1 : ((be.take N)).length ≤ 8 := by simp only [List.length_drop, List.length_take] <;> omega
              have hr2 : 0 ≤ l.length - N := by omega
              have hfold : (l.take (l.length - N)).map I ++ (be.take N).map I = (nextL ls N i).map I := by
                simp only [nextL, lgAt, hx, hbe, Option.getD_some, hi0, hi1, if_true, if_false]
                simp
              refine W_region [0, 1, 8, 9, 10, 11, 12, 13] fun R hR => ?_   -- r22
              simp only [go_sem, llPV, hz, Int.toNat_natCast, Int.toNat_zero, List.drop_zero, Nat.sub_zero, nextA_len, Int.le_refl, Nat.le_refl, Nat.zero_le, hx, hr1, hr2, hbe, hw3, hw4, hNb]
              try simp (disch := omega) only [wrapI, wrapU]
              refine hR _ _ (kq36 _ _ ?_); clear hR R; try clear kq36 kz36
              try simp only [go_sem, llPV, hz, Int.toNat_natCast, Int.toNat_zero, List.drop_zero, Nat.sub_zero, nextA_len, Int.le_refl, Nat.le_refl, Nat.zero_le, hx, hr1, hr2, hbe, hw3, hw4, hNb]
              refine W_seq fun kz38 kq38 => ?_
              refine W_region [0, 1, 8, 9, 13] fun R hR => ?_   -- r23
              simp only [go_sem, llPV, hz, Int.toNat_natCast, Int.toNat_zero, List.drop_zero, Nat.sub_zero, nextA_len, Int.le_refl, Nat.le_refl, Nat.zero_le, hx, hr1, hr2, hbe, hw3, hw4, hNb]
              try simp (disch := first | omega | (simp only [go_sem] <;> omega)) only [wrapI, wrapU, appX_exact, appX_tok]
              try simp only [go_sem, llPV, hz, Int.toNat_natCast, Int.toNat_zero, List.drop_zero, Nat.sub_zero, nextA_len, Int.le_refl, Nat.le_refl, Nat.zero_le, hx, hr1, hr2, hbe, hw3, hw4, hNb]
              refine hR _ _ (kq38 _ _ ?_); clear hR R; try clear kq38 kz38
              try simp only [go_sem, llPV, hz, Int.toNat_natCast, Int.toNat_zero, List.drop_zero, Nat.sub_zero, nextA_len, Int.le_refl, Nat.le_refl, Nat.zero_le, hx, hr1, hr2, hbe, hw3, hw4, hNb]
              refine W_seq fun kz39 kq39 => ?_
              refine W_seq fun kz40 kq40 => ?_
              refine W_region [0, 1, 8, 9, 13, 81] fun R hR => ?_   -- r24
              simp only [go_sem, llPV, hz, Int.toNat_natCast, Int.toNat_zero, List.drop_zero, Nat.sub_zero, nextA_len, Int.le_refl, Nat.le_refl, Nat.zero_le, hx, hr1, hr2, hbe, hw3, hw4, hNb]
              try simp (disch := omega) only [wrapI, wrapU]
              refine hR _ _ (kq40 _ _ ?_); clear hR R; try clear kq40 kz40
              try simp only [go_sem, llPV, hz, Int.toNat_natCast, Int.toNat_zero, List.drop_zero, Nat.sub_zero, nextA_len, Int.le_refl, Nat.le_refl, Nat.zero_le, hx, hr1, hr2, hbe, hw3, hw4, hNb]
              refine W_cond rfl (fun c11 => ?_) (fun c11 => ?_)
              · -- c11 true
                try simp only [nrm] at c11
                refine W_region [0, 1, 8, 9, 13] fun R hR => ?_   -- r25
                simp only [go_sem, llPV, hz, Int.toNat_natCast, Int.toNat_zero, List.drop_zero, Nat.sub_zero, nextA_len, Int.le_refl, Nat.le_refl, Nat.zero_le, hx, hr1, hr2, hbe, hw3, hw4, hNb, ← List.map_take]
                try simp (disch := first | omega | (simp only [go_sem] <;> omega)) only [wrapI, wrapU, appX_exact, appX_tok]
                try simp only [go_sem, llPV, hz, Int.toNat_natCast, Int.toNat_zero, List.drop_zero, Nat.sub_zero, nextA_len, Int.le_refl, Nat.le_refl, Nat.zero_le, hx, hr1, hr2, hbe, hw3, hw4, hNb, ← List.map_take]
                refine hR _ _ (kq39 _ _ ?_); clear hR R; try clear kq39 kz39
                try simp only [go_sem, llPV, hz, Int.toNat_natCast, Int.toNat_zero, List.drop_zero, Nat.sub_zero, nextA_len, Int.le_refl, Nat.le_refl, Nat.zero_le, hx, hr1, hr2, hbe, hw3, hw4, hNb]
                try simp only [List.append_assoc] at hfold ⊢
                simp only [hfold]
                refine W_weak (Weak.ro 13) ?_
                refine W_weak (Weak.keep [0, 1, 8, 9, 13]) ?_
                simp only [go_sem]
                refine W_region [0, 1, 8, 9] fun R hR => ?_   -- r26
                simp only [go_sem, llPV, hz, Int.toNat_natCast, Int.toNat_zero, List.drop_zero, Nat.sub_zero, nextA_len, Int.le_refl, Nat.le_refl, Nat.zero_le, hx, hr1, hr2, hbe, hw3, hw4, hNb]
                try simp (disch := first | omega | (simp only [go_sem] <;> omega)) only [wrapI, wrapU, appX_exact, appX_tok]
                try simp only [go_sem, llPV, hz, Int.toNat_natCast, Int.toNat_zero, List.drop_zero, Nat.sub_zero, nextA_len, Int.le_refl, Nat.le_refl, Nat.zero_le, hx, hr1, hr2, hbe, hw3, hw4, hNb]
                refine hR _ _ (kq21 _ _ ?_); clear hR R; try clear kq21 kz21
                try simp only [go_sem, llPV, hz, Int.toNat_natCast, Int.toNat_zero, List.drop_zero, Nat.sub_zero, nextA_len, Int.le_refl, Nat.le_refl, Nat.zero_le, hx, hr1, hr2, hbe, hw3, hw4, hNb]
                refine W_region [0, 1, 8, 9] fun R hR => ?_   -- r14
                simp only [go_sem, llPV, hz, Int.toNat_natCast, Int.toNat_zero, List.drop_zero, Nat.sub_zero, nextA_len, Int.le_refl, Nat.le_refl, Nat.zero_le, hx, hr1, hr2, hbe, hw3, hw4, hNb]
                try simp (disch := omega) only [wrapI, wrapU]
                refine hR _ _ ?_; clear hR R
                try simp only [go_sem, llPV, hz, Int.toNat_natCast, Int.toNat_zero, List.drop_zero, Nat.sub_zero, nextA_len, Int.le_refl, Nat.le_refl, Nat.zero_le, hx, hr1, hr2, hbe, hw3, hw4, hNb]
                refine ⟨i + 1, ?_, by (try simp only []); omega, ?_⟩
                · refine Weak.trans (Weak.cutX 0 1 (by omega) (by omega) hcl (by simp only [go_sem] <;> omega) (by simp only [go_sem] <;> omega)) ?_
                  simp only [go_sem]
                  refine Weak.eq ?_ ?_
                  · simp only [go_sem, nextA_succ, List.map_append, List.map_cons, List.map_nil, llPV, ints]
                    first | done | rfl
                  · simp only [go_sem]
                · try dsimp only
                  omega
              · -- c11 false
                try simp only [nrm] at c11
                exfalso
                first | omega | (simp at c11; omega)
            · -- c10 false
              try simp only [nrm] at c10
              have hok3 := nb_lo (by omega) (hok i l hx).2
              have hl8 := (hok i l hx).1
              have hi1 : ¬ i + 1 < ls.length := by first | omega | (simp at c10; omega)
              have hr1 : l.length ≤ l.length := Nat.le_refl _
              have hpl0 : ((l.take l.length)).length ≤ 8 := by simp only [List.length_drop, List.length_take] <;> omega
              have hr2 : 0 ≤ l.length := by omega
              have hfold : (l.take l.length).map I = (nextL ls N i).map I := by
                simp only [nextL, lgAt, hx, Option.getD_some, hi0, hi1, if_true, if_false]
                simp
              refine W_skip (kq36 _ _ ?_)
              refine W_seq fun kz41 kq41 => ?_
              refine W_region [0, 1, 8, 9, 13] fun R hR => ?_   -- r23
              simp only [go_sem, llPV, hz, Int.toNat_natCast, Int.toNat_zero, List.drop_zero, Nat.sub_zero, nextA_len, Int.le_refl, Nat.le_refl, Nat.zero_le, hx, hr1, hr2]
              try simp (disch := first | omega | (simp only [go_sem] <;> omega)) only [wrapI, wrapU, appX_exact, appX_tok]
              try simp only [go_sem, llPV, hz, Int.toNat_natCast, Int.toNat_zero, List.drop_zero, Nat.sub_zero, nextA_len, Int.le_refl, Nat.le_refl, Nat.zero_le, hx, hr1, hr2]
              refine hR _ _ (kq41 _ _ ?_); clear hR R; try clear kq41 kz41
              try simp only [go_sem, llPV, hz, Int.toNat_natCast, Int.toNat_zero, List.drop_zero, Nat.sub_zero, nextA_len, Int.le_refl, Nat.le_refl, Nat.zero_le, hx, hr1, hr2]
              refine W_seq fun kz42 kq42 => ?_
              refine W_seq fun kz43 kq43 => ?_
              refine W_region [0, 1, 8, 9, 13, 81] fun R hR => ?_   -- r24
              simp only [go_sem, llPV, hz, Int.toNat_natCast, Int.toNat_zero, List.drop_zero, Nat.sub_zero, nextA_len, Int.le_refl, Nat.le_refl, Nat.zero_le, hx, hr1, hr2]
              try simp (disch := omega) only [wrapI, wrapU]
              refine hR _ _ (kq43 _ _ ?_); clear hR R; try clear kq43 kz43
              try simp only [go_sem, llPV, hz, Int.toNat_natCast, Int.toNat_zero, List.drop_zero, Nat.sub_zero, nextA_len, Int.le_refl, Nat.le_refl, Nat.zero_le, hx, hr1, hr2]
              refine W_cond rfl (fun c12 => ?_) (fun c12 => ?_)
              · -- c12 true
                try simp only [nrm] at c12
                exfalso
                first | omega | (simp at c12; omega)
              · -- c12 false
                try simp only [nrm] at c12
                refine W_skip (kq42 _ _ ?_)
                try simp only [List.append_assoc] at hfold ⊢
                simp only [hfold]
                refine W_weak (Weak.ro 13) ?_
                refine W_weak (Weak.keep [0, 1, 8, 9, 13]) ?_
                simp only [go_sem]
                refine W_region [0, 1, 8, 9] fun R hR => ?_   -- r26
                simp only [go_sem, llPV, hz, Int.toNat_natCast, Int.toNat_zero, List.drop_zero, Nat.sub_zero, nextA_len, Int.le_refl, Nat.le_refl, Nat.zero_le, hx, hr1, hr2]
                try simp (disch := first | omega | (simp only [go_sem] <;> omega)) only [wrapI, wrapU, appX_exact, appX_tok]
                try simp only [go_sem, llPV, hz, Int.toNat_natCast, Int.toNat_zero, List.drop_zero, Nat.sub_zero, nextA_len, Int.le_refl, Nat.le_refl, Nat.zero_le, hx, hr1, hr2]
                refine hR _ _ (kq21 _ _ ?_); clear hR R; try clear kq21 kz21
                try simp only [go_sem, llPV, hz, Int.toNat_natCast, Int.toNat_zero, List.drop_zero, Nat.sub_zero, nextA_len, Int.le_refl, Nat.le_refl, Nat.zero_le, hx, hr1, hr2]
                refine W_region [0, 1, 8, 9] fun R hR => ?_   -- r14
                simp only [go_sem, llPV, hz, Int.toNat_natCast, Int.toNat_zero, List.drop_zero, Nat.sub_zero, nextA_len, Int.le_refl, Nat.le_refl, Nat.zero_le, hx, hr1, hr2]
                try simp (disch := omega) only [wrapI, wrapU]
                refine hR _ _ ?_; clear hR R
                try simp only [go_sem, llPV, hz, Int.toNat_natCast, Int.toNat_zero, List.drop_zero, Nat.sub_zero, nextA_len, Int.le_refl, Nat.le_refl, Nat.zero_le, hx, hr1, hr2]
                refine ⟨i + 1, ?_, by (try simp only []); omega, ?_⟩
                · refine Weak.trans (Weak.cutX 0 1 (by omega) (by omega) hcl (by simp only [go_sem] <;> omega) (by simp only [go_sem] <;> omega)) ?_
                  simp only [go_sem]
                  refine Weak.eq ?_ ?_
                  · simp only [go_sem, nextA_succ, List.map_append, List.map_cons, List.map_nil, llPV, ints]
                    first | done | rfl
                  · simp only [go_sem]
                · try dsimp only
                  omega
        · -- c5 false
          try simp only [nrm] at c5
          have hdrop : ls.drop i = [] := List.drop_eq_nil_of_le (by omega)
          have hie : i = ls.length := by first | omega | (simp at c5; omega)
          subst hie
          refine W_exit ?_
          simp only [go_sem, llPV, hz, Int.toNat_natCast, Int.toNat_zero, List.drop_zero, Nat.sub_zero, nextA_len, Int.le_refl, Nat.le_refl, Nat.zero_le]
          refine kq17 _ _ ?_
          refine W_seq fun kz44 kq44 => ?_
          refine W_region [4, 5] fun R hR => ?_   -- r27
          simp only [go_sem, llPV, hz, Int.toNat_natCast, Int.toNat_zero, List.drop_zero, Nat.sub_zero, nextA_len, Int.le_refl, Nat.le_refl, Nat.zero_le]
          refine hR _ _ (kq44 _ _ ?_); clear hR R; try clear kq44 kz44
          try simp only [go_sem, llPV, hz, Int.toNat_natCast, Int.toNat_zero, List.drop_zero, Nat.sub_zero, nextA_len, Int.le_refl, Nat.le_refl, Nat.zero_le]
          refine W_ret ?_
          simp only [go_sem, llPV, hz, Int.toNat_natCast, Int.toNat_zero, List.drop_zero, Nat.sub_zero, nextA_len, Int.le_refl, Nat.le_refl, Nat.zero_le]
          refine ⟨.inr (by trivial), ?_⟩
          first | refine Fin_same hcl rfl (Wk.ro (by simp only [go_sem]) ?_) | refine Fin_self hcl rfl (Wk.ro (by simp only [go_sem]) ?_)
          try simp only [go_sem]
          all_goals
            rw [← hres]; clear hres; simp [moveA, *]
end Go.Proofs.Ytgelnjmddabgpaa
