/-
  Walks: numbers copied, bands copied.
  Walks: within bounds.
  Walks: numbers within bounds, spans, ends of streets.
  Walks: spans, groups, towns (crowd).
  Walks: towns (crowd).
  Bands copied into a slice that may be written.
  Walks: cities, squares, bands that may be (band).
  Walks: the times of bands, lists of bands (band).
-/
import Derived.Test.YtnpamcpoaklgeaaPd
set_option linter.unusedSimpArgs false
set_option linter.unusedVariables false
namespace Go.Proofs.Ytnpamcpoaklgeaa
open Go Go.RowKit
set_option maxRecDepth 100000

theorem appOne {c b : Nat} {σ : Sg} {l : List PV} {r n : Nat} {m : List PV} (hm : (m.all fun q => (q.cells.length == c) && q.cells.all PV.scalar) = true) (hs : (l.length + m.length) * b ≤ 2 ^ 47) (hr : σ.rooms[r]? = some n) :
    appX c b σ l (.tok r n c) m = some (.isl (l ++ m) (.tok r (n + m.length) c), σ.setRoom r (n + m.length)) := by
  unfold appX
  rw [hm]
  simp [hs, hr]
theorem appNew {c b : Nat} {σ : Sg} {l : List PV} {m : List PV} (hm : (m.all fun q => (q.cells.length == c) && q.cells.all PV.scalar) = true) (hl : (l.all fun q => q.cells.length == c) = true) (hs : (l.length + m.length) * b ≤ 2 ^ 47) :
    appX c b σ l .exact m = some (.isl (l ++ m) (.tok σ.rooms.length (l.length + m.length) c), σ.pushRoom (l.length + m.length)) := by
  unfold appX
  rw [hm, hl]
  simp [hs]
theorem all_I (xs : List Int) : ((xs.map I).all fun q => (q.cells.length == 1) && q.cells.all PV.scalar) = true := by
  simp [PV.cells, PV.scalar]
theorem ro_I (xs : List Int) : (xs.map I).map PV.ro = xs.map I := by simp [PV.ro]

theorem Ints_pc (Y : YEnv) (σ : Sg) (xs : List Int) (o : Own) (h : xs.length * 8 ≤ 2 ^ 47) : PC Try.prog Y 45 [intsO o xs] σ (ints xs) σ := by
  refine PC_of_W Try.func45 rfl (by kernel_rfl) Try.ntmps45 (by simp) fun hcl hca => ?_
  refine W_seq fun K1 h1 => ?_
  refine W_region [0] fun R hR => ?_   -- r0
  simp only [go_sem]
  refine hR _ _ (h1 _ _ ?_); clear hR h1 R K1
  simp only [go_sem]
  refine W_seq fun K2 h2 => ?_
  refine W_region [2] fun R hR => ?_   -- r1
  simp only [go_sem, bsX, List.range_zero]
  rw [appNew (all_I xs) rfl (by simpa using h)]
  simp only [go_sem]
  refine hR _ _ (h2 _ _ ?_); clear hR h2 R K2
  simp only [go_sem]
  refine W_ret ?_
  simp only [go_sem]
  refine ⟨.inr (by trivial), Fin_same hcl rfl (Wk.ro (clean_ints xs) ?_)⟩
  simp only [go_sem, PV.ro, PV.roL_map, ro_I]

theorem OwnBands_pc (Y : YEnv) (σ : Sg) (l : List Band) (h : l.length * 64 ≤ 2 ^ 47) (hp : ∀ b, b ∈ l → b.path.length * 8 ≤ 2 ^ 47) :
    PC Try.prog Y 16 [bands l] σ (.isl (l.map bdPV) (.tok σ.rooms.length l.length 6)) (σ.ext [] [l.length]) := by
  refine PC_of_W Try.func16 rfl (by kernel_rfl) Try.ntmps16 (by simp) fun hcl hca => ?_
  refine W_seq fun K1 h1 => ?_
  refine W_region [0] fun R hR => ?_   -- r0
  simp only [go_sem]
  refine hR _ _ (h1 _ _ ?_); clear hR h1 R K1
  simp only [go_sem]
  refine W_seq fun K2 h2 => ?_
  refine W_region [0, 3] fun R hR => ?_   -- r1
  simp only [go_sem]
  refine hR _ _ (h2 _ _ ?_); clear hR h2 R K2
  simp only [go_sem]
  refine W_seq fun K3 h3 => ?_
  refine W_seq fun K4 h4 => ?_
  refine W_region [0, 3, 4] fun R hR => ?_   -- r2
  simp only [go_sem]
  refine hR _ _ (h4 _ _ ?_); clear hR h4 R K4
  simp only [go_sem]
  refine W_block ?_
  refine W_weak (Weak.room (t := 3) (es := 6) rfl (fun q hq => by cases hq)) ?_
  refine W_weak (Weak.keep [0, 3, 4]) ?_
  simp only [go_sem]
  refine W_loopK (fun k E σ' => ∃ i : Nat, k + i = l.length ∧ E = [(0, bands l), (3, .isl ((l.take i).map bdPV) (.tok σ.rooms.length i 6)), (4, I i)] ∧ σ' = σ.ext [] [i]) l.length ⟨0, rfl, by simp, rfl⟩ ?_
  rintro k E σ' ⟨i, hk, rfl, rfl⟩
  refine W_seq fun K5 h5 => ?_
  refine W_seq fun K6 h6 => ?_
  refine W_region [0, 3, 4, 9] fun R hR => ?_   -- r3
  simp only [go_sem]
  refine hR _ _ (h6 _ _ ?_); clear hR h6 R K6
  simp only [go_sem]
  refine W_cond rfl (fun c => ?_) (fun c => ?_)
  · -- true
    have hi : i < l.length := by simpa using c
    obtain ⟨b, hb⟩ : ∃ b, l[i]? = some b := ⟨l[i], by simp [hi]⟩
    have hbl : b ∈ l := List.mem_of_getElem? hb
    refine W_skip (h5 _ _ ?_); clear h5 K5
    refine W_seq fun K7 h7 => ?_
    refine W_block ?_
    refine W_seq fun K8 h8 => ?_
    refine W_region [0, 3, 4, 5] fun R hR => ?_   -- r5
    simp only [go_sem, iaX_map (f := bdPV) (c := 6) hb rfl, elA_map (f := bdPV) hb, bdPV, bdCells]
    refine hR _ _ (h8 _ _ ?_); clear hR h8 R K8
    simp only [go_sem]
    refine W_seq fun K9 h9 => ?_
    refine W_region [0, 3, 4, 5] fun R hR => ?_   -- r6
    simp only [go_sem]
    refine GCall_of (Ints_pc Y _ b.path .ro (hp b hbl)) ?_
    simp only [go_sem]
    refine hR _ _ (h9 _ _ ?_); clear hR h9 R K9
    simp only [go_sem]
    refine W_region [0, 3, 4] fun R hR => ?_   -- r7
    simp only [go_sem, bsX]
    rw [appOne (by rfl) (by simp; omega) (Sg.room_ext0 ..)]
    simp only [go_sem, Sg.setRoom_ext0]
    refine hR _ _ ?_; clear hR R
    simp only [go_sem]
    refine h7 _ _ ?_; clear h7 K7
    refine W_weak (Weak.cutExt 0 1 (Nat.le_refl _) (Nat.le_add_right _ _) hcl CleanL_nil (Wk.env
      (cleanE_cons (clean_bands l) (cleanE_cons (.isl _ _ ?_ (fun r n es e => by cases e; omega)) (cleanE_cons (.int _ _) cleanE_nil))))) ?_
    · intro e he
      rcases List.mem_append.1 he with he | he
      · obtain ⟨x, _, rfl⟩ := List.mem_map.1 he
        exact clean_bd x
      · simp only [List.mem_singleton] at he
        subst he
        exact clean_bd b
    refine W_region [0, 3, 4] fun R hR => ?_   -- r4
    simp only [go_sem]
    refine hR _ _ ?_; clear hR R
    simp only [go_sem]
    rw [wrap_i64_id (by omega) (by omega)]
    refine ⟨k - 1, by omega, i + 1, by omega, ?_, rfl⟩
    have e : (l.take i).map bdPV ++ [bdPV b] = (l.take (i + 1)).map bdPV := by
      rw [List.take_add_one, hb]; simp
    rw [← e]
    rfl
  · -- false
    have hi : i = l.length := by simp at c; omega
    subst hi
    refine W_exit ?_
    simp only [go_sem]
    refine h3 _ _ ?_; clear h5 K5 h3 K3
    refine W_seq fun K10 h10 => ?_
    refine W_region [2] fun R hR => ?_   -- r8
    simp only [go_sem]
    refine hR _ _ (h10 _ _ ?_); clear hR h10 R K10
    simp only [go_sem]
    refine W_ret ?_
    simp only [go_sem]
    refine ⟨.inr (by trivial), Fin_ext 0 1 hcl rfl ?_ CleanL_nil⟩
    simp only [go_sem, List.take_length]
    exact Wk.of_clean (Clean.map (fun r n es e => by cases e; omega) clean_bd)
end Go.Proofs.Ytnpamcpoaklgeaa

namespace Go.Proofs.Ytnpamcpoaklgeaa
open Go Go.RowKit
set_option maxRecDepth 100000

theorem in_pc (Y : YEnv) (σ : Sg) (n lo hi : Int) : PC Try.prog Y 69 [.int .i64 n, .int .i64 lo, .int .i64 hi] σ (.bool (inR n lo hi)) σ := by
  refine PC_of_W Try.func69 rfl (by kernel_rfl) Try.ntmps69 (by simp) fun hcl hca => ?_
  refine W_seq fun K1 h1 => ?_
  refine W_region [0, 1, 2, 6] fun K2 h2 => ?_
  simp only [go_sem]
  refine h2 _ _ (h1 _ _ ?_); clear h1 h2 K1 K2
  refine W_seq fun K1 h1 => ?_
  refine W_region [6] fun K2 h2 => ?_
  simp only [go_sem]
  refine GWant_split (fun c1 => ?_) (fun c1 => ?_)
  · simp only [go_sem, c1]
    refine h2 _ _ (h1 _ _ ?_); clear h1 h2 K1 K2
    simp only [go_sem]
    refine W_ret ⟨.inr rfl, ?_⟩
    refine Fin_self hcl rfl (Wk_bool (by simp [inR, c1]))
  · simp only [go_sem, c1]
    refine h2 _ _ (h1 _ _ ?_); clear h1 h2 K1 K2
    simp only [go_sem]
    refine W_ret ⟨.inr rfl, ?_⟩
    refine Fin_self hcl rfl (Wk_bool (by simp [inR, c1]))
end Go.Proofs.Ytnpamcpoaklgeaa

namespace Go.Proofs.Ytnpamcpoaklgeaa
open Go Go.RowKit
set_option maxRecDepth 100000

theorem cin_pc (Y : YEnv) (σ : Sg) (lo hi : Int) (l : List Int) (o : Own) (hl : l.length < 2 ^ 62) : PC Try.prog Y 115 [I lo, I hi, intsO o l] σ (.bool (allIn lo hi l)) σ := by
  refine PC_of_W Try.func115 rfl (by kernel_rfl) Try.ntmps115 (by simp) fun hcl hca => ?_
  refine W_seq fun K1 h1 => ?_
  refine W_region [0, 1, 2] fun R hR => ?_   -- r0
  simp only [go_sem]
  refine hR _ _ (h1 _ _ ?_); clear hR h1 R K1
  simp only [go_sem]
  refine W_seq fun K2 h2 => ?_
  refine W_seq fun K3 h3 => ?_
  refine W_region [0, 1, 9, 10, 11] fun R hR => ?_   -- r1
  simp only [go_sem]
  refine hR _ _ (h3 _ _ ?_); clear hR h3 R K3
  simp only [go_sem]
  refine W_block ?_
  refine W_loopK (fun k E σ' => ∃ i : Nat, k + i = l.length ∧ allIn lo hi (l.take i) = true ∧ E = [(0, I lo), (1, I hi), (9, intsO o l), (10, I l.length), (11, I i)] ∧ σ = σ') l.length ⟨0, rfl, rfl, rfl, rfl⟩ ?_
  rintro k E σ' ⟨i, hk, hall, rfl, rfl⟩
  refine W_seq fun K4 h4 => ?_
  refine W_region [0, 1, 9, 10, 11, 12] fun R hR => ?_   -- r2
  simp only [go_sem]
  refine hR _ _ (h4 _ _ ?_); clear hR h4 R K4
  simp only [go_sem]
  refine W_seq fun K5 h5 => ?_
  refine W_cond rfl (fun c => ?_) (fun c => ?_)
  · -- true
    have hi' : i < l.length := by simpa using c
    obtain ⟨x, hx⟩ : ∃ x, l[i]? = some x := ⟨l[i], by simp [hi']⟩
    have htake : l.take (i + 1) = l.take i ++ [x] := by rw [List.take_add_one, hx]; rfl
    refine W_skip (h5 _ _ ?_); clear h5 K5
    refine W_seq fun K6 h6 => ?_
    refine W_block ?_
    refine W_seq fun K7 h7 => ?_
    refine W_region [0, 1, 8, 9, 10, 11] fun R hR => ?_   -- r3
    simp only [go_sem, iaX_map (f := I) (c := 1) hx rfl, elS_map (f := I) hx]
    refine hR _ _ (h7 _ _ ?_); clear hR h7 R K7
    simp only [go_sem]
    refine W_seq fun K8 h8 => ?_
    have fin : K8 [(0, I lo), (1, I hi), (9, intsO o l), (10, I l.length), (11, I i), (22, .bool (!(inR x lo hi)))] σ := by
      refine h8 _ _ ?_
      clear h8
      refine W_cond rfl (fun c => ?_) (fun c => ?_)
      · -- true
        refine W_seq fun K9 h9 => ?_
        refine W_region [6] fun R hR => ?_   -- r5
        simp only [go_sem]
        refine hR _ _ (h9 _ _ ?_); clear hR h9 R K9
        simp only [go_sem]
        refine W_ret ?_
        simp only [go_sem]
        refine ⟨.inr (by trivial), Fin_self hcl rfl (Wk_bool ?_)⟩
        have hxm : x ∈ l := List.mem_of_getElem? hx
        symm
        rw [Bool.eq_false_iff]
        intro hh
        have := List.all_eq_true.1 hh x hxm
        rw [this] at c
        cases c
      · -- false
        refine W_skip (h6 _ _ ?_); clear h6 K6
        refine W_region [0, 1, 9, 10, 11] fun R hR => ?_   -- r6
        simp only [go_sem]
        refine hR _ _ ?_; clear hR R
        simp only [go_sem]
        rw [wrap_i64_id (by omega) (by omega)]
        refine ⟨k - 1, by omega, i + 1, by omega, ?_, rfl⟩
        rw [htake]
        unfold allIn at hall ⊢
        rw [List.all_append, hall]
        simpa using c
    clear h6 h8
    refine W_region [0, 1, 9, 10, 11, 22] fun R hR => ?_   -- r4
    by_cases c1 : x < lo
    · simp only [go_sem, c1]
      refine hR _ _ ?_
      simp only [go_sem]
      have : inR x lo hi = false := by simp [inR]; omega
      rw [this] at fin
      exact fin
    · simp only [go_sem, c1]
      refine hR _ _ ?_
      simp only [go_sem]
      have : (!inR x lo hi) = decide (hi < x) := by
        rw [Bool.eq_iff_iff]; simp [inR]; omega
      rw [this] at fin
      exact fin
  · -- false
    have hi' : i = l.length := by simp at c; omega
    subst hi'
    refine W_exit ?_
    simp only [go_sem]
    refine h2 _ _ ?_; clear h5 K5 h2 K2
    refine W_seq fun K10 h10 => ?_
    refine W_region [6] fun R hR => ?_   -- r7
    simp only [go_sem]
    refine hR _ _ (h10 _ _ ?_); clear hR h10 R K10
    simp only [go_sem]
    refine W_ret ?_
    simp only [go_sem]
    refine ⟨.inr (by trivial), Fin_self hcl rfl (Wk_bool ?_)⟩
    rw [List.take_length] at hall
    exact hall.symm

theorem cother_pc (Y : YEnv) (σ : Sg) (s : Int × Int) (at' : Int) : PC Try.prog Y 117 [stPV s, I at'] σ (I (other s at')) σ := by
  refine PC_of_W Try.func117 rfl (by kernel_rfl) Try.ntmps117 (by simp) fun hcl hca => ?_
  obtain ⟨a, b⟩ := s
  refine W_seq fun K1 h1 => ?_
  refine W_region [1, 2] fun R hR => ?_   -- r0
  simp only [go_sem, stPV]
  refine hR _ _ (h1 _ _ ?_); clear hR h1 R K1
  simp only [go_sem]
  refine W_seq fun K2 h2 => ?_
  refine W_seq fun K3 h3 => ?_
  refine W_region [2, 5] fun R hR => ?_   -- r1
  simp only [go_sem]
  refine hR _ _ (h3 _ _ ?_); clear hR h3 R K3
  simp only [go_sem]
  refine W_block ?_
  refine W_seq fun K4 h4 => ?_
  refine W_region [2, 5, 6] fun R hR => ?_   -- r2
  simp only [go_sem]
  refine hR _ _ (h4 _ _ ?_); clear hR h4 R K4
  simp only [go_sem]
  refine W_cond rfl (fun c => ?_) (fun c => ?_)
  · -- true
    refine W_seq fun K5 h5 => ?_
    refine W_region [4] fun R hR => ?_   -- r3
    simp only [go_sem]
    refine hR _ _ (h5 _ _ ?_); clear hR h5 R K5
    simp only [go_sem]
    refine W_ret ?_
    simp only [go_sem]
    refine ⟨.inr (by trivial), Fin_same hcl rfl (Wk_int ?_)⟩
    simp_all [other]
  · -- false
    refine W_seq fun K6 h6 => ?_
    refine W_region [2, 12] fun R hR => ?_   -- r4
    simp only [go_sem]
    refine hR _ _ (h6 _ _ ?_); clear hR h6 R K6
    simp only [go_sem]
    refine W_cond rfl (fun c => ?_) (fun c => ?_)
    · -- true
      refine W_seq fun K7 h7 => ?_
      refine W_region [4] fun R hR => ?_   -- r5
      simp only [go_sem]
      refine hR _ _ (h7 _ _ ?_); clear hR h7 R K7
      simp only [go_sem]
      refine W_ret ?_
      simp only [go_sem]
      refine ⟨.inr (by trivial), Fin_same hcl rfl (Wk_int ?_)⟩
      simp_all [other]
    · -- false
      refine W_skip ?_
      simp only [go_sem]
      refine h2 _ _ ?_
      refine W_seq fun K8 h8 => ?_
      refine W_region [4] fun R hR => ?_   -- r6
      simp only [go_sem]
      refine hR _ _ (h8 _ _ ?_); clear hR h8 R K8
      simp only [go_sem]
      refine W_ret ?_
      simp only [go_sem]
      refine ⟨.inr (by trivial), Fin_same hcl rfl (Wk_int ?_)⟩
      simp_all [other]
end Go.Proofs.Ytnpamcpoaklgeaa

namespace Go.Proofs.Ytnpamcpoaklgeaa
open Go Go.RowKit
set_option maxRecDepth 100000

theorem cspan_pc (Y : YEnv) (σ : Sg) (lo hi m : Int) : PC Try.prog Y 146 [.agg [I lo, I hi], I m] σ (I (chkSpan lo hi m)) σ := by
  refine PC_of_W Try.func146 rfl (by kernel_rfl) Try.ntmps146 (by simp) fun hcl hca => ?_
  refine W_seq fun K1 h1 => ?_
  refine W_region [1, 2] fun R hR => ?_   -- r0
  simp only [go_sem]
  refine hR _ _ (h1 _ _ ?_); clear hR h1 R K1
  simp only [go_sem]
  refine W_seq fun K2 h2 => ?_
  refine W_block ?_
  refine W_seq fun K3 h3 => ?_
  refine W_region [2, 5] fun R hR => ?_   -- r1
  simp only [go_sem, bsX]
  refine GCall_of (cin_pc Y _ 0 m [lo, hi] .exact (by simp)) ?_   -- t12 := call F115(0,t6,t11) : 4   <0,5>
  simp only [go_sem]
  refine hR _ _ (h3 _ _ ?_); clear hR h3 R K3
  simp only [go_sem]
  refine W_cond rfl (fun c => ?_) (fun c => ?_)
  · -- true
    refine W_seq fun K4 h4 => ?_
    refine W_region [4] fun R hR => ?_   -- r2
    simp only [go_sem]
    refine hR _ _ (h4 _ _ ?_); clear hR h4 R K4
    simp only [go_sem]
    refine W_ret ?_
    simp only [go_sem]
    refine ⟨.inr (by trivial), Fin_same hcl rfl (Wk_int (by simp_all [chkSpan, allIn]))⟩
  · -- false
    refine W_seq fun K5 h5 => ?_
    refine W_region [14] fun R hR => ?_   -- r3
    simp only [go_sem]
    refine hR _ _ (h5 _ _ ?_); clear hR h5 R K5
    simp only [go_sem]
    refine W_cond rfl (fun c => ?_) (fun c => ?_)
    · -- true
      refine W_seq fun K6 h6 => ?_
      refine W_region [4] fun R hR => ?_   -- r4
      simp only [go_sem]
      refine hR _ _ (h6 _ _ ?_); clear hR h6 R K6
      simp only [go_sem]
      refine W_ret ?_
      simp only [go_sem]
      refine ⟨.inr (by trivial), Fin_same hcl rfl (Wk_int (by simp_all [chkSpan, allIn]))⟩
    · -- false
      refine W_skip (h2 _ _ ?_)
      refine W_seq fun K7 h7 => ?_
      refine W_region [4] fun R hR => ?_   -- r5
      simp only [go_sem]
      refine hR _ _ (h7 _ _ ?_); clear hR h7 R K7
      simp only [go_sem]
      refine W_ret ?_
      simp only [go_sem]
      refine ⟨.inr (by trivial), Fin_same hcl rfl (Wk_int (by simp_all [chkSpan, allIn]))⟩

def chkPath (streets : List (Int × Int)) : List Int → Int → Int
  | [], _ => 0
  | n :: r, at' => if !(inR n 0 (streets.length - 1)) then 7 else
    match streets[n.toNat]? with
    | none => 7
    | some s => if other s at' < 0 then 1 else chkPath streets r (other s at')
def chkGroup (t : Town) (g : Group) : Int :=
  if chkSpan g.slo g.shi 1000000 ≠ 0 then chkSpan g.slo g.shi 1000000 else
  if chkSpan g.alo g.ahi 96 ≠ 0 then chkSpan g.alo g.ahi 96 else
  if !(inR g.stay 1 96) then 2 else if !(inR g.first 0 (t.rooms.length - 1)) then 7 else if g.path.length > 12 then 5 else chkPath t.streets g.path g.first

theorem cgroup_pc (Y : YEnv) (σ : Sg) (t : Town) (g : Group) (hr : t.rooms.length < 2 ^ 62) (hs : t.streets.length < 2 ^ 62) (hp : g.path.length < 2 ^ 62) : PC Try.prog Y 128 [twPV t, grPV g] σ (I (chkGroup t g)) σ := by
  refine PC_of_W Try.func128 rfl (by kernel_rfl) Try.ntmps128 (by simp) fun hcl hca => ?_
  have wr : IntKind.i64.wrap ((t.rooms.length : Int) - 1) = (t.rooms.length : Int) - 1 := wrap_i64_id (by omega) (by omega)
  have ws : IntKind.i64.wrap ((t.streets.length : Int) - 1) = (t.streets.length : Int) - 1 := wrap_i64_id (by omega) (by omega)
  refine W_seq fun K1 h1 => ?_
  refine W_region [2, 3] fun R hR => ?_   -- r0
  simp only [go_sem, twPV, twCells, grPV]
  refine hR _ _ (h1 _ _ ?_); clear hR h1 R K1
  simp only [go_sem, bsX, wr, ws]
  refine W_seq fun K2 h2 => ?_
  refine W_seq fun K3 h3 => ?_
  refine W_region [2, 3, 5] fun R hR => ?_   -- r1
  simp only [go_sem, bsX, wr, ws]
  refine GCall_of (cspan_pc Y _ g.slo g.shi 1000000) ?_   -- t12 := call F146(t11,1000000) : 46   <1>
  simp only [go_sem, bsX, wr, ws]
  refine hR _ _ (h3 _ _ ?_); clear hR h3 R K3
  simp only [go_sem, bsX, wr, ws]
  refine W_seq fun K4 h4 => ?_
  refine W_region [2, 3, 5, 14] fun R hR => ?_   -- r2
  simp only [go_sem, bsX, wr, ws]
  refine hR _ _ (h4 _ _ ?_); clear hR h4 R K4
  simp only [go_sem, bsX, wr, ws]
  refine W_cond rfl (fun c => ?_) (fun c => ?_)
  · -- true
    refine W_seq fun K5 h5 => ?_
    refine W_region [4] fun R hR => ?_   -- r3
    simp only [go_sem, bsX, wr, ws]
    refine hR _ _ (h5 _ _ ?_); clear hR h5 R K5
    simp only [go_sem, bsX, wr, ws]
    refine W_ret ?_
    simp only [go_sem, bsX, wr, ws]
    refine ⟨.inr (by trivial), Fin_same hcl rfl (Wk_int (by simp_all [chkGroup, allIn] <;> (intros; omega)))⟩
  · -- false
    refine W_skip (h2 _ _ ?_)
    refine W_seq fun K6 h6 => ?_
    refine W_seq fun K7 h7 => ?_
    refine W_region [2, 3, 6] fun R hR => ?_   -- r4
    simp only [go_sem, bsX, wr, ws]
    refine GCall_of (cspan_pc Y _ g.alo g.ahi 96) ?_   -- t18 := call F146(t17,96) : 46   <1>
    simp only [go_sem, bsX, wr, ws]
    refine hR _ _ (h7 _ _ ?_); clear hR h7 R K7
    simp only [go_sem, bsX, wr, ws]
    refine W_seq fun K8 h8 => ?_
    refine W_region [2, 3, 6, 20] fun R hR => ?_   -- r5
    simp only [go_sem, bsX, wr, ws]
    refine hR _ _ (h8 _ _ ?_); clear hR h8 R K8
    simp only [go_sem, bsX, wr, ws]
    refine W_cond rfl (fun c => ?_) (fun c => ?_)
    · -- true
      refine W_seq fun K9 h9 => ?_
      refine W_region [4] fun R hR => ?_   -- r6
      simp only [go_sem, bsX, wr, ws]
      refine hR _ _ (h9 _ _ ?_); clear hR h9 R K9
      simp only [go_sem, bsX, wr, ws]
      refine W_ret ?_
      simp only [go_sem, bsX, wr, ws]
      refine ⟨.inr (by trivial), Fin_same hcl rfl (Wk_int (by simp_all [chkGroup, allIn] <;> (intros; omega)))⟩
    · -- false
      refine W_skip (h6 _ _ ?_)
      refine W_seq fun K10 h10 => ?_
      refine W_block ?_
      refine W_seq fun K11 h11 => ?_
      refine W_region [2, 3, 22] fun R hR => ?_   -- r7
      simp only [go_sem, bsX, wr, ws]
      refine GCall_of (cin_pc Y _ 1 96 [g.stay] .exact (by simp)) ?_   -- t26 := call F115(1,96,t25) : 4   <2>
      simp only [go_sem, bsX, wr, ws]
      refine hR _ _ (h11 _ _ ?_); clear hR h11 R K11
      simp only [go_sem, bsX, wr, ws]
      refine W_cond rfl (fun c => ?_) (fun c => ?_)
      · -- true
        refine W_seq fun K12 h12 => ?_
        refine W_region [4] fun R hR => ?_   -- r8
        simp only [go_sem, bsX, wr, ws]
        refine hR _ _ (h12 _ _ ?_); clear hR h12 R K12
        simp only [go_sem, bsX, wr, ws]
        refine W_ret ?_
        simp only [go_sem, bsX, wr, ws]
        refine ⟨.inr (by trivial), Fin_same hcl rfl (Wk_int (by simp_all [chkGroup, allIn] <;> (intros; omega)))⟩
      · -- false
        refine W_seq fun K13 h13 => ?_
        refine W_region [2, 3, 28] fun R hR => ?_   -- r9
        simp only [go_sem, bsX, wr, ws]
        refine GCall_of (cin_pc Y _ 0 _ [g.first] .exact (by simp)) ?_   -- t36 := call F115(0,t32,t35) : 4   <3,6>
        simp only [go_sem, bsX, wr, ws]
        refine hR _ _ (h13 _ _ ?_); clear hR h13 R K13
        simp only [go_sem, bsX, wr, ws]
        refine W_cond rfl (fun c => ?_) (fun c => ?_)
        · -- true
          refine W_seq fun K14 h14 => ?_
          refine W_region [4] fun R hR => ?_   -- r10
          simp only [go_sem, bsX, wr, ws]
          refine hR _ _ (h14 _ _ ?_); clear hR h14 R K14
          simp only [go_sem, bsX, wr, ws]
          refine W_ret ?_
          simp only [go_sem, bsX, wr, ws]
          refine ⟨.inr (by trivial), Fin_same hcl rfl (Wk_int (by simp_all [chkGroup, allIn] <;> (intros; omega)))⟩
        · -- false
          refine W_seq fun K15 h15 => ?_
          refine W_region [2, 3, 38] fun R hR => ?_   -- r11
          simp only [go_sem, bsX, wr, ws]
          refine hR _ _ (h15 _ _ ?_); clear hR h15 R K15
          simp only [go_sem, bsX, wr, ws]
          refine W_cond rfl (fun c => ?_) (fun c => ?_)
          · -- true
            refine W_seq fun K16 h16 => ?_
            refine W_region [4] fun R hR => ?_   -- r12
            simp only [go_sem, bsX, wr, ws]
            refine hR _ _ (h16 _ _ ?_); clear hR h16 R K16
            simp only [go_sem, bsX, wr, ws]
            refine W_ret ?_
            simp only [go_sem, bsX, wr, ws]
            refine ⟨.inr (by trivial), Fin_same hcl rfl (Wk_int (by simp_all [chkGroup, allIn] <;> (intros; omega)))⟩
          · -- false
            refine W_skip (h10 _ _ ?_)
            refine W_seq fun K17 h17 => ?_
            refine W_region [2, 3, 7] fun R hR => ?_   -- r13
            simp only [go_sem, bsX, wr, ws]
            refine hR _ _ (h17 _ _ ?_); clear hR h17 R K17
            simp only [go_sem, bsX, wr, ws]
            refine W_seq fun K18 h18 => ?_
            refine W_seq fun K19 h19 => ?_
            refine W_region [2, 7, 46, 47, 48] fun R hR => ?_   -- r14
            simp only [go_sem, bsX, wr, ws]
            refine hR _ _ (h19 _ _ ?_); clear hR h19 R K19
            simp only [go_sem, bsX, wr, ws]
            refine W_block ?_
            have hgr : chkGroup t g = chkPath t.streets g.path g.first := by
              simp_all [chkGroup, allIn]
              try (intros; omega)
            refine W_loopK (fun k E σ' => ∃ (i : Nat) (at' : Int), k + i = g.path.length ∧ chkPath t.streets (g.path.drop i) at' = chkPath t.streets g.path g.first ∧ E = [(2, .ptr σ.store.length 0), (7, I at'), (46, ints g.path), (47, I g.path.length), (48, I i)] ∧ σ.ext [some (twCells t), some (grPV g).cells] [] = σ') g.path.length ⟨0, g.first, rfl, rfl, rfl, rfl⟩ ?_
            rintro k E σ' ⟨i, at', hk, hinv, rfl, rfl⟩
            simp only [twCells, grPV, go_sem]
            refine W_seq fun K20 h20 => ?_
            refine W_region [2, 7, 46, 47, 48, 49] fun R hR => ?_   -- r15
            simp only [go_sem, bsX, wr, ws]
            refine hR _ _ (h20 _ _ ?_); clear hR h20 R K20
            simp only [go_sem, bsX, wr, ws]
            refine W_seq fun K21 h21 => ?_
            refine W_cond rfl (fun c => ?_) (fun c => ?_)
            · -- true
              have hi' : i < g.path.length := by simpa using c
              obtain ⟨x, hx⟩ : ∃ x, g.path[i]? = some x := ⟨g.path[i], by simp [hi']⟩
              have hdrop : g.path.drop i = x :: g.path.drop (i + 1) := by
                rw [List.drop_eq_getElem_cons hi']; congr 1; exact (List.getElem?_eq_some_iff.1 hx).2
              rw [hdrop] at hinv
              refine W_skip (h21 _ _ ?_)
              refine W_seq fun K22 h22 => ?_
              refine W_block ?_
              refine W_seq fun K23 h23 => ?_
              refine W_region [2, 7, 9, 46, 47, 48] fun R hR => ?_   -- r16
              simp only [go_sem, bsX, wr, ws, iaX_map (f := I) (c := 1) hx rfl, elS_map (f := I) hx]
              refine hR _ _ (h23 _ _ ?_); clear hR h23 R K23
              simp only [go_sem, bsX, wr, ws]
              refine W_seq fun K24 h24 => ?_
              refine W_seq fun K25 h25 => ?_
              refine W_region [2, 7, 9, 46, 47, 48, 59] fun R hR => ?_   -- r17
              simp only [go_sem, bsX, wr, ws]
              refine GCall_of (cin_pc Y _ 0 _ [x] .exact (by simp)) ?_   -- t58 := call F115(0,t55,t57) : 4   <3,5>
              simp only [go_sem, bsX, wr, ws]
              refine hR _ _ (h25 _ _ ?_); clear hR h25 R K25
              simp only [go_sem, bsX, wr, ws]
              refine W_cond rfl (fun c => ?_) (fun c => ?_)
              · -- true
                have hin : inR x 0 ((t.streets.length : Int) - 1) = false := by simpa [allIn] using c
                refine W_seq fun K26 h26 => ?_
                refine W_region [4] fun R hR => ?_   -- r18
                simp only [go_sem, bsX, wr, ws]
                refine hR _ _ (h26 _ _ ?_); clear hR h26 R K26
                simp only [go_sem, bsX, wr, ws]
                refine W_ret ?_
                simp only [go_sem, bsX, wr, ws]
                refine ⟨.inr (by trivial), Fin_same hcl rfl (Wk_int ?_)⟩
                rw [hgr, ← hinv]; simp only [chkPath, hin]; rfl
              · -- false
                have hin : inR x 0 ((t.streets.length : Int) - 1) = true := by simpa [allIn] using c
                have hin' : 0 ≤ x ∧ x ≤ (t.streets.length : Int) - 1 := by simpa [inR] using hin
                obtain ⟨n, hn⟩ : ∃ n : Nat, x = (n : Int) := ⟨x.toNat, by omega⟩
                subst hn
                obtain ⟨s, hs'⟩ : ∃ s, t.streets[n]? = some s := ⟨t.streets[n]'(by omega), by simp⟩
                have hstep : chkPath t.streets ((n : Int) :: g.path.drop (i + 1)) at' = if other s at' < 0 then 1 else chkPath t.streets (g.path.drop (i + 1)) (other s at') := by
                  simp only [chkPath, hin, Int.toNat_natCast, hs']; rfl
                rw [hstep] at hinv
                refine W_skip (h24 _ _ ?_)
                refine W_seq fun K27 h27 => ?_
                refine W_region [2, 7, 46, 47, 48] fun R hR => ?_   -- r19
                simp only [go_sem, bsX, wr, ws, iaX_map (f := stPV) (c := 2) hs' rfl, elA_map (f := stPV) hs', stPV]
                refine GCall_of (cother_pc Y _ s at') ?_   -- t66 := call F117(t64,t65) : 3   <4,5>
                simp only [go_sem, bsX, wr, ws]
                refine hR _ _ (h27 _ _ ?_); clear hR h27 R K27
                simp only [go_sem, bsX, wr, ws]
                refine W_seq fun K28 h28 => ?_
                refine W_region [2, 7, 46, 47, 48, 68] fun R hR => ?_   -- r20
                simp only [go_sem, bsX, wr, ws]
                refine hR _ _ (h28 _ _ ?_); clear hR h28 R K28
                simp only [go_sem, bsX, wr, ws]
                refine W_cond rfl (fun c => ?_) (fun c => ?_)
                · -- true
                  refine W_seq fun K29 h29 => ?_
                  refine W_region [4] fun R hR => ?_   -- r21
                  simp only [go_sem, bsX, wr, ws]
                  refine hR _ _ (h29 _ _ ?_); clear hR h29 R K29
                  simp only [go_sem, bsX, wr, ws]
                  refine W_ret ?_
                  simp only [go_sem, bsX, wr, ws]
                  refine ⟨.inr (by trivial), Fin_same hcl rfl (Wk_int ?_)⟩
                  rw [hgr, ← hinv, if_pos (by simpa using c)]
                · -- false
                  refine W_skip (h22 _ _ ?_)
                  refine W_region [2, 7, 46, 47, 48] fun R hR => ?_   -- r22
                  simp only [go_sem, bsX, wr, ws]
                  refine hR _ _ ?_; clear hR R
                  simp only [go_sem, bsX, wr, ws]
                  rw [if_neg (by simpa using c)] at hinv
                  rw [wrap_i64_id (by omega) (by omega)]
                  exact ⟨k - 1, by omega, i + 1, _, by omega, hinv, rfl⟩
            · -- false
              refine W_exit ?_
              simp only [go_sem, bsX, wr, ws]
              refine h18 _ _ ?_
              refine W_seq fun K30 h30 => ?_
              refine W_region [4] fun R hR => ?_   -- r23
              simp only [go_sem, bsX, wr, ws]
              refine hR _ _ (h30 _ _ ?_); clear hR h30 R K30
              simp only [go_sem, bsX, wr, ws]
              refine W_ret ?_
              simp only [go_sem, bsX, wr, ws]
              refine ⟨.inr (by trivial), Fin_same hcl rfl (Wk_int ?_)⟩
              rw [hgr, ← hinv, List.drop_eq_nil_of_le (by simp at c; omega)]; rfl

end Go.Proofs.Ytnpamcpoaklgeaa

namespace Go.Proofs.Ytnpamcpoaklgeaa
open Go Go.RowKit
set_option maxRecDepth 100000

def chkStreets (n : Int) : List (Int × Int) → Int
  | [] => 0
  | s :: r => if !(inR s.1 0 (n - 1) && inR s.2 0 (n - 1)) then 7 else if s.1 = s.2 then 1 else chkStreets n r
def chkGroups (t : Town) : List Group → Int
  | [] => 0
  | g :: r => if chkGroup t g ≠ 0 then chkGroup t g else chkGroups t r
def chkTown (t : Town) : Int :=
  if t.rooms.length = 0 then 4 else if t.rooms.length > 12 then 5 else if !(allIn 0 1000000 t.rooms) then 2 else if t.streets.length > 12 then 5 else
  if chkStreets t.rooms.length t.streets ≠ 0 then chkStreets t.rooms.length t.streets else if !(inR t.steps 0 96) then 2 else if t.groups.length > 12 then 5 else chkGroups t t.groups

theorem ctown_pc (Y : YEnv) (σ : Sg) (t : Town) (hr : t.rooms.length < 2 ^ 62) (hs : t.streets.length < 2 ^ 62) (hg : t.groups.length < 2 ^ 62) (hp : ∀ g, g ∈ t.groups → g.path.length < 2 ^ 62) : PC Try.prog Y 95 [twPV t] σ (I (chkTown t)) σ := by
  refine PC_of_W Try.func95 rfl (by kernel_rfl) Try.ntmps95 (by simp) fun hcl hca => ?_
  have wr : IntKind.i64.wrap ((t.rooms.length : Int) - 1) = (t.rooms.length : Int) - 1 := wrap_i64_id (by omega) (by omega)
  refine W_seq fun K1 h1 => ?_
  refine W_region [1] fun R hR => ?_   -- r0
  simp only [go_sem, bsX, wr, twPV, twCells]
  refine hR _ _ (h1 _ _ ?_); clear hR h1 R K1
  simp only [go_sem, bsX, wr]
  refine W_seq fun K2 h2 => ?_
  refine W_region [1, 3] fun R hR => ?_   -- r1
  simp only [go_sem, bsX, wr]
  refine hR _ _ (h2 _ _ ?_); clear hR h2 R K2
  simp only [go_sem, bsX, wr]
  refine W_seq fun K3 h3 => ?_
  refine W_block ?_
  refine W_seq fun K4 h4 => ?_
  refine W_region [1, 3, 12] fun R hR => ?_   -- r2
  simp only [go_sem, bsX, wr]
  refine hR _ _ (h4 _ _ ?_); clear hR h4 R K4
  simp only [go_sem, bsX, wr]
  refine W_cond rfl (fun c => ?_) (fun c => ?_)
  · -- true
    refine W_seq fun K5 h5 => ?_
    refine W_region [2] fun R hR => ?_   -- r3
    simp only [go_sem, bsX, wr]
    refine hR _ _ (h5 _ _ ?_); clear hR h5 R K5
    simp only [go_sem, bsX, wr]
    refine W_ret ?_
    simp only [go_sem, bsX, wr]
    refine ⟨.inr (by trivial), Fin_same hcl rfl (Wk_int ?_)⟩
    simp_all [chkTown]
  · -- false
    refine W_seq fun K6 h6 => ?_
    refine W_region [1, 3, 15] fun R hR => ?_   -- r4
    simp only [go_sem, bsX, wr]
    refine hR _ _ (h6 _ _ ?_); clear hR h6 R K6
    simp only [go_sem, bsX, wr]
    refine W_cond rfl (fun c => ?_) (fun c => ?_)
    · -- true
      refine W_seq fun K7 h7 => ?_
      refine W_region [2] fun R hR => ?_   -- r5
      simp only [go_sem, bsX, wr]
      refine hR _ _ (h7 _ _ ?_); clear hR h7 R K7
      simp only [go_sem, bsX, wr]
      refine W_ret ?_
      simp only [go_sem, bsX, wr]
      refine ⟨.inr (by trivial), Fin_same hcl rfl (Wk_int ?_)⟩
      simp_all [chkTown] <;> (intros; omega)
    · -- false
      refine W_seq fun K8 h8 => ?_
      refine W_region [1, 3, 18] fun R hR => ?_   -- r6
      simp only [go_sem, bsX, wr]
      refine GCall_of (cin_pc Y _ 0 1000000 t.rooms .ro hr) ?_
      simp only [go_sem, bsX, wr]
      refine hR _ _ (h8 _ _ ?_); clear hR h8 R K8
      simp only [go_sem, bsX, wr]
      refine W_cond rfl (fun c => ?_) (fun c => ?_)
      · -- true
        refine W_seq fun K9 h9 => ?_
        refine W_region [2] fun R hR => ?_   -- r7
        simp only [go_sem, bsX, wr]
        refine hR _ _ (h9 _ _ ?_); clear hR h9 R K9
        simp only [go_sem, bsX, wr]
        refine W_ret ?_
        simp only [go_sem, bsX, wr]
        refine ⟨.inr (by trivial), Fin_same hcl rfl (Wk_int ?_)⟩
        simp_all [chkTown] <;> (intros; omega)
      · -- false
        refine W_seq fun K10 h10 => ?_
        refine W_region [1, 3, 23] fun R hR => ?_   -- r8
        simp only [go_sem, bsX, wr]
        refine hR _ _ (h10 _ _ ?_); clear hR h10 R K10
        simp only [go_sem, bsX, wr]
        refine W_cond rfl (fun c => ?_) (fun c => ?_)
        · -- true
          refine W_seq fun K11 h11 => ?_
          refine W_region [2] fun R hR => ?_   -- r9
          simp only [go_sem, bsX, wr]
          refine hR _ _ (h11 _ _ ?_); clear hR h11 R K11
          simp only [go_sem, bsX, wr]
          refine W_ret ?_
          simp only [go_sem, bsX, wr]
          refine ⟨.inr (by trivial), Fin_same hcl rfl (Wk_int ?_)⟩
          simp_all [chkTown] <;> (intros; omega)
        · -- false
          refine W_skip (h3 _ _ ?_)
          refine W_seq fun K12 h12 => ?_
          refine W_seq fun K13 h13 => ?_
          refine W_region [1, 3, 29, 30, 31] fun R hR => ?_   -- r10
          simp only [go_sem, bsX, wr]
          refine hR _ _ (h13 _ _ ?_); clear hR h13 R K13
          simp only [go_sem, bsX, wr]
          refine W_block ?_
          have hq : chkTown t = if chkStreets t.rooms.length t.streets ≠ 0 then chkStreets t.rooms.length t.streets else if !(inR t.steps 0 96) then 2 else if t.groups.length > 12 then 5 else chkGroups t t.groups := by
            simp_all [chkTown]
            try (intros; omega)
          refine W_loopK (fun k E σ' => ∃ i : Nat, k + i = t.streets.length ∧ chkStreets t.rooms.length (t.streets.drop i) = chkStreets t.rooms.length t.streets ∧ E = [(1, .ptr σ.store.length 0), (3, I t.rooms.length), (29, .isl (t.streets.map stPV) .ro), (30, I t.streets.length), (31, I i)] ∧ σ.ext [some (twCells t)] [] = σ') t.streets.length ⟨0, rfl, rfl, rfl, rfl⟩ ?_
          rintro k E σ' ⟨i, hk, hinv, rfl, rfl⟩
          simp only [twCells, go_sem]
          refine W_seq fun K14 h14 => ?_
          refine W_region [1, 3, 29, 30, 31, 32] fun R hR => ?_   -- r11
          simp only [go_sem, bsX, wr]
          refine hR _ _ (h14 _ _ ?_); clear hR h14 R K14
          simp only [go_sem, bsX, wr]
          refine W_seq fun K15 h15 => ?_
          refine W_cond rfl (fun c => ?_) (fun c => ?_)
          · -- true
            have hi' : i < t.streets.length := by simpa using c
            obtain ⟨x, hx⟩ : ∃ x, t.streets[i]? = some x := ⟨t.streets[i], by simp [hi']⟩
            have hdrop : t.streets.drop i = x :: t.streets.drop (i + 1) := by
              rw [List.drop_eq_getElem_cons hi']; congr 1; exact (List.getElem?_eq_some_iff.1 hx).2
            rw [hdrop] at hinv
            simp only [chkStreets] at hinv
            refine W_skip (h15 _ _ ?_)
            refine W_seq fun K16 h16 => ?_
            refine W_block ?_
            refine W_seq fun K17 h17 => ?_
            refine W_region [1, 3, 5, 29, 30, 31] fun R hR => ?_   -- r12
            simp only [go_sem, bsX, wr, iaX_map (f := stPV) (c := 2) hx rfl, elA_map (f := stPV) hx, stPV]
            refine hR _ _ (h17 _ _ ?_); clear hR h17 R K17
            simp only [go_sem, bsX, wr]
            refine W_block ?_
            refine W_seq fun K18 h18 => ?_
            refine W_region [1, 3, 5, 29, 30, 31, 35] fun R hR => ?_   -- r13
            simp only [go_sem, bsX, wr]
            refine GCall_of (cin_pc Y _ 0 _ [x.1, x.2] .exact (by simp)) ?_
            simp only [go_sem, bsX, wr]
            refine hR _ _ (h18 _ _ ?_); clear hR h18 R K18
            simp only [go_sem, bsX, wr]
            refine W_cond rfl (fun c => ?_) (fun c => ?_)
            · -- true
              refine W_seq fun K19 h19 => ?_
              refine W_region [2] fun R hR => ?_   -- r14
              simp only [go_sem, bsX, wr]
              refine hR _ _ (h19 _ _ ?_); clear hR h19 R K19
              simp only [go_sem, bsX, wr]
              refine W_ret ?_
              simp only [go_sem, bsX, wr]
              refine ⟨.inr (by trivial), Fin_same hcl rfl (Wk_int ?_)⟩
              rw [hq, ← hinv]; simp_all [allIn]
            · -- false
              refine W_seq fun K20 h20 => ?_
              refine W_region [1, 3, 29, 30, 31, 45] fun R hR => ?_   -- r15
              simp only [go_sem, bsX, wr]
              refine hR _ _ (h20 _ _ ?_); clear hR h20 R K20
              simp only [go_sem, bsX, wr]
              refine W_cond rfl (fun c => ?_) (fun c => ?_)
              · -- true
                refine W_seq fun K21 h21 => ?_
                refine W_region [2] fun R hR => ?_   -- r16
                simp only [go_sem, bsX, wr]
                refine hR _ _ (h21 _ _ ?_); clear hR h21 R K21
                simp only [go_sem, bsX, wr]
                refine W_ret ?_
                simp only [go_sem, bsX, wr]
                refine ⟨.inr (by trivial), Fin_same hcl rfl (Wk_int ?_)⟩
                rw [hq, ← hinv]; simp_all [allIn]
              · -- false
                refine W_skip (h16 _ _ ?_)
                refine W_weak (Weak.cutExt 1 0 (Nat.le_add_right _ _) (Nat.le_refl _) hcl (CleanL_cons (cleans_tw t) CleanL_nil) (Wk.env (cleanE_cons (.ptr _ _ (by omega)) (cleanE_cons (.int _ _) (cleanE_cons (Clean.map noTok clean_st) (cleanE_cons (.int _ _) (cleanE_cons (.int _ _) (cleanE_cons (.bool _) cleanE_nil)))))))) ?_
                refine W_region [1, 3, 29, 30, 31] fun R hR => ?_   -- r17
                simp only [go_sem, bsX, wr]
                refine hR _ _ ?_; clear hR R
                simp only [go_sem, bsX, wr]
                rw [wrap_i64_id (by omega) (by omega)]
                exact ⟨k - 1, by omega, i + 1, by omega, by simp_all [allIn], rfl⟩
          · -- false
            have hz : chkStreets t.rooms.length t.streets = 0 := by rw [← hinv, List.drop_eq_nil_of_le (by simp at c; omega)]; rfl
            refine W_exit ?_
            simp only [go_sem, bsX, wr]
            refine h12 _ _ ?_
            refine W_seq fun K22 h22 => ?_
            refine W_block ?_
            refine W_seq fun K23 h23 => ?_
            refine W_region [1, 52] fun R hR => ?_   -- r18
            simp only [go_sem, bsX, wr]
            refine GCall_of (cin_pc Y _ 0 96 [t.steps] .exact (by simp)) ?_
            simp only [go_sem, bsX, wr]
            refine hR _ _ (h23 _ _ ?_); clear hR h23 R K23
            simp only [go_sem, bsX, wr]
            refine W_cond rfl (fun c => ?_) (fun c => ?_)
            · -- true
              refine W_seq fun K24 h24 => ?_
              refine W_region [2] fun R hR => ?_   -- r19
              simp only [go_sem, bsX, wr]
              refine hR _ _ (h24 _ _ ?_); clear hR h24 R K24
              simp only [go_sem, bsX, wr]
              refine W_ret ?_
              simp only [go_sem, bsX, wr]
              refine ⟨.inr (by trivial), Fin_same hcl rfl (Wk_int ?_)⟩
              rw [hq, hz]; simp_all [allIn]
            · -- false
              refine W_seq fun K25 h25 => ?_
              refine W_region [1, 58] fun R hR => ?_   -- r20
              simp only [go_sem, bsX, wr]
              refine hR _ _ (h25 _ _ ?_); clear hR h25 R K25
              simp only [go_sem, bsX, wr]
              refine W_cond rfl (fun c => ?_) (fun c => ?_)
              · -- true
                refine W_seq fun K26 h26 => ?_
                refine W_region [2] fun R hR => ?_   -- r21
                simp only [go_sem, bsX, wr]
                refine hR _ _ (h26 _ _ ?_); clear hR h26 R K26
                simp only [go_sem, bsX, wr]
                refine W_ret ?_
                simp only [go_sem, bsX, wr]
                refine ⟨.inr (by trivial), Fin_same hcl rfl (Wk_int ?_)⟩
                rw [hq, hz]; simp_all [allIn] <;> (intros; omega)
              · -- false
                refine W_skip (h22 _ _ ?_)
                refine W_seq fun K27 h27 => ?_
                refine W_seq fun K28 h28 => ?_
                refine W_region [1, 64, 65, 66] fun R hR => ?_   -- r22
                simp only [go_sem, bsX, wr]
                refine hR _ _ (h28 _ _ ?_); clear hR h28 R K28
                simp only [go_sem, bsX, wr]
                refine W_block ?_
                have hq2 : chkTown t = chkGroups t t.groups := by
                  simp_all [allIn]
                  try (intros; omega)
                refine W_loopK (fun k E σ' => ∃ i : Nat, k + i = t.groups.length ∧ chkGroups t (t.groups.drop i) = chkGroups t t.groups ∧ E = [(1, .ptr σ.store.length 0), (64, .isl (t.groups.map grPV) .ro), (65, I t.groups.length), (66, I i)] ∧ σ.ext [some (twCells t)] [] = σ') t.groups.length ⟨0, rfl, rfl, rfl, rfl⟩ ?_
                rintro k E σ' ⟨i, hk, hinv, rfl, rfl⟩
                simp only [twCells, go_sem]
                refine W_seq fun K29 h29 => ?_
                refine W_region [1, 64, 65, 66, 67] fun R hR => ?_   -- r23
                simp only [go_sem, bsX, wr]
                refine hR _ _ (h29 _ _ ?_); clear hR h29 R K29
                simp only [go_sem, bsX, wr]
                refine W_seq fun K30 h30 => ?_
                refine W_cond rfl (fun c => ?_) (fun c => ?_)
                · -- true
                  have hi' : i < t.groups.length := by simpa using c
                  obtain ⟨x, hx⟩ : ∃ x, t.groups[i]? = some x := ⟨t.groups[i], by simp [hi']⟩
                  have hdrop : t.groups.drop i = x :: t.groups.drop (i + 1) := by
                    rw [List.drop_eq_getElem_cons hi']; congr 1; exact (List.getElem?_eq_some_iff.1 hx).2
                  rw [hdrop] at hinv
                  simp only [chkGroups] at hinv
                  refine W_skip (h30 _ _ ?_)
                  refine W_seq fun K31 h31 => ?_
                  refine W_block ?_
                  refine W_seq fun K32 h32 => ?_
                  refine W_region [1, 7, 64, 65, 66] fun R hR => ?_   -- r24
                  simp only [go_sem, bsX, wr, iaX_map (f := grPV) (c := 7) hx rfl, elA_map (f := grPV) hx, grPV]
                  refine hR _ _ (h32 _ _ ?_); clear hR h32 R K32
                  simp only [go_sem, bsX, wr]
                  refine W_seq fun K33 h33 => ?_
                  refine W_region [1, 8, 64, 65, 66] fun R hR => ?_   -- r25
                  simp only [go_sem, bsX, wr]
                  refine GCall_of (cgroup_pc Y _ t x hr hs (hp x (List.mem_of_getElem? hx))) ?_
                  simp only [go_sem, bsX, wr]
                  refine hR _ _ (h33 _ _ ?_); clear hR h33 R K33
                  simp only [go_sem, bsX, wr]
                  refine W_seq fun K34 h34 => ?_
                  refine W_region [1, 8, 64, 65, 66, 74] fun R hR => ?_   -- r26
                  simp only [go_sem, bsX, wr]
                  refine hR _ _ (h34 _ _ ?_); clear hR h34 R K34
                  simp only [go_sem, bsX, wr]
                  refine W_cond rfl (fun c => ?_) (fun c => ?_)
                  · -- true
                    refine W_seq fun K35 h35 => ?_
                    refine W_region [2] fun R hR => ?_   -- r27
                    simp only [go_sem, bsX, wr]
                    refine hR _ _ (h35 _ _ ?_); clear hR h35 R K35
                    simp only [go_sem, bsX, wr]
                    refine W_ret ?_
                    simp only [go_sem, bsX, wr]
                    refine ⟨.inr (by trivial), Fin_same hcl rfl (Wk_int ?_)⟩
                    rw [hq2, ← hinv, if_pos (by simpa using c)]
                  · -- false
                    refine W_skip (h31 _ _ ?_)
                    refine W_weak (Weak.cutExt 1 0 (Nat.le_add_right _ _) (Nat.le_refl _) hcl (CleanL_cons (cleans_tw t) CleanL_nil) (Wk.env (cleanE_cons (.ptr _ _ (by omega)) (cleanE_cons (.int _ _) (cleanE_cons (Clean.map noTok clean_gr) (cleanE_cons (.int _ _) (cleanE_cons (.int _ _) (cleanE_cons (.bool _) cleanE_nil)))))))) ?_
                    refine W_region [1, 64, 65, 66] fun R hR => ?_   -- r28
                    simp only [go_sem, bsX, wr]
                    refine hR _ _ ?_; clear hR R
                    simp only [go_sem, bsX, wr]
                    rw [if_neg (by simpa using c)] at hinv
                    rw [wrap_i64_id (by omega) (by omega)]
                    exact ⟨k - 1, by omega, i + 1, by omega, hinv, rfl⟩
                · -- false
                  refine W_exit ?_
                  simp only [go_sem, bsX, wr]
                  refine h27 _ _ ?_
                  refine W_seq fun K36 h36 => ?_
                  refine W_region [2] fun R hR => ?_   -- r29
                  simp only [go_sem, bsX, wr]
                  refine hR _ _ (h36 _ _ ?_); clear hR h36 R K36
                  simp only [go_sem, bsX, wr]
                  refine W_ret ?_
                  simp only [go_sem, bsX, wr]
                  refine ⟨.inr (by trivial), Fin_same hcl rfl (Wk_int ?_)⟩
                  rw [hq2, ← hinv, List.drop_eq_nil_of_le (by simp at c; omega)]; rfl

end Go.Proofs.Ytnpamcpoaklgeaa

namespace Go.Proofs.Ytnpamcpoaklgeaa
open Go Go.RowKit
set_option maxRecDepth 100000

/-- A slice that grew: none, or a variable of its own. -/
def glv (σ : Sg) (l : List PV) (c : Nat) : PV := match l with
  | [] => .gnil
  | l => .gsl σ.store.length l.length c
def gls (l : List PV) : List (Option (List PV)) := match l with
  | [] => []
  | l => [some (rowC l)]
theorem bd_ok (b : Band) : ([bdPV b].all fun q => (q.cells.length == 6) && q.cells.all PV.scalar) = true := by rfl
theorem glv_cons {σ : Sg} {l : List PV} {c : Nat} (h : l ≠ []) : glv σ l c = .gsl σ.store.length l.length c := by
  cases l with
  | nil => exact absurd rfl h
  | cons => rfl
theorem gls_cons {l : List PV} (h : l ≠ []) : gls l = [some (rowC l)] := by
  cases l with
  | nil => exact absurd rfl h
  | cons => rfl

theorem OwnBandsG_pc (Y : YEnv) (σ : Sg) (l : List Band) (h : l.length * 64 ≤ 2 ^ 47) (hp : ∀ b, b ∈ l → b.path.length * 8 ≤ 2 ^ 47) :
    PC Try.prog Y 16 [bands l] σ (glv σ (l.map bdPV) 6) (σ.ext (gls (l.map bdPV)) []) := by
  refine PC_of_W Try.func16 rfl (by kernel_rfl) Try.ntmps16 (by simp) fun hcl hca => ?_
  refine W_seq fun K1 h1 => ?_
  refine W_region [0] fun R hR => ?_   -- r0
  simp only [go_sem]
  refine hR _ _ (h1 _ _ ?_); clear hR h1 R K1
  simp only [go_sem]
  refine W_seq fun K2 h2 => ?_
  refine W_region [0, 3] fun R hR => ?_   -- r1
  simp only [go_sem]
  refine hR _ _ (h2 _ _ ?_); clear hR h2 R K2
  simp only [go_sem]
  refine W_seq fun K3 h3 => ?_
  refine W_seq fun K4 h4 => ?_
  refine W_region [0, 3, 4] fun R hR => ?_   -- r2
  simp only [go_sem]
  refine hR _ _ (h4 _ _ ?_); clear hR h4 R K4
  simp only [go_sem]
  refine W_block ?_
  refine W_weak (Weak.gnil (t := 3) rfl) ?_
  refine W_weak (Weak.keep [0, 3, 4]) ?_
  simp only [go_sem]
  refine W_loopK (fun k E σ' => ∃ i : Nat, k + i = l.length ∧ E = [(0, bands l), (3, glv σ ((l.take i).map bdPV) 6), (4, I i)] ∧ σ' = σ.ext (gls ((l.take i).map bdPV)) []) l.length ⟨0, rfl, by simp [glv], by simp [gls, Sg.ext_nil]⟩ ?_
  rintro k E σ' ⟨i, hk, rfl, rfl⟩
  refine W_seq fun K5 h5 => ?_
  refine W_seq fun K6 h6 => ?_
  refine W_region [0, 3, 4, 9] fun R hR => ?_   -- r3
  simp only [go_sem]
  refine hR _ _ (h6 _ _ ?_); clear hR h6 R K6
  simp only [go_sem]
  refine W_cond rfl (fun c => ?_) (fun c => ?_)
  · -- true
    have hi : i < l.length := by simpa using c
    obtain ⟨b, hb⟩ : ∃ b, l[i]? = some b := ⟨l[i], by simp [hi]⟩
    have hbl : b ∈ l := List.mem_of_getElem? hb
    have e : (l.take i).map bdPV ++ [bdPV b] = (l.take (i + 1)).map bdPV := by
      rw [List.take_add_one, hb]; simp
    have hne : (l.take (i + 1)).map bdPV ≠ [] := by rw [← e]; simp
    have hlen : ((l.take i).map bdPV).length = i := by simp; omega
    have hall : ∀ q ∈ (l.take (i + 1)).map bdPV, q.cells.length = 6 := fun q hq => by
      obtain ⟨x, _, rfl⟩ := List.mem_map.1 hq
      rfl
    have hcl6 : ∀ p, p ∈ rowC ((l.take (i + 1)).map bdPV) → Clean σ.store.length σ.rooms.length σ.ys.length p := fun p hp => by
      simp only [rowC, List.mem_flatMap, List.mem_map] at hp
      obtain ⟨_, ⟨x, _, rfl⟩, hx⟩ := hp
      exact (clean_bd x).cells p hx
    refine W_skip (h5 _ _ ?_); clear h5 K5
    refine W_seq fun K7 h7 => ?_
    refine W_block ?_
    have hallp : ∀ q ∈ (l.take i).map bdPV, q.cells.length = 6 := fun q hq => by
      obtain ⟨x, _, rfl⟩ := List.mem_map.1 hq
      rfl
    generalize hprev : (l.take i).map bdPV = prev at e hlen hallp ⊢
    generalize hnext : (l.take (i + 1)).map bdPV = next at e hne hall hcl6
    rcases prev with _ | ⟨p0, prev⟩
    · -- the first
      simp only [glv, gls]
      refine W_seq fun K8 h8 => ?_
      refine W_region [0, 3, 4, 5] fun R hR => ?_   -- r5
      simp only [go_sem, iaX_map (f := bdPV) (c := 6) hb rfl, elA_map (f := bdPV) hb, bdPV, bdCells]
      refine hR _ _ (h8 _ _ ?_); clear hR h8 R K8
      simp only [go_sem]
      refine W_seq fun K9 h9 => ?_
      refine W_region [0, 3, 4, 5] fun R hR => ?_   -- r6
      simp only [go_sem]
      refine GCall_of (Ints_pc Y _ b.path .ro (hp b hbl)) ?_
      simp only [go_sem]
      refine hR _ _ (h9 _ _ ?_); clear hR h9 R K9
      simp only [go_sem]
      refine W_region [0, 3, 4] fun R hR => ?_   -- r7
      simp only [go_sem, bsX]
      rw [appG_nil (by rfl) (by simp) (by simp)]
      simp only [go_sem]
      refine hR _ _ ?_; clear hR R
      simp only [go_sem]
      refine h7 _ _ ?_; clear h7 K7
      refine W_weak (Weak.moveX (t0 := 3) (j := 1) (cs := rowC next) 0 0 rfl ?_ (Nat.zero_le _) (Nat.le_refl _) (Nat.le_refl _) hcl hcl6 (by simp) (E' := [(0, bands l), (3, .gsl σ.store.length next.length 6), (4, I i)]) (MovedE.get ?_)) ?_
      · rw [← e]; simp [rowC, bdPV, bdCells]
      · refine ⟨rfl, .same (clean_bands l), rfl, ?_, rfl, .same (.int _ _), trivial⟩
        rw [← e]
        simp only [List.length_append, List.length_cons, List.length_nil, Nat.zero_add, Nat.add_zero]
        exact .gsl
      refine W_region [0, 3, 4] fun R hR => ?_   -- r4
      simp only [go_sem]
      refine hR _ _ ?_; clear hR R
      simp only [go_sem]
      rw [wrap_i64_id (by omega) (by omega)]
      refine ⟨k - 1, by omega, i + 1, by omega, ?_, ?_⟩
      · rw [hnext, glv_cons hne]; rfl
      · rw [hnext, gls_cons hne]
    · -- one more
      simp only [glv, gls]
      refine W_seq fun K8 h8 => ?_
      refine W_region [0, 3, 4, 5] fun R hR => ?_   -- r5
      simp only [go_sem, iaX_map (f := bdPV) (c := 6) hb rfl, elA_map (f := bdPV) hb, bdPV, bdCells]
      refine hR _ _ (h8 _ _ ?_); clear hR h8 R K8
      simp only [go_sem]
      refine W_seq fun K9 h9 => ?_
      refine W_region [0, 3, 4, 5] fun R hR => ?_   -- r6
      simp only [go_sem]
      refine GCall_of (Ints_pc Y _ b.path .ro (hp b hbl)) ?_
      simp only [go_sem]
      refine hR _ _ (h9 _ _ ?_); clear hR h9 R K9
      simp only [go_sem]
      refine W_region [0, 3, 4] fun R hR => ?_   -- r7
      simp only [go_sem, bsX]
      rw [appG_more (len := prev.length + 1) (cs := rowC (p0 :: prev)) (by simp only [Sg.get_ext0]; rfl) (by rw [rowC_length hallp]; rfl) (by rfl) (by simp) (by simp at hlen ⊢; omega)]
      simp only [go_sem]
      refine hR _ _ ?_; clear hR R
      simp only [go_sem]
      refine h7 _ _ ?_; clear h7 K7
      refine W_weak (Weak.moveX (t0 := 3) (j := 2) (cs := rowC next) 0 0 rfl ?_ (Nat.zero_le _) (Nat.le_refl _) (Nat.le_refl _) hcl hcl6 (by simp) (E' := [(0, bands l), (3, .gsl σ.store.length next.length 6), (4, I i)]) (MovedE.get ?_)) ?_
      · rw [← e]; simp [rowC, bdPV, bdCells]
      · refine ⟨rfl, .same (clean_bands l), rfl, ?_, rfl, .same (.int _ _), trivial⟩
        rw [← e]
        simp only [List.length_append, List.length_cons, List.length_nil, Nat.zero_add, Nat.add_zero]
        exact .gsl
      refine W_region [0, 3, 4] fun R hR => ?_   -- r4
      simp only [go_sem]
      refine hR _ _ ?_; clear hR R
      simp only [go_sem]
      rw [wrap_i64_id (by omega) (by omega)]
      refine ⟨k - 1, by omega, i + 1, by omega, ?_, ?_⟩
      · rw [hnext, glv_cons hne]; rfl
      · rw [hnext, gls_cons hne]
  · -- false
    have hi : i = l.length := by simp at c; omega
    subst hi
    refine W_exit ?_
    simp only [go_sem]
    refine h3 _ _ ?_; clear h5 K5 h3 K3
    refine W_seq fun K10 h10 => ?_
    refine W_region [2] fun R hR => ?_   -- r8
    simp only [go_sem]
    refine hR _ _ (h10 _ _ ?_); clear hR h10 R K10
    simp only [go_sem]
    refine W_ret ?_
    simp only [go_sem, List.take_length]
    refine ⟨.inr (by trivial), ?_⟩
    rcases l with _ | ⟨b, l⟩
    · exact Fin_ext 0 0 hcl rfl (Wk.of_clean .gnil) (by simp)
    · have hcl6 : ∀ p, p ∈ rowC ((b :: l).map bdPV) → Clean (σ.store.length + 1) σ.rooms.length σ.ys.length p := fun p hp => by
        simp only [rowC, List.mem_flatMap, List.mem_map] at hp
        obtain ⟨_, ⟨x, _, rfl⟩, hx⟩ := hp
        exact (clean_bd x).cells p hx
      refine Fin_ext (l := gls ((b :: l).map bdPV)) (rm := []) 1 0 hcl rfl (Wk.of_clean (.gsl _ _ _ (by omega))) ?_
      intro cs hcs p hp
      simp [gls] at hcs
      subst hcs
      exact hcl6 p hp
end Go.Proofs.Ytnpamcpoaklgeaa

namespace Go.Proofs.Ytnpamcpoaklgeaa
open Go Go.RowKit
set_option maxRecDepth 100000

def fIdx (q : Int → Bool) : Nat → List Int → Int
  | _, [] => -1
  | i, x :: r => if q x then i else fIdx q (i + 1) r
theorem fIdx_any (q : Int → Bool) : ∀ (l : List Int) (i : Nat), decide (0 ≤ fIdx q i l) = l.any q := by
  intro l
  induction l with
  | nil => intro i; rfl
  | cons x l ih =>
    intro i
    simp only [fIdx, List.any_cons]
    by_cases h : q x = true
    · simp [h]
    · simp only [Bool.not_eq_true] at h
      simp [h, ih]
def chkCity (c : City) : Int :=
  if chkTown c.town ≠ 0 then chkTown c.town else if !(inR c.brk 0 120) then 2 else if c.sleep.length ≠ c.town.rooms.length then 1 else if c.sleep.any (fun n => !(inR n 0 720)) then 2 else 0

structure City.Ok (c : City) : Prop where
  hr : c.town.rooms.length < 2 ^ 50
  hs : c.town.streets.length < 2 ^ 50
  hg : c.town.groups.length < 2 ^ 50
  hp : ∀ g, g ∈ c.town.groups → g.path.length < 2 ^ 50
  hsl : c.sleep.length < 2 ^ 50

set_option maxHeartbeats 2000000 in
theorem check1_pc (Y : YEnv) (σ : Sg) (n : Int) :
    PC Try.prog Y 97 [I n] σ (.bool (!(inR n 0 720))) (σ) := by
  refine PC_of_W Try.func97 rfl (by kernel_rfl) Try.ntmps97 (by simp) fun hcl hca => ?_
  refine W_seq fun kz1 kq1 => ?_
  refine W_region [0] fun R hR => ?_   -- r0
  simp only [go_sem]
  refine hR _ _ (kq1 _ _ ?_); clear hR R; try clear kq1 kz1
  try simp only [go_sem]
  refine W_seq fun kz2 kq2 => ?_
  refine W_region [2] fun R hR => ?_   -- r1
  simp only [go_sem]
  refine GCall_of (in_pc Y _ n 0 720) ?_   -- t4
  simp only [go_sem]
  refine hR _ _ (kq2 _ _ ?_); clear hR R; try clear kq2 kz2
  try simp only [go_sem]
  refine W_ret ?_
  simp only [go_sem]
  refine ⟨.inr (by trivial), ?_⟩
  first | refine Fin_same hcl rfl (Wk_eq ?_ (by simp only [go_sem])) | refine Fin_self hcl rfl (Wk_eq ?_ (by simp only [go_sem]))
  try simp only [go_sem]
  all_goals
    first | rfl | (simp_all; done) | (simp_all; omega)
set_option maxHeartbeats 2000000 in
theorem index_pc (Y : YEnv) (σ : Sg) (l : List Int) (o : Own) (hl : l.length < 2 ^ 62) (g : FuncId) (q : Int → Bool) (hq : ∀ (σ : Sg) (x : Int), PC Try.prog Y g [I x] σ (.bool (q x)) σ) :
    PC Try.prog Y 129 [intsO o l, .func (.func g) [] []] σ (I (fIdx q 0 l)) (σ) := by
  refine PC_of_W Try.func129 rfl (by kernel_rfl) Try.ntmps129 (by simp) fun hcl hca => ?_
  refine W_seq fun kz1 kq1 => ?_
  refine W_region [0, 1] fun R hR => ?_   -- r0
  simp only [go_sem]
  refine hR _ _ (kq1 _ _ ?_); clear hR R; try clear kq1 kz1
  try simp only [go_sem]
  refine W_seq fun kz2 kq2 => ?_
  refine W_seq fun kz3 kq3 => ?_
  refine W_region [0, 1, 7, 8] fun R hR => ?_   -- r1
  simp only [go_sem]
  refine hR _ _ (kq3 _ _ ?_); clear hR R; try clear kq3 kz3
  try simp only [go_sem]
  refine W_block ?_
  refine W_loopS (α := Nat) (fun (i : Nat) => [(8, I i)]) (fun (i : Nat) => i ≤ l.length ∧ fIdx q i (l.drop i) = fIdx q 0 l) (fun (i : Nat) => l.length - i) (0) rfl (by simp) ?_
  rintro i ⟨hi, hinv⟩
  refine W_seq fun kz4 kq4 => ?_
  refine W_region [0, 1, 7, 8, 9] fun R hR => ?_   -- r2
  simp only [go_sem]
  refine hR _ _ (kq4 _ _ ?_); clear hR R; try clear kq4 kz4
  try simp only [go_sem]
  refine W_seq fun kz5 kq5 => ?_
  refine W_cond rfl (fun c1 => ?_) (fun c1 => ?_)
  · -- c1 true
    try simp only [nrm] at c1
    have hi' : i < l.length := by first | assumption | omega
    obtain ⟨x, hx⟩ : ∃ x, l[i]? = some x := ⟨l[i], by simp [hi']⟩
    have hdrop : l.drop i = x :: l.drop (i + 1) := by
      rw [List.drop_eq_getElem_cons hi']; congr 1; exact (List.getElem?_eq_some_iff.1 hx).2
    rw [hdrop] at hinv
    simp only [fIdx] at hinv
    refine W_skip (kq5 _ _ ?_)
    refine W_seq fun kz6 kq6 => ?_
    refine W_block ?_
    refine W_seq fun kz7 kq7 => ?_
    refine W_region [0, 1, 5, 7, 8] fun R hR => ?_   -- r3
    simp only [go_sem, hx]
    refine hR _ _ (kq7 _ _ ?_); clear hR R; try clear kq7 kz7
    try simp only [go_sem, hx]
    refine W_seq fun kz8 kq8 => ?_
    refine W_region [0, 1, 5, 7, 8, 16] fun R hR => ?_   -- r4
    simp only [go_sem, hx]
    refine GCall_of (hq _ x) ?_   -- t16
    simp only [go_sem, hx]
    refine hR _ _ (kq8 _ _ ?_); clear hR R; try clear kq8 kz8
    try simp only [go_sem, hx]
    refine W_cond rfl (fun c2 => ?_) (fun c2 => ?_)
    · -- c2 true
      try simp only [nrm] at c2
      refine W_seq fun kz9 kq9 => ?_
      refine W_region [4] fun R hR => ?_   -- r5
      simp only [go_sem, hx]
      refine hR _ _ (kq9 _ _ ?_); clear hR R; try clear kq9 kz9
      try simp only [go_sem, hx]
      refine W_ret ?_
      simp only [go_sem, hx]
      refine ⟨.inr (by trivial), ?_⟩
      first | refine Fin_same hcl rfl (Wk_eq ?_ (by simp only [go_sem])) | refine Fin_self hcl rfl (Wk_eq ?_ (by simp only [go_sem]))
      try simp only [go_sem]
      all_goals
        first | rfl | (simp_all; done) | (simp_all; omega)
    · -- c2 false
      try simp only [nrm] at c2
      refine W_skip (kq6 _ _ ?_)
      refine W_region [0, 1, 7, 8] fun R hR => ?_   -- r6
      simp only [go_sem, hx]
      try simp (disch := omega) only [wrapI]
      refine hR _ _ ?_; clear hR R
      try simp only [go_sem, hx]
      refine ⟨i + 1, ?_, by (try simp only []); omega, ?_⟩
      · first | exact Weak.refl | exact Weak.eq (by first | rfl | (simp only [go_sem]; done) | (simp only [go_sem]; rfl) | (simp [go_sem]; done) | (simp [go_sem]; omega)) (by first | rfl | (simp only [go_sem]; done) | (simp [go_sem]; done))
      · try dsimp only
        exact ⟨hi', by simp_all⟩
  · -- c1 false
    try simp only [nrm] at c1
    have hdrop : l.drop i = [] := List.drop_eq_nil_of_le (by omega)
    rw [hdrop] at hinv
    simp only [fIdx] at hinv
    refine W_exit ?_
    simp only [go_sem]
    refine kq2 _ _ ?_
    refine W_seq fun kz10 kq10 => ?_
    refine W_region [4] fun R hR => ?_   -- r7
    simp only [go_sem]
    refine hR _ _ (kq10 _ _ ?_); clear hR R; try clear kq10 kz10
    try simp only [go_sem]
    refine W_ret ?_
    simp only [go_sem]
    refine ⟨.inr (by trivial), ?_⟩
    first | refine Fin_same hcl rfl (Wk_eq ?_ (by simp only [go_sem])) | refine Fin_self hcl rfl (Wk_eq ?_ (by simp only [go_sem]))
    try simp only [go_sem]
    all_goals
      first | rfl | (simp_all; done) | (simp_all; omega)
set_option maxHeartbeats 2000000 in
theorem contains_pc (Y : YEnv) (σ : Sg) (l : List Int) (o : Own) (hl : l.length < 2 ^ 62) (g : FuncId) (q : Int → Bool) (hq : ∀ (σ : Sg) (x : Int), PC Try.prog Y g [I x] σ (.bool (q x)) σ) :
    PC Try.prog Y 96 [intsO o l, .func (.func g) [] []] σ (.bool (l.any q)) (σ) := by
  refine PC_of_W Try.func96 rfl (by kernel_rfl) Try.ntmps96 (by simp) fun hcl hca => ?_
  refine W_seq fun kz1 kq1 => ?_
  refine W_region [0, 1] fun R hR => ?_   -- r0
  simp only [go_sem]
  refine hR _ _ (kq1 _ _ ?_); clear hR R; try clear kq1 kz1
  try simp only [go_sem]
  refine W_seq fun kz2 kq2 => ?_
  refine W_region [4] fun R hR => ?_   -- r1
  simp only [go_sem]
  refine GCall_of (index_pc Y _ l o hl g q hq) ?_   -- t7
  simp only [go_sem]
  refine hR _ _ (kq2 _ _ ?_); clear hR R; try clear kq2 kz2
  try simp only [go_sem]
  refine W_ret ?_
  simp only [go_sem]
  refine ⟨.inr (by trivial), ?_⟩
  first | refine Fin_same hcl rfl (Wk_eq ?_ (by simp only [go_sem])) | refine Fin_self hcl rfl (Wk_eq ?_ (by simp only [go_sem]))
  try simp only [go_sem]
  all_goals
    simp only [fIdx_any, go_sem]
set_option maxHeartbeats 2000000 in
theorem bcheck_pc (Y : YEnv) (σ : Sg) (ct : City) (hc : ct.Ok) :
    PC Try.prog Y 53 [ctPV ct] σ (I (chkCity ct)) (σ) := by
  refine PC_of_W Try.func53 rfl (by kernel_rfl) Try.ntmps53 (by simp) fun hcl hca => ?_
  refine W_seq fun kz1 kq1 => ?_
  refine W_region [1] fun R hR => ?_   -- r0
  simp only [go_sem]
  refine hR _ _ (kq1 _ _ ?_); clear hR R; try clear kq1 kz1
  try simp only [go_sem]
  refine W_seq fun kz2 kq2 => ?_
  refine W_seq fun kz3 kq3 => ?_
  refine W_region [1, 3] fun R hR => ?_   -- r1
  simp only [go_sem]
  refine GCall_of (ctown_pc Y _ ct.town (by have := hc.hr; omega) (by have := hc.hs; omega) (by have := hc.hg; omega) (fun g hg => by have := hc.hp g hg; omega)) ?_   -- t6
  simp only [go_sem]
  refine hR _ _ (kq3 _ _ ?_); clear hR R; try clear kq3 kz3
  try simp only [go_sem]
  refine W_seq fun kz4 kq4 => ?_
  refine W_region [1, 3, 8] fun R hR => ?_   -- r2
  simp only [go_sem]
  refine hR _ _ (kq4 _ _ ?_); clear hR R; try clear kq4 kz4
  try simp only [go_sem]
  refine W_cond rfl (fun c1 => ?_) (fun c1 => ?_)
  · -- c1 true
    try simp only [nrm] at c1
    refine W_seq fun kz5 kq5 => ?_
    refine W_region [2] fun R hR => ?_   -- r3
    simp only [go_sem]
    refine hR _ _ (kq5 _ _ ?_); clear hR R; try clear kq5 kz5
    try simp only [go_sem]
    refine W_ret ?_
    simp only [go_sem]
    refine ⟨.inr (by trivial), ?_⟩
    first | refine Fin_same hcl rfl (Wk_eq ?_ (by simp only [go_sem])) | refine Fin_self hcl rfl (Wk_eq ?_ (by simp only [go_sem]))
    try simp only [go_sem]
    all_goals
      congr 1; simp only [chkCity]; simp_all
  · -- c1 false
    try simp only [nrm] at c1
    refine W_skip (kq2 _ _ ?_)
    refine W_seq fun kz6 kq6 => ?_
    refine W_block ?_
    refine W_seq fun kz7 kq7 => ?_
    refine W_region [1, 10] fun R hR => ?_   -- r4
    simp only [go_sem]
    refine GCall_of (in_pc Y _ ct.brk 0 120) ?_   -- t13
    simp only [go_sem]
    refine hR _ _ (kq7 _ _ ?_); clear hR R; try clear kq7 kz7
    try simp only [go_sem]
    refine W_cond rfl (fun c2 => ?_) (fun c2 => ?_)
    · -- c2 true
      try simp only [nrm] at c2
      refine W_seq fun kz8 kq8 => ?_
      refine W_region [2] fun R hR => ?_   -- r5
      simp only [go_sem]
      refine hR _ _ (kq8 _ _ ?_); clear hR R; try clear kq8 kz8
      try simp only [go_sem]
      refine W_ret ?_
      simp only [go_sem]
      refine ⟨.inr (by trivial), ?_⟩
      first | refine Fin_same hcl rfl (Wk_eq ?_ (by simp only [go_sem])) | refine Fin_self hcl rfl (Wk_eq ?_ (by simp only [go_sem]))
      try simp only [go_sem]
      all_goals
        congr 1; simp only [chkCity]; simp_all
    · -- c2 false
      try simp only [nrm] at c2
      refine W_seq fun kz9 kq9 => ?_
      refine W_region [1, 15] fun R hR => ?_   -- r6
      simp only [go_sem]
      refine hR _ _ (kq9 _ _ ?_); clear hR R; try clear kq9 kz9
      try simp only [go_sem]
      refine W_cond rfl (fun c3 => ?_) (fun c3 => ?_)
      · -- c3 true
        try simp only [nrm] at c3
        refine W_seq fun kz10 kq10 => ?_
        refine W_region [2] fun R hR => ?_   -- r7
        simp only [go_sem]
        refine hR _ _ (kq10 _ _ ?_); clear hR R; try clear kq10 kz10
        try simp only [go_sem]
        refine W_ret ?_
        simp only [go_sem]
        refine ⟨.inr (by trivial), ?_⟩
        first | refine Fin_same hcl rfl (Wk_eq ?_ (by simp only [go_sem])) | refine Fin_self hcl rfl (Wk_eq ?_ (by simp only [go_sem]))
        try simp only [go_sem]
        all_goals
          congr 1; simp only [chkCity]; simp_all
      · -- c3 false
        try simp only [nrm] at c3
        refine W_seq fun kz11 kq11 => ?_
        refine W_region [24] fun R hR => ?_   -- r8
        simp only [go_sem]
        refine GCall_of (contains_pc Y _ ct.sleep .ro (by have := hc.hsl; omega) 97 _ (fun σ x => check1_pc Y σ x)) ?_   -- t27
        simp only [go_sem]
        refine hR _ _ (kq11 _ _ ?_); clear hR R; try clear kq11 kz11
        try simp only [go_sem]
        refine W_cond rfl (fun c4 => ?_) (fun c4 => ?_)
        · -- c4 true
          try simp only [nrm] at c4
          refine W_seq fun kz12 kq12 => ?_
          refine W_region [2] fun R hR => ?_   -- r9
          simp only [go_sem]
          refine hR _ _ (kq12 _ _ ?_); clear hR R; try clear kq12 kz12
          try simp only [go_sem]
          refine W_ret ?_
          simp only [go_sem]
          refine ⟨.inr (by trivial), ?_⟩
          first | refine Fin_same hcl rfl (Wk_eq ?_ (by simp only [go_sem])) | refine Fin_self hcl rfl (Wk_eq ?_ (by simp only [go_sem]))
          try simp only [go_sem]
          all_goals
            congr 1; simp only [chkCity]; simp_all
        · -- c4 false
          try simp only [nrm] at c4
          refine W_skip (kq6 _ _ ?_)
          refine W_seq fun kz13 kq13 => ?_
          refine W_region [2] fun R hR => ?_   -- r10
          simp only [go_sem]
          refine hR _ _ (kq13 _ _ ?_); clear hR R; try clear kq13 kz13
          try simp only [go_sem]
          refine W_ret ?_
          simp only [go_sem]
          refine ⟨.inr (by trivial), ?_⟩
          first | refine Fin_same hcl rfl (Wk_eq ?_ (by simp only [go_sem])) | refine Fin_self hcl rfl (Wk_eq ?_ (by simp only [go_sem]))
          try simp only [go_sem]
          all_goals
            congr 1; simp only [chkCity]; simp_all

def walkSq (streets : List (Int × Int)) : List Int → Int → List Int → List Int × Int
  | [], _, out => (out, 0)
  | n :: r, at', out => if !(inR n 0 (streets.length - 1)) then ([], 7) else
    match streets[n.toNat]? with
    | none => ([], 7)
    | some s => if at' = s.1 then walkSq streets r s.2 (out ++ [s.2]) else if at' = s.2 then walkSq streets r s.1 (out ++ [s.1]) else ([], 1)
def sqs (c : City) (b : Band) : List Int × Int :=
  if !(inR b.first 0 (c.town.rooms.length - 1)) then ([], 7) else if 12 < (b.path.length : Int) then ([], 5) else walkSq c.town.streets b.path b.first [b.first]
def sqPV (p : List Int × Int) : PV := .tuple [ints p.1, I p.2]
attribute [go_sem] sqPV

set_option maxHeartbeats 2000000 in
theorem squares_pc (Y : YEnv) (σ : Sg) (ct : City) (b : Band) (hc : ct.Ok) (hb : b.path.length < 2 ^ 50) :
    PC Try.prog Y 76 [ctPV ct, bdPV b] σ (sqPV (sqs ct b)) (σ) := by
  refine PC_of_W Try.func76 rfl (by kernel_rfl) Try.ntmps76 (by simp) fun hcl hca => ?_
  have hr := hc.hr
  have hs := hc.hs
  obtain ⟨res, hres⟩ : ∃ r, sqs ct b = r := ⟨_, rfl⟩
  rw [hres]
  refine W_seq fun kz1 kq1 => ?_
  refine W_region [2, 3] fun R hR => ?_   -- r0
  simp only [go_sem]
  refine hR _ _ (kq1 _ _ ?_); clear hR R; try clear kq1 kz1
  try simp only [go_sem]
  refine W_seq fun kz2 kq2 => ?_
  refine W_seq fun kz3 kq3 => ?_
  refine W_region [2, 3, 19] fun R hR => ?_   -- r1
  simp only [go_sem]
  try simp (disch := omega) only [wrapI]
  refine GCall_of (in_pc Y _ b.first 0 _) ?_   -- t18
  simp only [go_sem]
  try simp (disch := omega) only [wrapI]
  refine hR _ _ (kq3 _ _ ?_); clear hR R; try clear kq3 kz3
  try simp only [go_sem]
  refine W_cond rfl (fun c1 => ?_) (fun c1 => ?_)
  · -- c1 true
    try simp only [nrm] at c1
    refine W_seq fun kz4 kq4 => ?_
    refine W_region [4, 5] fun R hR => ?_   -- r2
    simp only [go_sem]
    refine hR _ _ (kq4 _ _ ?_); clear hR R; try clear kq4 kz4
    try simp only [go_sem]
    refine W_ret ?_
    simp only [go_sem]
    refine ⟨.inr (by trivial), ?_⟩
    refine Fin_same hcl rfl (Wk.ro (by simp only [go_sem]) ?_)
    try simp only [go_sem]
    all_goals
      first | rfl | (simp_all; done) | (simp_all; omega) | (rw [← hres]; simp only [sqs]; (repeat' split) <;> ((first | rfl | omega | (simp_all; done) | (simp_all; omega))))
  · -- c1 false
    try simp only [nrm] at c1
    refine W_skip (kq2 _ _ ?_)
    refine W_seq fun kz5 kq5 => ?_
    refine W_seq fun kz6 kq6 => ?_
    refine W_region [2, 3, 23] fun R hR => ?_   -- r3
    simp only [go_sem]
    refine hR _ _ (kq6 _ _ ?_); clear hR R; try clear kq6 kz6
    try simp only [go_sem]
    refine W_cond rfl (fun c2 => ?_) (fun c2 => ?_)
    · -- c2 true
      try simp only [nrm] at c2
      refine W_seq fun kz7 kq7 => ?_
      refine W_region [4, 5] fun R hR => ?_   -- r4
      simp only [go_sem]
      refine hR _ _ (kq7 _ _ ?_); clear hR R; try clear kq7 kz7
      try simp only [go_sem]
      refine W_ret ?_
      simp only [go_sem]
      refine ⟨.inr (by trivial), ?_⟩
      refine Fin_same hcl rfl (Wk.ro (by simp only [go_sem]) ?_)
      try simp only [go_sem]
      all_goals
        first | rfl | (simp_all; done) | (simp_all; omega) | (rw [← hres]; simp only [sqs]; (repeat' split) <;> ((first | rfl | omega | (simp_all; done) | (simp_all; omega))))
    · -- c2 false
      try simp only [nrm] at c2
      refine W_skip (kq5 _ _ ?_)
      refine W_seq fun kz8 kq8 => ?_
      refine W_region [2, 3, 6] fun R hR => ?_   -- r5
      simp only [go_sem]
      refine hR _ _ (kq8 _ _ ?_); clear hR R; try clear kq8 kz8
      try simp only [go_sem]
      refine W_seq fun kz9 kq9 => ?_
      refine W_region [2, 3, 6, 7] fun R hR => ?_   -- r6
      simp only [go_sem]
      refine hR _ _ (kq9 _ _ ?_); clear hR R; try clear kq9 kz9
      try simp only [go_sem]
      refine W_seq fun kz10 kq10 => ?_
      refine W_seq fun kz11 kq11 => ?_
      refine W_region [2, 6, 7, 29, 30, 31] fun R hR => ?_   -- r7
      simp only [go_sem]
      refine hR _ _ (kq11 _ _ ?_); clear hR R; try clear kq11 kz11
      try simp only [go_sem]
      refine W_block ?_
      refine W_weak (Weak.room (t := 7) (es := 1) rfl (by simp)) ?_
      refine W_weak (Weak.keep [2, 6, 7, 29, 30, 31]) ?_
      simp only [go_sem]
      refine W_loopT (α := Nat × Int × (List Int)) (fun ⟨i, at', out⟩ => [(6, I at'), (7, .isl (out.map I) (.tok σ.rooms.length out.length 1)), (31, I i)]) (fun ⟨i, at', out⟩ => σ.ext [some (ctCells ct), some (bdCells b)] [out.length]) (fun ⟨i, at', out⟩ => i ≤ b.path.length ∧ out.length = i + 1 ∧ res = walkSq ct.town.streets (b.path.drop i) at' out) (fun ⟨i, at', out⟩ => b.path.length - i) ((0, b.first, [b.first])) rfl (by first | rfl | (simp only [go_sem]; done) | (simp only [go_sem]; rfl)) (⟨Nat.zero_le _, rfl, by rw [← hres]; simp only [sqs]; simp [c1, c2]⟩) ?_
      rintro ⟨i, at', out⟩ ⟨hi, ho, hinv⟩
      refine W_seq fun kz12 kq12 => ?_
      refine W_region [2, 6, 7, 29, 30, 31, 32] fun R hR => ?_   -- r8
      simp only [go_sem]
      refine hR _ _ (kq12 _ _ ?_); clear hR R; try clear kq12 kz12
      try simp only [go_sem]
      refine W_seq fun kz13 kq13 => ?_
      refine W_cond rfl (fun c3 => ?_) (fun c3 => ?_)
      · -- c3 true
        try simp only [nrm] at c3
        have hi' : i < b.path.length := by first | assumption | omega
        obtain ⟨x, hx⟩ : ∃ x, b.path[i]? = some x := ⟨b.path[i], by simp [hi']⟩
        have hdrop : b.path.drop i = x :: b.path.drop (i + 1) := by
          rw [List.drop_eq_getElem_cons hi']; congr 1; exact (List.getElem?_eq_some_iff.1 hx).2
        rw [hdrop] at hinv
        simp only [walkSq] at hinv
        refine W_skip (kq13 _ _ ?_)
        refine W_seq fun kz14 kq14 => ?_
        refine W_block ?_
        refine W_seq fun kz15 kq15 => ?_
        refine W_region [2, 6, 7, 9, 29, 30, 31] fun R hR => ?_   -- r9
        simp only [go_sem, hx]
        refine hR _ _ (kq15 _ _ ?_); clear hR R; try clear kq15 kz15
        try simp only [go_sem, hx]
        refine W_seq fun kz16 kq16 => ?_
        refine W_seq fun kz17 kq17 => ?_
        refine W_region [2, 6, 7, 9, 29, 30, 31, 42] fun R hR => ?_   -- r10
        simp only [go_sem, hx]
        try simp (disch := omega) only [wrapI]
        refine GCall_of (in_pc Y _ x 0 _) ?_   -- t41
        simp only [go_sem, hx]
        try simp (disch := omega) only [wrapI]
        refine hR _ _ (kq17 _ _ ?_); clear hR R; try clear kq17 kz17
        try simp only [go_sem, hx]
        refine W_cond rfl (fun c4 => ?_) (fun c4 => ?_)
        · -- c4 true
          try simp only [nrm] at c4
          refine W_seq fun kz18 kq18 => ?_
          refine W_region [4, 5] fun R hR => ?_   -- r11
          simp only [go_sem, hx]
          refine hR _ _ (kq18 _ _ ?_); clear hR R; try clear kq18 kz18
          try simp only [go_sem, hx]
          refine W_ret ?_
          simp only [go_sem, hx]
          refine ⟨.inr (by trivial), ?_⟩
          refine Fin_same hcl rfl (Wk.ro (by simp only [go_sem]) ?_)
          try simp only [go_sem]
          all_goals
            first | rfl | (simp_all; done) | (simp_all; omega) | (rw [← hres]; simp only [sqs]; (repeat' split) <;> ((first | rfl | omega | (simp_all; done) | (simp_all; omega))))
        · -- c4 false
          try simp only [nrm] at c4
          have hin : 0 ≤ x ∧ x ≤ (ct.town.streets.length : Int) - 1 := by simpa [inR] using c4
          obtain ⟨n, rfl⟩ : ∃ n : Nat, x = (n : Int) := ⟨x.toNat, by omega⟩
          obtain ⟨s, hs'⟩ : ∃ s, ct.town.streets[n]? = some s := ⟨ct.town.streets[n]'(by omega), by simp⟩
          simp only [c4, Int.toNat_natCast, hs'] at hinv
          refine W_skip (kq16 _ _ ?_)
          refine W_seq fun kz19 kq19 => ?_
          refine W_seq fun kz20 kq20 => ?_
          refine W_region [2, 6, 7, 10, 29, 30, 31] fun R hR => ?_   -- r12
          simp only [go_sem, hx, hs']
          refine hR _ _ (kq20 _ _ ?_); clear hR R; try clear kq20 kz20
          try simp only [go_sem, hx, hs']
          refine W_seq fun kz21 kq21 => ?_
          refine W_region [2, 7, 10, 29, 30, 31, 49] fun R hR => ?_   -- r13
          simp only [go_sem, hx, hs']
          refine hR _ _ (kq21 _ _ ?_); clear hR R; try clear kq21 kz21
          try simp only [go_sem, hx, hs']
          refine W_block ?_
          refine W_seq fun kz22 kq22 => ?_
          refine W_region [2, 7, 10, 29, 30, 31, 49, 50] fun R hR => ?_   -- r15
          simp only [go_sem, hx, hs']
          refine hR _ _ (kq22 _ _ ?_); clear hR R; try clear kq22 kz22
          try simp only [go_sem, hx, hs']
          refine W_cond rfl (fun c5 => ?_) (fun c5 => ?_)
          · -- c5 true
            try simp only [nrm] at c5
            refine W_region [2, 6, 7, 29, 30, 31] fun R hR => ?_   -- r16
            simp only [go_sem, hx, hs']
            refine hR _ _ (kq19 _ _ ?_); clear hR R; try clear kq19 kz19
            try simp only [go_sem, hx, hs']
            refine W_region [2, 6, 7, 29, 30, 31] fun R hR => ?_   -- r19
            simp only [go_sem, hx, hs']
            simp (disch := first | omega | (simp only [go_sem] <;> omega)) only [wrapI, appX_exact, appX_tok]
            try simp only [go_sem, hx, hs']
            refine hR _ _ (kq14 _ _ ?_); clear hR R; try clear kq14 kz14
            try simp only [go_sem, hx, hs']
            refine W_region [2, 6, 7, 29, 30, 31] fun R hR => ?_   -- r20
            simp only [go_sem, hx, hs']
            try simp (disch := omega) only [wrapI]
            refine hR _ _ ?_; clear hR R
            try simp only [go_sem, hx, hs']
            refine ⟨(i + 1, s.2, out ++ [s.2]), ?_, by (try simp only []); omega, ?_⟩
            · refine Weak.trans (Weak.cutX 2 1 (by omega) (by omega) hcl (by simp only [go_sem]) (by simp only [go_sem] <;> omega)) ?_
              simp only [go_sem]
              exact Weak.eq (by first | rfl | (simp only [go_sem]; done) | (simp only [go_sem]; rfl) | (simp [go_sem]; done) | (simp [go_sem]; omega)) (by first | rfl | (simp only [go_sem]; done) | (simp [go_sem]; done))
            · try dsimp only
              exact ⟨hi', by simp; omega, by simp_all⟩
          · -- c5 false
            try simp only [nrm] at c5
            refine W_seq fun kz23 kq23 => ?_
            refine W_region [2, 7, 10, 29, 30, 31, 56] fun R hR => ?_   -- r17
            simp only [go_sem, hx, hs']
            refine hR _ _ (kq23 _ _ ?_); clear hR R; try clear kq23 kz23
            try simp only [go_sem, hx, hs']
            refine W_cond rfl (fun c6 => ?_) (fun c6 => ?_)
            · -- c6 true
              try simp only [nrm] at c6
              refine W_region [2, 6, 7, 29, 30, 31] fun R hR => ?_   -- r18
              simp only [go_sem, hx, hs']
              refine hR _ _ (kq19 _ _ ?_); clear hR R; try clear kq19 kz19
              try simp only [go_sem, hx, hs']
              refine W_region [2, 6, 7, 29, 30, 31] fun R hR => ?_   -- r19
              simp only [go_sem, hx, hs']
              simp (disch := first | omega | (simp only [go_sem] <;> omega)) only [wrapI, appX_exact, appX_tok]
              try simp only [go_sem, hx, hs']
              refine hR _ _ (kq14 _ _ ?_); clear hR R; try clear kq14 kz14
              try simp only [go_sem, hx, hs']
              refine W_region [2, 6, 7, 29, 30, 31] fun R hR => ?_   -- r20
              simp only [go_sem, hx, hs']
              try simp (disch := omega) only [wrapI]
              refine hR _ _ ?_; clear hR R
              try simp only [go_sem, hx, hs']
              refine ⟨(i + 1, s.1, out ++ [s.1]), ?_, by (try simp only []); omega, ?_⟩
              · refine Weak.trans (Weak.cutX 2 1 (by omega) (by omega) hcl (by simp only [go_sem]) (by simp only [go_sem] <;> omega)) ?_
                simp only [go_sem]
                exact Weak.eq (by first | rfl | (simp only [go_sem]; done) | (simp only [go_sem]; rfl) | (simp [go_sem]; done) | (simp [go_sem]; omega)) (by first | rfl | (simp only [go_sem]; done) | (simp [go_sem]; done))
              · try dsimp only
                exact ⟨hi', by simp; omega, by simp_all⟩
            · -- c6 false
              try simp only [nrm] at c6
              refine W_seq fun kz24 kq24 => ?_
              refine W_region [4, 5] fun R hR => ?_   -- r14
              simp only [go_sem, hx, hs']
              refine hR _ _ (kq24 _ _ ?_); clear hR R; try clear kq24 kz24
              try simp only [go_sem, hx, hs']
              refine W_ret ?_
              simp only [go_sem, hx, hs']
              refine ⟨.inr (by trivial), ?_⟩
              refine Fin_same hcl rfl (Wk.ro (by simp only [go_sem]) ?_)
              try simp only [go_sem]
              all_goals
                first | rfl | (simp_all; done) | (simp_all; omega) | (rw [← hres]; simp only [sqs]; (repeat' split) <;> ((first | rfl | omega | (simp_all; done) | (simp_all; omega))))
      · -- c3 false
        try simp only [nrm] at c3
        have hdrop : b.path.drop i = [] := List.drop_eq_nil_of_le (by omega)
        rw [hdrop] at hinv
        simp only [walkSq] at hinv
        refine W_exit ?_
        simp only [go_sem]
        refine kq10 _ _ ?_
        refine W_seq fun kz25 kq25 => ?_
        refine W_region [4, 5] fun R hR => ?_   -- r21
        simp only [go_sem]
        refine hR _ _ (kq25 _ _ ?_); clear hR R; try clear kq25 kz25
        try simp only [go_sem]
        refine W_ret ?_
        simp only [go_sem]
        refine ⟨.inr (by trivial), ?_⟩
        refine Fin_same hcl rfl (Wk.ro (by simp only [go_sem]) ?_)
        try simp only [go_sem]
        all_goals
          first | rfl | (simp_all; done) | (simp_all; omega) | (rw [← hres]; simp only [sqs]; (repeat' split) <;> ((first | rfl | omega | (simp_all; done) | (simp_all; omega))))

end Go.Proofs.Ytnpamcpoaklgeaa

namespace Go.Proofs.Ytnpamcpoaklgeaa
open Go Go.RowKit
set_option maxRecDepth 100000

theorem inR_true {n lo hi : Int} : (inR n lo hi = true) = (lo ≤ n ∧ n ≤ hi) := by simp [inR]
theorem inR_false {n lo hi : Int} : (inR n lo hi = false) = ¬ (lo ≤ n ∧ n ≤ hi) := by rw [← inR_true]; simp
theorem mul_bd {a b A B : Int} (h0 : 0 ≤ a) (h1 : a ≤ A) (h2 : 0 ≤ b) (h3 : b ≤ B) : 0 ≤ a * b ∧ a * b ≤ A * B :=
  ⟨Int.mul_nonneg h0 h2, Int.mul_le_mul h1 h3 h2 (Int.le_trans h0 h1)⟩
def timesOf (b : Band) : Int :=
  if inR b.lo 0 720 = false then 2 else if inR b.hi 0 720 = false then 2 else if b.hi < b.lo then 9 else if 30 < b.hi - b.lo then 2 else if inR b.stay 1 120 = false then 2 else if inR b.people 0 1000000 = false then 2 else
  if 720 < b.hi + b.stay * ((b.path.length : Int) + 1) then 12 else 0
def chkBand (c : City) (b : Band) : Int := if (sqs c b).2 ≠ 0 then (sqs c b).2 else timesOf b
def chkBands (c : City) : List Band → Int
  | [] => 0
  | b :: r => if chkBand c b ≠ 0 then chkBand c b else chkBands c r
def askedOf (c : City) (l : List Band) : Int := if chkCity c ≠ 0 then chkCity c else chkBands c l
def chkAll (c : City) (l : List Band) : Int := if chkCity c ≠ 0 then chkCity c else if 10 < (l.length : Int) then 5 else chkBands c l
def BandsOk (l : List Band) : Prop := l.length < 2 ^ 50 ∧ ∀ b, b ∈ l → b.path.length < 2 ^ 50

set_option maxHeartbeats 2000000 in
theorem times_pc (Y : YEnv) (σ : Sg) (b : Band) (hb : b.path.length < 2 ^ 50) :
    PC Try.prog Y 131 [bdPV b] σ (I (timesOf b)) (σ) := by
  refine PC_of_W Try.func131 rfl (by kernel_rfl) Try.ntmps131 (by simp) fun hcl hca => ?_
  refine W_seq fun kz1 kq1 => ?_
  refine W_region [1] fun R hR => ?_   -- r0
  simp only [go_sem]
  refine hR _ _ (kq1 _ _ ?_); clear hR R; try clear kq1 kz1
  try simp only [go_sem]
  refine W_seq fun kz2 kq2 => ?_
  refine W_seq fun kz3 kq3 => ?_
  refine W_region [1, 3] fun R hR => ?_   -- r1
  simp only [go_sem]
  refine hR _ _ (kq3 _ _ ?_); clear hR R; try clear kq3 kz3
  try simp only [go_sem]
  refine W_block ?_
  refine W_seq fun kz4 kq4 => ?_
  refine W_seq fun kz5 kq5 => ?_
  refine W_region [1, 3, 6] fun R hR => ?_   -- r2
  simp only [go_sem]
  refine GCall_of (in_pc Y _ b.lo 0 720) ?_   -- t9
  simp only [go_sem]
  refine hR _ _ (kq5 _ _ ?_); clear hR R; try clear kq5 kz5
  try simp only [go_sem]
  refine W_cond rfl (fun c1 => ?_) (fun c1 => ?_)
  · -- c1 true
    try simp only [nrm] at c1
    refine W_skip (kq4 _ _ ?_)
    refine W_cond_true (by first | rfl | (simp only [go_sem]; simp [c1])) ?_
    refine W_seq fun kz6 kq6 => ?_
    refine W_region [2] fun R hR => ?_   -- r4
    simp only [go_sem]
    refine hR _ _ (kq6 _ _ ?_); clear hR R; try clear kq6 kz6
    try simp only [go_sem]
    refine W_ret ?_
    simp only [go_sem]
    refine ⟨.inr (by trivial), ?_⟩
    first | refine Fin_same hcl rfl (Wk_eq ?_ (by simp only [go_sem])) | refine Fin_self hcl rfl (Wk_eq ?_ (by simp only [go_sem]))
    try simp only [go_sem]
    all_goals
      first | rfl | (simp_all; done) | (simp_all; omega) | (simp only [timesOf]; (repeat' split) <;> ((first | rfl | omega | (simp_all; done) | (simp_all; omega))))
  · -- c1 false
    try simp only [nrm] at c1
    refine W_region [1, 3, 6] fun R hR => ?_   -- r3
    simp only [go_sem]
    refine GCall_of (in_pc Y _ b.hi 0 720) ?_   -- t13
    simp only [go_sem]
    refine hR _ _ (kq4 _ _ ?_); clear hR R; try clear kq4 kz4
    try simp only [go_sem]
    refine W_cond rfl (fun c2 => ?_) (fun c2 => ?_)
    · -- c2 true
      try simp only [nrm] at c2
      refine W_seq fun kz7 kq7 => ?_
      refine W_region [2] fun R hR => ?_   -- r4
      simp only [go_sem]
      refine hR _ _ (kq7 _ _ ?_); clear hR R; try clear kq7 kz7
      try simp only [go_sem]
      refine W_ret ?_
      simp only [go_sem]
      refine ⟨.inr (by trivial), ?_⟩
      first | refine Fin_same hcl rfl (Wk_eq ?_ (by simp only [go_sem])) | refine Fin_self hcl rfl (Wk_eq ?_ (by simp only [go_sem]))
      try simp only [go_sem]
      all_goals
        first | rfl | (simp_all; done) | (simp_all; omega) | (simp only [timesOf]; (repeat' split) <;> ((first | rfl | omega | (simp_all; done) | (simp_all; omega))))
    · -- c2 false
      try simp only [nrm] at c2
      refine W_seq fun kz8 kq8 => ?_
      refine W_region [1, 3, 15] fun R hR => ?_   -- r5
      simp only [go_sem]
      refine hR _ _ (kq8 _ _ ?_); clear hR R; try clear kq8 kz8
      try simp only [go_sem]
      refine W_cond rfl (fun c3 => ?_) (fun c3 => ?_)
      · -- c3 true
        try simp only [nrm] at c3
        refine W_seq fun kz9 kq9 => ?_
        refine W_region [2] fun R hR => ?_   -- r6
        simp only [go_sem]
        refine hR _ _ (kq9 _ _ ?_); clear hR R; try clear kq9 kz9
        try simp only [go_sem]
        refine W_ret ?_
        simp only [go_sem]
        refine ⟨.inr (by trivial), ?_⟩
        first | refine Fin_same hcl rfl (Wk_eq ?_ (by simp only [go_sem])) | refine Fin_self hcl rfl (Wk_eq ?_ (by simp only [go_sem]))
        try simp only [go_sem]
        all_goals
          first | rfl | (simp_all; done) | (simp_all; omega) | (simp only [timesOf]; (repeat' split) <;> ((first | rfl | omega | (simp_all; done) | (simp_all; omega))))
      · -- c3 false
        try simp only [nrm] at c3
        refine W_seq fun kz10 kq10 => ?_
        refine W_seq fun kz11 kq11 => ?_
        have d1 : inR b.lo 0 720 = true := by assumption
        have d2 : inR b.hi 0 720 = true := by assumption
        simp only [inR_true] at d1 d2
        refine W_region [1, 3, 21] fun R hR => ?_   -- r7
        simp only [go_sem]
        try simp (disch := omega) only [wrapI]
        refine hR _ _ (kq11 _ _ ?_); clear hR R; try clear kq11 kz11
        try simp only [go_sem]
        refine W_cond rfl (fun c4 => ?_) (fun c4 => ?_)
        · -- c4 true
          try simp only [nrm] at c4
          refine W_skip (kq10 _ _ ?_)
          refine W_cond_true (by first | rfl | (simp only [go_sem]; simp [c4])) ?_
          refine W_seq fun kz12 kq12 => ?_
          refine W_region [2] fun R hR => ?_   -- r10
          simp only [go_sem]
          refine hR _ _ (kq12 _ _ ?_); clear hR R; try clear kq12 kz12
          try simp only [go_sem]
          refine W_ret ?_
          simp only [go_sem]
          refine ⟨.inr (by trivial), ?_⟩
          first | refine Fin_same hcl rfl (Wk_eq ?_ (by simp only [go_sem])) | refine Fin_self hcl rfl (Wk_eq ?_ (by simp only [go_sem]))
          try simp only [go_sem]
          all_goals
            first | rfl | (simp_all; done) | (simp_all; omega) | (simp only [timesOf]; (repeat' split) <;> ((first | rfl | omega | (simp_all; done) | (simp_all; omega))))
        · -- c4 false
          try simp only [nrm] at c4
          refine W_seq fun kz13 kq13 => ?_
          refine W_region [1, 3, 21] fun R hR => ?_   -- r8
          simp only [go_sem]
          refine GCall_of (in_pc Y _ b.stay 1 120) ?_   -- t30
          simp only [go_sem]
          refine hR _ _ (kq13 _ _ ?_); clear hR R; try clear kq13 kz13
          try simp only [go_sem]
          refine W_cond rfl (fun c5 => ?_) (fun c5 => ?_)
          · -- c5 true
            try simp only [nrm] at c5
            refine W_skip (kq10 _ _ ?_)
            refine W_cond_true (by first | rfl | (simp only [go_sem]; simp [c5])) ?_
            refine W_seq fun kz14 kq14 => ?_
            refine W_region [2] fun R hR => ?_   -- r10
            simp only [go_sem]
            refine hR _ _ (kq14 _ _ ?_); clear hR R; try clear kq14 kz14
            try simp only [go_sem]
            refine W_ret ?_
            simp only [go_sem]
            refine ⟨.inr (by trivial), ?_⟩
            first | refine Fin_same hcl rfl (Wk_eq ?_ (by simp only [go_sem])) | refine Fin_self hcl rfl (Wk_eq ?_ (by simp only [go_sem]))
            try simp only [go_sem]
            all_goals
              first | rfl | (simp_all; done) | (simp_all; omega) | (simp only [timesOf]; (repeat' split) <;> ((first | rfl | omega | (simp_all; done) | (simp_all; omega))))
          · -- c5 false
            try simp only [nrm] at c5
            refine W_region [1, 3, 21] fun R hR => ?_   -- r9
            simp only [go_sem]
            refine GCall_of (in_pc Y _ b.people 0 1000000) ?_   -- t34
            simp only [go_sem]
            refine hR _ _ (kq10 _ _ ?_); clear hR R; try clear kq10 kz10
            try simp only [go_sem]
            refine W_cond rfl (fun c6 => ?_) (fun c6 => ?_)
            · -- c6 true
              try simp only [nrm] at c6
              refine W_seq fun kz15 kq15 => ?_
              refine W_region [2] fun R hR => ?_   -- r10
              simp only [go_sem]
              refine hR _ _ (kq15 _ _ ?_); clear hR R; try clear kq15 kz15
              try simp only [go_sem]
              refine W_ret ?_
              simp only [go_sem]
              refine ⟨.inr (by trivial), ?_⟩
              first | refine Fin_same hcl rfl (Wk_eq ?_ (by simp only [go_sem])) | refine Fin_self hcl rfl (Wk_eq ?_ (by simp only [go_sem]))
              try simp only [go_sem]
              all_goals
                first | rfl | (simp_all; done) | (simp_all; omega) | (simp only [timesOf]; (repeat' split) <;> ((first | rfl | omega | (simp_all; done) | (simp_all; omega))))
            · -- c6 false
              try simp only [nrm] at c6
              refine W_seq fun kz16 kq16 => ?_
              have d3 : inR b.stay 1 120 = true := by assumption
              simp only [inR_true] at d3
              have d4 := mul_bd (a := b.stay) (b := (b.path.length : Int) + 1) (A := 120) (B := 2 ^ 51) (by omega) (by omega) (by omega) (by omega)
              refine W_region [36] fun R hR => ?_   -- r11
              simp only [go_sem]
              try simp (disch := omega) only [wrapI]
              refine hR _ _ (kq16 _ _ ?_); clear hR R; try clear kq16 kz16
              try simp only [go_sem]
              refine W_cond rfl (fun c7 => ?_) (fun c7 => ?_)
              · -- c7 true
                try simp only [nrm] at c7
                refine W_seq fun kz17 kq17 => ?_
                refine W_region [2] fun R hR => ?_   -- r12
                simp only [go_sem]
                refine hR _ _ (kq17 _ _ ?_); clear hR R; try clear kq17 kz17
                try simp only [go_sem]
                refine W_ret ?_
                simp only [go_sem]
                refine ⟨.inr (by trivial), ?_⟩
                first | refine Fin_same hcl rfl (Wk_eq ?_ (by simp only [go_sem])) | refine Fin_self hcl rfl (Wk_eq ?_ (by simp only [go_sem]))
                try simp only [go_sem]
                all_goals
                  first | rfl | (simp_all; done) | (simp_all; omega) | (simp only [timesOf]; (repeat' split) <;> ((first | rfl | omega | (simp_all; done) | (simp_all; omega))))
              · -- c7 false
                try simp only [nrm] at c7
                refine W_skip (kq2 _ _ ?_)
                refine W_seq fun kz18 kq18 => ?_
                refine W_region [2] fun R hR => ?_   -- r13
                simp only [go_sem]
                refine hR _ _ (kq18 _ _ ?_); clear hR R; try clear kq18 kz18
                try simp only [go_sem]
                refine W_ret ?_
                simp only [go_sem]
                refine ⟨.inr (by trivial), ?_⟩
                first | refine Fin_same hcl rfl (Wk_eq ?_ (by simp only [go_sem])) | refine Fin_self hcl rfl (Wk_eq ?_ (by simp only [go_sem]))
                try simp only [go_sem]
                all_goals
                  first | rfl | (simp_all; done) | (simp_all; omega) | (simp only [timesOf]; (repeat' split) <;> ((first | rfl | omega | (simp_all; done) | (simp_all; omega))))
set_option maxHeartbeats 2000000 in
theorem checkBand_pc (Y : YEnv) (σ : Sg) (ct : City) (b : Band) (hc : ct.Ok) (hb : b.path.length < 2 ^ 50) :
    PC Try.prog Y 99 [ctPV ct, bdPV b] σ (I (chkBand ct b)) (σ) := by
  refine PC_of_W Try.func99 rfl (by kernel_rfl) Try.ntmps99 (by simp) fun hcl hca => ?_
  refine W_seq fun kz1 kq1 => ?_
  refine W_region [2, 3] fun R hR => ?_   -- r0
  simp only [go_sem]
  refine hR _ _ (kq1 _ _ ?_); clear hR R; try clear kq1 kz1
  try simp only [go_sem]
  refine W_seq fun kz2 kq2 => ?_
  refine W_seq fun kz3 kq3 => ?_
  refine W_region [3, 6] fun R hR => ?_   -- r1
  simp only [go_sem]
  refine GCall_of (squares_pc Y _ ct b hc hb) ?_   -- t10
  simp only [go_sem]
  refine hR _ _ (kq3 _ _ ?_); clear hR R; try clear kq3 kz3
  try simp only [go_sem]
  refine W_seq fun kz4 kq4 => ?_
  refine W_region [3, 6, 14] fun R hR => ?_   -- r2
  simp only [go_sem]
  refine hR _ _ (kq4 _ _ ?_); clear hR R; try clear kq4 kz4
  try simp only [go_sem]
  refine W_cond rfl (fun c1 => ?_) (fun c1 => ?_)
  · -- c1 true
    try simp only [nrm] at c1
    refine W_seq fun kz5 kq5 => ?_
    refine W_region [4] fun R hR => ?_   -- r3
    simp only [go_sem]
    refine hR _ _ (kq5 _ _ ?_); clear hR R; try clear kq5 kz5
    try simp only [go_sem]
    refine W_ret ?_
    simp only [go_sem]
    refine ⟨.inr (by trivial), ?_⟩
    first | refine Fin_same hcl rfl (Wk_eq ?_ (by simp only [go_sem])) | refine Fin_self hcl rfl (Wk_eq ?_ (by simp only [go_sem]))
    try simp only [go_sem]
    all_goals
      first | rfl | (simp_all; done) | (simp_all; omega) | (simp only [chkBand]; (repeat' split) <;> ((first | rfl | omega | (simp_all; done) | (simp_all; omega))))
  · -- c1 false
    try simp only [nrm] at c1
    refine W_skip (kq2 _ _ ?_)
    refine W_seq fun kz6 kq6 => ?_
    refine W_region [4] fun R hR => ?_   -- r4
    simp only [go_sem]
    refine GCall_of (times_pc Y _ b hb) ?_   -- t17
    simp only [go_sem]
    refine hR _ _ (kq6 _ _ ?_); clear hR R; try clear kq6 kz6
    try simp only [go_sem]
    refine W_ret ?_
    simp only [go_sem]
    refine ⟨.inr (by trivial), ?_⟩
    first | refine Fin_same hcl rfl (Wk_eq ?_ (by simp only [go_sem])) | refine Fin_self hcl rfl (Wk_eq ?_ (by simp only [go_sem]))
    try simp only [go_sem]
    all_goals
      first | rfl | (simp_all; done) | (simp_all; omega) | (simp only [chkBand]; (repeat' split) <;> ((first | rfl | omega | (simp_all; done) | (simp_all; omega))))
set_option maxHeartbeats 2000000 in
theorem asked_pc (Y : YEnv) (σ : Sg) (ct : City) (l : List Band) (hc : ct.Ok) (hl : BandsOk l) :
    PC Try.prog Y 66 [ctPV ct, bands l] σ (I (askedOf ct l)) (σ) := by
  refine PC_of_W Try.func66 rfl (by kernel_rfl) Try.ntmps66 (by simp) fun hcl hca => ?_
  have hl1 := hl.1
  have hl2 := hl.2
  obtain ⟨res, hres⟩ : ∃ r, askedOf ct l = r := ⟨_, rfl⟩
  rw [hres]
  refine W_seq fun kz1 kq1 => ?_
  refine W_region [1, 2] fun R hR => ?_   -- r0
  simp only [go_sem]
  refine hR _ _ (kq1 _ _ ?_); clear hR R; try clear kq1 kz1
  try simp only [go_sem]
  refine W_seq fun kz2 kq2 => ?_
  refine W_seq fun kz3 kq3 => ?_
  refine W_region [1, 2, 5] fun R hR => ?_   -- r1
  simp only [go_sem]
  refine GCall_of (bcheck_pc Y _ ct hc) ?_   -- t10
  simp only [go_sem]
  refine hR _ _ (kq3 _ _ ?_); clear hR R; try clear kq3 kz3
  try simp only [go_sem]
  refine W_seq fun kz4 kq4 => ?_
  refine W_region [1, 2, 5, 12] fun R hR => ?_   -- r2
  simp only [go_sem]
  refine hR _ _ (kq4 _ _ ?_); clear hR R; try clear kq4 kz4
  try simp only [go_sem]
  refine W_cond rfl (fun c1 => ?_) (fun c1 => ?_)
  · -- c1 true
    try simp only [nrm] at c1
    refine W_seq fun kz5 kq5 => ?_
    refine W_region [4] fun R hR => ?_   -- r3
    simp only [go_sem]
    refine hR _ _ (kq5 _ _ ?_); clear hR R; try clear kq5 kz5
    try simp only [go_sem]
    refine W_ret ?_
    simp only [go_sem]
    refine ⟨.inr (by trivial), ?_⟩
    first | refine Fin_same hcl rfl (Wk_eq ?_ (by simp only [go_sem])) | refine Fin_self hcl rfl (Wk_eq ?_ (by simp only [go_sem]))
    try simp only [go_sem]
    all_goals
      first | rfl | (simp_all; done) | (simp_all; omega) | (rw [← hres]; simp only [askedOf]; (repeat' split) <;> ((first | rfl | omega | (simp_all; done) | (simp_all; omega))))
  · -- c1 false
    try simp only [nrm] at c1
    refine W_skip (kq2 _ _ ?_)
    refine W_seq fun kz6 kq6 => ?_
    refine W_seq fun kz7 kq7 => ?_
    refine W_region [2, 14, 15, 16] fun R hR => ?_   -- r4
    simp only [go_sem]
    refine hR _ _ (kq7 _ _ ?_); clear hR R; try clear kq7 kz7
    try simp only [go_sem]
    refine W_block ?_
    refine W_loopS (α := Nat) (fun (i : Nat) => [(16, I i)]) (fun (i : Nat) => i ≤ l.length ∧ res = chkBands ct (l.drop i)) (fun (i : Nat) => l.length - i) (0) rfl (⟨Nat.zero_le _, by rw [← hres]; simp [askedOf, chkAll, *]⟩) ?_
    rintro i ⟨hi, hinv⟩
    refine W_seq fun kz8 kq8 => ?_
    refine W_region [2, 14, 15, 16, 17] fun R hR => ?_   -- r5
    simp only [go_sem]
    refine hR _ _ (kq8 _ _ ?_); clear hR R; try clear kq8 kz8
    try simp only [go_sem]
    refine W_seq fun kz9 kq9 => ?_
    refine W_cond rfl (fun c2 => ?_) (fun c2 => ?_)
    · -- c2 true
      try simp only [nrm] at c2
      have hi' : i < l.length := by first | assumption | omega
      obtain ⟨b, hx⟩ : ∃ b, l[i]? = some b := ⟨l[i], by simp [hi']⟩
      have hdrop : l.drop i = b :: l.drop (i + 1) := by
        rw [List.drop_eq_getElem_cons hi']; congr 1; exact (List.getElem?_eq_some_iff.1 hx).2
      have hbl : b ∈ l := List.mem_of_getElem? hx
      rw [hdrop] at hinv
      simp only [chkBands] at hinv
      refine W_skip (kq9 _ _ ?_)
      refine W_seq fun kz10 kq10 => ?_
      refine W_block ?_
      refine W_seq fun kz11 kq11 => ?_
      refine W_region [2, 7, 14, 15, 16] fun R hR => ?_   -- r6
      simp only [go_sem, hx]
      refine hR _ _ (kq11 _ _ ?_); clear hR R; try clear kq11 kz11
      try simp only [go_sem, hx]
      refine W_seq fun kz12 kq12 => ?_
      refine W_region [2, 8, 14, 15, 16] fun R hR => ?_   -- r7
      simp only [go_sem, hx]
      refine GCall_of (checkBand_pc Y _ ct b hc (hl2 b hbl)) ?_   -- t22
      simp only [go_sem, hx]
      refine hR _ _ (kq12 _ _ ?_); clear hR R; try clear kq12 kz12
      try simp only [go_sem, hx]
      refine W_seq fun kz13 kq13 => ?_
      refine W_region [2, 8, 14, 15, 16, 24] fun R hR => ?_   -- r8
      simp only [go_sem, hx]
      refine hR _ _ (kq13 _ _ ?_); clear hR R; try clear kq13 kz13
      try simp only [go_sem, hx]
      refine W_cond rfl (fun c3 => ?_) (fun c3 => ?_)
      · -- c3 true
        try simp only [nrm] at c3
        refine W_seq fun kz14 kq14 => ?_
        refine W_region [4] fun R hR => ?_   -- r9
        simp only [go_sem, hx]
        refine hR _ _ (kq14 _ _ ?_); clear hR R; try clear kq14 kz14
        try simp only [go_sem, hx]
        refine W_ret ?_
        simp only [go_sem, hx]
        refine ⟨.inr (by trivial), ?_⟩
        first | refine Fin_same hcl rfl (Wk_eq ?_ (by simp only [go_sem])) | refine Fin_self hcl rfl (Wk_eq ?_ (by simp only [go_sem]))
        try simp only [go_sem]
        all_goals
          first | rfl | (simp_all; done) | (simp_all; omega) | (rw [← hres]; simp only [askedOf]; (repeat' split) <;> ((first | rfl | omega | (simp_all; done) | (simp_all; omega))))
      · -- c3 false
        try simp only [nrm] at c3
        refine W_skip (kq10 _ _ ?_)
        refine W_region [2, 14, 15, 16] fun R hR => ?_   -- r10
        simp only [go_sem, hx]
        try simp (disch := omega) only [wrapI]
        refine hR _ _ ?_; clear hR R
        try simp only [go_sem, hx]
        refine ⟨i + 1, ?_, by (try simp only []); omega, ?_⟩
        · refine Weak.trans (Weak.cutX 1 0 (by omega) (by omega) hcl (by simp only [go_sem]) (by simp only [go_sem] <;> omega)) ?_
          simp only [go_sem]
          exact Weak.eq (by first | rfl | (simp only [go_sem]; done) | (simp only [go_sem]; rfl) | (simp [go_sem]; done) | (simp [go_sem]; omega)) (by first | rfl | (simp only [go_sem]; done) | (simp [go_sem]; done))
        · try dsimp only
          exact ⟨hi', by simp_all⟩
    · -- c2 false
      try simp only [nrm] at c2
      have hdrop : l.drop i = [] := List.drop_eq_nil_of_le (by omega)
      rw [hdrop] at hinv
      simp only [chkBands] at hinv
      refine W_exit ?_
      simp only [go_sem]
      refine kq6 _ _ ?_
      refine W_seq fun kz15 kq15 => ?_
      refine W_region [4] fun R hR => ?_   -- r11
      simp only [go_sem]
      refine hR _ _ (kq15 _ _ ?_); clear hR R; try clear kq15 kz15
      try simp only [go_sem]
      refine W_ret ?_
      simp only [go_sem]
      refine ⟨.inr (by trivial), ?_⟩
      first | refine Fin_same hcl rfl (Wk_eq ?_ (by simp only [go_sem])) | refine Fin_self hcl rfl (Wk_eq ?_ (by simp only [go_sem]))
      try simp only [go_sem]
      all_goals
        first | rfl | (simp_all; done) | (simp_all; omega) | (rw [← hres]; simp only [askedOf]; (repeat' split) <;> ((first | rfl | omega | (simp_all; done) | (simp_all; omega))))
set_option maxHeartbeats 2000000 in
theorem checkBands_pc (Y : YEnv) (σ : Sg) (ct : City) (l : List Band) (hc : ct.Ok) (hl : BandsOk l) :
    PC Try.prog Y 55 [ctPV ct, bands l] σ (I (chkAll ct l)) (σ) := by
  refine PC_of_W Try.func55 rfl (by kernel_rfl) Try.ntmps55 (by simp) fun hcl hca => ?_
  have hl1 := hl.1
  have hl2 := hl.2
  obtain ⟨res, hres⟩ : ∃ r, chkAll ct l = r := ⟨_, rfl⟩
  rw [hres]
  refine W_seq fun kz1 kq1 => ?_
  refine W_region [1, 2] fun R hR => ?_   -- r0
  simp only [go_sem]
  refine hR _ _ (kq1 _ _ ?_); clear hR R; try clear kq1 kz1
  try simp only [go_sem]
  refine W_seq fun kz2 kq2 => ?_
  refine W_seq fun kz3 kq3 => ?_
  refine W_region [1, 2, 5] fun R hR => ?_   -- r1
  simp only [go_sem]
  refine GCall_of (bcheck_pc Y _ ct hc) ?_   -- t10
  simp only [go_sem]
  refine hR _ _ (kq3 _ _ ?_); clear hR R; try clear kq3 kz3
  try simp only [go_sem]
  refine W_seq fun kz4 kq4 => ?_
  refine W_region [1, 2, 5, 12] fun R hR => ?_   -- r2
  simp only [go_sem]
  refine hR _ _ (kq4 _ _ ?_); clear hR R; try clear kq4 kz4
  try simp only [go_sem]
  refine W_cond rfl (fun c1 => ?_) (fun c1 => ?_)
  · -- c1 true
    try simp only [nrm] at c1
    refine W_seq fun kz5 kq5 => ?_
    refine W_region [4] fun R hR => ?_   -- r3
    simp only [go_sem]
    refine hR _ _ (kq5 _ _ ?_); clear hR R; try clear kq5 kz5
    try simp only [go_sem]
    refine W_ret ?_
    simp only [go_sem]
    refine ⟨.inr (by trivial), ?_⟩
    first | refine Fin_same hcl rfl (Wk_eq ?_ (by simp only [go_sem])) | refine Fin_self hcl rfl (Wk_eq ?_ (by simp only [go_sem]))
    try simp only [go_sem]
    all_goals
      first | rfl | (simp_all; done) | (simp_all; omega) | (rw [← hres]; simp only [chkAll]; (repeat' split) <;> ((first | rfl | omega | (simp_all; done) | (simp_all; omega))))
  · -- c1 false
    try simp only [nrm] at c1
    refine W_skip (kq2 _ _ ?_)
    refine W_seq fun kz6 kq6 => ?_
    refine W_seq fun kz7 kq7 => ?_
    refine W_region [1, 2, 16] fun R hR => ?_   -- r4
    simp only [go_sem]
    refine hR _ _ (kq7 _ _ ?_); clear hR R; try clear kq7 kz7
    try simp only [go_sem]
    refine W_cond rfl (fun c2 => ?_) (fun c2 => ?_)
    · -- c2 true
      try simp only [nrm] at c2
      refine W_seq fun kz8 kq8 => ?_
      refine W_region [4] fun R hR => ?_   -- r5
      simp only [go_sem]
      refine hR _ _ (kq8 _ _ ?_); clear hR R; try clear kq8 kz8
      try simp only [go_sem]
      refine W_ret ?_
      simp only [go_sem]
      refine ⟨.inr (by trivial), ?_⟩
      first | refine Fin_same hcl rfl (Wk_eq ?_ (by simp only [go_sem])) | refine Fin_self hcl rfl (Wk_eq ?_ (by simp only [go_sem]))
      try simp only [go_sem]
      all_goals
        first | rfl | (simp_all; done) | (simp_all; omega) | (rw [← hres]; simp only [chkAll]; (repeat' split) <;> ((first | rfl | omega | (simp_all; done) | (simp_all; omega))))
    · -- c2 false
      try simp only [nrm] at c2
      refine W_skip (kq6 _ _ ?_)
      refine W_seq fun kz9 kq9 => ?_
      refine W_seq fun kz10 kq10 => ?_
      refine W_region [2, 17, 18, 19] fun R hR => ?_   -- r6
      simp only [go_sem]
      refine hR _ _ (kq10 _ _ ?_); clear hR R; try clear kq10 kz10
      try simp only [go_sem]
      refine W_block ?_
      refine W_loopS (α := Nat) (fun (i : Nat) => [(19, I i)]) (fun (i : Nat) => i ≤ l.length ∧ res = chkBands ct (l.drop i)) (fun (i : Nat) => l.length - i) (0) rfl (⟨Nat.zero_le _, by rw [← hres]; simp [askedOf, chkAll, *]⟩) ?_
      rintro i ⟨hi, hinv⟩
      refine W_seq fun kz11 kq11 => ?_
      refine W_region [2, 17, 18, 19, 20] fun R hR => ?_   -- r7
      simp only [go_sem]
      refine hR _ _ (kq11 _ _ ?_); clear hR R; try clear kq11 kz11
      try simp only [go_sem]
      refine W_seq fun kz12 kq12 => ?_
      refine W_cond rfl (fun c3 => ?_) (fun c3 => ?_)
      · -- c3 true
        try simp only [nrm] at c3
        have hi' : i < l.length := by first | assumption | omega
        obtain ⟨b, hx⟩ : ∃ b, l[i]? = some b := ⟨l[i], by simp [hi']⟩
        have hdrop : l.drop i = b :: l.drop (i + 1) := by
          rw [List.drop_eq_getElem_cons hi']; congr 1; exact (List.getElem?_eq_some_iff.1 hx).2
        have hbl : b ∈ l := List.mem_of_getElem? hx
        rw [hdrop] at hinv
        simp only [chkBands] at hinv
        refine W_skip (kq12 _ _ ?_)
        refine W_seq fun kz13 kq13 => ?_
        refine W_block ?_
        refine W_seq fun kz14 kq14 => ?_
        refine W_region [2, 7, 17, 18, 19] fun R hR => ?_   -- r8
        simp only [go_sem, hx]
        refine hR _ _ (kq14 _ _ ?_); clear hR R; try clear kq14 kz14
        try simp only [go_sem, hx]
        refine W_seq fun kz15 kq15 => ?_
        refine W_region [2, 8, 17, 18, 19] fun R hR => ?_   -- r9
        simp only [go_sem, hx]
        refine GCall_of (checkBand_pc Y _ ct b hc (hl2 b hbl)) ?_   -- t25
        simp only [go_sem, hx]
        refine hR _ _ (kq15 _ _ ?_); clear hR R; try clear kq15 kz15
        try simp only [go_sem, hx]
        refine W_seq fun kz16 kq16 => ?_
        refine W_region [2, 8, 17, 18, 19, 27] fun R hR => ?_   -- r10
        simp only [go_sem, hx]
        refine hR _ _ (kq16 _ _ ?_); clear hR R; try clear kq16 kz16
        try simp only [go_sem, hx]
        refine W_cond rfl (fun c4 => ?_) (fun c4 => ?_)
        · -- c4 true
          try simp only [nrm] at c4
          refine W_seq fun kz17 kq17 => ?_
          refine W_region [4] fun R hR => ?_   -- r11
          simp only [go_sem, hx]
          refine hR _ _ (kq17 _ _ ?_); clear hR R; try clear kq17 kz17
          try simp only [go_sem, hx]
          refine W_ret ?_
          simp only [go_sem, hx]
          refine ⟨.inr (by trivial), ?_⟩
          first | refine Fin_same hcl rfl (Wk_eq ?_ (by simp only [go_sem])) | refine Fin_self hcl rfl (Wk_eq ?_ (by simp only [go_sem]))
          try simp only [go_sem]
          all_goals
            first | rfl | (simp_all; done) | (simp_all; omega) | (rw [← hres]; simp only [chkAll]; (repeat' split) <;> ((first | rfl | omega | (simp_all; done) | (simp_all; omega))))
        · -- c4 false
          try simp only [nrm] at c4
          refine W_skip (kq13 _ _ ?_)
          refine W_region [2, 17, 18, 19] fun R hR => ?_   -- r12
          simp only [go_sem, hx]
          try simp (disch := omega) only [wrapI]
          refine hR _ _ ?_; clear hR R
          try simp only [go_sem, hx]
          refine ⟨i + 1, ?_, by (try simp only []); omega, ?_⟩
          · refine Weak.trans (Weak.cutX 1 0 (by omega) (by omega) hcl (by simp only [go_sem]) (by simp only [go_sem] <;> omega)) ?_
            simp only [go_sem]
            exact Weak.eq (by first | rfl | (simp only [go_sem]; done) | (simp only [go_sem]; rfl) | (simp [go_sem]; done) | (simp [go_sem]; omega)) (by first | rfl | (simp only [go_sem]; done) | (simp [go_sem]; done))
          · try dsimp only
            exact ⟨hi', by simp_all⟩
      · -- c3 false
        try simp only [nrm] at c3
        have hdrop : l.drop i = [] := List.drop_eq_nil_of_le (by omega)
        rw [hdrop] at hinv
        simp only [chkBands] at hinv
        refine W_exit ?_
        simp only [go_sem]
        refine kq9 _ _ ?_
        refine W_seq fun kz18 kq18 => ?_
        refine W_region [4] fun R hR => ?_   -- r13
        simp only [go_sem]
        refine hR _ _ (kq18 _ _ ?_); clear hR R; try clear kq18 kz18
        try simp only [go_sem]
        refine W_ret ?_
        simp only [go_sem]
        refine ⟨.inr (by trivial), ?_⟩
        first | refine Fin_same hcl rfl (Wk_eq ?_ (by simp only [go_sem])) | refine Fin_self hcl rfl (Wk_eq ?_ (by simp only [go_sem]))
        try simp only [go_sem]
        all_goals
          first | rfl | (simp_all; done) | (simp_all; omega) | (rw [← hres]; simp only [chkAll]; (repeat' split) <;> ((first | rfl | omega | (simp_all; done) | (simp_all; omega))))

end Go.Proofs.Ytnpamcpoaklgeaa
