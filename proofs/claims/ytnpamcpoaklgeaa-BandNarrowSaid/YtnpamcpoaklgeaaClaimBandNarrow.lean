/-
  Walks: less of a span.
  The law BandNarrow, walked: narrower starts.
  The law BandNarrow, walked where there is no band.
  The law BandNarrow: whatever comes in, it answers true and leaves what came in as it was.
-/
import Derived.Test.YtnpamcpoaklgeaaPj
import Derived.Test.YtnpamcpoaklgeaaPe
import Derived.Test.YtnpamcpoaklgeaaPk
import Derived.Test.YtnpamcpoaklgeaaPd
import Derived.JoinedOf
set_option linter.unusedSimpArgs false
set_option linter.unusedVariables false
namespace Go.Proofs.Ytnpamcpoaklgeaa
open Go Go.RowKit
set_option maxRecDepth 100000

def lessOf (lo hi : Int) : D (Int × Int) := dbind (ofD lo hi) fun x => dbind (ofD lo hi) fun y => dret (min x y, max x y)
theorem lessOf_bd {lo hi : Int} (h : lo ≤ hi) : Holds (lessOf lo hi) fun r => lo ≤ r.1 ∧ r.1 ≤ r.2 ∧ r.2 ≤ hi := by
  unfold lessOf
  refine (ofD_bd h).bind fun x hx => (ofD_bd h).bind fun y hy => .ret ?_
  simp only
  omega

set_option maxHeartbeats 2000000 in
theorem Less_pc (Y : YEnv) (σ : Sg) (d : Nat) (b : Int) (hd : σ.store[d]? = some (some [.int .u64 b])) (lo hi : Int) (h0 : lo ≤ hi) (h1 : -2 ^ 50 ≤ lo) (h2 : lo ≤ 2 ^ 50) (h3 : -2 ^ 50 ≤ hi) (h4 : hi ≤ 2 ^ 50) :
    PC Try.prog Y 33 [.ptr d 0, .agg [I lo, I hi]] σ (.agg [I (lessOf lo hi b).1.1, I (lessOf lo hi b).1.2]) (σ.setVar d [.int .u64 (lessOf lo hi b).2]) := by
  refine PC_of_W Try.func33 rfl (by kernel_rfl) Try.ntmps33 (by simp) fun hcl hca => ?_
  have hlt := lt_of_get hd
  obtain ⟨x, hx⟩ : ∃ n, (ofD lo hi b).1 = n := ⟨_, rfl⟩
  obtain ⟨b1, hb1⟩ : ∃ n, (ofD lo hi b).2 = n := ⟨_, rfl⟩
  obtain ⟨y, hy⟩ : ∃ n, (ofD lo hi b1).1 = n := ⟨_, rfl⟩
  obtain ⟨b2, hb2⟩ : ∃ n, (ofD lo hi b1).2 = n := ⟨_, rfl⟩
  have e0 : lessOf lo hi b = ((min x y, max x y), b2) := by simp only [lessOf, dbind, dret, hx, hb1, hy, hb2]
  rw [e0]
  refine W_seq fun kz1 kq1 => ?_
  refine W_region [0, 3, 4] fun R hR => ?_   -- r0
  simp only [go_sem, ldS_at hd, stX_at hd, ldS_sv hlt, stX_sv hlt, sv_ext hlt, sv_ext_sv hlt, hx, hb1, hy, hb2]
  refine hR _ _ (kq1 _ _ ?_); clear hR R; try clear kq1 kz1
  try simp only [go_sem, ldS_at hd, stX_at hd, ldS_sv hlt, stX_sv hlt, sv_ext hlt, sv_ext_sv hlt, hx, hb1, hy, hb2]
  refine W_seq fun kz2 kq2 => ?_
  refine W_draw [4, 5, 6] [0, 1, 2, 3, 4, 5, 6, 7] [(3, 2), (4, 2)] [[], [], [0, 1], [], [], [0, 1, 2, 3, 4], [0, 1, 2, 3, 4, 5], [0, 1, 2, 3, 4, 5, 6]] mixed (by kernel_rfl) fun R hR => ?_   -- r1
  simp only [go_sem, ldS_at hd, stX_at hd, ldS_sv hlt, stX_sv hlt, sv_ext hlt, sv_ext_sv hlt, hx, hb1, hy, hb2]
  refine GCall_of (Of_pc Y _ d b (by first | exact hd | exact sv_get hlt | exact get_svx hlt | exact get_extx hd) lo hi (by omega) (by omega) (by omega) (by omega)) ?_   -- t9
  simp only [go_sem, ldS_at hd, stX_at hd, ldS_sv hlt, stX_sv hlt, sv_ext hlt, sv_ext_sv hlt, hx, hb1, hy, hb2]
  refine GCall_of (Of_pc Y _ d b1 (by first | exact hd | exact sv_get hlt | exact get_svx hlt | exact get_extx hd) lo hi (by omega) (by omega) (by omega) (by omega)) ?_   -- t12
  simp only [go_sem, ldS_at hd, stX_at hd, ldS_sv hlt, stX_sv hlt, sv_ext hlt, sv_ext_sv hlt, hx, hb1, hy, hb2]
  try refine And.intro (by repeat' (first | refine And.intro ?_ ?_ | exact GOr_right (fun _ => by simp only [go_sem, ldS_at hd, stX_at hd, ldS_sv hlt, stX_sv hlt, sv_ext hlt, sv_ext_sv hlt, hx, hb1, hy, hb2]))) ?_
  refine hR _ _ (kq2 _ _ ?_); clear hR R; try clear kq2 kz2
  try simp only [go_sem, ldS_at hd, stX_at hd, ldS_sv hlt, stX_sv hlt, sv_ext hlt, sv_ext_sv hlt, hx, hb1, hy, hb2]
  refine W_seq fun kz3 kq3 => ?_
  refine W_region [4] fun R hR => ?_   -- r2
  simp only [go_sem, ldS_at hd, stX_at hd, ldS_sv hlt, stX_sv hlt, sv_ext hlt, sv_ext_sv hlt, hx, hb1, hy, hb2]
  refine hR _ _ (kq3 _ _ ?_); clear hR R; try clear kq3 kz3
  try simp only [go_sem, ldS_at hd, stX_at hd, ldS_sv hlt, stX_sv hlt, sv_ext hlt, sv_ext_sv hlt, hx, hb1, hy, hb2]
  refine W_ret ?_
  simp only [go_sem, ldS_at hd, stX_at hd, ldS_sv hlt, stX_sv hlt, sv_ext hlt, sv_ext_sv hlt, hx, hb1, hy, hb2]
  refine ⟨.inr (by trivial), ?_⟩
  first | refine Fin_set hcl (by simp only [go_sem]) (by show resPV Try.prog _ _ [.cell 4 31] = some _; simp only [resPV, go_sem]; rfl) (Wk_eq ?_ (by simp only [go_sem])) | refine Fin_set0 hcl (by simp only [go_sem]) (by show resPV Try.prog _ _ [.cell 4 31] = some _; simp only [resPV, go_sem]; rfl) (Wk_eq ?_ (by simp only [go_sem]))
  try simp only [go_sem]
  all_goals
    first | rfl | (simp_all; done) | (simp_all; omega)

end Go.Proofs.Ytnpamcpoaklgeaa

namespace Go.Proofs.Ytnpamcpoaklgeaa
open Go Go.RowKit
set_option maxRecDepth 100000

theorem OwnBandsG_cons (Y : YEnv) (σ : Sg) (l : List Band) (h : l.length * 64 ≤ 2 ^ 47) (hp : ∀ b, b ∈ l → b.path.length * 8 ≤ 2 ^ 47) (hl : l ≠ []) :
    PC Try.prog Y 16 [bands l] σ (.gsl σ.store.length l.length 6) (σ.ext [some (rowC (l.map bdPV))] []) := by
  have := OwnBandsG_pc Y σ l h hp
  rw [glv_cons (by simpa using hl), gls_cons (by simpa using hl), List.length_map] at this
  exact this
theorem OwnBandsG_nil (Y : YEnv) (σ : Sg) : PC Try.prog Y 16 [bands []] σ .gnil σ := by
  have := OwnBandsG_pc Y σ [] (by simp) (fun b h => by cases h)
  simp only [List.map_nil, glv, gls, Sg.ext_nil] at this
  exact this

theorem bdPV_six (b : Band) : (bdPV b).cells.length = 6 := rfl
theorem row_len (l : List Band) : (rowC (l.map bdPV)).length = l.length * 6 := by
  rw [rowC_length (es := 6) (fun q hq => by obtain ⟨x, _, rfl⟩ := List.mem_map.1 hq; rfl), List.length_map]
theorem row_cons (a : Band) (l : List Band) : rowC ((a :: l).map bdPV) = bdCells a ++ rowC (l.map bdPV) := by simp [rowC, bdPV]
theorem row_sub : ∀ {l : List Band} {i : Nat} {b : Band}, l[i]? = some b → ((rowC (l.map bdPV)).drop (i * 6 + 2)).take 2 = [I b.lo, I b.hi] := by
  intro l
  induction l with
  | nil => intro i b h; simp at h
  | cons a l ih =>
    intro i b h
    rw [row_cons]
    cases i with
    | zero => simp at h; subst h; simp [bdCells]
    | succ i =>
      have := ih (by simpa using h)
      rw [show (i + 1) * 6 + 2 = (bdCells a).length + (i * 6 + 2) by simp [bdCells]; omega, List.drop_append, List.drop_eq_nil_of_le (by omega), List.nil_append, show (bdCells a).length + (i * 6 + 2) - (bdCells a).length = i * 6 + 2 by omega]
      exact this
theorem putCells_app : ∀ (ps : List PV) (xs cs : List PV) (o : Nat), putCells (xs ++ cs) (xs.length + o) ps = xs ++ putCells cs o ps := by
  intro ps
  induction ps with
  | nil => intro xs cs o; rfl
  | cons p ps ih =>
    intro xs cs o
    simp only [putCells]
    rw [List.set_append_right _ _ (by omega), show xs.length + o - xs.length = o by omega, show xs.length + o + 1 = xs.length + (o + 1) by omega, ih]
theorem row_set : ∀ {l : List Band} {i : Nat} {b : Band} (x y : Int), l[i]? = some b → putCells (rowC (l.map bdPV)) (i * 6 + 2) [I x, I y] = rowC ((l.set i (b.At x y)).map bdPV) := by
  intro l
  induction l with
  | nil => intro i b x y h; simp at h
  | cons a l ih =>
    intro i b x y h
    cases i with
    | zero =>
      simp at h
      subst h
      rw [List.set_cons_zero, row_cons, row_cons]
      rfl
    | succ i =>
      rw [List.set_cons_succ, row_cons, row_cons, ← ih x y (by simpa using h), show (i + 1) * 6 + 2 = (bdCells a).length + (i * 6 + 2) by simp [bdCells]; omega, putCells_app]

/-- m is l, each band's starts narrower. -/
def Narr (l m : List Band) : Prop := m.length = l.length ∧ ∀ (k : Nat) (a : Band), l[k]? = some a → ∃ x y, m[k]? = some (a.At x y) ∧ a.lo ≤ x ∧ x ≤ y ∧ y ≤ a.hi
theorem Narr.refl {l : List Band} (h : ∀ b, b ∈ l → b.lo ≤ b.hi) : Narr l l := ⟨rfl, fun k a hk => ⟨a.lo, a.hi, hk, Int.le_refl _, h a (List.mem_of_getElem? hk), Int.le_refl _⟩⟩
theorem Narr.set {l m : List Band} (h : Narr l m) {i : Nat} {a : Band} (hi : l[i]? = some a) {x y : Int} (h1 : a.lo ≤ x) (h2 : x ≤ y) (h3 : y ≤ a.hi) : Narr l (m.set i (a.At x y)) := by
  refine ⟨by simpa using h.1, fun k b hk => ?_⟩
  have hlt : i < m.length := by rw [h.1]; exact (List.getElem?_eq_some_iff.1 hi).1
  by_cases e : i = k
  · subst e
    rw [hi] at hk; injection hk with hk; subst hk
    exact ⟨x, y, by rw [List.getElem?_set_self hlt], h1, h2, h3⟩
  · rw [List.getElem?_set_ne e]
    exact h.2 k b hk
theorem BandV.at {c : City} {b : Band} (h : BandV c b) {x y : Int} (h1 : b.lo ≤ x) (h2 : x ≤ y) (h3 : y ≤ b.hi) : BandV c (b.At x y) := by
  have := h.l0; have := h.l2; have := h.e1
  exact ⟨h.f0, h.f1, h.p1, h.p2, by simp only [Band.At]; omega, h2, by simp only [Band.At]; omega, h.s0, h.s1, h.q0, h.q1, by simp only [Band.At]; omega⟩
theorem Narr.mem {l m : List Band} (h : Narr l m) {b : Band} (hb : b ∈ m) : ∃ a x y, a ∈ l ∧ b = a.At x y ∧ a.lo ≤ x ∧ x ≤ y ∧ y ≤ a.hi := by
  obtain ⟨k, hk⟩ := List.mem_iff_getElem?.1 hb
  have hlt : k < l.length := by rw [← h.1]; exact (List.getElem?_eq_some_iff.1 hk).1
  obtain ⟨x, y, h1, h2⟩ := h.2 k l[k] (by simp [hlt])
  rw [h1] at hk; injection hk with hk
  exact ⟨l[k], x, y, by simp, hk.symm, h2⟩
theorem Narr.valid {c : City} {l m : List Band} (h : Narr l m) (hl : ∀ b, b ∈ l → BandV c b) : ∀ b, b ∈ m → BandV c b := by
  intro b hb
  obtain ⟨a, x, y, ha, rfl, h1, h2, h3⟩ := h.mem hb
  exact (hl a ha).at h1 h2 h3

theorem hFrom_at {b : Band} {x y sq t : Int} (h1 : b.lo ≤ x) (h2 : y ≤ b.hi) : ∀ (r : List Int) (k : Nat), hFrom (b.At x y) sq t k r = true → hFrom b sq t k r = true := by
  intro r
  induction r with
  | nil => intro k h; exact h
  | cons s r ih =>
    intro k h
    simp only [hFrom, Bool.or_eq_true, Bool.and_eq_true, decide_eq_true_eq, Band.At] at h ⊢
    rcases h with ⟨⟨g1, g2⟩, g3⟩ | h
    · have g4 : x + (k : Int) * b.stay ≤ t := of_decide_eq_true g2
      have g5 : t ≤ y + (k : Int) * b.stay + b.stay - 1 := of_decide_eq_true g3
      exact .inl ⟨⟨g1, by omega⟩, by omega⟩
    · exact .inr (ih (k + 1) h)
theorem Narr.loud {c : City} {l m : List Band} (h : Narr l m) {sq t : Int} (hl : loudAt c m sq t = true) : loudAt c l sq t = true := by
  simp only [loudAt, List.any_eq_true] at hl ⊢
  obtain ⟨b, hb, hh⟩ := hl
  obtain ⟨a, x, y, ha, rfl, h1, h2, h3⟩ := h.mem hb
  exact ⟨a, ha, hFrom_at h1 h3 _ 0 hh⟩
theorem Weak.nilg {N : Nat} {lo : Nat × Nat} {E : Env} {σ : Sg} {t : Nat} (ht : E.get t = .gnil) : Weak N lo E σ (E.put (some t) (.isl [] .ro)) σ := by
  intro Ψ0 Ψ D a w hb le hr
  refine ⟨Ψ, le, hr.size, fun t' => ?_, hr.sg, hr.dsub, hr.defs⟩
  rw [get_put1]
  split
  · rename_i e
    subst e
    have hv := hr.env t'
    rw [ht] at hv
    generalize a.tmps.getD t' undef = x at hv
    cases hv with
    | gnil a' => exact .islnil _ a' trivial
  · exact hr.env t'
theorem sleepAns_of {c : City} {l : List Band} {s : Int} (hc : chkCity c = 0) (hl : l.length ≤ 10) (hb : ∀ b, b ∈ l → chkBand c b = 0) (h0 : 0 ≤ s) (h1 : s < c.town.rooms.length) : sleepAns c l s = ((sleepOf (loudAt c l s)).1, (sleepOf (loudAt c l s)).2, 0) := by
  have e : chkAll c l = 0 := by
    unfold chkAll
    rw [if_neg (by simp [hc]), if_neg (by omega)]
    have := askedOf_of hc hb
    unfold askedOf at this
    rw [if_neg (by simp [hc])] at this
    exact this
  unfold sleepAns
  rw [if_neg (by simp [e]), if_neg (by simp [inR]; omega)]

set_option maxHeartbeats 8000000 in
theorem BandNarrow_some (Y : YEnv) (σ : Sg) (nums : List Int) (hn : nums.length < 2 ^ 60) (hne : (bandsD (cityD (drumB nums 2685821657736338717)).1 4 (cityD (drumB nums 2685821657736338717)).2).1 ≠ []) :
    PC Try.prog Y 5 [ints nums] σ (.bool true) (σ) := by
  refine PC_of_W Try.func5 rfl (by kernel_rfl) Try.ntmps5 (by simp) fun hcl hca => ?_
  obtain ⟨b0, hb0⟩ : ∃ z, drumB nums 2685821657736338717 = z := ⟨_, rfl⟩
  rw [hb0] at hne
  obtain ⟨made, hmade⟩ : ∃ zz, (cityD b0).1 = zz := ⟨_, rfl⟩
  obtain ⟨b1, hb1⟩ : ∃ zz, (cityD b0).2 = zz := ⟨_, rfl⟩
  obtain ⟨l, hl⟩ : ∃ zz, (bandsD made 4 b1).1 = zz := ⟨_, rfl⟩
  obtain ⟨b2, hb2⟩ : ∃ zz, (bandsD made 4 b1).2 = zz := ⟨_, rfl⟩
  rw [hmade, hb1, hl] at hne
  have vmade : CityV made := by rw [← hmade]; exact cityD_ok b0
  have vl : l.length ≤ 4 ∧ ∀ b, b ∈ l → BandV made b := by rw [← hl]; exact bandsD_ok vmade 4 b1
  have vck := vmade.chk
  refine W_seq fun kz1 kq1 => ?_
  refine W_region [0] fun R hR => ?_   -- r0
  simp only [go_sem, hb0, hmade, hb1, hl, hb2]
  refine hR _ _ (kq1 _ _ ?_); clear hR R; try clear kq1 kz1
  try simp only [go_sem, hb0, hmade, hb1, hl, hb2]
  refine W_seq fun kz2 kq2 => ?_
  refine W_region [3] fun R hR => ?_   -- r1
  simp only [go_sem, hb0, hmade, hb1, hl, hb2]
  refine GCall_of (DrumOf_pc Y _ nums hn) ?_   -- t22
  simp only [go_sem, hb0, hmade, hb1, hl, hb2]
  refine hR _ _ (kq2 _ _ ?_); clear hR R; try clear kq2 kz2
  try simp only [go_sem, hb0, hmade, hb1, hl, hb2]
  refine W_seq fun kz3 kq3 => ?_
  refine W_region [3, 4] fun R hR => ?_   -- r2
  simp only [go_sem, hb0, hmade, hb1, hl, hb2]
  refine GCall_of (CityOf_pc Y _ _ _ (Sg.get_ext0 _ _ _ _)) ?_   -- t24
  simp only [go_sem, hb0, hmade, hb1, hl, hb2]
  refine hR _ _ (kq3 _ _ ?_); clear hR R; try clear kq3 kz3
  try simp only [go_sem, hb0, hmade, hb1, hl, hb2]
  refine W_seq fun kz4 kq4 => ?_
  refine W_region [3, 4, 5] fun R hR => ?_   -- r3
  simp only [go_sem, hb0, hmade, hb1, hl, hb2]
  refine GCall_of (BandsOf_pc Y _ _ _ (Sg.get_ext0 _ _ _ _) made 4 vmade.small.hr vmade.small.hs (by omega) (by omega)) ?_   -- t27
  simp only [go_sem, hb0, hmade, hb1, hl, hb2]
  refine hR _ _ (kq4 _ _ ?_); clear hR R; try clear kq4 kz4
  try simp only [go_sem, hb0, hmade, hb1, hl, hb2]
  refine W_seq fun kz5 kq5 => ?_
  refine W_region [3, 4, 5, 6] fun R hR => ?_   -- r4
  simp only [go_sem, hb0, hmade, hb1, hl, hb2]
  refine GCall_of (OwnBandsG_cons Y _ l (by omega) (fun b hb => by have := (vl.2 b hb).p1; omega) hne) ?_   -- t29
  simp only [go_sem, hb0, hmade, hb1, hl, hb2]
  refine hR _ _ (kq5 _ _ ?_); clear hR R; try clear kq5 kz5
  try simp only [go_sem, hb0, hmade, hb1, hl, hb2]
  refine W_seq fun kz6 kq6 => ?_
  refine W_seq fun kz7 kq7 => ?_
  refine W_region [3, 4, 5, 6, 7] fun R hR => ?_   -- r5
  simp only [go_sem, hb0, hmade, hb1, hl, hb2]
  refine hR _ _ (kq7 _ _ ?_); clear hR R; try clear kq7 kz7
  try simp only [go_sem, hb0, hmade, hb1, hl, hb2]
  refine W_block ?_
  refine W_loopT (α := Nat × (List Band) × Int) (fun ⟨i, cur, b⟩ => [(7, I i)]) (fun ⟨i, cur, b⟩ => σ.ext [some [.int .u64 b], some (ctCells made), some (rowC (cur.map bdPV))] []) (fun ⟨i, cur, b⟩ => i ≤ l.length ∧ Narr l cur ∧ ∀ k : Nat, i ≤ k → cur[k]? = l[k]?) (fun ⟨i, cur, b⟩ => l.length - i) ((0, l, b2)) rfl (by first | rfl | (simp only [go_sem]; done) | (simp only [go_sem]; rfl)) (⟨Nat.zero_le _, Narr.refl (fun b hb => (vl.2 b hb).l1), fun _ _ => rfl⟩) ?_
  rintro ⟨i, cur, b⟩ ⟨hi, hnar, hsame⟩
  refine W_seq fun kz8 kq8 => ?_
  refine W_seq fun kz9 kq9 => ?_
  refine W_region [3, 4, 5, 6, 7, 33] fun R hR => ?_   -- r6
  simp only [go_sem, hb0, hmade, hb1, hl, hb2]
  refine hR _ _ (kq9 _ _ ?_); clear hR R; try clear kq9 kz9
  try simp only [go_sem, hb0, hmade, hb1, hl, hb2]
  refine W_cond rfl (fun c1 => ?_) (fun c1 => ?_)
  · -- c1 true
    try simp only [nrm] at c1
    have hi' : i < l.length := by first | assumption | omega
    obtain ⟨a, hx⟩ : ∃ a, l[i]? = some a := ⟨l[i], by simp [hi']⟩
    have hdrop : l.drop i = a :: l.drop (i + 1) := by
      rw [List.drop_eq_getElem_cons hi']; congr 1; exact (List.getElem?_eq_some_iff.1 hx).2
    have hca : cur[i]? = some a := by rw [hsame i (Nat.le_refl _)]; exact hx
    have vba := vl.2 a (List.mem_of_getElem? hx)
    have l0a := vba.l0; have l1a := vba.l1; have l2a := vba.seq
    have hsub := row_sub hca
    have hiT : ((i : Int) < (l.length : Int)) := by omega
    have hrl : i * 6 + 2 + 2 ≤ (rowC (cur.map bdPV)).length := by rw [row_len, hnar.1]; omega
    obtain ⟨xy, hxy⟩ : ∃ zz, (lessOf a.lo a.hi b).1 = zz := ⟨_, rfl⟩
    obtain ⟨b4, hb4⟩ : ∃ zz, (lessOf a.lo a.hi b).2 = zz := ⟨_, rfl⟩
    have dxy := lessOf_bd (show a.lo ≤ a.hi by omega) b
    simp only [hxy] at dxy
    have hset := row_set xy.1 xy.2 hca
    refine W_skip (kq8 _ _ ?_)
    refine W_seq fun kz10 kq10 => ?_
    refine W_block ?_
    refine W_region [3, 4, 5, 6, 7] fun R hR => ?_   -- r8
    simp only [go_sem, hb0, hmade, hb1, hl, hb2, hx, hiT, hrl, hsub, hset, hxy, hb4]
    skip
    refine GCall_of (Less_pc Y _ _ _ (Sg.get_ext0 _ _ _ _) a.lo a.hi (by omega) (by omega) (by omega) (by omega) (by omega)) ?_   -- t44
    simp only [go_sem, hb0, hmade, hb1, hl, hb2, hx, hiT, hrl, hsub, hset, hxy, hb4]
    refine hR _ _ (kq10 _ _ ?_); clear hR R; try clear kq10 kz10
    try simp only [go_sem, hb0, hmade, hb1, hl, hb2, hx, hiT, hrl, hsub, hset, hxy, hb4]
    refine W_region [3, 4, 5, 6, 7] fun R hR => ?_   -- r7
    simp only [go_sem, hb0, hmade, hb1, hl, hb2, hx, hiT, hrl, hsub, hset, hxy, hb4]
    try simp (disch := omega) only [wrapI, wrapU]
    refine hR _ _ ?_; clear hR R
    try simp only [go_sem, hb0, hmade, hb1, hl, hb2, hx, hiT, hrl, hsub, hset, hxy, hb4]
    refine ⟨(i + 1, cur.set i (a.At xy.1 xy.2), b4), ?_, by (try simp only []); omega, ?_⟩
    · first | exact Weak.refl | exact Weak.eq (by first | rfl | (simp only [go_sem]; done) | (simp only [go_sem]; rfl) | (simp [go_sem]; done) | (simp [go_sem]; omega)) (by first | rfl | (simp only [go_sem]; done) | (simp [go_sem]; done))
    · try dsimp only
      refine ⟨by omega, hnar.set hx dxy.1 dxy.2.1 dxy.2.2, fun k hk => ?_⟩
      rw [List.getElem?_set_ne (by omega)]
      exact hsame k (by omega)
  · -- c1 false
    try simp only [nrm] at c1
    refine W_exit ?_
    simp only [go_sem, hb0, hmade, hb1, hl, hb2]
    refine kq6 _ _ ?_
    refine W_seq fun kz11 kq11 => ?_
    refine W_seq fun kz12 kq12 => ?_
    refine W_weak (Weak.freeze (t := 6) (id := σ.store.length + 2) (len := l.length) (es := 6) (l := cur.map bdPV) rfl (Sg.get_ext _ _ _ _ 2) (by simp [hnar.1]) (fun q hq => by obtain ⟨x, _, rfl⟩ := List.mem_map.1 hq; rfl)) ?_
    refine W_weak (Weak.keep [3, 4, 5, 6]) ?_
    simp only [go_sem]
    refine W_weak (Weak.cutX 2 0 (by omega) (by omega) hcl (by simp only [go_sem] <;> omega) (by simp only [go_sem] <;> omega)) ?_
    simp only [go_sem]
    obtain ⟨ls, hls⟩ : ∃ z, cur = z := ⟨_, rfl⟩
    rw [hls] at hnar
    simp only [hls]
    have vls := hnar.valid vl.2
    have lls := hnar.1
    have vcl : ∀ b, b ∈ l → chkBand made b = 0 := fun b hb => (vl.2 b hb).chk vmade
    have vcs : ∀ b, b ∈ ls → chkBand made b = 0 := fun b hb => (vls b hb).chk vmade
    have okl := BandV.okl vl.2 (by omega)
    have okls := BandV.okl vls (by omega)
    have hsl := vmade.sl
    have hr40 := vmade.small.hr
    have hr0 := vmade.tv.r0
    refine W_region [3, 4, 5, 6, 8] fun R hR => ?_   -- r9
    simp only [go_sem, hb0, hmade, hb1, hl, hb2]
    refine hR _ _ (kq12 _ _ ?_); clear hR R; try clear kq12 kz12
    try simp only [go_sem, hb0, hmade, hb1, hl, hb2]
    refine W_block ?_
    refine W_loopS (α := Nat) (fun (i : Nat) => [(8, I i)]) (fun (i : Nat) => i ≤ l.length) (fun (i : Nat) => l.length - i) (0) rfl (Nat.zero_le _) ?_
    rintro i hi2
    refine W_seq fun kz13 kq13 => ?_
    refine W_seq fun kz14 kq14 => ?_
    refine W_region [3, 4, 5, 6, 8, 50] fun R hR => ?_   -- r10
    simp only [go_sem, hb0, hmade, hb1, hl, hb2]
    refine hR _ _ (kq14 _ _ ?_); clear hR R; try clear kq14 kz14
    try simp only [go_sem, hb0, hmade, hb1, hl, hb2]
    refine W_cond rfl (fun c2 => ?_) (fun c2 => ?_)
    · -- c2 true
      try simp only [nrm] at c2
      have hi' : i < l.length := by first | assumption | omega
      obtain ⟨a, hx⟩ : ∃ a, l[i]? = some a := ⟨l[i], by simp [hi']⟩
      have hdrop : l.drop i = a :: l.drop (i + 1) := by
        rw [List.drop_eq_getElem_cons hi']; congr 1; exact (List.getElem?_eq_some_iff.1 hx).2
      refine W_skip (kq13 _ _ ?_)
      refine W_seq fun kz15 kq15 => ?_
      refine W_block ?_
      refine W_seq fun kz16 kq16 => ?_
      refine W_region [3, 4, 5, 6, 8, 9] fun R hR => ?_   -- r12
      simp only [go_sem, hb0, hmade, hb1, hl, hb2, hx]
      refine hR _ _ (kq16 _ _ ?_); clear hR R; try clear kq16 kz16
      try simp only [go_sem, hb0, hmade, hb1, hl, hb2, hx]
      refine W_block ?_
      refine W_loopS (α := Nat) (fun (k : Nat) => [(9, I k)]) (fun (k : Nat) => k ≤ i) (fun (k : Nat) => i - k) (0) rfl (Nat.zero_le _) ?_
      rintro k hk
      refine W_seq fun kz17 kq17 => ?_
      refine W_seq fun kz18 kq18 => ?_
      refine W_region [3, 4, 5, 6, 8, 9, 55] fun R hR => ?_   -- r13
      simp only [go_sem, hb0, hmade, hb1, hl, hb2, hx]
      refine hR _ _ (kq18 _ _ ?_); clear hR R; try clear kq18 kz18
      try simp only [go_sem, hb0, hmade, hb1, hl, hb2, hx]
      refine W_cond rfl (fun c3 => ?_) (fun c3 => ?_)
      · -- c3 true
        try simp only [nrm] at c3
        have hk' : k < l.length := by omega
        obtain ⟨b', hxb⟩ : ∃ b', l[k]? = some b' := ⟨l[k], by simp [hk']⟩
        obtain ⟨x1, y1, ha1, p1, p2, p3⟩ := hnar.2 i a hx
        obtain ⟨x2, y2, hb1, r1, r2, r3⟩ := hnar.2 k b' hxb
        have va := vcl a (List.mem_of_getElem? hx)
        have vb := vcl b' (List.mem_of_getElem? hxb)
        have va1 := vcs _ (List.mem_of_getElem? ha1)
        have vb1 := vcs _ (List.mem_of_getElem? hb1)
        have pa := (vl.2 a (List.mem_of_getElem? hx)).p1
        have pb := (vl.2 b' (List.mem_of_getElem? hxb)).p1
        have pa1 := (vls _ (List.mem_of_getElem? ha1)).p1
        have pb1 := (vls _ (List.mem_of_getElem? hb1)).p1
        have hw := crossVal_narrow vck va vb va1 vb1 p1 p3 r1 r3
        obtain ⟨a1, hea⟩ : ∃ z, a.At x1 y1 = z := ⟨_, rfl⟩
        obtain ⟨b1', heb⟩ : ∃ z, b'.At x2 y2 = z := ⟨_, rfl⟩
        rw [hea] at ha1 va1 pa1 hw
        rw [heb] at hb1 vb1 pb1 hw
        refine W_skip (kq17 _ _ ?_)
        refine W_seq fun kz19 kq19 => ?_
        refine W_block ?_
        refine W_seq fun kz20 kq20 => ?_
        refine W_draw [3, 4, 5, 6, 8, 9, 10, 11] [0, 1, 2, 3, 4, 5, 6, 7, 8, 9, 10, 11, 12, 13, 14] [] [[], [], [], [1, 2], [1, 2, 3], [], [], [5, 6], [5, 6, 7], [0, 1, 2, 3, 4, 5, 6, 7, 8], [0, 1, 2, 3, 4, 5, 6, 7, 8, 9], [0, 1, 2, 3, 4, 5, 6, 7, 8, 9, 10], [0, 1, 2, 3, 4, 5, 6, 7, 8, 9, 10], [0, 1, 2, 3, 4, 5, 6, 7, 8, 9, 10, 11], [0, 1, 2, 3, 4, 5, 6, 7, 8, 9, 10, 11, 12, 13]] mixed (by kernel_rfl) fun R hR => ?_   -- r15
        simp only [go_sem, hb0, hmade, hb1, hl, hb2, hx, hxb, ha1, hb1]
        refine GCall_of (PC.val (v' := .tuple [I (crossVal made a b'), I 0]) (bCross_pc Y _ made a b' vmade.okc (by omega) (by omega)) (by rw [crossAns_of vck va vb])) ?_   -- t68
        simp only [go_sem, hb0, hmade, hb1, hl, hb2, hx, hxb, ha1, hb1]
        try refine And.intro (by repeat' (first | refine And.intro ?_ ?_ | exact GOr_right (fun _ => by simp only [go_sem, hb0, hmade, hb1, hl, hb2, hx, hxb, ha1, hb1]))) ?_
        refine hR _ _ (kq20 _ _ ?_); clear hR R; try clear kq20 kz20
        try simp only [go_sem, hb0, hmade, hb1, hl, hb2, hx, hxb, ha1, hb1]
        refine W_seq fun kz21 kq21 => ?_
        refine W_draw [3, 4, 5, 6, 8, 9, 10, 11, 12, 13] [0, 1, 2, 3, 4, 5, 6, 7, 8, 9, 10, 11, 12, 13, 14] [] [[], [], [], [1, 2], [1, 2, 3], [], [], [5, 6], [5, 6, 7], [0, 1, 2, 3, 4, 5, 6, 7, 8], [0, 1, 2, 3, 4, 5, 6, 7, 8, 9], [0, 1, 2, 3, 4, 5, 6, 7, 8, 9, 10], [0, 1, 2, 3, 4, 5, 6, 7, 8, 9, 10], [0, 1, 2, 3, 4, 5, 6, 7, 8, 9, 10, 11], [0, 1, 2, 3, 4, 5, 6, 7, 8, 9, 10, 11, 12, 13]] mixed (by kernel_rfl) fun R hR => ?_   -- r16
        simp only [go_sem, hb0, hmade, hb1, hl, hb2, hx, hxb, ha1, hb1]
        refine GCall_of (PC.val (v' := .tuple [I (crossVal made a1 b1'), I 0]) (bCross_pc Y _ made a1 b1' vmade.okc (by omega) (by omega)) (by rw [crossAns_of vck va1 vb1])) ?_   -- t81
        simp only [go_sem, hb0, hmade, hb1, hl, hb2, hx, hxb, ha1, hb1]
        try refine And.intro (by repeat' (first | refine And.intro ?_ ?_ | exact GOr_right (fun _ => by simp only [go_sem, hb0, hmade, hb1, hl, hb2, hx, hxb, ha1, hb1]))) ?_
        refine hR _ _ (kq21 _ _ ?_); clear hR R; try clear kq21 kz21
        try simp only [go_sem, hb0, hmade, hb1, hl, hb2, hx, hxb, ha1, hb1]
        refine W_seq fun kz22 kq22 => ?_
        refine W_region [3, 4, 5, 6, 8, 9, 98] fun R hR => ?_   -- r17
        simp only [go_sem, hb0, hmade, hb1, hl, hb2, hx, hxb, ha1, hb1]
        refine GWant_split (fun g1 => ?_) (fun g1 => ?_)
        · try simp only [Bool.not_eq_true', Bool.not_eq_false'] at g1
          have n1 := g1; try simp only [nrm] at n1
          simp only [go_sem, hb0, hmade, hb1, hl, hb2, hx, hxb, ha1, hb1, g1]
          refine hR _ _ (kq22 _ _ ?_); clear hR R; try clear kq22 kz22
          try simp only [go_sem, hb0, hmade, hb1, hl, hb2, hx, hxb, ha1, hb1]
          refine W_cond rfl (fun c4 => ?_) (fun c4 => ?_)
          · -- c4 true
            try simp only [nrm] at c4
            refine W_seq fun kz23 kq23 => ?_
            refine W_region [2] fun R hR => ?_   -- r18
            simp only [go_sem, hb0, hmade, hb1, hl, hb2, hx, hxb, ha1, hb1]
            refine hR _ _ (kq23 _ _ ?_); clear hR R; try clear kq23 kz23
            try simp only [go_sem, hb0, hmade, hb1, hl, hb2, hx, hxb, ha1, hb1]
            refine W_ret ?_
            simp only [go_sem, hb0, hmade, hb1, hl, hb2, hx, hxb, ha1, hb1]
            refine ⟨.inr (by trivial), ?_⟩
            first | refine Fin_same hcl rfl (Wk_eq ?_ (by simp only [go_sem])) | refine Fin_self hcl rfl (Wk_eq ?_ (by simp only [go_sem]))
            try simp only [go_sem]
            all_goals
              first | rfl | (simp_all; done) | (simp_all; omega)
          · -- c4 false
            try simp only [nrm] at c4
            refine W_skip (kq19 _ _ ?_)
            refine W_region [3, 4, 5, 6, 8, 9] fun R hR => ?_   -- r14
            simp only [go_sem, hb0, hmade, hb1, hl, hb2, hx, hxb, ha1, hb1]
            try simp (disch := omega) only [wrapI, wrapU]
            refine hR _ _ ?_; clear hR R
            try simp only [go_sem, hb0, hmade, hb1, hl, hb2, hx, hxb, ha1, hb1]
            refine ⟨k + 1, ?_, by (try simp only []); omega, ?_⟩
            · first | exact Weak.refl | exact Weak.eq (by first | rfl | (simp only [go_sem]; done) | (simp only [go_sem]; rfl) | (simp [go_sem]; done) | (simp [go_sem]; omega)) (by first | rfl | (simp only [go_sem]; done) | (simp [go_sem]; done))
            · try dsimp only
              omega
        · try simp only [Bool.not_eq_true', Bool.not_eq_false'] at g1
          have n1 := g1; try simp only [nrm] at n1
          simp only [go_sem, hb0, hmade, hb1, hl, hb2, hx, hxb, ha1, hb1, g1]
          refine hR _ _ (kq22 _ _ ?_); clear hR R; try clear kq22 kz22
          try simp only [go_sem, hb0, hmade, hb1, hl, hb2, hx, hxb, ha1, hb1]
          refine W_cond_false rfl ?_
          refine W_skip (kq19 _ _ ?_)
          refine W_region [3, 4, 5, 6, 8, 9] fun R hR => ?_   -- r14
          simp only [go_sem, hb0, hmade, hb1, hl, hb2, hx, hxb, ha1, hb1]
          try simp (disch := omega) only [wrapI, wrapU]
          refine hR _ _ ?_; clear hR R
          try simp only [go_sem, hb0, hmade, hb1, hl, hb2, hx, hxb, ha1, hb1]
          refine ⟨k + 1, ?_, by (try simp only []); omega, ?_⟩
          · first | exact Weak.refl | exact Weak.eq (by first | rfl | (simp only [go_sem]; done) | (simp only [go_sem]; rfl) | (simp [go_sem]; done) | (simp [go_sem]; omega)) (by first | rfl | (simp only [go_sem]; done) | (simp [go_sem]; done))
          · try dsimp only
            omega
      · -- c3 false
        try simp only [nrm] at c3
        refine W_exit ?_
        simp only [go_sem, hb0, hmade, hb1, hl, hb2, hx]
        refine kq15 _ _ ?_
        refine W_region [3, 4, 5, 6, 8] fun R hR => ?_   -- r11
        simp only [go_sem, hb0, hmade, hb1, hl, hb2, hx]
        try simp (disch := omega) only [wrapI, wrapU]
        refine hR _ _ ?_; clear hR R
        try simp only [go_sem, hb0, hmade, hb1, hl, hb2, hx]
        refine ⟨i + 1, ?_, by (try simp only []); omega, ?_⟩
        · first | exact Weak.refl | exact Weak.eq (by first | rfl | (simp only [go_sem]; done) | (simp only [go_sem]; rfl) | (simp [go_sem]; done) | (simp [go_sem]; omega)) (by first | rfl | (simp only [go_sem]; done) | (simp [go_sem]; done))
        · try dsimp only
          omega
    · -- c2 false
      try simp only [nrm] at c2
      refine W_exit ?_
      simp only [go_sem, hb0, hmade, hb1, hl, hb2]
      refine kq11 _ _ ?_
      refine W_seq fun kz24 kq24 => ?_
      obtain ⟨s, hs⟩ : ∃ z, (roll (made.sleep.length : Int) b).1 = z := ⟨_, rfl⟩
      obtain ⟨b9, hb9⟩ : ∃ z, (roll (made.sleep.length : Int) b).2 = z := ⟨_, rfl⟩
      have ds := roll_bd (made.sleep.length : Int) b
      simp only [hs] at ds
      have sl1 := sleepAns_of (s := s) vck (by omega) vcl (by omega) (by omega)
      have sl2 := sleepAns_of (s := s) vck (by omega) vcs (by omega) (by omega)
      have hge := sleep_mono (f := loudAt made ls s) (g := loudAt made l s) (fun t h => hnar.loud h)
      refine W_region [4, 5, 6, 14] fun R hR => ?_   -- r19
      simp only [go_sem, hb0, hmade, hb1, hl, hb2, hs, hb9]
      refine GCall_of (Roll_pc Y _ _ _ (Sg.get_ext0 _ _ _ _) made.sleep.length (by omega)) ?_   -- t103
      simp only [go_sem, hb0, hmade, hb1, hl, hb2, hs, hb9]
      refine hR _ _ (kq24 _ _ ?_); clear hR R; try clear kq24 kz24
      try simp only [go_sem, hb0, hmade, hb1, hl, hb2]
      refine W_seq fun kz25 kq25 => ?_
      refine W_region [4, 6, 14, 16, 17] fun R hR => ?_   -- r20
      simp only [go_sem, hb0, hmade, hb1, hl, hb2]
      refine GCall_of (PC.val (v' := .tuple [I (sleepOf (loudAt made l s)).1, I (sleepOf (loudAt made l s)).2, I 0]) (bSleep_pc Y _ made l s vmade.okc okl) (by rw [sl1])) ?_   -- t108
      simp only [go_sem, hb0, hmade, hb1, hl, hb2]
      refine hR _ _ (kq25 _ _ ?_); clear hR R; try clear kq25 kz25
      try simp only [go_sem, hb0, hmade, hb1, hl, hb2]
      refine W_seq fun kz26 kq26 => ?_
      refine W_region [16, 17, 19, 20] fun R hR => ?_   -- r21
      simp only [go_sem, hb0, hmade, hb1, hl, hb2]
      refine GCall_of (PC.val (v' := .tuple [I (sleepOf (loudAt made ls s)).1, I (sleepOf (loudAt made ls s)).2, I 0]) (bSleep_pc Y _ made ls s vmade.okc okls) (by rw [sl2])) ?_   -- t116
      simp only [go_sem, hb0, hmade, hb1, hl, hb2]
      refine hR _ _ (kq26 _ _ ?_); clear hR R; try clear kq26 kz26
      try simp only [go_sem, hb0, hmade, hb1, hl, hb2]
      refine W_seq fun kz27 kq27 => ?_
      refine W_region [2] fun R hR => ?_   -- r22
      simp only [go_sem, hb0, hmade, hb1, hl, hb2, hge]
      refine GCall_of (lawake_pc Y _) ?_   -- t132
      simp only [go_sem, hb0, hmade, hb1, hl, hb2, hge]
      refine hR _ _ (kq27 _ _ ?_); clear hR R; try clear kq27 kz27
      try simp only [go_sem, hb0, hmade, hb1, hl, hb2]
      refine W_ret ?_
      simp only [go_sem, hb0, hmade, hb1, hl, hb2]
      refine ⟨.inr (by trivial), ?_⟩
      first | refine Fin_same hcl rfl (Wk_eq ?_ (by simp only [go_sem])) | refine Fin_self hcl rfl (Wk_eq ?_ (by simp only [go_sem]))
      try simp only [go_sem]
      all_goals
        first | rfl | (simp_all; done) | (simp_all; omega)

end Go.Proofs.Ytnpamcpoaklgeaa

namespace Go.Proofs.Ytnpamcpoaklgeaa
open Go Go.RowKit
set_option maxRecDepth 100000

set_option maxHeartbeats 8000000 in
theorem BandNarrow_none (Y : YEnv) (σ : Sg) (nums : List Int) (hn : nums.length < 2 ^ 60) (hne : (bandsD (cityD (drumB nums 2685821657736338717)).1 4 (cityD (drumB nums 2685821657736338717)).2).1 = []) :
    PC Try.prog Y 5 [ints nums] σ (.bool true) (σ) := by
  refine PC_of_W Try.func5 rfl (by kernel_rfl) Try.ntmps5 (by simp) fun hcl hca => ?_
  obtain ⟨b0, hb0⟩ : ∃ z, drumB nums 2685821657736338717 = z := ⟨_, rfl⟩
  rw [hb0] at hne
  obtain ⟨made, hmade⟩ : ∃ zz, (cityD b0).1 = zz := ⟨_, rfl⟩
  obtain ⟨b1, hb1⟩ : ∃ zz, (cityD b0).2 = zz := ⟨_, rfl⟩
  rw [hmade, hb1] at hne
  obtain ⟨b2, hb2⟩ : ∃ z, (bandsD made 4 b1).2 = z := ⟨_, rfl⟩
  have vmade : CityV made := by rw [← hmade]; exact cityD_ok b0
  have vck := vmade.chk
  have hsl := vmade.sl
  have hr40 := vmade.small.hr
  have hr0 := vmade.tv.r0
  obtain ⟨s, hs⟩ : ∃ z, (roll (made.sleep.length : Int) b2).1 = z := ⟨_, rfl⟩
  obtain ⟨b9, hb9⟩ : ∃ z, (roll (made.sleep.length : Int) b2).2 = z := ⟨_, rfl⟩
  have ds := roll_bd (made.sleep.length : Int) b2
  simp only [hs] at ds
  have sl1 := sleepAns_of (s := s) (l := []) vck (by simp) (fun b hb => by cases hb) (by omega) (by omega)
  obtain ⟨v1, hv1⟩ : ∃ z, (sleepOf (loudAt made [] s)).1 = z := ⟨_, rfl⟩
  obtain ⟨v2, hv2⟩ : ∃ z, (sleepOf (loudAt made [] s)).2 = z := ⟨_, rfl⟩
  rw [hv1, hv2] at sl1
  have hge : v2 ≤ v2 := Int.le_refl _
  refine W_seq fun kz1 kq1 => ?_
  refine W_region [0] fun R hR => ?_   -- r0
  simp only [go_sem, hb0, hmade, hb1, hne, hb2, hs, hb9]
  refine hR _ _ (kq1 _ _ ?_); clear hR R; try clear kq1 kz1
  try simp only [go_sem, hb0, hmade, hb1, hne, hb2, hs, hb9]
  refine W_seq fun kz2 kq2 => ?_
  refine W_region [3] fun R hR => ?_   -- r1
  simp only [go_sem, hb0, hmade, hb1, hne, hb2, hs, hb9]
  refine GCall_of (DrumOf_pc Y _ nums hn) ?_   -- t22
  simp only [go_sem, hb0, hmade, hb1, hne, hb2, hs, hb9]
  refine hR _ _ (kq2 _ _ ?_); clear hR R; try clear kq2 kz2
  try simp only [go_sem, hb0, hmade, hb1, hne, hb2, hs, hb9]
  refine W_seq fun kz3 kq3 => ?_
  refine W_region [3, 4] fun R hR => ?_   -- r2
  simp only [go_sem, hb0, hmade, hb1, hne, hb2, hs, hb9]
  refine GCall_of (CityOf_pc Y _ _ _ (Sg.get_ext0 _ _ _ _)) ?_   -- t24
  simp only [go_sem, hb0, hmade, hb1, hne, hb2, hs, hb9]
  refine hR _ _ (kq3 _ _ ?_); clear hR R; try clear kq3 kz3
  try simp only [go_sem, hb0, hmade, hb1, hne, hb2, hs, hb9]
  refine W_seq fun kz4 kq4 => ?_
  refine W_region [3, 4, 5] fun R hR => ?_   -- r3
  simp only [go_sem, hb0, hmade, hb1, hne, hb2, hs, hb9]
  refine GCall_of (BandsOf_pc Y _ _ _ (Sg.get_ext0 _ _ _ _) made 4 vmade.small.hr vmade.small.hs (by omega) (by omega)) ?_   -- t27
  simp only [go_sem, hb0, hmade, hb1, hne, hb2, hs, hb9]
  refine hR _ _ (kq4 _ _ ?_); clear hR R; try clear kq4 kz4
  try simp only [go_sem, hb0, hmade, hb1, hne, hb2, hs, hb9]
  refine W_seq fun kz5 kq5 => ?_
  refine W_region [3, 4, 5, 6] fun R hR => ?_   -- r4
  simp only [go_sem, hb0, hmade, hb1, hne, hb2, hs, hb9]
  refine GCall_of (OwnBandsG_nil Y _) ?_   -- t29
  simp only [go_sem, hb0, hmade, hb1, hne, hb2, hs, hb9]
  refine hR _ _ (kq5 _ _ ?_); clear hR R; try clear kq5 kz5
  try simp only [go_sem, hb0, hmade, hb1, hne, hb2, hs, hb9]
  refine W_seq fun kz6 kq6 => ?_
  refine W_seq fun kz7 kq7 => ?_
  refine W_region [3, 4, 5, 6, 7] fun R hR => ?_   -- r5
  simp only [go_sem, hb0, hmade, hb1, hne, hb2, hs, hb9]
  refine hR _ _ (kq7 _ _ ?_); clear hR R; try clear kq7 kz7
  try simp only [go_sem, hb0, hmade, hb1, hne, hb2, hs, hb9]
  refine W_block ?_
  refine W_loopS (α := Nat) (fun (i : Nat) => [(7, I i)]) (fun (i : Nat) => i = 0) (fun (i : Nat) => 0) (0) rfl (rfl) ?_
  rintro i rfl
  refine W_seq fun kz8 kq8 => ?_
  refine W_seq fun kz9 kq9 => ?_
  refine W_region [3, 4, 5, 6, 7, 33] fun R hR => ?_   -- r6
  simp only [go_sem, hb0, hmade, hb1, hne, hb2, hs, hb9]
  refine hR _ _ (kq9 _ _ ?_); clear hR R; try clear kq9 kz9
  try simp only [go_sem, hb0, hmade, hb1, hne, hb2, hs, hb9]
  refine W_cond rfl (fun c1 => ?_) (fun c1 => ?_)
  · -- c1 true
    try simp only [nrm] at c1
    exfalso
    simp at c1
  · -- c1 false
    try simp only [nrm] at c1
    refine W_exit ?_
    simp only [go_sem, hb0, hmade, hb1, hne, hb2, hs, hb9]
    refine kq6 _ _ ?_
    refine W_seq fun kz10 kq10 => ?_
    refine W_seq fun kz11 kq11 => ?_
    refine W_weak (Weak.nilg (t := 6) rfl) ?_
    refine W_weak (Weak.keep [3, 4, 5, 6]) ?_
    simp only [go_sem]
    refine W_region [3, 4, 5, 6, 8] fun R hR => ?_   -- r9
    simp only [go_sem, hb0, hmade, hb1, hne, hb2, hs, hb9]
    refine hR _ _ (kq11 _ _ ?_); clear hR R; try clear kq11 kz11
    try simp only [go_sem, hb0, hmade, hb1, hne, hb2, hs, hb9]
    refine W_block ?_
    refine W_loopS (α := Nat) (fun (i : Nat) => [(8, I i)]) (fun (i : Nat) => i = 0) (fun (i : Nat) => 0) (0) rfl (rfl) ?_
    rintro i rfl
    refine W_seq fun kz12 kq12 => ?_
    refine W_seq fun kz13 kq13 => ?_
    refine W_region [3, 4, 5, 6, 8, 50] fun R hR => ?_   -- r10
    simp only [go_sem, hb0, hmade, hb1, hne, hb2, hs, hb9]
    refine hR _ _ (kq13 _ _ ?_); clear hR R; try clear kq13 kz13
    try simp only [go_sem, hb0, hmade, hb1, hne, hb2, hs, hb9]
    refine W_cond rfl (fun c2 => ?_) (fun c2 => ?_)
    · -- c2 true
      try simp only [nrm] at c2
      exfalso
      simp at c2
    · -- c2 false
      try simp only [nrm] at c2
      refine W_exit ?_
      simp only [go_sem, hb0, hmade, hb1, hne, hb2, hs, hb9]
      refine kq10 _ _ ?_
      refine W_seq fun kz14 kq14 => ?_
      refine W_region [4, 5, 6, 14] fun R hR => ?_   -- r19
      simp only [go_sem, hb0, hmade, hb1, hne, hb2, hs, hb9]
      refine GCall_of (Roll_pc Y _ _ _ (Sg.get_ext0 _ _ _ _) made.sleep.length (by omega)) ?_   -- t103
      simp only [go_sem, hb0, hmade, hb1, hne, hb2, hs, hb9]
      refine hR _ _ (kq14 _ _ ?_); clear hR R; try clear kq14 kz14
      try simp only [go_sem, hb0, hmade, hb1, hne, hb2, hs, hb9]
      refine W_seq fun kz15 kq15 => ?_
      refine W_region [4, 6, 14, 16, 17] fun R hR => ?_   -- r20
      simp only [go_sem, hb0, hmade, hb1, hne, hb2, hs, hb9]
      refine GCall_of (PC.val (v' := .tuple [I v1, I v2, I 0]) (bSleep_pc Y _ made [] s vmade.okc ⟨by simp, fun b hb => by cases hb⟩) (by rw [sl1])) ?_   -- t108
      simp only [go_sem, hb0, hmade, hb1, hne, hb2, hs, hb9]
      refine hR _ _ (kq15 _ _ ?_); clear hR R; try clear kq15 kz15
      try simp only [go_sem, hb0, hmade, hb1, hne, hb2, hs, hb9]
      refine W_seq fun kz16 kq16 => ?_
      refine W_region [16, 17, 19, 20] fun R hR => ?_   -- r21
      simp only [go_sem, hb0, hmade, hb1, hne, hb2, hs, hb9]
      refine GCall_of (PC.val (v' := .tuple [I v1, I v2, I 0]) (bSleep_pc Y _ made [] s vmade.okc ⟨by simp, fun b hb => by cases hb⟩) (by rw [sl1])) ?_   -- t116
      simp only [go_sem, hb0, hmade, hb1, hne, hb2, hs, hb9]
      refine hR _ _ (kq16 _ _ ?_); clear hR R; try clear kq16 kz16
      try simp only [go_sem, hb0, hmade, hb1, hne, hb2, hs, hb9]
      refine W_seq fun kz17 kq17 => ?_
      refine W_region [2] fun R hR => ?_   -- r22
      simp only [go_sem, hb0, hmade, hb1, hne, hb2, hs, hb9, hge]
      refine GCall_of (lawake_pc Y _) ?_   -- t132
      simp only [go_sem, hb0, hmade, hb1, hne, hb2, hs, hb9, hge]
      refine hR _ _ (kq17 _ _ ?_); clear hR R; try clear kq17 kz17
      try simp only [go_sem, hb0, hmade, hb1, hne, hb2, hs, hb9]
      refine W_ret ?_
      simp only [go_sem, hb0, hmade, hb1, hne, hb2, hs, hb9]
      refine ⟨.inr (by trivial), ?_⟩
      first | refine Fin_same hcl rfl (Wk_eq ?_ (by simp only [go_sem])) | refine Fin_self hcl rfl (Wk_eq ?_ (by simp only [go_sem]))
      try simp only [go_sem]
      all_goals
        first | rfl | (simp_all; done) | (simp_all; omega)

theorem BandNarrow_pc (Y : YEnv) (σ : Sg) (nums : List Int) (hn : nums.length < 2 ^ 60) : PC Try.prog Y 5 [ints nums] σ (.bool true) σ := by
  by_cases h : (bandsD (cityD (drumB nums 2685821657736338717)).1 4 (cityD (drumB nums 2685821657736338717)).2).1 = []
  · exact BandNarrow_none Y σ nums hn h
  · exact BandNarrow_some Y σ nums hn h

end Go.Proofs.Ytnpamcpoaklgeaa

namespace Go.Proofs.Ytnpamcpoaklgeaa
open Go Go.RowKit

theorem rdBandNarrowArgs : All2 (fun t R => Rd Try.prog t R) Try.f5.params.toList [fun p => ∃ xs : List Int, p = ints xs ∧ xs.length * 8 ≤ 140737488351232] :=
  .cons rdInts .nil
set_option maxHeartbeats 4000000 in
theorem BandNarrow_walk : ∀ qs, AllR [fun p => ∃ xs : List Int, p = ints xs ∧ xs.length * 8 ≤ 140737488351232] qs → ∃ σ', PC Try.prog noY 5 qs Sg.zero (.bool true) σ' := by
  intro qs hq
  obtain ⟨px0, qs, rfl, ⟨x0, hx0, sx0⟩, hq⟩ := allR_cons hq
  obtain rfl := allR_nil hq
  subst hx0
  exact ⟨_, BandNarrow_pc noY _ x0 (by omega)⟩
theorem BandNarrow_lifted (os : Os) (started : os.Started) (H : Type) (enc : TypeId × Value → H) :
    ReturnsInHanded {} Try.checked os 5 .any (Rows.bandNarrowSpec.pre6 enc Try.prog Try.f5 Rows.bandNarrowRow.domain false) (Rows.bandNarrowSpec.post enc Try.prog Try.f5 false true false false) :=
  law_lifted (C := Try.checked) own started (by kernel_rfl) Try.func5 rfl laidOut (by kernel_rfl) rdBandNarrowArgs rfl Try.underlying4
    (fun ds h => match ds, h with | [_], _ => rfl)
    (ChangeSpec.witness6 (enc := enc) (C := Try.checked) false ⟨#[], #[.slice none 0 0], []⟩ 8 (by kernel_rfl) (by kernel_rfl) (by kernel_rfl) (by kernel_rfl))
    BandNarrow_walk
theorem BandNarrow_holds : Rows.BandNarrowSaid :=
  OpenClaim.holds_of_wide 5 Try.f5 rfl rfl rfl rfl rfl rfl rfl ⟨rfl, rfl, rfl, rfl, rfl⟩ rfl rfl rfl rfl rfl (by kernel_rfl) Try.func5 (by kernel_rfl)
    (of_decide_eq_true (by kernel_rfl)) (by unfold Func.isWrapper; first | (rw [if_pos (by decide +kernel)]; kernel_rfl) | (rw [if_neg (by decide +kernel)]; exact ⟨rfl, rfl⟩))
    (fun os started H enc _ => BandNarrow_lifted os started H enc)
end Go.Proofs.Ytnpamcpoaklgeaa
