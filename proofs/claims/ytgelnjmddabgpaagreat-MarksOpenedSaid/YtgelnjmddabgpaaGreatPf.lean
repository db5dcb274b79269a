/-
  Walks: numbers copied, to be written again (bateriakit).
  Walks: marks made of numbers, to be written again (bateriakit).
  Walks: nights checked, as the document has them.
  Walks: absences and nights checked, who is missing, as the document has them.
  Walks: points, as the document has them.
  Walks: who is missing, as the document has it.
  Walks: the table of a night that is decided (marks).
  Walks: lists compared; the chapter's examples.
  Walks: copies and comparisons of scales and nights (bateriakit); what is too wide.
  Walks: a night copied, to be lengthened (bateriakit).
  Walks: the judges whose envelopes are still sealed (marks).
  Nights made of numbers are nights that may be. The plain law.
  Walks: a night whose sealed envelopes are filled.
  A night whose sealed envelopes are filled: the plain law.
  Walks: numbers in spans, spans in spans.
  Walks: the chapter's examples checked.
  Walks: points and standings, as the document has them.
  Walks: standings and who is ahead, as the document has them.
  Walks: totals, places and who wins, as the document has them.
  The law MarksTrue, walked: whatever is in the envelopes that are still sealed.
  The law MarksOpened, walked: one envelope more.
-/
import Derived.Test.YtgelnjmddabgpaaGreatPe
import Derived.CallsIn
import Derived.RangeFuncLeaves
import Derived.RangeFuncRecord
import Derived.OrdersIn
import Derived.Below
import Derived.Laws.World
import Derived.Laws.StructEq
import Derived.Laws.Append
import Derived.MapKept
import Derived.ProofKit
import Derived.Carry
import Derived.Handed
import Derived.ChangeCalls
import Derived.RangeFuncIn
import Derived.RangeFuncNested
import Derived.Test.YtgelnjmddabgpaaGreatProg
import Derived.KernelRfl
import Derived.IntWalk
import Derived.Test.YtgelnjmddabgpaaGreatRows
import Derived.Sort.OwnSortedInts
import Derived.Lib.SlicesCompact
import Derived.Shelf.Sort.Plain
import Derived.Shelf.Slices.In.SortNone
import Derived.Shelf.Small.Bits
import Derived.JoinedOf
set_option linter.unusedSimpArgs false
set_option linter.unusedVariables false
namespace Go.Proofs.YtgelnjmddabgpaaGreat
open Go Go.RowKit
set_option maxRecDepth 100000
end Go.Proofs.YtgelnjmddabgpaaGreat
namespace Go.Proofs.YtgelnjmddabgpaaGreat
open Go Go.RowKit
set_option maxRecDepth 100000
/-- The end of a function that has set a variable and leaves new ones. -/
theorem Fin_setX {P : Program} {fn : Func} {σ : Sg} {d : Nat} {cs : List PV} {l : List (Option (List PV))} {rm : List Nat} {E : Env} {rs : List PV} {v : PV} (k j : Nat) (hcl : CleanSg σ) (hc : CleanAll σ.store.length σ.rooms.length σ.ys.length cs)
    (hr : resPV P ((σ.setVar d cs).ext l rm) E fn.results.toList = some rs)
    (hv : Wk (σ.store.length + k) (σ.rooms.length + j) σ.ys.length (oneOr rs) v)
    (hx : CleanLs (σ.store.length + k) (σ.rooms.length + j) σ.ys.length (l.take k)) : Fin P fn σ v ((σ.setVar d cs).ext (l.take k) (rm.take j)) E ((σ.setVar d cs).ext l rm) := by
  have h := Fin_ext (σ := σ.setVar d cs) (v := v) k j (CleanSg_set hcl hc) hr (by rw [sv_len, sv_rooms, sv_ys]; exact hv) (by rw [sv_len, sv_rooms, sv_ys]; exact hx)
  unfold Fin at h ⊢
  rw [sv_len, sv_rooms, sv_ys] at h
  exact h
set_option maxHeartbeats 4000000 in
theorem MarksOfW_pc (Y : YEnv) (σ : Sg) (d : Nat) (b : Int) (hd : σ.store[d]? = some (some [.int .u64 b])) (s : Scale) (hv : s.V) :
    PC Tryz.prog Y 37 [.ptr d 0, scPV s] σ (.gsl σ.store.length (marksD s b).1.length 1) ((σ.setVar d [.int .u64 (marksD s b).2]).ext [some ((marksD s b).1.map I)] []) := by
  refine PC_of_W Tryz.func37 rfl (by kernel_rfl) Tryz.ntmps37 (by simp) fun hcl hca => ?_
  have hlt := lt_of_get hd
  have q3 := hv.sc
  have q4 := hv.lo
  have q5 := hv.hi
  have q6 := hv.lh
  obtain ⟨N, hN⟩ : ∃ z : Nat, s.schools = z := ⟨s.schools.toNat, by omega⟩
  have hNi : (s.schools : Int) = (N : Int) := hN
  obtain ⟨res, hres⟩ : ∃ r, marksD s b = r := ⟨_, rfl⟩
  rw [hres]
  unfold marksD at hres
  rw [hN, Int.toNat_natCast] at hres
  refine W_seq fun kz1 kq1 => ?_
  refine W_region [0, 3] fun R hR => ?_   -- r0
  simp only [go_sem, ldS_at hd, stX_at hd, ldS_sv hlt, stX_sv hlt, sv_ext hlt, sv_ext_sv hlt]
  refine hR _ _ (kq1 _ _ ?_); clear hR R; try clear kq1 kz1
  try simp only [go_sem, ldS_at hd, stX_at hd, ldS_sv hlt, stX_sv hlt, sv_ext hlt, sv_ext_sv hlt]
  refine W_seq fun kz2 kq2 => ?_
  refine W_region [0, 3, 5] fun R hR => ?_   -- r1
  simp only [go_sem, ldS_at hd, stX_at hd, ldS_sv hlt, stX_sv hlt, sv_ext hlt, sv_ext_sv hlt]
  refine hR _ _ (kq2 _ _ ?_); clear hR R; try clear kq2 kz2
  try simp only [go_sem, ldS_at hd, stX_at hd, ldS_sv hlt, stX_sv hlt, sv_ext hlt, sv_ext_sv hlt]
  refine W_seq fun kz3 kq3 => ?_
  refine W_seq fun kz4 kq4 => ?_
  refine W_region [0, 3, 5, 6] fun R hR => ?_   -- r2
  simp only [go_sem, ldS_at hd, stX_at hd, ldS_sv hlt, stX_sv hlt, sv_ext hlt, sv_ext_sv hlt]
  refine hR _ _ (kq4 _ _ ?_); clear hR R; try clear kq4 kz4
  try simp only [go_sem, ldS_at hd, stX_at hd, ldS_sv hlt, stX_sv hlt, sv_ext hlt, sv_ext_sv hlt]
  refine W_block ?_
  refine W_weak (Weak.gnil (t := 5) rfl) ?_
  refine W_weak (Weak.keep [0, 3, 5, 6]) ?_
  simp only [go_sem]
  refine W_loopT (α := Nat × (List Int) × Int) (fun ⟨i, acc, b⟩ => [(5, glI (σ.store.length + 1) acc), (6, I i)]) (fun ⟨i, acc, b⟩ => (σ.setVar d [.int .u64 b]).ext (some (scCells s) :: gsI acc) []) (fun ⟨i, acc, b⟩ => i ≤ N ∧ acc.length = i ∧ res = marksC s (N - i) acc b) (fun ⟨i, acc, b⟩ => N - i) ((0, [], b)) rfl (by simp only [gsI, go_sem, sv_self hd]) (⟨Nat.zero_le _, rfl, hres.symm⟩) ?_
  rintro ⟨i, acc, b⟩ ⟨hi, hal, hinv⟩
  refine W_seq fun kz5 kq5 => ?_
  refine W_seq fun kz6 kq6 => ?_
  refine W_region [0, 3, 5, 6, 10] fun R hR => ?_   -- r3
  simp only [go_sem, ldS_at hd, stX_at hd, ldS_sv hlt, stX_sv hlt, sv_ext hlt, sv_ext_sv hlt]
  refine hR _ _ (kq6 _ _ ?_); clear hR R; try clear kq6 kz6
  try simp only [go_sem, ldS_at hd, stX_at hd, ldS_sv hlt, stX_sv hlt, sv_ext hlt, sv_ext_sv hlt]
  refine W_cond rfl (fun c1 => ?_) (fun c1 => ?_)
  · -- c1 true
    try simp only [nrm] at c1
    have hiN : i < N := by first | omega | (simp at c1; omega)
    rw [show N - i = (N - (i + 1)) + 1 by omega] at hinv
    simp only [marksC, dbind] at hinv
    obtain ⟨m, hm⟩ : ∃ zz, (mid s.low s.high b).1 = zz := ⟨_, rfl⟩
    obtain ⟨b1, hb1⟩ : ∃ zz, (mid s.low s.high b).2 = zz := ⟨_, rfl⟩
    have dm := mid_bd s.low s.high q6 b
    simp only [hm] at dm
    obtain ⟨x, hx⟩ : ∃ zz, (anyOf [s.low, s.high, m] b1).1 = zz := ⟨_, rfl⟩
    obtain ⟨b2, hb2⟩ : ∃ zz, (anyOf [s.low, s.high, m] b1).2 = zz := ⟨_, rfl⟩
    simp only [hm, hb1, hx, hb2] at hinv
    have hL : (σ.setVar d [.int .u64 b2]).store.length = σ.store.length := sv_len
    have happ := appG_gl (σ := σ.setVar d [.int .u64 b2]) (A := [some (scCells s)]) (rm := []) (ys := []) (out := acc) x (by omega)
    simp only [List.cons_append, List.nil_append, go_sem, List.length_cons, List.length_nil, Nat.zero_add, hL] at happ
    refine W_skip (kq5 _ _ ?_)
    refine W_seq fun kz7 kq7 => ?_
    refine W_block ?_
    refine W_draw [0, 3, 5, 6] [0, 1, 2, 3, 4, 5, 6, 7, 8, 9, 10, 11, 12, 13, 14, 15, 16] [(0, 13), (0, 15), (1, 13), (2, 13), (3, 13), (4, 13), (5, 13)] [[], [], [], [2], [], [4], [], [], [7], [], [9], [6, 7, 8, 9, 10], [2, 3, 4, 5, 6, 7, 8, 9, 10, 11], [1, 2, 3, 4, 5, 6, 7, 8, 9, 10, 11, 12], [1, 2, 3, 4, 5, 6, 7, 8, 9, 10, 11, 12, 13], [0, 1, 2, 3, 4, 5, 6, 7, 8, 9, 10, 11, 12, 13, 14], [0, 1, 2, 3, 4, 5, 6, 7, 8, 9, 10, 11, 12, 13, 14, 15]] mixed (by kernel_rfl) fun R hR => ?_   -- r5
    simp only [go_sem, ldS_at hd, stX_at hd, ldS_sv hlt, stX_sv hlt, sv_ext hlt, sv_ext_sv hlt, hm, hb1, hx, hb2, hL, happ]
    refine GCall_of (Mid_pc Y _ d b (by first | exact hd | exact sv_get hlt | exact get_svx hlt | exact get_extx hd) s.low s.high (by omega) (by omega) (by omega) (by omega)) ?_   -- t24
    simp only [go_sem, ldS_at hd, stX_at hd, ldS_sv hlt, stX_sv hlt, sv_ext hlt, sv_ext_sv hlt, hm, hb1, hx, hb2, hL, happ]
    refine GCall_of (Any_pc Y _ d b1 (by first | exact hd | exact sv_get hlt | exact get_svx hlt | exact get_extx hd) [s.low, s.high, m] (by simp) (by simp)) ?_   -- t26
    simp only [go_sem, ldS_at hd, stX_at hd, ldS_sv hlt, stX_sv hlt, sv_ext hlt, sv_ext_sv hlt, hm, hb1, hx, hb2, hL, happ]
    try simp (disch := first | omega | (simp only [go_sem] <;> omega)) only [wrapI, wrapU, appX_exact, appX_tok]
    try simp only [go_sem, ldS_at hd, stX_at hd, ldS_sv hlt, stX_sv hlt, sv_ext hlt, sv_ext_sv hlt, hm, hb1, hx, hb2, hL, happ]
    try refine And.intro (by repeat' (first | refine And.intro ?_ ?_ | exact GOr_right (fun _ => by simp only [go_sem, ldS_at hd, stX_at hd, ldS_sv hlt, stX_sv hlt, sv_ext hlt, sv_ext_sv hlt, hm, hb1, hx, hb2, hL, happ]))) ?_
    refine hR _ _ (kq7 _ _ ?_); clear hR R; try clear kq7 kz7
    try simp only [go_sem, ldS_at hd, stX_at hd, ldS_sv hlt, stX_sv hlt, sv_ext hlt, sv_ext_sv hlt, hm, hb1, hx, hb2, hL]
    refine W_region [0, 3, 5, 6] fun R hR => ?_   -- r4
    simp only [go_sem, ldS_at hd, stX_at hd, ldS_sv hlt, stX_sv hlt, sv_ext hlt, sv_ext_sv hlt, hm, hb1, hx, hb2, hL]
    try simp (disch := omega) only [wrapI, wrapU]
    refine hR _ _ ?_; clear hR R
    try simp only [go_sem, ldS_at hd, stX_at hd, ldS_sv hlt, stX_sv hlt, sv_ext hlt, sv_ext_sv hlt, hm, hb1, hx, hb2, hL]
    refine ⟨(i + 1, acc ++ [x], b2), ?_, by (try simp only []); omega, ?_⟩
    · first | exact Weak.refl | exact Weak.eq (by first | rfl | (simp only [go_sem]; done) | (simp only [go_sem]; rfl) | (simp [go_sem]; done) | (simp [go_sem]; omega)) (by first | rfl | (simp only [go_sem]; done) | (simp [go_sem]; done))
    · try dsimp only
      exact ⟨by omega, by simp [hal], hinv⟩
  · -- c1 false
    try simp only [nrm] at c1
    have hie : N = i := by first | omega | (simp at c1; omega)
    subst hie
    rw [Nat.sub_self] at hinv
    simp only [marksC, dret] at hinv
    refine W_exit ?_
    simp only [go_sem, ldS_at hd, stX_at hd, ldS_sv hlt, stX_sv hlt, sv_ext hlt, sv_ext_sv hlt]
    refine kq3 _ _ ?_
    refine W_seq fun kz8 kq8 => ?_
    obtain ⟨m, hm⟩ : ∃ z : Nat, N = z + 1 := ⟨N - 1, by omega⟩
    have hal2 : acc.length = m + 1 := by omega
    rw [glI_of hal2, gsI_of hal2]
    refine W_weak (Weak.keep [5]) ?_
    simp only [go_sem]
    have hL : (σ.setVar d [.int .u64 b]).store.length = σ.store.length := sv_len
    refine W_weak (Weak.moveX (σ := σ.setVar d [.int .u64 b]) (t0 := 5) (len0 := m + 1) (es0 := 1) (j := m + 1) (cs := acc.map I) 0 0 (by rw [hL]; simp only [go_sem]; rw [show σ.store.length + 1 + m = σ.store.length + (m + 1) by omega]) ?_ (Nat.zero_le _) (Nat.le_of_eq (by rw [hL]; rfl)) (Nat.le_of_eq (by rw [sv_rooms]; rfl)) (CleanSg_set hcl (by simp only [go_sem])) ?_ (by simp) (E' := [(5, .gsl σ.store.length (m + 1) 1)]) (MovedE.get ?_)) ?_
    · simp
    · intro p hp; obtain ⟨z, _, rfl⟩ := List.mem_map.1 hp; exact .int _ _
    · refine ⟨rfl, ?_, trivial⟩
      rw [hL, show σ.store.length + (m + 1) = σ.store.length + 1 + m by omega]
      exact .gsl
    simp only [go_sem]
    refine W_region [4] fun R hR => ?_   -- r6
    simp only [go_sem, ldS_at hd, stX_at hd, ldS_sv hlt, stX_sv hlt, sv_ext hlt, sv_ext_sv hlt]
    refine hR _ _ (kq8 _ _ ?_); clear hR R; try clear kq8 kz8
    try simp only [go_sem, ldS_at hd, stX_at hd, ldS_sv hlt, stX_sv hlt, sv_ext hlt, sv_ext_sv hlt]
    refine W_ret ?_
    simp only [go_sem, ldS_at hd, stX_at hd, ldS_sv hlt, stX_sv hlt, sv_ext hlt, sv_ext_sv hlt]
    refine ⟨.inr (by trivial), ?_⟩
    rw [hinv]
    refine Fin_setX (d := d) (cs := [.int .u64 b]) (l := [some (acc.map I)]) (rm := []) (rs := [.gsl σ.store.length (m + 1) 1]) 1 0 hcl (by simp only [go_sem]) rfl (Wk_eq (q := .gsl σ.store.length acc.length 1) (by rw [hal2]; rfl) (.gsl _ _ _ (by omega))) (by simp only [List.take, go_sem])
    try simp only [go_sem]
    all_goals
      simp only [go_sem]
end Go.Proofs.YtgelnjmddabgpaaGreat
namespace Go.Proofs.YtgelnjmddabgpaaGreat
open Go Go.RowKit
set_option maxRecDepth 100000
def isJ (a b : Int) (x : Envl) : Bool := (x.matter == a) && (x.judge == b)
theorem isJ_iff {a b : Int} {x : Envl} : isJ a b x = true ↔ jdE x = (a, b) := by simp [isJ, jdE]
def isA (a b : Int) (x : Int × Int) : Bool := (x.1 == a) && (x.2 == b)
theorem isA_iff {a b : Int} {x : Int × Int} : isA a b x = true ↔ x = (a, b) := by
  obtain ⟨c, d⟩ := x
  simp [isA]
theorem fIdx_find {a b : Int} : ∀ {l : List Envl} {p : Nat}, (fIdx (isJ a b) p l = -1 ∧ findE l (a, b) = none) ∨ ∃ (i : Nat) (x : Envl), fIdx (isJ a b) p l = ((p + i : Nat) : Int) ∧ l[i]? = some x ∧ jdE x = (a, b) ∧ findE l (a, b) = some x.marks := by
  intro l
  induction l with
  | nil => intro p; exact .inl ⟨rfl, rfl⟩
  | cons x l ih =>
    intro p
    rw [findE_cons]
    by_cases h : isJ a b x = true
    · have e : fIdx (isJ a b) p (x :: l) = (p : Int) := by simp only [fIdx]; rw [if_pos h]
      rw [e, if_pos (isJ_iff.1 h)]
      exact .inr ⟨0, x, rfl, rfl, isJ_iff.1 h, rfl⟩
    · have e : fIdx (isJ a b) p (x :: l) = fIdx (isJ a b) (p + 1) l := by simp only [fIdx]; rw [if_neg h]
      rw [e, if_neg (fun k => h (isJ_iff.2 k))]
      rcases ih (p := p + 1) with k | ⟨i, y, h1, h2, h3⟩
      · exact .inl k
      · exact .inr ⟨i + 1, y, by rw [h1]; congr 1; omega, h2, h3⟩
theorem findE_app (l m : List Envl) (j : Int × Int) : findE (l ++ m) j = match findE l j with | some v => some v | none => findE m j := by
  induction l with
  | nil => rfl
  | cons x l ih =>
    rw [List.cons_append, findE_cons, findE_cons]
    by_cases h : jdE x = j
    · rw [if_pos h, if_pos h]
    · rw [if_neg h, if_neg h, ih]
theorem findE_at {l : List Envl} {i : Nat} {x : Envl} (hx : l[i]? = some x) : findE l (jdE x) = some ((findE (l.take i) (jdE x)).getD x.marks) := by
  have h1 : i < l.length := (List.getElem?_eq_some_iff.1 hx).1
  have e : l = l.take i ++ x :: l.drop (i + 1) := by
    conv => lhs; rw [← List.take_append_drop i l]
    rw [List.drop_eq_getElem_cons h1, (List.getElem?_eq_some_iff.1 hx).2]
  conv => lhs; rw [e]
  rw [findE_app, findE_cons, if_pos rfl]
  cases findE (l.take i) (jdE x) with
  | none => rfl
  | some v => rfl
theorem findE_snoc {l : List Envl} {i : Nat} {x : Envl} (hx : l[i]? = some x) (j : Int × Int) : findE (l.take (i + 1)) j = match findE (l.take i) j with | some v => some v | none => if jdE x = j then some x.marks else none := by
  rw [List.take_add_one, hx]
  show findE (l.take i ++ [x]) j = _
  rw [findE_app, findE_cons, findE_nil]
/-- What is known so far, envelope by envelope. -/
def KAs (kk : Kn) (l : List Envl) : Prop := ∀ j, aget j kk = findE l j
theorem KAs.next {kk : Kn} {l : List Envl} {i : Nat} {x : Envl} (h : KAs kk (l.take i)) (hx : l[i]? = some x) (he : (findE (l.take i) (jdE x)).getD x.marks = x.marks) : KAs (aput (jdE x) x.marks kk) (l.take (i + 1)) := fun j => by
  rw [aget_put, findE_snoc hx, h j]
  by_cases e : j = jdE x
  · subst e
    rw [if_pos rfl, if_pos rfl]
    cases hf : findE (l.take i) (jdE x) with
    | none => rfl
    | some v => rw [hf] at he; simp at he; rw [he]
  · rw [if_neg e, if_neg (fun k => e k.symm)]
    cases findE (l.take i) j <;> rfl
theorem openK_step {s : Scale} {kk : Kn} {l : List Envl} {i : Nat} {x : Envl} (h : KAs kk (l.take i)) (r : List Envl) : (openK s (x :: r) kk).1 = if rJudge s (jdE x) ≠ 0 then rJudge s (jdE x) else if rMarks s x.marks ≠ 0 then rMarks s x.marks else if x.sl ≠ sealOf (jdE x) x.marks then 14 else if (findE (l.take i) (jdE x)).getD x.marks ≠ x.marks then 10 else (openK s r (aput (jdE x) x.marks kk)).1 := by
  have hj : (x.matter, x.judge) = jdE x := rfl
  have hm := marked_r s (jdE x) x.marks
  have hk := h (jdE x)
  simp only [openK, hj, hm]
  by_cases h1 : rJudge s (jdE x) = 0
  · by_cases h2 : rMarks s x.marks = 0
    · by_cases h3 : x.sl = sealOf (jdE x) x.marks
      · rw [hk]
        cases hf : findE (l.take i) (jdE x) with
        | none => simp [h1, h2, h3]
        | some v =>
          by_cases h4 : v = x.marks
          · simp [h1, h2, h3, h4]
          · simp [h1, h2, h3, h4]
      · simp [h1, h2, h3]
    · simp [h1, h2]
  · simp [h1]
def rOpen (s : Scale) (l : List Envl) : Int := if 60 < (l.length : Int) then 5 else (openK s l []).1
set_option maxHeartbeats 2000000 in
theorem rFind_pc (Y : YEnv) (σ : Sg) (l : List Envl) (a b : Int) (hl : l.length < 2 ^ 62) :
    PC Tryz.prog Y 88 [evs l, I a, I b] σ (I (fIdx (isJ a b) 0 l)) (σ) := by
  refine PC_of_W Tryz.func88 rfl (by kernel_rfl) Tryz.ntmps88 (by simp) fun hcl hca => ?_
  refine W_seq fun kz1 kq1 => ?_
  refine W_region [0, 1, 2] fun R hR => ?_   -- r0
  simp only [go_sem]
  refine hR _ _ (kq1 _ _ ?_); clear hR R; try clear kq1 kz1
  try simp only [go_sem]
  refine W_seq fun kz2 kq2 => ?_
  refine W_seq fun kz3 kq3 => ?_
  refine W_region [0, 1, 2, 7] fun R hR => ?_   -- r1
  simp only [go_sem]
  refine hR _ _ (kq3 _ _ ?_); clear hR R; try clear kq3 kz3
  try simp only [go_sem]
  refine W_block ?_
  refine W_loopS (α := Nat) (fun (i : Nat) => [(7, I i)]) (fun (i : Nat) => i ≤ l.length ∧ fIdx (isJ a b) i (l.drop i) = fIdx (isJ a b) 0 l) (fun (i : Nat) => l.length - i) (0) rfl (⟨Nat.zero_le _, rfl⟩) ?_
  rintro i ⟨hi, hinv⟩
  refine W_seq fun kz4 kq4 => ?_
  refine W_seq fun kz5 kq5 => ?_
  refine W_region [0, 1, 2, 7, 11] fun R hR => ?_   -- r2
  simp only [go_sem]
  refine hR _ _ (kq5 _ _ ?_); clear hR R; try clear kq5 kz5
  try simp only [go_sem]
  refine W_cond rfl (fun c1 => ?_) (fun c1 => ?_)
  · -- c1 true
    try simp only [nrm] at c1
    have hi' : i < l.length := by first | assumption | omega
    obtain ⟨x, hx⟩ : ∃ x, l[i]? = some x := ⟨l[i], by simp [hi']⟩
    have hdrop : l.drop i = x :: l.drop (i + 1) := by
      rw [List.drop_eq_getElem_cons hi']; congr 1; exact (List.getElem?_eq_some_iff.1 hx).2
    rw [hdrop] at hinv
    simp only [fIdx] at hinv
    refine W_skip (kq4 _ _ ?_)
    refine W_seq fun kz6 kq6 => ?_
    refine W_block ?_
    refine W_seq fun kz7 kq7 => ?_
    refine W_regionJ [0, 1, 2, 7, 29] [(29, .bool (isJ a b x))] ?_ fun R hR => ?_   -- r4
    · refine kq7 _ _ ?_
      simp only [go_sem, hx]
      refine W_cond rfl (fun c2 => ?_) (fun c2 => ?_)
      · -- c2 true
        try simp only [nrm] at c2
        refine W_seq fun kz8 kq8 => ?_
        refine W_region [6] fun R hR => ?_   -- r5
        simp only [go_sem, hx]
        refine hR _ _ (kq8 _ _ ?_); clear hR R; try clear kq8 kz8
        try simp only [go_sem, hx]
        refine W_ret ?_
        simp only [go_sem, hx]
        refine ⟨.inr (by trivial), ?_⟩
        first | refine Fin_same hcl rfl (Wk_eq ?_ (by simp only [go_sem])) | refine Fin_self hcl rfl (Wk_eq ?_ (by simp only [go_sem]))
        try simp only [go_sem]
        all_goals
          first | rfl | (simp_all; done) | (simp_all; omega)
      · -- c2 false
        try simp only [nrm] at c2
        refine W_skip (kq6 _ _ ?_)
        refine W_region [0, 1, 2, 7] fun R hR => ?_   -- r3
        simp only [go_sem, hx]
        try simp (disch := omega) only [wrapI, wrapU]
        refine hR _ _ ?_; clear hR R
        try simp only [go_sem, hx]
        refine ⟨i + 1, ?_, by (try simp only []); omega, ?_⟩
        · first | exact Weak.refl | exact Weak.eq (by first | rfl | (simp only [go_sem]; done) | (simp only [go_sem]; rfl) | (simp [go_sem]; done) | (simp [go_sem]; omega)) (by first | rfl | (simp only [go_sem]; done) | (simp [go_sem]; done))
        · try dsimp only
          exact ⟨hi', by simp_all⟩
    · simp only [go_sem, hx]
      refine GWant_split (fun g1 => ?_) (fun g1 => ?_)
      · try simp only [Bool.not_eq_true', Bool.not_eq_false'] at g1
        have n1 := g1; try simp only [nrm] at n1
        simp only [go_sem, hx, g1]
        refine hR _ ?_
        all_goals try simp only [go_sem, hx]
        all_goals
          first | (simp [isJ, *]; done) | (simp_all [isJ]; done)
      · try simp only [Bool.not_eq_true', Bool.not_eq_false'] at g1
        have n1 := g1; try simp only [nrm] at n1
        simp only [go_sem, hx, g1]
        refine hR _ ?_
        all_goals try simp only [go_sem, hx]
        all_goals
          first | (simp [isJ, *]; done) | (simp_all [isJ]; done)
  · -- c1 false
    try simp only [nrm] at c1
    have hdrop : l.drop i = [] := List.drop_eq_nil_of_le (by omega)
    rw [hdrop] at hinv
    simp only [fIdx] at hinv
    refine W_exit ?_
    simp only [go_sem]
    refine kq2 _ _ ?_
    refine W_seq fun kz9 kq9 => ?_
    refine W_region [6] fun R hR => ?_   -- r6
    simp only [go_sem]
    refine hR _ _ (kq9 _ _ ?_); clear hR R; try clear kq9 kz9
    try simp only [go_sem]
    refine W_ret ?_
    simp only [go_sem]
    refine ⟨.inr (by trivial), ?_⟩
    first | refine Fin_same hcl rfl (Wk_eq ?_ (by simp only [go_sem])) | refine Fin_self hcl rfl (Wk_eq ?_ (by simp only [go_sem]))
    try simp only [go_sem]
    all_goals
      first | rfl | (simp_all; done) | (simp_all; omega)
set_option maxHeartbeats 2000000 in
theorem rAbs_pc (Y : YEnv) (σ : Sg) (l : List (Int × Int)) (a b : Int) (hl : l.length < 2 ^ 62) :
    PC Tryz.prog Y 89 [sts l, I a, I b] σ (.bool (l.any (isA a b))) (σ) := by
  refine PC_of_W Tryz.func89 rfl (by kernel_rfl) Tryz.ntmps89 (by simp) fun hcl hca => ?_
  obtain ⟨res, hres⟩ : ∃ r, l.any (isA a b) = r := ⟨_, rfl⟩
  rw [hres]
  refine W_seq fun kz1 kq1 => ?_
  refine W_region [0, 1, 2] fun R hR => ?_   -- r0
  simp only [go_sem]
  refine hR _ _ (kq1 _ _ ?_); clear hR R; try clear kq1 kz1
  try simp only [go_sem]
  refine W_seq fun kz2 kq2 => ?_
  refine W_seq fun kz3 kq3 => ?_
  refine W_region [0, 1, 2, 7] fun R hR => ?_   -- r1
  simp only [go_sem]
  refine hR _ _ (kq3 _ _ ?_); clear hR R; try clear kq3 kz3
  try simp only [go_sem]
  refine W_block ?_
  refine W_loopS (α := Nat) (fun (i : Nat) => [(7, I i)]) (fun (i : Nat) => i ≤ l.length ∧ res = (l.drop i).any (isA a b)) (fun (i : Nat) => l.length - i) (0) rfl (⟨Nat.zero_le _, hres.symm⟩) ?_
  rintro i ⟨hi, hinv⟩
  refine W_seq fun kz4 kq4 => ?_
  refine W_seq fun kz5 kq5 => ?_
  refine W_region [0, 1, 2, 7, 11] fun R hR => ?_   -- r2
  simp only [go_sem]
  refine hR _ _ (kq5 _ _ ?_); clear hR R; try clear kq5 kz5
  try simp only [go_sem]
  refine W_cond rfl (fun c1 => ?_) (fun c1 => ?_)
  · -- c1 true
    try simp only [nrm] at c1
    have hi' : i < l.length := by first | assumption | omega
    obtain ⟨x, hx⟩ : ∃ x, l[i]? = some x := ⟨l[i], by simp [hi']⟩
    have hdrop : l.drop i = x :: l.drop (i + 1) := by
      rw [List.drop_eq_getElem_cons hi']; congr 1; exact (List.getElem?_eq_some_iff.1 hx).2
    rw [hdrop, List.any_cons] at hinv
    refine W_skip (kq4 _ _ ?_)
    refine W_seq fun kz6 kq6 => ?_
    refine W_block ?_
    refine W_seq fun kz7 kq7 => ?_
    refine W_regionJ [0, 1, 2, 7, 29] [(29, .bool (isA a b x))] ?_ fun R hR => ?_   -- r4
    · refine kq7 _ _ ?_
      simp only [go_sem, hx]
      refine W_cond rfl (fun c2 => ?_) (fun c2 => ?_)
      · -- c2 true
        try simp only [nrm] at c2
        refine W_seq fun kz8 kq8 => ?_
        refine W_region [6] fun R hR => ?_   -- r5
        simp only [go_sem, hx]
        refine hR _ _ (kq8 _ _ ?_); clear hR R; try clear kq8 kz8
        try simp only [go_sem, hx]
        refine W_ret ?_
        simp only [go_sem, hx]
        refine ⟨.inr (by trivial), ?_⟩
        first | refine Fin_same hcl rfl (Wk_eq ?_ (by simp only [go_sem])) | refine Fin_self hcl rfl (Wk_eq ?_ (by simp only [go_sem]))
        try simp only [go_sem]
        all_goals
          first | rfl | (simp_all; done) | (simp_all; omega)
      · -- c2 false
        try simp only [nrm] at c2
        refine W_skip (kq6 _ _ ?_)
        refine W_region [0, 1, 2, 7] fun R hR => ?_   -- r3
        simp only [go_sem, hx]
        try simp (disch := omega) only [wrapI, wrapU]
        refine hR _ _ ?_; clear hR R
        try simp only [go_sem, hx]
        refine ⟨i + 1, ?_, by (try simp only []); omega, ?_⟩
        · first | exact Weak.refl | exact Weak.eq (by first | rfl | (simp only [go_sem]; done) | (simp only [go_sem]; rfl) | (simp [go_sem]; done) | (simp [go_sem]; omega)) (by first | rfl | (simp only [go_sem]; done) | (simp [go_sem]; done))
        · try dsimp only
          exact ⟨hi', by simp_all⟩
    · simp only [go_sem, hx]
      refine GWant_split (fun g1 => ?_) (fun g1 => ?_)
      · try simp only [Bool.not_eq_true', Bool.not_eq_false'] at g1
        have n1 := g1; try simp only [nrm] at n1
        simp only [go_sem, hx, g1]
        refine hR _ ?_
        all_goals try simp only [go_sem, hx]
        all_goals
          first | (simp [isA, *]; done) | (simp_all [isA]; done)
      · try simp only [Bool.not_eq_true', Bool.not_eq_false'] at g1
        have n1 := g1; try simp only [nrm] at n1
        simp only [go_sem, hx, g1]
        refine hR _ ?_
        all_goals try simp only [go_sem, hx]
        all_goals
          first | (simp [isA, *]; done) | (simp_all [isA]; done)
  · -- c1 false
    try simp only [nrm] at c1
    have hdrop : l.drop i = [] := List.drop_eq_nil_of_le (by omega)
    rw [hdrop, List.any_nil] at hinv
    refine W_exit ?_
    simp only [go_sem]
    refine kq2 _ _ ?_
    refine W_seq fun kz9 kq9 => ?_
    refine W_region [6] fun R hR => ?_   -- r6
    simp only [go_sem]
    refine hR _ _ (kq9 _ _ ?_); clear hR R; try clear kq9 kz9
    try simp only [go_sem]
    refine W_ret ?_
    simp only [go_sem]
    refine ⟨.inr (by trivial), ?_⟩
    first | refine Fin_same hcl rfl (Wk_eq ?_ (by simp only [go_sem])) | refine Fin_self hcl rfl (Wk_eq ?_ (by simp only [go_sem]))
    try simp only [go_sem]
    all_goals
      first | rfl | (simp_all; done) | (simp_all; omega)
set_option maxHeartbeats 2000000 in
theorem rEq_pc (Y : YEnv) (σ : Sg) (xs ys : List Int) (o o2 : Own) (hx : xs.length < 2 ^ 50) (hy : ys.length < 2 ^ 50) :
    PC Tryz.prog Y 114 [intsO o xs, intsO o2 ys] σ (.bool (decide (xs = ys))) (σ) := by
  refine PC_of_W Tryz.func114 rfl (by kernel_rfl) Tryz.ntmps114 (by simp) fun hcl hca => ?_
  obtain ⟨res, hres⟩ : ∃ r, decide (xs = ys) = r := ⟨_, rfl⟩
  rw [hres]
  refine W_seq fun kz1 kq1 => ?_
  refine W_region [0, 1] fun R hR => ?_   -- r0
  simp only [go_sem]
  refine hR _ _ (kq1 _ _ ?_); clear hR R; try clear kq1 kz1
  try simp only [go_sem]
  refine W_seq fun kz2 kq2 => ?_
  refine W_seq fun kz3 kq3 => ?_
  refine W_region [0, 1, 5] fun R hR => ?_   -- r1
  simp only [go_sem]
  refine hR _ _ (kq3 _ _ ?_); clear hR R; try clear kq3 kz3
  try simp only [go_sem]
  refine W_block ?_
  refine W_loopS (α := Nat) (fun (i : Nat) => [(5, I i)]) (fun (i : Nat) => i ≤ xs.length ∧ i ≤ ys.length ∧ res = decide (xs.drop i = ys.drop i)) (fun (i : Nat) => xs.length - i) (0) rfl (⟨Nat.zero_le _, Nat.zero_le _, by rw [← hres]; rfl⟩) ?_
  rintro i ⟨hi, hi2, hinv⟩
  refine W_seq fun kz4 kq4 => ?_
  refine W_seq fun kz5 kq5 => ?_
  refine W_regionJ [0, 1, 5, 15] [(15, .bool (decide (i < xs.length) && decide (i < ys.length)))] ?_ fun R hR => ?_   -- r2
  · refine kq5 _ _ ?_
    simp only [go_sem]
    refine W_cond rfl (fun c1 => ?_) (fun c1 => ?_)
    · -- c1 true
      try simp only [nrm] at c1
      have hb' : i < xs.length ∧ i < ys.length := by simpa using c1
      have hi' := hb'.1
      obtain ⟨x, hx⟩ : ∃ x, xs[i]? = some x := ⟨xs[i], by simp [hi']⟩
      obtain ⟨y, hy⟩ : ∃ y, ys[i]? = some y := ⟨ys[i]'(by omega), by simp⟩
      have d1 : xs.drop i = x :: xs.drop (i + 1) := by
        rw [List.drop_eq_getElem_cons hi']; congr 1; exact (List.getElem?_eq_some_iff.1 hx).2
      have d2 : ys.drop i = y :: ys.drop (i + 1) := by
        rw [List.drop_eq_getElem_cons (by omega)]; congr 1; exact (List.getElem?_eq_some_iff.1 hy).2
      rw [d1, d2] at hinv
      refine W_skip (kq4 _ _ ?_)
      refine W_seq fun kz6 kq6 => ?_
      refine W_block ?_
      refine W_seq fun kz7 kq7 => ?_
      refine W_draw [0, 1, 5, 26] [0, 1, 2, 3, 4, 5, 6, 7, 8] [] [[], [], [0, 1], [0, 1, 2], [], [], [4, 5], [4, 5, 6], [0, 1, 2, 3, 4, 5, 6, 7]] mixed (by kernel_rfl) fun R hR => ?_   -- r4
      simp only [go_sem, hx, hy]
      try refine And.intro (by repeat' (first | refine And.intro ?_ ?_ | exact GOr_right (fun _ => by simp only [go_sem, hx, hy]))) ?_
      refine hR _ _ (kq7 _ _ ?_); clear hR R; try clear kq7 kz7
      try simp only [go_sem, hx, hy]
      refine W_cond rfl (fun c2 => ?_) (fun c2 => ?_)
      · -- c2 true
        try simp only [nrm] at c2
        refine W_seq fun kz8 kq8 => ?_
        refine W_region [4] fun R hR => ?_   -- r5
        simp only [go_sem, hx, hy]
        refine hR _ _ (kq8 _ _ ?_); clear hR R; try clear kq8 kz8
        try simp only [go_sem, hx, hy]
        refine W_ret ?_
        simp only [go_sem, hx, hy]
        refine ⟨.inr (by trivial), ?_⟩
        first | refine Fin_same hcl rfl (Wk_eq ?_ (by simp only [go_sem])) | refine Fin_self hcl rfl (Wk_eq ?_ (by simp only [go_sem]))
        try simp only [go_sem]
        all_goals
          first | (rw [hinv]; simp_all; done) | (rw [hinv]; congr 1; rw [Bool.eq_iff_iff]; simp; done) | (rw [hinv]; congr 1; rw [Bool.eq_iff_iff]; simp; omega) | (simp_all; done)
      · -- c2 false
        try simp only [nrm] at c2
        refine W_skip (kq6 _ _ ?_)
        refine W_region [0, 1, 5] fun R hR => ?_   -- r3
        simp only [go_sem, hx, hy]
        try simp (disch := omega) only [wrapI, wrapU]
        refine hR _ _ ?_; clear hR R
        try simp only [go_sem, hx, hy]
        refine ⟨i + 1, ?_, by (try simp only []); omega, ?_⟩
        · first | exact Weak.refl | exact Weak.eq (by first | rfl | (simp only [go_sem]; done) | (simp only [go_sem]; rfl) | (simp [go_sem]; done) | (simp [go_sem]; omega)) (by first | rfl | (simp only [go_sem]; done) | (simp [go_sem]; done))
        · try dsimp only
          refine ⟨by omega, by omega, ?_⟩
          rw [hinv]; simp_all
    · -- c1 false
      try simp only [nrm] at c1
      have hb' : ¬ (i < xs.length ∧ i < ys.length) := by simpa using c1
      have hll : decide (xs.drop i = ys.drop i) = decide (xs.length = ys.length) := by
        by_cases e : i = xs.length
        · rw [List.drop_eq_nil_of_le (by omega)]
          by_cases e2 : i = ys.length
          · rw [List.drop_eq_nil_of_le (by omega)]; simp; omega
          · have : ys.drop i ≠ [] := fun h => by rw [List.drop_eq_nil_iff] at h; omega
            rw [decide_eq_false (fun h => this h.symm), decide_eq_false (by omega)]
        · have : xs.drop i ≠ [] := fun h => by rw [List.drop_eq_nil_iff] at h; omega
          rw [show ys.drop i = [] from List.drop_eq_nil_of_le (by omega), decide_eq_false this, decide_eq_false (by omega)]
      rw [hll] at hinv
      refine W_exit ?_
      simp only [go_sem]
      refine kq2 _ _ ?_
      refine W_seq fun kz9 kq9 => ?_
      refine W_region [4] fun R hR => ?_   -- r6
      simp only [go_sem]
      refine hR _ _ (kq9 _ _ ?_); clear hR R; try clear kq9 kz9
      try simp only [go_sem]
      refine W_ret ?_
      simp only [go_sem]
      refine ⟨.inr (by trivial), ?_⟩
      first | refine Fin_same hcl rfl (Wk_eq ?_ (by simp only [go_sem])) | refine Fin_self hcl rfl (Wk_eq ?_ (by simp only [go_sem]))
      try simp only [go_sem]
      all_goals
        first | (rw [hinv]; simp_all; done) | (rw [hinv]; congr 1; rw [Bool.eq_iff_iff]; simp; done) | (rw [hinv]; congr 1; rw [Bool.eq_iff_iff]; simp; omega) | (simp_all; done)
  · simp only [go_sem]
    refine GWant_split (fun g1 => ?_) (fun g1 => ?_)
    · try simp only [Bool.not_eq_true', Bool.not_eq_false'] at g1
      have n1 := g1; try simp only [nrm] at n1
      simp only [go_sem, g1]
      refine hR _ ?_
      all_goals try simp only [go_sem]
      all_goals
        first | (simp [*]; done) | (simp_all; done)
    · try simp only [Bool.not_eq_true', Bool.not_eq_false'] at g1
      have n1 := g1; try simp only [nrm] at n1
      simp only [go_sem, g1]
      refine hR _ ?_
      all_goals try simp only [go_sem]
      all_goals
        first | (simp [*]; done) | (simp_all; done)
set_option maxHeartbeats 4000000 in
theorem rOpen_pc (Y : YEnv) (σ : Sg) (s : Scale) (l : List Envl) (hv : s.V) (hl : l.length < 2 ^ 40) (hm : ∀ x, x ∈ l → x.marks.length < 2 ^ 40) :
    PC Tryz.prog Y 95 [scPV s, evs l] σ (I (rOpen s l)) (σ) := by
  refine PC_of_W Tryz.func95 rfl (by kernel_rfl) Tryz.ntmps95 (by simp) fun hcl hca => ?_
  have q1 := hv.mt
  have q2 := hv.jd
  have q3 := hv.sc
  have q4 := hv.lo
  have q5 := hv.hi
  obtain ⟨res, hres⟩ : ∃ r, rOpen s l = r := ⟨_, rfl⟩
  rw [hres]
  unfold rOpen at hres
  refine W_seq fun kz1 kq1 => ?_
  refine W_region [1, 2] fun R hR => ?_   -- r0
  simp only [go_sem]
  refine hR _ _ (kq1 _ _ ?_); clear hR R; try clear kq1 kz1
  try simp only [go_sem]
  refine W_seq fun kz2 kq2 => ?_
  refine W_seq fun kz3 kq3 => ?_
  refine W_region [1, 2, 11] fun R hR => ?_   -- r1
  simp only [go_sem]
  refine hR _ _ (kq3 _ _ ?_); clear hR R; try clear kq3 kz3
  try simp only [go_sem]
  refine W_cond rfl (fun c1 => ?_) (fun c1 => ?_)
  · -- c1 true
    try simp only [nrm] at c1
    refine W_seq fun kz4 kq4 => ?_
    refine W_region [4] fun R hR => ?_   -- r2
    simp only [go_sem]
    refine hR _ _ (kq4 _ _ ?_); clear hR R; try clear kq4 kz4
    try simp only [go_sem]
    refine W_ret ?_
    simp only [go_sem]
    refine ⟨.inr (by trivial), ?_⟩
    first | refine Fin_same hcl rfl (Wk_eq ?_ (by simp only [go_sem])) | refine Fin_self hcl rfl (Wk_eq ?_ (by simp only [go_sem]))
    try simp only [go_sem]
    all_goals
      rw [← hres, if_pos (by omega)]
  · -- c1 false
    try simp only [nrm] at c1
    rw [if_neg (by omega)] at hres
    refine W_skip (kq2 _ _ ?_)
    refine W_seq fun kz5 kq5 => ?_
    refine W_seq fun kz6 kq6 => ?_
    refine W_region [1, 2, 5] fun R hR => ?_   -- r3
    simp only [go_sem]
    refine hR _ _ (kq6 _ _ ?_); clear hR R; try clear kq6 kz6
    try simp only [go_sem]
    refine W_block ?_
    refine W_loopS (α := Nat × Kn) (fun ⟨i, kk⟩ => [(5, I i)]) (fun ⟨i, kk⟩ => i ≤ l.length ∧ KAs kk (l.take i) ∧ res = (openK s (l.drop i) kk).1) (fun ⟨i, kk⟩ => l.length - i) ((0, [])) rfl (⟨Nat.zero_le _, (fun j => rfl), hres.symm⟩) ?_
    rintro ⟨i, kk⟩ ⟨hi, hka, hinv⟩
    refine W_seq fun kz7 kq7 => ?_
    refine W_seq fun kz8 kq8 => ?_
    refine W_region [1, 2, 5, 15] fun R hR => ?_   -- r4
    simp only [go_sem]
    refine hR _ _ (kq8 _ _ ?_); clear hR R; try clear kq8 kz8
    try simp only [go_sem]
    refine W_cond rfl (fun c2 => ?_) (fun c2 => ?_)
    · -- c2 true
      try simp only [nrm] at c2
      have hi' : i < l.length := by first | assumption | omega
      obtain ⟨x, hx⟩ : ∃ x, l[i]? = some x := ⟨l[i], by simp [hi']⟩
      have hdrop : l.drop i = x :: l.drop (i + 1) := by
        rw [List.drop_eq_getElem_cons hi']; congr 1; exact (List.getElem?_eq_some_iff.1 hx).2
      have hxl : x ∈ l := List.mem_of_getElem? hx
      rw [hdrop, openK_step hka] at hinv
      refine W_skip (kq7 _ _ ?_)
      refine W_seq fun kz9 kq9 => ?_
      refine W_block ?_
      refine W_seq fun kz10 kq10 => ?_
      refine W_seq fun kz11 kq11 => ?_
      refine W_draw [1, 2, 5, 6] [0, 1, 2, 3, 4, 5, 6, 7, 8, 9, 10, 11, 12] [] [[], [], [], [1, 2], [1, 2, 3], [1, 2, 3, 4], [], [], [6, 7], [6, 7, 8], [6, 7, 8, 9], [0, 1, 2, 3, 4, 5, 6, 7, 8, 9, 10], [0, 1, 2, 3, 4, 5, 6, 7, 8, 9, 10, 11]] mixed (by kernel_rfl) fun R hR => ?_   -- r6
      simp only [go_sem, hx]
      refine GCall_of (rJudge_pc Y _ s x.matter x.judge hv) ?_   -- t29
      simp only [go_sem, hx]
      try refine And.intro (by repeat' (first | refine And.intro ?_ ?_ | exact GOr_right (fun _ => by simp only [go_sem, hx]))) ?_
      refine hR _ _ (kq11 _ _ ?_); clear hR R; try clear kq11 kz11
      try simp only [go_sem, hx]
      refine W_seq fun kz12 kq12 => ?_
      refine W_region [1, 2, 5, 6, 31] fun R hR => ?_   -- r7
      simp only [go_sem, hx]
      refine hR _ _ (kq12 _ _ ?_); clear hR R; try clear kq12 kz12
      try simp only [go_sem, hx]
      refine W_cond rfl (fun c3 => ?_) (fun c3 => ?_)
      · -- c3 true
        try simp only [nrm] at c3
        refine W_seq fun kz13 kq13 => ?_
        refine W_region [4] fun R hR => ?_   -- r8
        simp only [go_sem, hx]
        refine hR _ _ (kq13 _ _ ?_); clear hR R; try clear kq13 kz13
        try simp only [go_sem, hx]
        refine W_ret ?_
        simp only [go_sem, hx]
        refine ⟨.inr (by trivial), ?_⟩
        first | refine Fin_same hcl rfl (Wk_eq ?_ (by simp only [go_sem])) | refine Fin_self hcl rfl (Wk_eq ?_ (by simp only [go_sem]))
        try simp only [go_sem]
        all_goals
          rw [hinv]; simp [jdE, c3]
      · -- c3 false
        try simp only [nrm] at c3
        refine W_skip (kq10 _ _ ?_)
        refine W_seq fun kz14 kq14 => ?_
        refine W_seq fun kz15 kq15 => ?_
        refine W_draw [1, 2, 5, 7] [0, 1, 2, 3, 4, 5, 6, 7] [] [[], [], [], [1, 2], [1, 2, 3], [1, 2, 3, 4], [0, 1, 2, 3, 4, 5], [0, 1, 2, 3, 4, 5, 6]] mixed (by kernel_rfl) fun R hR => ?_   -- r9
        simp only [go_sem, hx]
        refine GCall_of (rMarks_pc Y _ s x.marks .ro (hm x hxl)) ?_   -- t39
        simp only [go_sem, hx]
        try refine And.intro (by repeat' (first | refine And.intro ?_ ?_ | exact GOr_right (fun _ => by simp only [go_sem, hx]))) ?_
        refine hR _ _ (kq15 _ _ ?_); clear hR R; try clear kq15 kz15
        try simp only [go_sem, hx]
        refine W_seq fun kz16 kq16 => ?_
        refine W_region [1, 2, 5, 7, 41] fun R hR => ?_   -- r10
        simp only [go_sem, hx]
        refine hR _ _ (kq16 _ _ ?_); clear hR R; try clear kq16 kz16
        try simp only [go_sem, hx]
        refine W_cond rfl (fun c4 => ?_) (fun c4 => ?_)
        · -- c4 true
          try simp only [nrm] at c4
          refine W_seq fun kz17 kq17 => ?_
          refine W_region [4] fun R hR => ?_   -- r11
          simp only [go_sem, hx]
          refine hR _ _ (kq17 _ _ ?_); clear hR R; try clear kq17 kz17
          try simp only [go_sem, hx]
          refine W_ret ?_
          simp only [go_sem, hx]
          refine ⟨.inr (by trivial), ?_⟩
          first | refine Fin_same hcl rfl (Wk_eq ?_ (by simp only [go_sem])) | refine Fin_self hcl rfl (Wk_eq ?_ (by simp only [go_sem]))
          try simp only [go_sem]
          all_goals
            rw [hinv]; simp [jdE, c3, c4]
        · -- c4 false
          try simp only [nrm] at c4
          have hmk : marked s (jdE x) x.marks = 0 := by rw [marked_r]; simp [jdE, c3, c4]
          obtain ⟨k1, k2, k3⟩ := marked_ok hmk
          simp only [ofSc_true, jdE] at k1
          have hfa := findE_at hx
          obtain ⟨ki, yy, hki1, hki2, hkf⟩ : ∃ (ki : Nat) (yy : Envl), fIdx (isJ x.matter x.judge) 0 l = (ki : Int) ∧ l[ki]? = some yy ∧ findE l (jdE x) = some yy.marks := by
            rcases fIdx_find (a := x.matter) (b := x.judge) (l := l) (p := 0) with ⟨_, h⟩ | ⟨i2, y2, h1, h2, _, h3⟩
            · have : findE l (jdE x) = none := h
              rw [hfa] at this; cases this
            · exact ⟨i2, y2, by rw [h1, Nat.zero_add], h2, h3⟩
          have hyy : (findE (l.take i) (jdE x)).getD x.marks = yy.marks := by rw [hfa] at hkf; exact Option.some.inj hkf
          rw [hyy] at hinv
          simp only [jdE] at hinv
          refine W_skip (kq14 _ _ ?_)
          refine W_seq fun kz18 kq18 => ?_
          refine W_seq fun kz19 kq19 => ?_
          refine W_draw [1, 2, 5, 64] [0, 1, 2, 3, 4, 5, 6, 7, 8, 9, 10, 11, 12, 13, 14, 15, 16, 17, 18, 19, 20, 21] [(0, 22), (1, 22), (2, 22), (3, 22), (4, 22)] [[], [], [0, 1], [0, 1, 2], [0, 1, 2, 3], [], [], [5, 6], [5, 6, 7], [5, 6, 7, 8], [], [], [10, 11], [10, 11, 12], [10, 11, 12, 13], [], [], [15, 16], [15, 16, 17], [15, 16, 17, 18], [5, 6, 7, 8, 9, 10, 11, 12, 13, 14, 15, 16, 17, 18, 19], [0, 1, 2, 3, 4, 5, 6, 7, 8, 9, 10, 11, 12, 13, 14, 15, 16, 17, 18, 19, 20]] mixed (by kernel_rfl) fun R hR => ?_   -- r12
          simp only [go_sem, hx]
          refine GCall_of (rseal_pc Y _ x.matter x.judge x.marks .ro (by omega) (by omega) (by omega) (fun z hz => by have := k3 z hz; omega)) ?_   -- t63
          simp only [go_sem, hx]
          try refine And.intro (by repeat' (first | refine And.intro ?_ ?_ | exact GOr_right (fun _ => by simp only [go_sem, hx]))) ?_
          refine hR _ _ (kq19 _ _ ?_); clear hR R; try clear kq19 kz19
          try simp only [go_sem, hx]
          refine W_cond rfl (fun c5 => ?_) (fun c5 => ?_)
          · -- c5 true
            try simp only [nrm] at c5
            refine W_seq fun kz20 kq20 => ?_
            refine W_region [4] fun R hR => ?_   -- r13
            simp only [go_sem, hx]
            refine hR _ _ (kq20 _ _ ?_); clear hR R; try clear kq20 kz20
            try simp only [go_sem, hx]
            refine W_ret ?_
            simp only [go_sem, hx]
            refine ⟨.inr (by trivial), ?_⟩
            first | refine Fin_same hcl rfl (Wk_eq ?_ (by simp only [go_sem])) | refine Fin_self hcl rfl (Wk_eq ?_ (by simp only [go_sem]))
            try simp only [go_sem]
            all_goals
              rw [hinv]; simp [jdE, c3, c4, c5]
          · -- c5 false
            try simp only [nrm] at c5
            refine W_skip (kq18 _ _ ?_)
            refine W_seq fun kz21 kq21 => ?_
            refine W_draw [1, 2, 5, 8] [0, 1, 2, 3, 4, 5, 6, 7, 8, 9, 10, 11, 12] [] [[], [], [], [1, 2], [1, 2, 3], [1, 2, 3, 4], [], [], [6, 7], [6, 7, 8], [6, 7, 8, 9], [0, 1, 2, 3, 4, 5, 6, 7, 8, 9, 10], [0, 1, 2, 3, 4, 5, 6, 7, 8, 9, 10, 11]] mixed (by kernel_rfl) fun R hR => ?_   -- r14
            simp only [go_sem, hx]
            refine GCall_of (PC.val (v' := I (ki : Int)) (rFind_pc Y _ l x.matter x.judge (by omega)) (by rw [hki1])) ?_   -- t76
            simp only [go_sem, hx]
            try refine And.intro (by repeat' (first | refine And.intro ?_ ?_ | exact GOr_right (fun _ => by simp only [go_sem, hx]))) ?_
            refine hR _ _ (kq21 _ _ ?_); clear hR R; try clear kq21 kz21
            try simp only [go_sem, hx]
            refine W_seq fun kz22 kq22 => ?_
            refine W_draw [1, 2, 5, 88] [0, 1, 2, 3, 4, 5, 6, 7, 8, 9, 10, 11] [] [[], [], [0, 1], [0, 1, 2], [0, 1, 2, 3], [], [], [5, 6], [5, 6, 7], [5, 6, 7, 8], [0, 1, 2, 3, 4, 5, 6, 7, 8, 9], [0, 1, 2, 3, 4, 5, 6, 7, 8, 9, 10]] mixed (by kernel_rfl) fun R hR => ?_   -- r15
            simp only [go_sem, hx, hki2]
            refine GCall_of (rEq_pc Y _ yy.marks x.marks .ro .ro (by have := hm yy (List.mem_of_getElem? hki2); omega) (by have := hm x hxl; omega)) ?_   -- t87
            simp only [go_sem, hx, hki2]
            try refine And.intro (by repeat' (first | refine And.intro ?_ ?_ | exact GOr_right (fun _ => by simp only [go_sem, hx, hki2]))) ?_
            refine hR _ _ (kq22 _ _ ?_); clear hR R; try clear kq22 kz22
            try simp only [go_sem, hx]
            refine W_cond rfl (fun c6 => ?_) (fun c6 => ?_)
            · -- c6 true
              try simp only [nrm] at c6
              refine W_seq fun kz23 kq23 => ?_
              refine W_region [4] fun R hR => ?_   -- r16
              simp only [go_sem, hx]
              refine hR _ _ (kq23 _ _ ?_); clear hR R; try clear kq23 kz23
              try simp only [go_sem, hx]
              refine W_ret ?_
              simp only [go_sem, hx]
              refine ⟨.inr (by trivial), ?_⟩
              first | refine Fin_same hcl rfl (Wk_eq ?_ (by simp only [go_sem])) | refine Fin_self hcl rfl (Wk_eq ?_ (by simp only [go_sem]))
              try simp only [go_sem]
              all_goals
                have hyx : yy.marks ≠ x.marks := by simpa using c6
                rw [hinv]; simp [jdE, c3, c4, c5, hyx]
            · -- c6 false
              try simp only [nrm] at c6
              have hyx : yy.marks = x.marks := by simpa using c6
              refine W_skip (kq9 _ _ ?_)
              refine W_region [1, 2, 5] fun R hR => ?_   -- r5
              simp only [go_sem, hx]
              try simp (disch := omega) only [wrapI, wrapU]
              refine hR _ _ ?_; clear hR R
              try simp only [go_sem, hx]
              refine ⟨(i + 1, aput (jdE x) x.marks kk), ?_, by (try simp only []); omega, ?_⟩
              · first | exact Weak.refl | exact Weak.eq (by first | rfl | (simp only [go_sem]; done) | (simp only [go_sem]; rfl) | (simp [go_sem]; done) | (simp [go_sem]; omega)) (by first | rfl | (simp only [go_sem]; done) | (simp [go_sem]; done))
              · try dsimp only
                refine ⟨hi', hka.next hx (by rw [hyy, hyx]), ?_⟩
                rw [hinv]; simp [jdE, c3, c4, c5, hyx]
    · -- c2 false
      try simp only [nrm] at c2
      have hdrop : l.drop i = [] := List.drop_eq_nil_of_le (by omega)
      rw [hdrop] at hinv
      simp only [openK] at hinv
      refine W_exit ?_
      simp only [go_sem]
      refine kq5 _ _ ?_
      refine W_seq fun kz24 kq24 => ?_
      refine W_region [4] fun R hR => ?_   -- r17
      simp only [go_sem]
      refine hR _ _ (kq24 _ _ ?_); clear hR R; try clear kq24 kz24
      try simp only [go_sem]
      refine W_ret ?_
      simp only [go_sem]
      refine ⟨.inr (by trivial), ?_⟩
      first | refine Fin_same hcl rfl (Wk_eq ?_ (by simp only [go_sem])) | refine Fin_self hcl rfl (Wk_eq ?_ (by simp only [go_sem]))
      try simp only [go_sem]
      all_goals
        rw [hinv]
end Go.Proofs.YtgelnjmddabgpaaGreat
namespace Go.Proofs.YtgelnjmddabgpaaGreat
open Go Go.RowKit
set_option maxRecDepth 100000
theorem fIdx_neg {a b : Int} {l : List Envl} : (0 ≤ fIdx (isJ a b) 0 l) ↔ findE l (a, b) ≠ none := by
  rcases fIdx_find (a := a) (b := b) (l := l) (p := 0) with ⟨h1, h2⟩ | ⟨i, x, h1, _, _, h2⟩
  · rw [h1, h2]; simp
  · rw [h1, h2]; simp
theorem any_isA {l : List (Int × Int)} {a b : Int} : l.any (isA a b) = true ↔ (a, b) ∈ l := by
  rw [List.any_eq_true]
  constructor
  · rintro ⟨x, h1, h2⟩; rw [isA_iff] at h2; rw [← h2]; exact h1
  · intro h; exact ⟨_, h, isA_iff.2 rfl⟩
def absL (s : Scale) (op : List Envl) : List (Int × Int) → Int
  | [] => 0
  | j :: r => if rJudge s j ≠ 0 then rJudge s j else if findE op j ≠ none then 10 else absL s op r
theorem absL_missK {s : Scale} {op : List Envl} : ∀ {l : List (Int × Int)} {k : Kn}, (∀ j, (aget j k).getD [] ≠ [] ↔ findE op j ≠ none) → absL s op l = (missK s l k).1 := by
  intro l
  induction l with
  | nil => intro k _; rfl
  | cons j l ih =>
    intro k h
    simp only [absL, missK]
    have hr : rJudge s j = if ofSc s j then 0 else 7 := rfl
    by_cases h1 : ofSc s j = true
    · rw [hr, h1]
      simp only [if_true, ne_eq, not_true_eq_false, if_false, Bool.not_true, Bool.false_eq_true]
      by_cases h2 : findE op j = none
      · have h3 : (aget j k).getD [] = [] := Classical.not_not.1 fun e => (h j).1 e h2
        rw [if_neg (by simp [h2]), if_neg (by simp [h3])]
        refine ih fun j' => ?_
        rw [aget_put]
        by_cases e : j' = j
        · subst e; rw [if_pos rfl]; simp [h2]
        · rw [if_neg e]; exact h j'
      · have h3 := (h j).2 h2
        rw [if_pos h2, if_pos h3]
    · have e : ofSc s j = false := by simpa using h1
      rw [hr, e]
      simp
def presN (n : Night) (J : Nat) (m : Int) : Nat := cnt J fun q => !(n.absent.any (isA m q))
def shN (s : Scale) (n : Night) : Bool := (List.range s.matters.toNat).any fun m => decide (presN n s.judges.toNat m = 0)
def rAbsE (s : Scale) (n : Night) : Int := if 60 < (n.absent.length : Int) then 5 else if absL s n.opened n.absent ≠ 0 then absL s n.opened n.absent else if shN s n = true then 4 else 0
def rNightE (s : Scale) (n : Night) : Int := if rOpen s n.opened ≠ 0 then rOpen s n.opened else if rAbsE s n ≠ 0 then rAbsE s n else if 10 < (n.fines.length : Int) then 5 else finesR s n.fines
theorem presN_zero {n : Night} {J : Nat} {m : Int} : presN n J m = 0 ↔ ∀ q : Nat, q < J → (m, (q : Int)) ∈ n.absent := by
  unfold presN cnt
  rw [List.length_eq_zero_iff, List.filter_eq_nil_iff]
  constructor
  · intro h q hq
    have := h q (List.mem_range.2 hq)
    exact any_isA.1 (by simpa using this)
  · intro h q hq
    have := any_isA.2 (h q (List.mem_range.1 hq))
    simp [this]
theorem shN_shortK {s : Scale} {n : Night} {k : Kn} (hk : ∀ j, absentK k j = true ↔ j ∈ n.absent) : shN s n = shortK s k := by
  rw [Bool.eq_iff_iff]
  unfold shN shortK
  simp only [List.any_eq_true, List.all_eq_true, decide_eq_true_eq, presN_zero, hk, List.mem_range]
  constructor
  · rintro ⟨m, h1, h2⟩
    refine ⟨m, mem_toI.2 (by omega), fun q hq => ?_⟩
    have := mem_toI.1 hq
    obtain ⟨p, rfl⟩ : ∃ p : Nat, q = p := ⟨q.toNat, by omega⟩
    exact h2 p (by omega)
  · rintro ⟨m, h1, h2⟩
    have := mem_toI.1 h1
    obtain ⟨p, rfl⟩ : ∃ p : Nat, m = p := ⟨m.toNat, by omega⟩
    exact ⟨p, by omega, fun q hq => h2 q (mem_toI.2 (by omega))⟩
theorem rNight_known {s : Scale} {n : Night} (hc : chkSc s = 0) : rNightE s n = knownE s n := by
  have hv := Scale.v hc
  unfold rNightE knownE rOpen rAbsE finesE
  rw [if_neg (show ¬ chkSc s ≠ 0 by simp [hc])]
  by_cases c2 : 60 < (n.opened.length : Int)
  · simp [c2]
  rw [if_neg c2, if_neg (show ¬ (n.opened.length : Int) > 60 from c2)]
  by_cases c3 : (openK s n.opened []).1 = 0
  · simp only [c3, ne_eq, not_true_eq_false, if_false, gt_iff_lt]
    obtain ⟨o1, o2, _⟩ := openK_zero.1 c3
    have hg := openK_get c3
    by_cases c4 : 60 < (n.absent.length : Int)
    · simp [c4]
    simp only [c4, if_false]
    have hab : absL s n.opened n.absent = (missK s n.absent (openK s n.opened []).2).1 := absL_missK fun j => by
      rw [hg j]
      cases hf : findE n.opened j with
      | none => simp [aget]
      | some v =>
        obtain ⟨x, h1, _, rfl⟩ := findE_some hf
        simp [(o1 x h1).ne hv]
    rw [hab]
    by_cases c5 : (missK s n.absent (openK s n.opened []).2).1 = 0
    · simp only [c5, not_true_eq_false, if_false]
      have hk : ∀ j, absentK (knownK s n) j = true ↔ j ∈ n.absent := fun j => by
        rw [absentK_iff, pre_get c3 c5]
        refine kOf_nil hv o1 (fun j hj x hx e => ?_) j
        have := (missK_zero.1 c5 j hj).2
        rw [hg j, ← e, findE_mem o2 hx] at this
        simp at this
        exact (o1 x hx).ne hv this
      rw [shN_shortK hk]
      by_cases c6 : shortK s (knownK s n) = true
      · simp [c6]
      · simp [c6]
    · simp [c5]
  · simp [c3]
def rCkE (s : Scale) (n : Night) : Int := if chkSc s ≠ 0 then chkSc s else rNightE s n
theorem rCk_known (s : Scale) (n : Night) : rCkE s n = knownE s n := by
  unfold rCkE
  by_cases h : chkSc s = 0
  · rw [if_neg (by simp [h])]; exact rNight_known h
  · rw [if_pos h]; unfold knownE; rw [if_pos h]
set_option maxHeartbeats 2000000 in
theorem rPres_pc (Y : YEnv) (σ : Sg) (s : Scale) (n : Night) (m : Int) (J : Nat) (hJ : s.judges = J) (hJ8 : J < 2 ^ 40) (ha : n.absent.length < 2 ^ 40) :
    PC Tryz.prog Y 115 [scPV s, ngPV n, I m] σ (I (presN n J m)) (σ) := by
  refine PC_of_W Tryz.func115 rfl (by kernel_rfl) Tryz.ntmps115 (by simp) fun hcl hca => ?_
  have hJi : (s.judges : Int) = (J : Int) := hJ
  refine W_seq fun kz1 kq1 => ?_
  refine W_region [2, 3, 4] fun R hR => ?_   -- r0
  simp only [go_sem]
  refine hR _ _ (kq1 _ _ ?_); clear hR R; try clear kq1 kz1
  try simp only [go_sem]
  refine W_seq fun kz2 kq2 => ?_
  refine W_region [2, 3, 4, 7] fun R hR => ?_   -- r1
  simp only [go_sem]
  refine hR _ _ (kq2 _ _ ?_); clear hR R; try clear kq2 kz2
  try simp only [go_sem]
  refine W_seq fun kz3 kq3 => ?_
  refine W_seq fun kz4 kq4 => ?_
  refine W_region [2, 3, 4, 7, 8] fun R hR => ?_   -- r2
  simp only [go_sem]
  refine hR _ _ (kq4 _ _ ?_); clear hR R; try clear kq4 kz4
  try simp only [go_sem]
  refine W_block ?_
  refine W_loopS (α := Nat × Nat) (fun ⟨i, c⟩ => [(7, I c), (8, I i)]) (fun ⟨i, c⟩ => i ≤ J ∧ c = presN n i m) (fun ⟨i, c⟩ => J - i) ((0, 0)) rfl (⟨Nat.zero_le _, rfl⟩) ?_
  rintro ⟨i, c⟩ ⟨hi, hc⟩
  refine W_seq fun kz5 kq5 => ?_
  refine W_seq fun kz6 kq6 => ?_
  refine W_region [2, 3, 4, 7, 8, 12] fun R hR => ?_   -- r3
  simp only [go_sem]
  refine hR _ _ (kq6 _ _ ?_); clear hR R; try clear kq6 kz6
  try simp only [go_sem]
  refine W_cond rfl (fun c1 => ?_) (fun c1 => ?_)
  · -- c1 true
    try simp only [nrm] at c1
    have hiJ : i < J := by first | omega | (simp at c1; omega)
    have hcs := cnt_succ i fun q => !(n.absent.any (isA m q))
    have hcl := cnt_le i fun q => !(n.absent.any (isA m q))
    have hcb : c ≤ i := by rw [hc]; exact hcl
    refine W_skip (kq5 _ _ ?_)
    refine W_seq fun kz7 kq7 => ?_
    refine W_block ?_
    refine W_seq fun kz8 kq8 => ?_
    refine W_region [2, 3, 4, 7, 8, 20] fun R hR => ?_   -- r5
    simp only [go_sem]
    refine GCall_of (rAbs_pc Y _ n.absent m i (by omega)) ?_   -- t19
    simp only [go_sem]
    refine hR _ _ (kq8 _ _ ?_); clear hR R; try clear kq8 kz8
    try simp only [go_sem]
    refine W_cond rfl (fun c2 => ?_) (fun c2 => ?_)
    · -- c2 true
      try simp only [nrm] at c2
      refine W_region [2, 3, 4, 7, 8] fun R hR => ?_   -- r6
      simp only [go_sem]
      try simp (disch := omega) only [wrapI, wrapU]
      refine hR _ _ (kq7 _ _ ?_); clear hR R; try clear kq7 kz7
      try simp only [go_sem]
      refine W_region [2, 3, 4, 7, 8] fun R hR => ?_   -- r4
      simp only [go_sem]
      try simp (disch := omega) only [wrapI, wrapU]
      refine hR _ _ ?_; clear hR R
      try simp only [go_sem]
      refine ⟨(i + 1, c + 1), ?_, by (try simp only []); omega, ?_⟩
      · first | exact Weak.refl | exact Weak.eq (by first | rfl | (simp only [go_sem]; done) | (simp only [go_sem]; rfl) | (simp [go_sem]; done) | (simp [go_sem]; omega)) (by first | rfl | (simp only [go_sem]; done) | (simp [go_sem]; done))
      · try dsimp only
        refine ⟨by omega, ?_⟩
        unfold presN at hc ⊢
        rw [hcs, ← hc]; simp_all
    · -- c2 false
      try simp only [nrm] at c2
      refine W_skip (kq7 _ _ ?_)
      refine W_region [2, 3, 4, 7, 8] fun R hR => ?_   -- r4
      simp only [go_sem]
      try simp (disch := omega) only [wrapI, wrapU]
      refine hR _ _ ?_; clear hR R
      try simp only [go_sem]
      refine ⟨(i + 1, c), ?_, by (try simp only []); omega, ?_⟩
      · first | exact Weak.refl | exact Weak.eq (by first | rfl | (simp only [go_sem]; done) | (simp only [go_sem]; rfl) | (simp [go_sem]; done) | (simp [go_sem]; omega)) (by first | rfl | (simp only [go_sem]; done) | (simp [go_sem]; done))
      · try dsimp only
        refine ⟨by omega, ?_⟩
        unfold presN at hc ⊢
        rw [hcs, ← hc]; simp_all
  · -- c1 false
    try simp only [nrm] at c1
    have hie : i = J := by first | omega | (simp at c1; omega)
    subst hie
    refine W_exit ?_
    simp only [go_sem]
    refine kq3 _ _ ?_
    refine W_seq fun kz9 kq9 => ?_
    refine W_region [6] fun R hR => ?_   -- r7
    simp only [go_sem]
    refine hR _ _ (kq9 _ _ ?_); clear hR R; try clear kq9 kz9
    try simp only [go_sem]
    refine W_ret ?_
    simp only [go_sem]
    refine ⟨.inr (by trivial), ?_⟩
    first | refine Fin_same hcl rfl (Wk_eq ?_ (by simp only [go_sem])) | refine Fin_self hcl rfl (Wk_eq ?_ (by simp only [go_sem]))
    try simp only [go_sem]
    all_goals
      rw [hc]
set_option maxHeartbeats 4000000 in
theorem rAbsE_pc (Y : YEnv) (σ : Sg) (s : Scale) (n : Night) (hv : s.V) (ho : n.opened.length < 2 ^ 40) (ha : n.absent.length < 2 ^ 40) :
    PC Tryz.prog Y 96 [scPV s, ngPV n] σ (I (rAbsE s n)) (σ) := by
  refine PC_of_W Tryz.func96 rfl (by kernel_rfl) Tryz.ntmps96 (by simp) fun hcl hca => ?_
  have q1 := hv.mt
  have q2 := hv.jd
  obtain ⟨M, hM⟩ : ∃ z : Nat, s.matters = z := ⟨s.matters.toNat, by omega⟩
  obtain ⟨J, hJ⟩ : ∃ z : Nat, s.judges = z := ⟨s.judges.toNat, by omega⟩
  have hMi : (s.matters : Int) = (M : Int) := hM
  obtain ⟨res, hres⟩ : ∃ r, rAbsE s n = r := ⟨_, rfl⟩
  rw [hres]
  unfold rAbsE at hres
  refine W_seq fun kz1 kq1 => ?_
  refine W_region [2, 3] fun R hR => ?_   -- r0
  simp only [go_sem]
  refine hR _ _ (kq1 _ _ ?_); clear hR R; try clear kq1 kz1
  try simp only [go_sem]
  refine W_seq fun kz2 kq2 => ?_
  refine W_seq fun kz3 kq3 => ?_
  refine W_region [2, 3, 12] fun R hR => ?_   -- r1
  simp only [go_sem]
  refine hR _ _ (kq3 _ _ ?_); clear hR R; try clear kq3 kz3
  try simp only [go_sem]
  refine W_cond rfl (fun c1 => ?_) (fun c1 => ?_)
  · -- c1 true
    try simp only [nrm] at c1
    refine W_seq fun kz4 kq4 => ?_
    refine W_region [4] fun R hR => ?_   -- r2
    simp only [go_sem]
    refine hR _ _ (kq4 _ _ ?_); clear hR R; try clear kq4 kz4
    try simp only [go_sem]
    refine W_ret ?_
    simp only [go_sem]
    refine ⟨.inr (by trivial), ?_⟩
    first | refine Fin_same hcl rfl (Wk_eq ?_ (by simp only [go_sem])) | refine Fin_self hcl rfl (Wk_eq ?_ (by simp only [go_sem]))
    try simp only [go_sem]
    all_goals
      rw [← hres, if_pos (by omega)]
  · -- c1 false
    try simp only [nrm] at c1
    rw [if_neg (by omega)] at hres
    refine W_skip (kq2 _ _ ?_)
    refine W_seq fun kz5 kq5 => ?_
    refine W_seq fun kz6 kq6 => ?_
    refine W_region [2, 3, 5] fun R hR => ?_   -- r3
    simp only [go_sem]
    refine hR _ _ (kq6 _ _ ?_); clear hR R; try clear kq6 kz6
    try simp only [go_sem]
    refine W_block ?_
    refine W_loopS (α := Nat) (fun (i : Nat) => [(5, I i)]) (fun (i : Nat) => i ≤ n.absent.length ∧ absL s n.opened n.absent = absL s n.opened (n.absent.drop i)) (fun (i : Nat) => n.absent.length - i) (0) rfl (⟨Nat.zero_le _, rfl⟩) ?_
    rintro i ⟨hi, hinv⟩
    refine W_seq fun kz7 kq7 => ?_
    refine W_seq fun kz8 kq8 => ?_
    refine W_region [2, 3, 5, 17] fun R hR => ?_   -- r4
    simp only [go_sem]
    refine hR _ _ (kq8 _ _ ?_); clear hR R; try clear kq8 kz8
    try simp only [go_sem]
    refine W_cond rfl (fun c2 => ?_) (fun c2 => ?_)
    · -- c2 true
      try simp only [nrm] at c2
      have hi' : i < n.absent.length := by first | assumption | omega
      obtain ⟨x, hx⟩ : ∃ x, n.absent[i]? = some x := ⟨n.absent[i], by simp [hi']⟩
      have hdrop : n.absent.drop i = x :: n.absent.drop (i + 1) := by
        rw [List.drop_eq_getElem_cons hi']; congr 1; exact (List.getElem?_eq_some_iff.1 hx).2
      rw [hdrop] at hinv
      simp only [absL] at hinv
      refine W_skip (kq7 _ _ ?_)
      refine W_seq fun kz9 kq9 => ?_
      refine W_block ?_
      refine W_seq fun kz10 kq10 => ?_
      refine W_region [2, 3, 5, 6] fun R hR => ?_   -- r6
      simp only [go_sem, hx]
      refine hR _ _ (kq10 _ _ ?_); clear hR R; try clear kq10 kz10
      try simp only [go_sem, hx]
      refine W_seq fun kz11 kq11 => ?_
      refine W_seq fun kz12 kq12 => ?_
      refine W_region [2, 3, 5, 6, 7] fun R hR => ?_   -- r7
      simp only [go_sem, hx]
      refine GCall_of (rJudge_pc Y _ s x.1 x.2 hv) ?_   -- t30
      simp only [go_sem, hx]
      refine hR _ _ (kq12 _ _ ?_); clear hR R; try clear kq12 kz12
      try simp only [go_sem, hx]
      refine W_seq fun kz13 kq13 => ?_
      refine W_region [2, 3, 5, 6, 7, 32] fun R hR => ?_   -- r8
      simp only [go_sem, hx]
      refine hR _ _ (kq13 _ _ ?_); clear hR R; try clear kq13 kz13
      try simp only [go_sem, hx]
      refine W_cond rfl (fun c3 => ?_) (fun c3 => ?_)
      · -- c3 true
        try simp only [nrm] at c3
        refine W_seq fun kz14 kq14 => ?_
        refine W_region [4] fun R hR => ?_   -- r9
        simp only [go_sem, hx]
        refine hR _ _ (kq14 _ _ ?_); clear hR R; try clear kq14 kz14
        try simp only [go_sem, hx]
        refine W_ret ?_
        simp only [go_sem, hx]
        refine ⟨.inr (by trivial), ?_⟩
        first | refine Fin_same hcl rfl (Wk_eq ?_ (by simp only [go_sem])) | refine Fin_self hcl rfl (Wk_eq ?_ (by simp only [go_sem]))
        try simp only [go_sem]
        all_goals
          rw [← hres, hinv]; simp [c3]
      · -- c3 false
        try simp only [nrm] at c3
        refine W_skip (kq11 _ _ ?_)
        refine W_seq fun kz15 kq15 => ?_
        refine W_region [2, 3, 5, 41] fun R hR => ?_   -- r10
        simp only [go_sem, hx]
        refine GCall_of (rFind_pc Y _ n.opened x.1 x.2 (by omega)) ?_   -- t40
        simp only [go_sem, hx]
        refine hR _ _ (kq15 _ _ ?_); clear hR R; try clear kq15 kz15
        try simp only [go_sem, hx]
        refine W_cond rfl (fun c4 => ?_) (fun c4 => ?_)
        · -- c4 true
          try simp only [nrm] at c4
          have hfd := fIdx_neg.1 (by first | exact c4 | exact of_decide_eq_true c4)
          refine W_seq fun kz16 kq16 => ?_
          refine W_region [4] fun R hR => ?_   -- r11
          simp only [go_sem, hx]
          refine hR _ _ (kq16 _ _ ?_); clear hR R; try clear kq16 kz16
          try simp only [go_sem, hx]
          refine W_ret ?_
          simp only [go_sem, hx]
          refine ⟨.inr (by trivial), ?_⟩
          first | refine Fin_same hcl rfl (Wk_eq ?_ (by simp only [go_sem])) | refine Fin_self hcl rfl (Wk_eq ?_ (by simp only [go_sem]))
          try simp only [go_sem]
          all_goals
            rw [← hres, hinv]; simp [c3, hfd]
        · -- c4 false
          try simp only [nrm] at c4
          have hfd : findE n.opened (x.1, x.2) = none := Classical.not_not.1 fun e => (by first | exact c4 | exact of_decide_eq_false c4 : ¬ (0 ≤ fIdx (isJ x.1 x.2) 0 n.opened)) (fIdx_neg.2 e)
          refine W_skip (kq9 _ _ ?_)
          refine W_region [2, 3, 5] fun R hR => ?_   -- r5
          simp only [go_sem, hx]
          try simp (disch := omega) only [wrapI, wrapU]
          refine hR _ _ ?_; clear hR R
          try simp only [go_sem, hx]
          refine ⟨i + 1, ?_, by (try simp only []); omega, ?_⟩
          · refine Weak.trans (Weak.cutX 2 0 (by omega) (by omega) hcl (by simp only [go_sem] <;> omega) (by simp only [go_sem] <;> omega)) ?_
            simp only [go_sem]
            exact Weak.eq (by first | rfl | (simp only [go_sem]; done) | (simp only [go_sem]; rfl) | (simp [go_sem]; done) | (simp [go_sem]; omega)) (by first | rfl | (simp only [go_sem]; done) | (simp [go_sem]; done))
          · try dsimp only
            exact ⟨hi', by rw [hinv]; simp [c3, hfd]⟩
    · -- c2 false
      try simp only [nrm] at c2
      have hdrop : n.absent.drop i = [] := List.drop_eq_nil_of_le (by omega)
      rw [hdrop] at hinv
      simp only [absL] at hinv
      rw [if_neg (by simp [hinv])] at hres
      refine W_exit ?_
      simp only [go_sem]
      refine kq5 _ _ ?_
      refine W_seq fun kz17 kq17 => ?_
      refine W_seq fun kz18 kq18 => ?_
      refine W_region [2, 3, 8] fun R hR => ?_   -- r12
      simp only [go_sem]
      refine hR _ _ (kq18 _ _ ?_); clear hR R; try clear kq18 kz18
      try simp only [go_sem]
      refine W_block ?_
      refine W_loopS (α := Nat) (fun (i : Nat) => [(8, I i)]) (fun (i : Nat) => i ≤ M ∧ ∀ m, m < i → presN n J (m : Int) ≠ 0) (fun (i : Nat) => M - i) (0) rfl (⟨Nat.zero_le _, fun m h => by omega⟩) ?_
      rintro i ⟨hi, hall⟩
      refine W_seq fun kz19 kq19 => ?_
      refine W_seq fun kz20 kq20 => ?_
      refine W_region [2, 3, 8, 45] fun R hR => ?_   -- r13
      simp only [go_sem]
      refine hR _ _ (kq20 _ _ ?_); clear hR R; try clear kq20 kz20
      try simp only [go_sem]
      refine W_cond rfl (fun c5 => ?_) (fun c5 => ?_)
      · -- c5 true
        try simp only [nrm] at c5
        have hiM : i < M := by first | omega | (simp at c5; omega)
        refine W_skip (kq19 _ _ ?_)
        refine W_seq fun kz21 kq21 => ?_
        refine W_block ?_
        refine W_seq fun kz22 kq22 => ?_
        refine W_region [2, 3, 8, 52] fun R hR => ?_   -- r15
        simp only [go_sem]
        refine GCall_of (rPres_pc Y _ s n (i : Int) J hJ (by omega) ha) ?_   -- t51
        simp only [go_sem]
        refine hR _ _ (kq22 _ _ ?_); clear hR R; try clear kq22 kz22
        try simp only [go_sem]
        refine W_cond rfl (fun c6 => ?_) (fun c6 => ?_)
        · -- c6 true
          try simp only [nrm] at c6
          refine W_seq fun kz23 kq23 => ?_
          refine W_region [4] fun R hR => ?_   -- r16
          simp only [go_sem]
          refine hR _ _ (kq23 _ _ ?_); clear hR R; try clear kq23 kz23
          try simp only [go_sem]
          refine W_ret ?_
          simp only [go_sem]
          refine ⟨.inr (by trivial), ?_⟩
          first | refine Fin_same hcl rfl (Wk_eq ?_ (by simp only [go_sem])) | refine Fin_self hcl rfl (Wk_eq ?_ (by simp only [go_sem]))
          try simp only [go_sem]
          all_goals
            have hsh : shN s n = true := by
              unfold shN
              rw [List.any_eq_true]
              refine ⟨i, List.mem_range.2 (by omega), ?_⟩
              rw [hJ, Int.toNat_natCast]; simp; first | omega | (simp at c6; omega)
            rw [← hres, hsh, if_pos rfl]
        · -- c6 false
          try simp only [nrm] at c6
          refine W_skip (kq21 _ _ ?_)
          refine W_region [2, 3, 8] fun R hR => ?_   -- r14
          simp only [go_sem]
          try simp (disch := omega) only [wrapI, wrapU]
          refine hR _ _ ?_; clear hR R
          try simp only [go_sem]
          refine ⟨i + 1, ?_, by (try simp only []); omega, ?_⟩
          · first | exact Weak.refl | exact Weak.eq (by first | rfl | (simp only [go_sem]; done) | (simp only [go_sem]; rfl) | (simp [go_sem]; done) | (simp [go_sem]; omega)) (by first | rfl | (simp only [go_sem]; done) | (simp [go_sem]; done))
          · try dsimp only
            refine ⟨by omega, fun m hm => ?_⟩
            by_cases e : m = i
            · subst e; first | omega | (simp at c6; omega)
            · exact hall m (by omega)
      · -- c5 false
        try simp only [nrm] at c5
        have hie : i = M := by first | omega | (simp at c5; omega)
        subst hie
        have hsh : shN s n = false := by
          unfold shN
          rw [List.any_eq_false]
          intro m hm
          have := hall m (by have := List.mem_range.1 hm; omega)
          rw [hJ, Int.toNat_natCast]; simpa using this
        rw [hsh, if_neg (by simp)] at hres
        refine W_exit ?_
        simp only [go_sem]
        refine kq17 _ _ ?_
        refine W_seq fun kz24 kq24 => ?_
        refine W_region [4] fun R hR => ?_   -- r17
        simp only [go_sem]
        refine hR _ _ (kq24 _ _ ?_); clear hR R; try clear kq24 kz24
        try simp only [go_sem]
        refine W_ret ?_
        simp only [go_sem]
        refine ⟨.inr (by trivial), ?_⟩
        first | refine Fin_same hcl rfl (Wk_eq ?_ (by simp only [go_sem])) | refine Fin_self hcl rfl (Wk_eq ?_ (by simp only [go_sem]))
        try simp only [go_sem]
        all_goals
          rw [← hres]
set_option maxHeartbeats 2000000 in
theorem rNight_pc (Y : YEnv) (σ : Sg) (s : Scale) (n : Night) (hv : s.V) (hn : n.Ok) :
    PC Tryz.prog Y 74 [scPV s, ngPV n] σ (I (rNightE s n)) (σ) := by
  refine PC_of_W Tryz.func74 rfl (by kernel_rfl) Tryz.ntmps74 (by simp) fun hcl hca => ?_
  have q3 := hv.sc
  have ho := hn.ho
  have ha := hn.ha
  have hf := hn.hf
  obtain ⟨res, hres⟩ : ∃ r, rNightE s n = r := ⟨_, rfl⟩
  rw [hres]
  unfold rNightE at hres
  refine W_seq fun kz1 kq1 => ?_
  refine W_region [2, 3] fun R hR => ?_   -- r0
  simp only [go_sem]
  refine hR _ _ (kq1 _ _ ?_); clear hR R; try clear kq1 kz1
  try simp only [go_sem]
  refine W_seq fun kz2 kq2 => ?_
  refine W_seq fun kz3 kq3 => ?_
  refine W_region [2, 3, 5] fun R hR => ?_   -- r1
  simp only [go_sem]
  refine GCall_of (rOpen_pc Y _ s n.opened hv ho hn.hm) ?_   -- t11
  simp only [go_sem]
  refine hR _ _ (kq3 _ _ ?_); clear hR R; try clear kq3 kz3
  try simp only [go_sem]
  refine W_seq fun kz4 kq4 => ?_
  refine W_region [2, 3, 5, 13] fun R hR => ?_   -- r2
  simp only [go_sem]
  refine hR _ _ (kq4 _ _ ?_); clear hR R; try clear kq4 kz4
  try simp only [go_sem]
  refine W_cond rfl (fun c1 => ?_) (fun c1 => ?_)
  · -- c1 true
    try simp only [nrm] at c1
    refine W_seq fun kz5 kq5 => ?_
    refine W_region [4] fun R hR => ?_   -- r3
    simp only [go_sem]
    refine hR _ _ (kq5 _ _ ?_); clear hR R; try clear kq5 kz5
    try simp only [go_sem]
    refine W_ret ?_
    simp only [go_sem]
    refine ⟨.inr (by trivial), ?_⟩
    first | refine Fin_same hcl rfl (Wk_eq ?_ (by simp only [go_sem])) | refine Fin_self hcl rfl (Wk_eq ?_ (by simp only [go_sem]))
    try simp only [go_sem]
    all_goals
      rw [← hres, if_pos (by simp [c1])]
  · -- c1 false
    try simp only [nrm] at c1
    rw [if_neg (by simp [c1])] at hres
    refine W_skip (kq2 _ _ ?_)
    refine W_seq fun kz6 kq6 => ?_
    refine W_seq fun kz7 kq7 => ?_
    refine W_region [2, 3, 6] fun R hR => ?_   -- r4
    simp only [go_sem]
    refine GCall_of (rAbsE_pc Y _ s n hv ho ha) ?_   -- t17
    simp only [go_sem]
    refine hR _ _ (kq7 _ _ ?_); clear hR R; try clear kq7 kz7
    try simp only [go_sem]
    refine W_seq fun kz8 kq8 => ?_
    refine W_region [2, 3, 6, 19] fun R hR => ?_   -- r5
    simp only [go_sem]
    refine hR _ _ (kq8 _ _ ?_); clear hR R; try clear kq8 kz8
    try simp only [go_sem]
    refine W_cond rfl (fun c2 => ?_) (fun c2 => ?_)
    · -- c2 true
      try simp only [nrm] at c2
      refine W_seq fun kz9 kq9 => ?_
      refine W_region [4] fun R hR => ?_   -- r6
      simp only [go_sem]
      refine hR _ _ (kq9 _ _ ?_); clear hR R; try clear kq9 kz9
      try simp only [go_sem]
      refine W_ret ?_
      simp only [go_sem]
      refine ⟨.inr (by trivial), ?_⟩
      first | refine Fin_same hcl rfl (Wk_eq ?_ (by simp only [go_sem])) | refine Fin_self hcl rfl (Wk_eq ?_ (by simp only [go_sem]))
      try simp only [go_sem]
      all_goals
        rw [← hres, if_pos (by simp [c2])]
    · -- c2 false
      try simp only [nrm] at c2
      rw [if_neg (by simp [c2])] at hres
      refine W_skip (kq6 _ _ ?_)
      refine W_seq fun kz10 kq10 => ?_
      refine W_seq fun kz11 kq11 => ?_
      refine W_region [2, 3, 24] fun R hR => ?_   -- r7
      simp only [go_sem]
      refine hR _ _ (kq11 _ _ ?_); clear hR R; try clear kq11 kz11
      try simp only [go_sem]
      refine W_cond rfl (fun c3 => ?_) (fun c3 => ?_)
      · -- c3 true
        try simp only [nrm] at c3
        refine W_seq fun kz12 kq12 => ?_
        refine W_region [4] fun R hR => ?_   -- r8
        simp only [go_sem]
        refine hR _ _ (kq12 _ _ ?_); clear hR R; try clear kq12 kz12
        try simp only [go_sem]
        refine W_ret ?_
        simp only [go_sem]
        refine ⟨.inr (by trivial), ?_⟩
        first | refine Fin_same hcl rfl (Wk_eq ?_ (by simp only [go_sem])) | refine Fin_self hcl rfl (Wk_eq ?_ (by simp only [go_sem]))
        try simp only [go_sem]
        all_goals
          rw [← hres, if_pos (by omega)]
      · -- c3 false
        try simp only [nrm] at c3
        rw [if_neg (by omega)] at hres
        refine W_skip (kq10 _ _ ?_)
        refine W_seq fun kz13 kq13 => ?_
        refine W_seq fun kz14 kq14 => ?_
        refine W_region [2, 3, 7] fun R hR => ?_   -- r9
        simp only [go_sem]
        refine hR _ _ (kq14 _ _ ?_); clear hR R; try clear kq14 kz14
        try simp only [go_sem]
        refine W_block ?_
        refine W_loopS (α := Nat) (fun (i : Nat) => [(7, I i)]) (fun (i : Nat) => i ≤ n.fines.length ∧ res = finesR s (n.fines.drop i)) (fun (i : Nat) => n.fines.length - i) (0) rfl (⟨Nat.zero_le _, hres.symm⟩) ?_
        rintro i ⟨hi, hinv⟩
        refine W_seq fun kz15 kq15 => ?_
        refine W_seq fun kz16 kq16 => ?_
        refine W_region [2, 3, 7, 29] fun R hR => ?_   -- r10
        simp only [go_sem]
        refine hR _ _ (kq16 _ _ ?_); clear hR R; try clear kq16 kz16
        try simp only [go_sem]
        refine W_cond rfl (fun c4 => ?_) (fun c4 => ?_)
        · -- c4 true
          try simp only [nrm] at c4
          have hi' : i < n.fines.length := by first | assumption | omega
          obtain ⟨x, hx⟩ : ∃ x, n.fines[i]? = some x := ⟨n.fines[i], by simp [hi']⟩
          have hdrop : n.fines.drop i = x :: n.fines.drop (i + 1) := by
            rw [List.drop_eq_getElem_cons hi']; congr 1; exact (List.getElem?_eq_some_iff.1 hx).2
          rw [hdrop] at hinv
          simp only [finesR] at hinv
          refine W_skip (kq15 _ _ ?_)
          refine W_seq fun kz17 kq17 => ?_
          refine W_block ?_
          refine W_seq fun kz18 kq18 => ?_
          refine W_seq fun kz19 kq19 => ?_
          refine W_draw [2, 3, 7, 42] [0, 1, 2, 3, 4, 5, 6, 7, 8, 9, 10] [] [[], [0], [], [0, 1, 2], [0, 1, 2, 3], [0, 1, 2, 3, 4], [], [6], [6, 7], [0, 1, 2, 3, 4, 5, 6, 7, 8], [0, 1, 2, 3, 4, 5, 6, 7, 8, 9]] mixed (by kernel_rfl) fun R hR => ?_   -- r12
          simp only [go_sem, hx]
          try simp (disch := omega) only [wrapI, wrapU]
          refine GCall_of (rin_pc Y _ x.1 0 _) ?_   -- t41
          simp only [go_sem, hx]
          try simp (disch := omega) only [wrapI, wrapU]
          try refine And.intro (by repeat' (first | refine And.intro ?_ ?_ | exact GOr_right (fun _ => by simp only [go_sem, hx]))) ?_
          refine hR _ _ (kq19 _ _ ?_); clear hR R; try clear kq19 kz19
          try simp only [go_sem, hx]
          refine W_cond rfl (fun c5 => ?_) (fun c5 => ?_)
          · -- c5 true
            try simp only [nrm] at c5
            refine W_seq fun kz20 kq20 => ?_
            refine W_region [4] fun R hR => ?_   -- r13
            simp only [go_sem, hx]
            refine hR _ _ (kq20 _ _ ?_); clear hR R; try clear kq20 kz20
            try simp only [go_sem, hx]
            refine W_ret ?_
            simp only [go_sem, hx]
            refine ⟨.inr (by trivial), ?_⟩
            first | refine Fin_same hcl rfl (Wk_eq ?_ (by simp only [go_sem])) | refine Fin_self hcl rfl (Wk_eq ?_ (by simp only [go_sem]))
            try simp only [go_sem]
            all_goals
              first | rfl | (simp_all; done) | (simp_all; omega)
          · -- c5 false
            try simp only [nrm] at c5
            refine W_skip (kq18 _ _ ?_)
            refine W_seq fun kz21 kq21 => ?_
            refine W_region [2, 3, 7, 50] fun R hR => ?_   -- r14
            simp only [go_sem, hx]
            refine GCall_of (rin_pc Y _ x.2 0 1000) ?_   -- t49
            simp only [go_sem, hx]
            refine hR _ _ (kq21 _ _ ?_); clear hR R; try clear kq21 kz21
            try simp only [go_sem, hx]
            refine W_cond rfl (fun c6 => ?_) (fun c6 => ?_)
            · -- c6 true
              try simp only [nrm] at c6
              refine W_seq fun kz22 kq22 => ?_
              refine W_region [4] fun R hR => ?_   -- r15
              simp only [go_sem, hx]
              refine hR _ _ (kq22 _ _ ?_); clear hR R; try clear kq22 kz22
              try simp only [go_sem, hx]
              refine W_ret ?_
              simp only [go_sem, hx]
              refine ⟨.inr (by trivial), ?_⟩
              first | refine Fin_same hcl rfl (Wk_eq ?_ (by simp only [go_sem])) | refine Fin_self hcl rfl (Wk_eq ?_ (by simp only [go_sem]))
              try simp only [go_sem]
              all_goals
                first | rfl | (simp_all; done) | (simp_all; omega)
            · -- c6 false
              try simp only [nrm] at c6
              refine W_skip (kq17 _ _ ?_)
              refine W_region [2, 3, 7] fun R hR => ?_   -- r11
              simp only [go_sem, hx]
              try simp (disch := omega) only [wrapI, wrapU]
              refine hR _ _ ?_; clear hR R
              try simp only [go_sem, hx]
              refine ⟨i + 1, ?_, by (try simp only []); omega, ?_⟩
              · first | exact Weak.refl | exact Weak.eq (by first | rfl | (simp only [go_sem]; done) | (simp only [go_sem]; rfl) | (simp [go_sem]; done) | (simp [go_sem]; omega)) (by first | rfl | (simp only [go_sem]; done) | (simp [go_sem]; done))
              · try dsimp only
                exact ⟨hi', by simp_all⟩
        · -- c4 false
          try simp only [nrm] at c4
          have hdrop : n.fines.drop i = [] := List.drop_eq_nil_of_le (by omega)
          rw [hdrop] at hinv
          simp only [finesR] at hinv
          refine W_exit ?_
          simp only [go_sem]
          refine kq13 _ _ ?_
          refine W_seq fun kz23 kq23 => ?_
          refine W_region [4] fun R hR => ?_   -- r16
          simp only [go_sem]
          refine hR _ _ (kq23 _ _ ?_); clear hR R; try clear kq23 kz23
          try simp only [go_sem]
          refine W_ret ?_
          simp only [go_sem]
          refine ⟨.inr (by trivial), ?_⟩
          first | refine Fin_same hcl rfl (Wk_eq ?_ (by simp only [go_sem])) | refine Fin_self hcl rfl (Wk_eq ?_ (by simp only [go_sem]))
          try simp only [go_sem]
          all_goals
            first | rfl | (simp_all; done) | (simp_all; omega)
set_option maxHeartbeats 2000000 in
theorem rCk0_pc (Y : YEnv) (σ : Sg) (s : Scale) (n : Night) (hs : s.Ok) (hn : n.Ok) :
    PC Tryz.prog Y 46 [scPV s, ngPV n] σ (I (rCkE s n)) (σ) := by
  refine PC_of_W Tryz.func46 rfl (by kernel_rfl) Tryz.ntmps46 (by simp) fun hcl hca => ?_
  refine W_seq fun kz1 kq1 => ?_
  refine W_region [2, 3] fun R hR => ?_   -- r0
  simp only [go_sem]
  refine hR _ _ (kq1 _ _ ?_); clear hR R; try clear kq1 kz1
  try simp only [go_sem]
  refine W_seq fun kz2 kq2 => ?_
  refine W_seq fun kz3 kq3 => ?_
  refine W_region [2, 3, 5] fun R hR => ?_   -- r1
  simp only [go_sem]
  refine GCall_of (rCheck_pc Y _ s hs) ?_   -- t7
  simp only [go_sem]
  refine hR _ _ (kq3 _ _ ?_); clear hR R; try clear kq3 kz3
  try simp only [go_sem]
  refine W_seq fun kz4 kq4 => ?_
  refine W_region [2, 3, 5, 9] fun R hR => ?_   -- r2
  simp only [go_sem]
  refine hR _ _ (kq4 _ _ ?_); clear hR R; try clear kq4 kz4
  try simp only [go_sem]
  refine W_cond rfl (fun c1 => ?_) (fun c1 => ?_)
  · -- c1 true
    try simp only [nrm] at c1
    refine W_seq fun kz5 kq5 => ?_
    refine W_region [4] fun R hR => ?_   -- r3
    simp only [go_sem]
    refine hR _ _ (kq5 _ _ ?_); clear hR R; try clear kq5 kz5
    try simp only [go_sem]
    refine W_ret ?_
    simp only [go_sem]
    refine ⟨.inr (by trivial), ?_⟩
    first | refine Fin_same hcl rfl (Wk_eq ?_ (by simp only [go_sem])) | refine Fin_self hcl rfl (Wk_eq ?_ (by simp only [go_sem]))
    try simp only [go_sem]
    all_goals
      simp [rCkE, *]
  · -- c1 false
    try simp only [nrm] at c1
    refine W_skip (kq2 _ _ ?_)
    refine W_seq fun kz6 kq6 => ?_
    refine W_region [4] fun R hR => ?_   -- r4
    simp only [go_sem]
    have hv := Scale.v c1
    refine GCall_of (rNight_pc Y _ s n hv hn) ?_   -- t13
    simp only [go_sem]
    refine hR _ _ (kq6 _ _ ?_); clear hR R; try clear kq6 kz6
    try simp only [go_sem]
    refine W_ret ?_
    simp only [go_sem]
    refine ⟨.inr (by trivial), ?_⟩
    first | refine Fin_same hcl rfl (Wk_eq ?_ (by simp only [go_sem])) | refine Fin_self hcl rfl (Wk_eq ?_ (by simp only [go_sem]))
    try simp only [go_sem]
    all_goals
      simp [rCkE, *]
theorem rCheckNight_pc (Y : YEnv) (σ : Sg) (s : Scale) (n : Night) (hs : s.Ok) (hn : n.Ok) : PC Tryz.prog Y 46 [scPV s, ngPV n] σ (I (knownE s n)) σ := by
  rw [← rCk_known]; exact rCk0_pc Y σ s n hs hn
end Go.Proofs.YtgelnjmddabgpaaGreat
namespace Go.Proofs.YtgelnjmddabgpaaGreat
open Go Go.RowKit
set_option maxRecDepth 100000
end Go.Proofs.YtgelnjmddabgpaaGreat
namespace Go.Proofs.YtgelnjmddabgpaaGreat
open Go Go.RowKit
set_option maxRecDepth 100000
def rowU (k : Kn) (i j : Nat) : List (Int × Int) := ((List.range j).map fun (q : Nat) => ((i : Int), (q : Int))).filter fun p => (aget p k).isNone
def upU (k : Kn) (J : Nat) : Nat → List (Int × Int)
  | 0 => []
  | i + 1 => upU k J i ++ rowU k i J
theorem rowU_succ (k : Kn) (i j : Nat) : rowU k i (j + 1) = rowU k i j ++ if (aget ((i : Int), (j : Int)) k).isNone = true then [((i : Int), (j : Int))] else [] := by
  unfold rowU
  rw [List.range_succ, List.map_append, List.filter_append]
  congr 1
  cases h : (aget ((i : Int), (j : Int)) k).isNone <;> simp [h]
theorem rowU_len (k : Kn) (i j : Nat) : (rowU k i j).length ≤ j := by
  unfold rowU
  have := List.length_filter_le (fun p => (aget p k).isNone) ((List.range j).map fun (q : Nat) => ((i : Int), (q : Int)))
  simpa using this
theorem sealedK_up {s : Scale} {M J : Nat} (hM : s.matters = M) (hJ : s.judges = J) (k : Kn) : sealedK s k = upU k J M := by
  unfold sealedK
  rw [allJ_eq hM hJ]
  clear hM hJ
  induction M with
  | zero => rfl
  | succ M ih =>
    rw [List.range_succ, List.flatMap_append, List.filter_append, ih]
    simp only [upU]
    congr 1
    simp [rowU]
theorem night_none {s : Scale} {n : Night} (h : NightV s n) (a b : Int) :
    (fIdx (isJ a b) 0 n.opened < 0 → (aget (a, b) (knownK s n)).isNone = !(n.absent.any (isA a b))) ∧ (¬ fIdx (isJ a b) 0 n.opened < 0 → (aget (a, b) (knownK s n)).isNone = false) := by
  have hg := h.get (a, b)
  unfold kOf at hg
  rw [hg]
  constructor
  · intro hf
    have : findE n.opened (a, b) = none := Classical.not_not.1 fun e => by have := fIdx_neg.2 e; omega
    rw [this]
    simp only
    by_cases ha : (a, b) ∈ n.absent
    · rw [if_pos ha, any_isA.2 ha]; rfl
    · rw [if_neg ha]
      have : n.absent.any (isA a b) = false := by rw [← Bool.not_eq_true]; exact fun e => ha (any_isA.1 e)
      rw [this]; rfl
  · intro hf
    have : findE n.opened (a, b) ≠ none := fIdx_neg.1 (by omega)
    cases hq : findE n.opened (a, b) with
    | none => exact absurd hq this
    | some v => rfl
set_option maxHeartbeats 2000000 in
theorem rmiss_pc (Y : YEnv) (σ : Sg) (s : Scale) (n : Night) (hN : NightV s n) :
    PC Tryz.prog Y 61 [scPV s, ngPV n] σ (sts (sealedK s (knownK s n))) (σ) := by
  refine PC_of_W Tryz.func61 rfl (by kernel_rfl) Tryz.ntmps61 (by simp) fun hcl hca => ?_
  have hv := Scale.v hN.c
  have q1 := hv.mt
  have q2 := hv.jd
  have hnO := hN.o60
  have hnA := hN.a60
  obtain ⟨M, hM⟩ : ∃ z : Nat, s.matters = z := ⟨s.matters.toNat, by omega⟩
  obtain ⟨J, hJ⟩ : ∃ z : Nat, s.judges = z := ⟨s.judges.toNat, by omega⟩
  have hMi : (s.matters : Int) = (M : Int) := hM
  have hJi : (s.judges : Int) = (J : Int) := hJ
  rw [sealedK_up hM hJ]
  have hno := fun a b => night_none hN a b
  obtain ⟨K, hK⟩ : ∃ z, knownK s n = z := ⟨_, rfl⟩
  simp only [hK] at hno ⊢
  refine W_seq fun kz1 kq1 => ?_
  refine W_region [2, 3] fun R hR => ?_   -- r0
  simp only [go_sem]
  refine hR _ _ (kq1 _ _ ?_); clear hR R; try clear kq1 kz1
  try simp only [go_sem]
  refine W_seq fun kz2 kq2 => ?_
  refine W_region [2, 3, 5] fun R hR => ?_   -- r1
  simp only [go_sem]
  refine hR _ _ (kq2 _ _ ?_); clear hR R; try clear kq2 kz2
  try simp only [go_sem]
  refine W_seq fun kz3 kq3 => ?_
  refine W_seq fun kz4 kq4 => ?_
  refine W_region [2, 3, 5, 6] fun R hR => ?_   -- r2
  simp only [go_sem]
  refine hR _ _ (kq4 _ _ ?_); clear hR R; try clear kq4 kz4
  try simp only [go_sem]
  refine W_block ?_
  refine W_weak (Weak.room (t := 5) (es := 2) rfl (by simp)) ?_
  refine W_weak (Weak.keep [2, 3, 5, 6]) ?_
  simp only [go_sem]
  refine W_loopT (α := Nat) (fun (i : Nat) => [(5, .isl ((upU K J i).map stPV) (.tok σ.rooms.length (upU K J i).length 2)), (6, I i)]) (fun (i : Nat) => σ.ext [some (scCells s), some (ngCells n)] [(upU K J i).length]) (fun (i : Nat) => i ≤ M ∧ (upU K J i).length ≤ 5 * i) (fun (i : Nat) => M - i) (0) rfl (by first | rfl | (simp only [go_sem]; done) | (simp only [go_sem]; rfl)) (⟨Nat.zero_le _, Nat.le_refl _⟩) ?_
  rintro i ⟨hi, hul⟩
  refine W_seq fun kz5 kq5 => ?_
  refine W_seq fun kz6 kq6 => ?_
  refine W_region [2, 3, 5, 6, 11] fun R hR => ?_   -- r3
  simp only [go_sem]
  refine hR _ _ (kq6 _ _ ?_); clear hR R; try clear kq6 kz6
  try simp only [go_sem]
  refine W_cond rfl (fun c1 => ?_) (fun c1 => ?_)
  · -- c1 true
    try simp only [nrm] at c1
    have hiM : i < M := by first | omega | (simp at c1; omega)
    have hrl := rowU_len K i J
    refine W_skip (kq5 _ _ ?_)
    refine W_seq fun kz7 kq7 => ?_
    refine W_block ?_
    refine W_seq fun kz8 kq8 => ?_
    refine W_region [2, 3, 5, 6, 7] fun R hR => ?_   -- r5
    simp only [go_sem]
    refine hR _ _ (kq8 _ _ ?_); clear hR R; try clear kq8 kz8
    try simp only [go_sem]
    refine W_block ?_
    refine W_loopT (α := Nat × (List (Int × Int))) (fun ⟨j, acc⟩ => [(5, .isl (acc.map stPV) (.tok σ.rooms.length acc.length 2)), (7, I j)]) (fun ⟨j, acc⟩ => σ.ext [some (scCells s), some (ngCells n)] [acc.length]) (fun ⟨j, acc⟩ => j ≤ J ∧ acc = upU K J i ++ rowU K i j ∧ acc.length ≤ 5 * i + j) (fun ⟨j, acc⟩ => J - j) ((0, upU K J i)) rfl (by first | rfl | (simp only [go_sem]; done) | (simp only [go_sem]; rfl)) (⟨Nat.zero_le _, by simp [rowU], by omega⟩) ?_
    rintro ⟨j, acc⟩ ⟨hj, hac, hal⟩
    refine W_seq fun kz9 kq9 => ?_
    refine W_seq fun kz10 kq10 => ?_
    refine W_region [2, 3, 5, 6, 7, 17] fun R hR => ?_   -- r6
    simp only [go_sem]
    refine hR _ _ (kq10 _ _ ?_); clear hR R; try clear kq10 kz10
    try simp only [go_sem]
    refine W_cond rfl (fun c2 => ?_) (fun c2 => ?_)
    · -- c2 true
      try simp only [nrm] at c2
      have hjJ : j < J := by first | omega | (simp at c2; omega)
      have hrs := rowU_succ K i j
      refine W_skip (kq9 _ _ ?_)
      refine W_seq fun kz11 kq11 => ?_
      refine W_block ?_
      refine W_seq fun kz12 kq12 => ?_
      refine W_regionJ [2, 3, 5, 6, 7, 33] [(33, .bool ((aget ((i : Int), (j : Int)) K).isNone))] ?_ fun R hR => ?_   -- r8
      · refine kq12 _ _ ?_
        simp only [go_sem]
        refine W_cond rfl (fun c3 => ?_) (fun c3 => ?_)
        · -- c3 true
          try simp only [nrm] at c3
          refine W_region [2, 3, 5, 6, 7] fun R hR => ?_   -- r9
          simp only [go_sem]
          try simp (disch := first | omega | (simp only [go_sem] <;> omega)) only [wrapI, wrapU, appX_exact, appX_tok]
          try simp only [go_sem]
          refine hR _ _ (kq11 _ _ ?_); clear hR R; try clear kq11 kz11
          try simp only [go_sem]
          refine W_region [2, 3, 5, 6, 7] fun R hR => ?_   -- r7
          simp only [go_sem]
          try simp (disch := omega) only [wrapI, wrapU]
          refine hR _ _ ?_; clear hR R
          try simp only [go_sem]
          refine ⟨(j + 1, acc ++ [((i : Int), (j : Int))]), ?_, by (try simp only []); omega, ?_⟩
          · first | exact Weak.refl | exact Weak.eq (by first | rfl | (simp only [go_sem]; done) | (simp only [go_sem]; rfl) | (simp [go_sem]; done) | (simp [go_sem]; omega)) (by first | rfl | (simp only [go_sem]; done) | (simp [go_sem]; done))
          · try dsimp only
            first
            | (rw [if_pos c3] at hrs; exact ⟨by omega, by rw [hrs, hac, List.append_assoc], by simp; omega⟩)
            | (rw [c3, if_neg (by simp)] at hrs; exact ⟨by omega, by rw [hrs, hac, List.append_nil], by omega⟩)
        · -- c3 false
          try simp only [nrm] at c3
          refine W_skip (kq11 _ _ ?_)
          refine W_region [2, 3, 5, 6, 7] fun R hR => ?_   -- r7
          simp only [go_sem]
          try simp (disch := omega) only [wrapI, wrapU]
          refine hR _ _ ?_; clear hR R
          try simp only [go_sem]
          refine ⟨(j + 1, acc), ?_, by (try simp only []); omega, ?_⟩
          · first | exact Weak.refl | exact Weak.eq (by first | rfl | (simp only [go_sem]; done) | (simp only [go_sem]; rfl) | (simp [go_sem]; done) | (simp [go_sem]; omega)) (by first | rfl | (simp only [go_sem]; done) | (simp [go_sem]; done))
          · try dsimp only
            first
            | (rw [if_pos c3] at hrs; exact ⟨by omega, by rw [hrs, hac, List.append_assoc], by simp; omega⟩)
            | (rw [c3, if_neg (by simp)] at hrs; exact ⟨by omega, by rw [hrs, hac, List.append_nil], by omega⟩)
      · simp only [go_sem]
        refine GCall_of (rFind_pc Y _ n.opened i j (by omega)) ?_   -- t24
        simp only [go_sem]
        refine GWant_split (fun g1 => ?_) (fun g1 => ?_)
        · try simp only [Bool.not_eq_true', Bool.not_eq_false'] at g1
          have n1 := g1; try simp only [nrm] at n1
          simp only [go_sem, g1]
          refine GCall_of (rAbs_pc Y _ n.absent i j (by omega)) ?_   -- t31
          simp only [go_sem, g1]
          refine hR _ ?_
          all_goals try simp only [go_sem]
          all_goals
            first | (rw [(hno i j).1 (by first | exact of_decide_eq_true g1 | simpa using g1)]; done) | (rw [(hno i j).2 (by first | exact of_decide_eq_false g1 | simpa using g1)]; done) | (rw [(hno i j).1 (by first | exact of_decide_eq_true g2 | simpa using g2)]; done) | (rw [(hno i j).2 (by first | exact of_decide_eq_false g2 | simpa using g2)]; done)
        · try simp only [Bool.not_eq_true', Bool.not_eq_false'] at g1
          have n1 := g1; try simp only [nrm] at n1
          simp only [go_sem, g1]
          refine hR _ ?_
          all_goals try simp only [go_sem]
          all_goals
            first | (rw [(hno i j).1 (by first | exact of_decide_eq_true g1 | simpa using g1)]; done) | (rw [(hno i j).2 (by first | exact of_decide_eq_false g1 | simpa using g1)]; done) | (rw [(hno i j).1 (by first | exact of_decide_eq_true g2 | simpa using g2)]; done) | (rw [(hno i j).2 (by first | exact of_decide_eq_false g2 | simpa using g2)]; done)
    · -- c2 false
      try simp only [nrm] at c2
      have hje : j = J := by first | omega | (simp at c2; omega)
      refine W_exit ?_
      simp only [go_sem]
      refine kq7 _ _ ?_
      refine W_region [2, 3, 5, 6] fun R hR => ?_   -- r4
      simp only [go_sem]
      try simp (disch := omega) only [wrapI, wrapU]
      refine hR _ _ ?_; clear hR R
      try simp only [go_sem]
      refine ⟨i + 1, ?_, by (try simp only []); omega, ?_⟩
      · refine Weak.eq ?_ ?_
        · simp only [go_sem, hac, hje, upU]
          first | done | rfl
        · simp only [go_sem, hac, hje, upU]
      · try dsimp only
        exact ⟨by omega, by simp only [upU, List.length_append]; omega⟩
  · -- c1 false
    try simp only [nrm] at c1
    have hie : M = i := by first | omega | (simp at c1; omega)
    subst hie
    refine W_exit ?_
    simp only [go_sem]
    refine kq3 _ _ ?_
    refine W_seq fun kz13 kq13 => ?_
    refine W_region [4] fun R hR => ?_   -- r10
    simp only [go_sem]
    refine hR _ _ (kq13 _ _ ?_); clear hR R; try clear kq13 kz13
    try simp only [go_sem]
    refine W_ret ?_
    simp only [go_sem]
    refine ⟨.inr (by trivial), ?_⟩
    refine Fin_same hcl rfl (Wk.ro (by simp only [go_sem]) ?_)
    try simp only [go_sem]
    all_goals
      first | rfl | simp only [go_sem]
set_option maxHeartbeats 2000000 in
theorem rMissing_pc (Y : YEnv) (σ : Sg) (s : Scale) (n : Night) (hs : s.Ok) (hn : n.Ok) :
    PC Tryz.prog Y 42 [scPV s, ngPV n] σ (.tuple [sts (if knownE s n = 0 then sealedK s (knownK s n) else []), I (knownE s n)]) (σ) := by
  refine PC_of_W Tryz.func42 rfl (by kernel_rfl) Tryz.ntmps42 (by simp) fun hcl hca => ?_
  refine W_seq fun kz1 kq1 => ?_
  refine W_region [2, 3] fun R hR => ?_   -- r0
  simp only [go_sem]
  refine hR _ _ (kq1 _ _ ?_); clear hR R; try clear kq1 kz1
  try simp only [go_sem]
  refine W_seq fun kz2 kq2 => ?_
  refine W_seq fun kz3 kq3 => ?_
  refine W_region [2, 3, 6] fun R hR => ?_   -- r1
  simp only [go_sem]
  refine GCall_of (rCheckNight_pc Y _ s n hs hn) ?_   -- t9
  simp only [go_sem]
  refine hR _ _ (kq3 _ _ ?_); clear hR R; try clear kq3 kz3
  try simp only [go_sem]
  refine W_seq fun kz4 kq4 => ?_
  refine W_region [2, 3, 6, 11] fun R hR => ?_   -- r2
  simp only [go_sem]
  refine hR _ _ (kq4 _ _ ?_); clear hR R; try clear kq4 kz4
  try simp only [go_sem]
  refine W_cond rfl (fun c1 => ?_) (fun c1 => ?_)
  · -- c1 true
    try simp only [nrm] at c1
    refine W_seq fun kz5 kq5 => ?_
    refine W_region [4, 5] fun R hR => ?_   -- r3
    simp only [go_sem]
    refine hR _ _ (kq5 _ _ ?_); clear hR R; try clear kq5 kz5
    try simp only [go_sem]
    refine W_ret ?_
    simp only [go_sem]
    refine ⟨.inr (by trivial), ?_⟩
    first | refine Fin_same hcl rfl (Wk.ro (by simp only [go_sem]) ?_) | refine Fin_self hcl rfl (Wk.ro (by simp only [go_sem]) ?_)
    try simp only [go_sem]
    all_goals
      first | (rw [if_neg c1]; done) | (rw [if_neg c1]; rfl)
  · -- c1 false
    try simp only [nrm] at c1
    refine W_skip (kq2 _ _ ?_)
    refine W_seq fun kz6 kq6 => ?_
    refine W_region [4, 5] fun R hR => ?_   -- r4
    simp only [go_sem]
    refine GCall_of (rmiss_pc Y _ s n (nightV_iff.1 c1)) ?_   -- t15
    simp only [go_sem]
    refine hR _ _ (kq6 _ _ ?_); clear hR R; try clear kq6 kz6
    try simp only [go_sem]
    refine W_ret ?_
    simp only [go_sem]
    refine ⟨.inr (by trivial), ?_⟩
    first | refine Fin_same hcl rfl (Wk.ro (by simp only [go_sem]) ?_) | refine Fin_self hcl rfl (Wk.ro (by simp only [go_sem]) ?_)
    try simp only [go_sem]
    all_goals
      first | (rw [if_pos c1, c1]; done) | (rw [if_pos c1, c1]; rfl)
end Go.Proofs.YtgelnjmddabgpaaGreat
namespace Go.Proofs.YtgelnjmddabgpaaGreat
open Go Go.RowKit
set_option maxRecDepth 100000
theorem Weak.freezeS {N : Nat} {lo : Nat × Nat} {E : Env} {σ : Sg} {t : Nat} {A : List (Option (List PV))} {rm : List Nat} {ys : List LState} {out : List Stand} (ht : E.get t = glS (σ.store.length + A.length) out) (hne : out ≠ []) :
    Weak N lo E (σ.ext (A ++ gsS out) rm ys) (E.put (some t) (.isl (out.map sdPV) .ro)) (σ.ext (A ++ List.replicate out.length none) rm ys) := by
  cases out with
  | nil => exact absurd rfl hne
  | cons z zs =>
    have h := Weak.freeze (N := N) (lo := lo) (E := E) (σ := σ.ext (A ++ gsS (z :: zs)) rm ys) (t := t) (id := σ.store.length + (A.length + zs.length)) (len := zs.length + 1) (es := 3) (l := (z :: zs).map sdPV) (by rw [ht]; simp only [glS, Nat.add_assoc]) (by rw [Sg.get_ext]; exact gsS_get) (by simp) (fun q hq => by obtain ⟨x, _, rfl⟩ := List.mem_map.1 hq; rfl)
    rw [Sg.drop_ext, gsS_set] at h
    have e : List.replicate (z :: zs).length (none : Option (List PV)) = List.replicate zs.length none ++ [none] := by simp [List.replicate_succ']
    rw [e]
    exact h
set_option maxHeartbeats 4000000 in
theorem tabO_pc (Y : YEnv) (σ : Sg) (s : Scale) (g : Night) (hs : s.Ok) (hg : g.Ok) (hE : knownE s g = 0) (hne0 : sealedK s (knownK s g) = []) :
    PC Tryz.prog Y 17 [scPV s, ngPV g] σ (.tuple [sds (tblP s (knownK s g) g), I 0]) (σ) := by
  refine PC_of_W Tryz.func17 rfl (by kernel_rfl) Tryz.ntmps17 (by simp) fun hcl hca => ?_
  have hV := known_V hE
  obtain ⟨K, hK⟩ : ∃ z, knownK s g = z := ⟨_, rfl⟩
  rw [hK] at hV
  have hv := hV.v
  have q3 := hv.sc
  have q4 := hv.lo
  have q5 := hv.hi
  obtain ⟨N, hN⟩ : ∃ z : Nat, s.schools = z := ⟨s.schools.toNat, by omega⟩
  have hNi : (s.schools : Int) = (N : Int) := hN
  have hkn := fun Y σ => knownOf_ok Y σ s g hs hg hE
  rw [hK] at hkn
  have hne : sealedK s K = [] := by rw [← hK]; exact hne0
  have htb : tblP s (knownK s g) g = sortSd s.order (sdUp s K g N) := by rw [hK, tblP, hN, Int.toNat_natCast]
  rw [htb]
  have hol := hv.ol
  have q1 := hv.mt
  refine W_seq fun kz1 kq1 => ?_
  refine W_region [2, 3, 4, 5] fun R hR => ?_   -- r0
  simp only [go_sem]
  refine hR _ _ (kq1 _ _ ?_); clear hR R; try clear kq1 kz1
  try simp only [go_sem]
  refine W_seq fun kz2 kq2 => ?_
  refine W_region [2, 3, 4, 5, 6, 7] fun R hR => ?_   -- r1
  simp only [go_sem]
  refine GCall_of (hkn Y _) ?_   -- t14
  simp only [go_sem]
  refine hR _ _ (kq2 _ _ ?_); clear hR R; try clear kq2 kz2
  try simp only [go_sem]
  refine W_seq fun kz3 kq3 => ?_
  refine W_seq fun kz4 kq4 => ?_
  refine W_region [2, 3, 4, 5, 6, 7, 18] fun R hR => ?_   -- r2
  simp only [go_sem]
  refine hR _ _ (kq4 _ _ ?_); clear hR R; try clear kq4 kz4
  try simp only [go_sem]
  refine W_cond_false rfl ?_
  refine W_skip (kq3 _ _ ?_)
  refine W_seq fun kz5 kq5 => ?_
  refine W_seq fun kz6 kq6 => ?_
  refine W_region [2, 3, 4, 5, 6, 22] fun R hR => ?_   -- r4
  simp only [go_sem]
  refine GCall_of (sealed_pc Y _ (σ.store.length + 6) (by simp only [go_sem] <;> omega) s) ?_   -- t22
  simp only [go_sem]
  refine hR _ _ (kq6 _ _ ?_); clear hR R; try clear kq6 kz6
  try simp only [go_sem]
  refine W_block ?_
  have hLc : ∀ (z : Int) (n r yy : Nat), σ.store.length + 9 ≤ n → CleanLs n r yy [some (scCells s), some (ngCells g), some [.isl [] .exact], some [I z], some (scCells s), some (ngCells g), some (.mark :: knE K), some [.map (σ.store.length + 6)], some (scCells s)] := fun z n r yy h => by
    have c1 := cleans_ng (a := n) (b := r) (c := yy) g
    have c2 := cleans_sc (a := n) (b := r) (c := yy) s
    have c3 : CleanAll n r yy (knE K) := cA_kn.mpr trivial
    have c1' : CleanAll n r yy (ngCells g) := c1
    have c2' : CleanAll n r yy (scCells s) := c2
    simp only [CleanLs_cons, CleanLs_nil, CleanAll_cons, CleanAll_nil, Cl_map, Cl_mark, Cl_isl, OwnLt_exact, Cl_int, c1', c2', c3, true_and, and_true]
    omega
  refine W_rangeFunc (gf := 81) (v := .tuple []) (s := .ready) (σ5 := σ.ext [some (scCells s), some (ngCells g), some [.isl [] .exact], some [I 0], some (scCells s), some (ngCells g), some (.mark :: knE K), some [.map (σ.store.length + 6)], some (scCells s)] [] [.ready]) rfl (by simp) (fun _ _ _ _ => False) ?_ ?_ ?_ ?_ ?_
  · intro args τ b τ' h; exact h.elim
  · have hst := sealedA_pc (Y.at σ.ys.length (fun _ _ _ _ => False)) σ σ.ys.length (σ.store.length + 8) (σ.store.length + 7) (σ.store.length + 6) s hv K (fun _ => σ.ext [some (scCells s), some (ngCells g), some [.isl [] .exact], some [I 0], some (scCells s), some (ngCells g), some (.mark :: knE K), some [.map (σ.store.length + 6)], some (scCells s)] [] [.ready])
      (fun _ _ => Sg.get_ext ..) (fun _ _ => Sg.get_ext ..) (fun _ _ => Sg.get_ext ..) (fun _ _ => ⟨rfl, rfl, rfl⟩) (fun h _ _ => h)
      (fun c m n h => by rw [hne] at h; simp at h)
    simp only [go_sem] at hst ⊢
    exact hst
  · simp only [go_sem]
  · simp only [go_sem]
    exact CleanCut_ext hcl (by first | omega | (simp only [go_sem] <;> omega)) (by first | omega | (simp only [go_sem] <;> omega)) (Nat.le_refl _) (hLc 0 _ _ _ (by first | omega | (simp only [go_sem] <;> omega)))
  · simp only [AfterLoop, go_sem]
    refine kq5 _ _ ?_
    refine W_seq fun kz7 kq7 => ?_
    refine W_region [2, 3, 4, 5, 6, 8] fun R hR => ?_   -- r6
    simp only [go_sem]
    refine hR _ _ (kq7 _ _ ?_); clear hR R; try clear kq7 kz7
    try simp only [go_sem]
    refine W_seq fun kz8 kq8 => ?_
    refine W_seq fun kz9 kq9 => ?_
    refine W_region [2, 3, 4, 5, 6, 8, 25, 26] fun R hR => ?_   -- r7
    simp only [go_sem]
    refine hR _ _ (kq9 _ _ ?_); clear hR R; try clear kq9 kz9
    try simp only [go_sem]
    refine W_block ?_
    refine W_weak (Weak.gnil (t := 8) rfl) ?_
    refine W_weak (Weak.keep [2, 3, 4, 5, 6, 8, 25, 26]) ?_
    simp only [go_sem]
    refine W_loopT (α := Nat) (fun (i : Nat) => [(8, glS (σ.store.length + 9) (sdUp s K g i)), (26, I i)]) (fun (i : Nat) => σ.ext ([some (scCells s), some (ngCells g), some [.isl [] .exact], some [I 0], some (scCells s), some (ngCells g), some (.mark :: knE K), some [.map (σ.store.length + 6)], some (scCells s)] ++ gsS (sdUp s K g i)) []) (fun (i : Nat) => i ≤ N) (fun (i : Nat) => N - i) (0) rfl (by first | rfl | (simp only [go_sem]; done) | (simp only [go_sem]; rfl)) (Nat.zero_le _) ?_
    rintro i hi
    refine W_seq fun kz10 kq10 => ?_
    refine W_region [2, 3, 4, 5, 6, 8, 25, 26, 27] fun R hR => ?_   -- r8
    simp only [go_sem]
    refine hR _ _ (kq10 _ _ ?_); clear hR R; try clear kq10 kz10
    try simp only [go_sem]
    refine W_seq fun kz11 kq11 => ?_
    refine W_cond rfl (fun c1 => ?_) (fun c1 => ?_)
    · -- c1 true
      try simp only [nrm] at c1
      have hiN : i < N := by first | omega | (simp at c1; omega)
      have hsu := sdUp_succ s K g i
      have hsl : (sdUp s K g i).length = i := by simp [sdUp]
      have happ := appG_gs (σ := σ) (A := [some (scCells s), some (ngCells g), some [.isl [] .exact], some [I 0], some (scCells s), some (ngCells g), some (.mark :: knE K), some [.map (σ.store.length + 6)], some (scCells s)]) (rm := []) (ys := []) (out := sdUp s K g i) 40 (standK s K g i 0) (by omega)
      rw [← hsu] at happ
      simp only [go_sem, List.length_cons, List.length_nil] at happ
      refine W_skip (kq11 _ _ ?_)
      refine W_seq fun kz12 kq12 => ?_
      refine W_block ?_
      refine W_seq fun kz13 kq13 => ?_
      refine W_region [2, 3, 4, 5, 6, 8, 9, 25, 26] fun R hR => ?_   -- r9
      simp only [go_sem, happ]
      refine hR _ _ (kq13 _ _ ?_); clear hR R; try clear kq13 kz13
      try simp only [go_sem, happ]
      refine W_region [2, 3, 4, 5, 6, 8, 25, 26] fun R hR => ?_   -- r10
      simp only [go_sem, happ]
      refine GCall_of (standing_pc Y _ (σ.store.length + 6) K (Sg.get_ext ..) s g hV i (by omega) 0 (by omega)) ?_   -- t34
      simp only [go_sem, happ]
      try simp (disch := first | omega | (simp only [go_sem] <;> omega)) only [wrapI, wrapU, appX_exact, appX_tok]
      try simp only [go_sem, happ]
      refine hR _ _ (kq12 _ _ ?_); clear hR R; try clear kq12 kz12
      try simp only [go_sem, happ]
      refine W_region [2, 3, 4, 5, 6, 8, 25, 26] fun R hR => ?_   -- r11
      simp only [go_sem, happ]
      try simp (disch := omega) only [wrapI, wrapU]
      refine hR _ _ ?_; clear hR R
      try simp only [go_sem, happ]
      refine ⟨i + 1, ?_, by (try simp only []); omega, ?_⟩
      · exact Weak.refl
      · try dsimp only
        omega
    · -- c1 false
      try simp only [nrm] at c1
      have hie : N = i := by first | omega | (simp at c1; omega)
      subst hie
      have hsl : (sdUp s K g N).length = N := by simp [sdUp]
      have hCmp : ∀ a b, a ∈ sdUp s K g N → b ∈ sdUp s K g N → CmpOk s.order a b := fun a b ha hb => by
        obtain ⟨x, hx, rfl⟩ := List.mem_map.1 ha
        obtain ⟨y, hy, rfl⟩ := List.mem_map.1 hb
        have h1 := List.mem_range.1 hx
        have h2 := List.mem_range.1 hy
        exact cmp_ok hV (by omega) (by omega) (by omega) (by omega)
      refine W_exit ?_
      simp only [go_sem]
      refine kq8 _ _ ?_
      refine W_seq fun kz14 kq14 => ?_
      refine W_region [4, 5, 8, 10] fun R hR => ?_   -- r12
      simp only [go_sem]
      refine hR _ _ (kq14 _ _ ?_); clear hR R; try clear kq14 kz14
      try simp only [go_sem]
      refine W_seq fun kz15 kq15 => ?_
      refine W_region [4, 5, 8] fun R hR => ?_   -- r13
      simp only [go_sem]
      refine GCall_of (sort_gs Y σ [_, _, _, _, _, _, _, _, _] [] s.order (sdUp s K g N) hCmp (by omega) (by omega)) ?_   -- t44
      simp only [go_sem]
      refine hR _ _ (kq15 _ _ ?_); clear hR R; try clear kq15 kz15
      try simp only [go_sem]
      refine W_seq fun kz16 kq16 => ?_
      have hne3 : sortSd s.order (sdUp s K g N) ≠ [] := fun e => by
        have := sortSd_len s.order (sdUp s K g N)
        rw [e, hsl] at this
        simp at this; omega
      refine W_weak (Weak.freezeS (t := 8) (A := [_, _, _, _, _, _, _, _, _]) (out := sortSd s.order (sdUp s K g N)) (by rw [glS_sort]; rfl) hne3) ?_
      refine W_weak (Weak.keep [4, 5, 8]) ?_
      simp only [go_sem]
      refine W_region [4, 5] fun R hR => ?_   -- r14
      simp only [go_sem]
      refine hR _ _ (kq16 _ _ ?_); clear hR R; try clear kq16 kz16
      try simp only [go_sem]
      refine W_ret ?_
      simp only [go_sem]
      refine ⟨.inr (by trivial), ?_⟩
      refine Fin_same hcl (by show resPV Tryz.prog _ _ [.cell 4 41, .cell 5 42] = some _; simp only [resPV, go_sem]; rfl) (Wk.ro (by simp only [go_sem]) ?_)
      try simp only [go_sem]
      all_goals
        first | rfl | simp only [go_sem]
theorem Table_pc (Y : YEnv) (σ : Sg) (s : Scale) (g : Night) (hs : s.Ok) (hg : g.Ok) : PC Tryz.prog Y 17 [scPV s, ngPV g] σ (.tuple [sds (tableP s g).1, I (tableP s g).2]) σ := by
  unfold tableP
  by_cases h : knownE s g = 0
  · rw [if_neg (by simpa using h)]
    by_cases h2 : sealedK s (knownK s g) = []
    · rw [if_neg (by simpa using h2)]; exact tabO_pc Y σ s g hs hg h h2
    · rw [if_pos h2]; exact tabS_pc Y σ s g hs hg h h2
  · rw [if_pos h]; exact tabE_pc Y σ s g hs hg h
end Go.Proofs.YtgelnjmddabgpaaGreat
namespace Go.Proofs.YtgelnjmddabgpaaGreat
open Go Go.RowKit
set_option maxRecDepth 100000
def insI (x : Int) : List Int → List Int
  | [] => [x]
  | y :: l => if x ≤ y then x :: y :: l else y :: insI x l
def isortI : List Int → List Int
  | [] => []
  | x :: l => insI x (isortI l)
theorem sorted_sortI (l : List Int) : (sortI l).Pairwise (· ≤ ·) := by
  have h := List.pairwise_mergeSort (le := fun (a b : Int) => decide (a ≤ b)) (by intro a b c h1 h2; simp at *; omega) (by intro a b; simp; omega) l
  exact h.imp fun h => by simpa using h
theorem perm_sortI (l : List Int) : (sortI l).Perm l := List.mergeSort_perm l _
theorem insI_perm (x : Int) : ∀ l : List Int, (insI x l).Perm (x :: l) := by
  intro l
  induction l with
  | nil => exact .refl _
  | cons y l ih =>
    simp only [insI]
    split
    · exact .refl _
    · exact (ih.cons y).trans (.swap x y l)
theorem insI_sorted (x : Int) : ∀ {l : List Int}, l.Pairwise (· ≤ ·) → (insI x l).Pairwise (· ≤ ·) := by
  intro l
  induction l with
  | nil => intro _; simp [insI]
  | cons y l ih =>
    intro h
    obtain ⟨h1, h2⟩ := List.pairwise_cons.1 h
    simp only [insI]
    split
    · rename_i hxy
      exact List.pairwise_cons.2 ⟨fun z hz => by rcases List.mem_cons.1 hz with rfl | hz; exact hxy; exact Int.le_trans hxy (h1 z hz), h⟩
    · rename_i hxy
      refine List.pairwise_cons.2 ⟨fun z hz => ?_, ih h2⟩
      rcases List.mem_cons.1 ((insI_perm x l).mem_iff.1 hz) with rfl | hz
      · omega
      · exact h1 z hz
theorem isortI_perm : ∀ l : List Int, (isortI l).Perm l := by
  intro l
  induction l with
  | nil => exact .refl _
  | cons x l ih => exact (insI_perm x _).trans (ih.cons x)
theorem isortI_sorted : ∀ l : List Int, (isortI l).Pairwise (· ≤ ·) := by
  intro l
  induction l with
  | nil => exact .nil
  | cons x l ih => exact insI_sorted x ih
theorem sorted_unique : ∀ {l m : List Int}, l.Perm m → l.Pairwise (· ≤ ·) → m.Pairwise (· ≤ ·) → l = m := by
  intro l
  induction l with
  | nil => intro m h _ _; exact h.nil_eq
  | cons x l ih =>
    intro m h h1 h2
    obtain ⟨a1, a2⟩ := List.pairwise_cons.1 h1
    cases m with
    | nil => exact absurd h.length_eq (by simp)
    | cons y m =>
      obtain ⟨b1, b2⟩ := List.pairwise_cons.1 h2
      have e : x = y := by
        have hx : x ∈ y :: m := h.mem_iff.1 (by simp)
        have hy : y ∈ x :: l := h.mem_iff.2 (by simp)
        rcases List.mem_cons.1 hx with e | hx
        · exact e
        · rcases List.mem_cons.1 hy with e | hy
          · exact e.symm
          · have := b1 x hx; have := a1 y hy; omega
      subst e
      rw [ih ((List.perm_cons x).1 h) a2 b2]
theorem sortI_eq : sortI = isortI := by
  funext l
  exact sorted_unique ((perm_sortI l).trans (isortI_perm l).symm) (sorted_sortI l) (isortI_sorted l)
def exScale : Scale := ⟨3, 2, 3, 1, 50, 100, [1, 0]⟩
def exNight : Night := ⟨[⟨0, 0, [100, 90, 80], 633⟩, ⟨0, 1, [90, 100, 80], 655⟩, ⟨0, 2, [95, 95, 95], 707⟩, ⟨1, 0, [80, 90, 100], 774⟩, ⟨1, 1, [100, 70, 90], 736⟩], [(1, 2)], [(2, 5)]⟩
def exBefore : Night := ⟨[⟨0, 0, [100, 90, 80], 633⟩, ⟨0, 1, [90, 100, 80], 655⟩, ⟨0, 2, [95, 95, 95], 707⟩, ⟨1, 0, [80, 90, 100], 774⟩], [(1, 2)], [(2, 5)]⟩
theorem exTable : tableP exScale exNight = ([⟨0, 385, [195, 190]⟩, ⟨2, 365, [175, 195]⟩, ⟨1, 365, [195, 170]⟩], 0) := by
  simp only [tableP, tblP, sdUp, standK, pointsL, pointsK, sortI_eq]
  decide +kernel
theorem exTotals : totalsA exScale exBefore = ([(340, 385), (355, 390), (345, 370)], 0) := by
  simp only [totalsA, standK, pointsL, pointsK, sortI_eq]
  decide +kernel
theorem exPlace : placeA exScale exBefore 0 = ((1, 3), 0) := by
  simp only [placeA, placeK, standK, pointsL, pointsK, sortI_eq]
  decide +kernel
theorem exScale_ok : exScale.Ok := ⟨by decide⟩
theorem exNight_ok : exNight.Ok := ⟨by decide, by decide, by decide, by decide⟩
theorem exBefore_ok : exBefore.Ok := ⟨by decide, by decide, by decide, by decide⟩
set_option maxHeartbeats 2000000 in
theorem EqInts_pc (Y : YEnv) (σ : Sg) (xs ys : List Int) (o o2 : Own) (hx : xs.length < 2 ^ 50) :
    PC Tryz.prog Y 48 [.isl (xs.map I) o, .isl (ys.map I) o2] σ (.bool (decide (xs = ys))) (σ) := by
  refine PC_of_W Tryz.func48 rfl (by kernel_rfl) Tryz.ntmps48 (by simp) fun hcl hca => ?_
  refine W_seq fun kz1 kq1 => ?_
  refine W_region [0, 1] fun R hR => ?_   -- r0
  simp only [go_sem]
  refine hR _ _ (kq1 _ _ ?_); clear hR R; try clear kq1 kz1
  try simp only [go_sem]
  refine W_seq fun kz2 kq2 => ?_
  refine W_seq fun kz3 kq3 => ?_
  refine W_region [0, 1, 10] fun R hR => ?_   -- r1
  simp only [go_sem]
  refine hR _ _ (kq3 _ _ ?_); clear hR R; try clear kq3 kz3
  try simp only [go_sem]
  refine W_cond rfl (fun c1 => ?_) (fun c1 => ?_)
  · -- c1 true
    try simp only [nrm] at c1
    refine W_seq fun kz4 kq4 => ?_
    refine W_region [4] fun R hR => ?_   -- r2
    simp only [go_sem]
    refine hR _ _ (kq4 _ _ ?_); clear hR R; try clear kq4 kz4
    try simp only [go_sem]
    refine W_ret ?_
    simp only [go_sem]
    refine ⟨.inr (by trivial), ?_⟩
    first | refine Fin_same hcl rfl (Wk_eq ?_ (by simp only [go_sem])) | refine Fin_self hcl rfl (Wk_eq ?_ (by simp only [go_sem]))
    try simp only [go_sem]
    all_goals
      simp; intro h; subst h; exact c1 rfl
  · -- c1 false
    try simp only [nrm] at c1
    refine W_skip (kq2 _ _ ?_)
    refine W_seq fun kz5 kq5 => ?_
    refine W_seq fun kz6 kq6 => ?_
    refine W_region [0, 1, 5] fun R hR => ?_   -- r3
    simp only [go_sem]
    refine hR _ _ (kq6 _ _ ?_); clear hR R; try clear kq6 kz6
    try simp only [go_sem]
    refine W_block ?_
    refine W_loopS (α := Nat) (fun (i : Nat) => [(5, I i)]) (fun (i : Nat) => i ≤ xs.length ∧ xs.take i = ys.take i) (fun (i : Nat) => xs.length - i) (0) rfl (⟨Nat.zero_le _, rfl⟩) ?_
    rintro i ⟨hi, ht⟩
    refine W_seq fun kz7 kq7 => ?_
    refine W_seq fun kz8 kq8 => ?_
    refine W_region [0, 1, 5, 14] fun R hR => ?_   -- r4
    simp only [go_sem]
    refine hR _ _ (kq8 _ _ ?_); clear hR R; try clear kq8 kz8
    try simp only [go_sem]
    refine W_cond rfl (fun c2 => ?_) (fun c2 => ?_)
    · -- c2 true
      try simp only [nrm] at c2
      have hi' : i < xs.length := by first | assumption | omega
      obtain ⟨x, hxi⟩ : ∃ x, xs[i]? = some x := ⟨xs[i], by simp⟩
      obtain ⟨y, hyi⟩ : ∃ y, ys[i]? = some y := ⟨ys[i]'(by omega), by simp⟩
      refine W_skip (kq7 _ _ ?_)
      refine W_seq fun kz9 kq9 => ?_
      refine W_block ?_
      refine W_seq fun kz10 kq10 => ?_
      refine W_draw [0, 1, 5, 25] [0, 1, 2, 3, 4, 5, 6, 7, 8] [] [[], [], [0, 1], [0, 1, 2], [], [], [4, 5], [4, 5, 6], [0, 1, 2, 3, 4, 5, 6, 7]] mixed (by kernel_rfl) fun R hR => ?_   -- r6
      simp only [go_sem, hxi, hyi]
      try refine And.intro (by repeat' (first | refine And.intro ?_ ?_ | exact GOr_right (fun _ => by simp only [go_sem, hxi, hyi]))) ?_
      refine hR _ _ (kq10 _ _ ?_); clear hR R; try clear kq10 kz10
      try simp only [go_sem, hxi, hyi]
      refine W_cond rfl (fun c3 => ?_) (fun c3 => ?_)
      · -- c3 true
        try simp only [nrm] at c3
        refine W_seq fun kz11 kq11 => ?_
        refine W_region [4] fun R hR => ?_   -- r7
        simp only [go_sem, hxi, hyi]
        refine hR _ _ (kq11 _ _ ?_); clear hR R; try clear kq11 kz11
        try simp only [go_sem, hxi, hyi]
        refine W_ret ?_
        simp only [go_sem, hxi, hyi]
        refine ⟨.inr (by trivial), ?_⟩
        first | refine Fin_same hcl rfl (Wk_eq ?_ (by simp only [go_sem])) | refine Fin_self hcl rfl (Wk_eq ?_ (by simp only [go_sem]))
        try simp only [go_sem]
        all_goals
          simp; intro h; subst h; rw [hxi] at hyi; injection hyi with h; exact c3 h
      · -- c3 false
        try simp only [nrm] at c3
        refine W_skip (kq9 _ _ ?_)
        refine W_region [0, 1, 5] fun R hR => ?_   -- r5
        simp only [go_sem, hxi, hyi]
        try simp (disch := omega) only [wrapI, wrapU]
        refine hR _ _ ?_; clear hR R
        try simp only [go_sem, hxi, hyi]
        refine ⟨i + 1, ?_, by (try simp only []); omega, ?_⟩
        · first | exact Weak.refl | exact Weak.eq (by first | rfl | (simp only [go_sem]; done) | (simp only [go_sem]; rfl) | (simp [go_sem]; done) | (simp [go_sem]; omega)) (by first | rfl | (simp only [go_sem]; done) | (simp [go_sem]; done))
        · try dsimp only
          refine ⟨hi', ?_⟩
          rw [List.take_add_one, List.take_add_one, ht, hxi, hyi, c3]
    · -- c2 false
      try simp only [nrm] at c2
      have hie : i = xs.length := by omega
      subst hie
      have hxy : xs = ys := by rw [List.take_length] at ht; rw [c1, List.take_length] at ht; exact ht
      refine W_exit ?_
      simp only [go_sem]
      refine kq5 _ _ ?_
      refine W_seq fun kz12 kq12 => ?_
      refine W_region [4] fun R hR => ?_   -- r8
      simp only [go_sem]
      refine hR _ _ (kq12 _ _ ?_); clear hR R; try clear kq12 kz12
      try simp only [go_sem]
      refine W_ret ?_
      simp only [go_sem]
      refine ⟨.inr (by trivial), ?_⟩
      first | refine Fin_same hcl rfl (Wk_eq ?_ (by simp only [go_sem])) | refine Fin_self hcl rfl (Wk_eq ?_ (by simp only [go_sem]))
      try simp only [go_sem]
      all_goals
        simp [hxy]
theorem eqSp {a b c d : Int} : eqPV Tryz.prog 63 (.agg [.int .i64 a, .int .i64 b]) (.agg [.int .i64 c, .int .i64 d]) = some (decide ((a, b) = (c, d))) := by
  rw [eqs63]
  refine congrArg some ?_
  rw [Bool.eq_iff_iff]
  simp
attribute [go_sem high] eqSp
set_option maxHeartbeats 2000000 in
theorem EqSpans_pc (Y : YEnv) (σ : Sg) (xs ys : List (Int × Int)) (o o2 : Own) (hx : xs.length < 2 ^ 50) :
    PC Tryz.prog Y 32 [.isl (xs.map stPV) o, .isl (ys.map stPV) o2] σ (.bool (decide (xs = ys))) (σ) := by
  refine PC_of_W Tryz.func32 rfl (by kernel_rfl) Tryz.ntmps32 (by simp) fun hcl hca => ?_
  refine W_seq fun kz1 kq1 => ?_
  refine W_region [0, 1] fun R hR => ?_   -- r0
  simp only [go_sem]
  refine hR _ _ (kq1 _ _ ?_); clear hR R; try clear kq1 kz1
  try simp only [go_sem]
  refine W_seq fun kz2 kq2 => ?_
  refine W_seq fun kz3 kq3 => ?_
  refine W_region [0, 1, 10] fun R hR => ?_   -- r1
  simp only [go_sem]
  refine hR _ _ (kq3 _ _ ?_); clear hR R; try clear kq3 kz3
  try simp only [go_sem]
  refine W_cond rfl (fun c1 => ?_) (fun c1 => ?_)
  · -- c1 true
    try simp only [nrm] at c1
    refine W_seq fun kz4 kq4 => ?_
    refine W_region [4] fun R hR => ?_   -- r2
    simp only [go_sem]
    refine hR _ _ (kq4 _ _ ?_); clear hR R; try clear kq4 kz4
    try simp only [go_sem]
    refine W_ret ?_
    simp only [go_sem]
    refine ⟨.inr (by trivial), ?_⟩
    first | refine Fin_same hcl rfl (Wk_eq ?_ (by simp only [go_sem])) | refine Fin_self hcl rfl (Wk_eq ?_ (by simp only [go_sem]))
    try simp only [go_sem]
    all_goals
      simp; intro h; subst h; exact c1 rfl
  · -- c1 false
    try simp only [nrm] at c1
    refine W_skip (kq2 _ _ ?_)
    refine W_seq fun kz5 kq5 => ?_
    refine W_seq fun kz6 kq6 => ?_
    refine W_region [0, 1, 5] fun R hR => ?_   -- r3
    simp only [go_sem]
    refine hR _ _ (kq6 _ _ ?_); clear hR R; try clear kq6 kz6
    try simp only [go_sem]
    refine W_block ?_
    refine W_loopS (α := Nat) (fun (i : Nat) => [(5, I i)]) (fun (i : Nat) => i ≤ xs.length ∧ xs.take i = ys.take i) (fun (i : Nat) => xs.length - i) (0) rfl (⟨Nat.zero_le _, rfl⟩) ?_
    rintro i ⟨hi, ht⟩
    refine W_seq fun kz7 kq7 => ?_
    refine W_seq fun kz8 kq8 => ?_
    refine W_region [0, 1, 5, 14] fun R hR => ?_   -- r4
    simp only [go_sem]
    refine hR _ _ (kq8 _ _ ?_); clear hR R; try clear kq8 kz8
    try simp only [go_sem]
    refine W_cond rfl (fun c2 => ?_) (fun c2 => ?_)
    · -- c2 true
      try simp only [nrm] at c2
      have hi' : i < xs.length := by first | assumption | omega
      obtain ⟨x, hxi⟩ : ∃ x, xs[i]? = some x := ⟨xs[i], by simp⟩
      obtain ⟨y, hyi⟩ : ∃ y, ys[i]? = some y := ⟨ys[i]'(by omega), by simp⟩
      refine W_skip (kq7 _ _ ?_)
      refine W_seq fun kz9 kq9 => ?_
      refine W_block ?_
      refine W_seq fun kz10 kq10 => ?_
      refine W_draw [0, 1, 5, 25] [0, 1, 2, 3, 4, 5, 6, 7, 8] [] [[], [], [0, 1], [0, 1, 2], [], [], [4, 5], [4, 5, 6], [0, 1, 2, 3, 4, 5, 6, 7]] mixed (by kernel_rfl) fun R hR => ?_   -- r6
      simp only [go_sem, hxi, hyi]
      try refine And.intro (by repeat' (first | refine And.intro ?_ ?_ | exact GOr_right (fun _ => by simp only [go_sem, hxi, hyi]))) ?_
      refine hR _ _ (kq10 _ _ ?_); clear hR R; try clear kq10 kz10
      try simp only [go_sem, hxi, hyi]
      refine W_cond rfl (fun c3 => ?_) (fun c3 => ?_)
      · -- c3 true
        try simp only [nrm] at c3
        refine W_seq fun kz11 kq11 => ?_
        refine W_region [4] fun R hR => ?_   -- r7
        simp only [go_sem, hxi, hyi]
        refine hR _ _ (kq11 _ _ ?_); clear hR R; try clear kq11 kz11
        try simp only [go_sem, hxi, hyi]
        refine W_ret ?_
        simp only [go_sem, hxi, hyi]
        refine ⟨.inr (by trivial), ?_⟩
        first | refine Fin_same hcl rfl (Wk_eq ?_ (by simp only [go_sem])) | refine Fin_self hcl rfl (Wk_eq ?_ (by simp only [go_sem]))
        try simp only [go_sem]
        all_goals
          simp; intro h; subst h; rw [hxi] at hyi; injection hyi with h; subst h; simp at c3
      · -- c3 false
        try simp only [nrm] at c3
        refine W_skip (kq9 _ _ ?_)
        refine W_region [0, 1, 5] fun R hR => ?_   -- r5
        simp only [go_sem, hxi, hyi]
        try simp (disch := omega) only [wrapI, wrapU]
        refine hR _ _ ?_; clear hR R
        try simp only [go_sem, hxi, hyi]
        refine ⟨i + 1, ?_, by (try simp only []); omega, ?_⟩
        · first | exact Weak.refl | exact Weak.eq (by first | rfl | (simp only [go_sem]; done) | (simp only [go_sem]; rfl) | (simp [go_sem]; done) | (simp [go_sem]; omega)) (by first | rfl | (simp only [go_sem]; done) | (simp [go_sem]; done))
        · try dsimp only
          refine ⟨hi', ?_⟩
          rw [List.take_add_one, List.take_add_one, ht, hxi, hyi, show x = y by obtain ⟨a, b⟩ := x; obtain ⟨c, d⟩ := y; simpa using c3]
    · -- c2 false
      try simp only [nrm] at c2
      have hie : i = xs.length := by omega
      subst hie
      have hxy : xs = ys := by rw [List.take_length] at ht; rw [c1, List.take_length] at ht; exact ht
      refine W_exit ?_
      simp only [go_sem]
      refine kq5 _ _ ?_
      refine W_seq fun kz12 kq12 => ?_
      refine W_region [4] fun R hR => ?_   -- r8
      simp only [go_sem]
      refine hR _ _ (kq12 _ _ ?_); clear hR R; try clear kq12 kz12
      try simp only [go_sem]
      refine W_ret ?_
      simp only [go_sem]
      refine ⟨.inr (by trivial), ?_⟩
      first | refine Fin_same hcl rfl (Wk_eq ?_ (by simp only [go_sem])) | refine Fin_self hcl rfl (Wk_eq ?_ (by simp only [go_sem]))
      try simp only [go_sem]
      all_goals
        simp [hxy]
set_option maxHeartbeats 2000000 in
theorem EqTables_pc (Y : YEnv) (σ : Sg) (xs ys : List Stand) (o o2 : Own) (hx : xs.length < 2 ^ 50) (hy : ∀ x, x ∈ xs → x.points.length < 2 ^ 40) :
    PC Tryz.prog Y 19 [.isl (xs.map sdPV) o, .isl (ys.map sdPV) o2] σ (.bool (decide (xs = ys))) (σ) := by
  refine PC_of_W Tryz.func19 rfl (by kernel_rfl) Tryz.ntmps19 (by simp) fun hcl hca => ?_
  refine W_seq fun kz1 kq1 => ?_
  refine W_region [0, 1] fun R hR => ?_   -- r0
  simp only [go_sem]
  refine hR _ _ (kq1 _ _ ?_); clear hR R; try clear kq1 kz1
  try simp only [go_sem]
  refine W_seq fun kz2 kq2 => ?_
  refine W_seq fun kz3 kq3 => ?_
  refine W_region [0, 1, 10] fun R hR => ?_   -- r1
  simp only [go_sem]
  refine hR _ _ (kq3 _ _ ?_); clear hR R; try clear kq3 kz3
  try simp only [go_sem]
  refine W_cond rfl (fun c1 => ?_) (fun c1 => ?_)
  · -- c1 true
    try simp only [nrm] at c1
    refine W_seq fun kz4 kq4 => ?_
    refine W_region [4] fun R hR => ?_   -- r2
    simp only [go_sem]
    refine hR _ _ (kq4 _ _ ?_); clear hR R; try clear kq4 kz4
    try simp only [go_sem]
    refine W_ret ?_
    simp only [go_sem]
    refine ⟨.inr (by trivial), ?_⟩
    first | refine Fin_same hcl rfl (Wk_eq ?_ (by simp only [go_sem])) | refine Fin_self hcl rfl (Wk_eq ?_ (by simp only [go_sem]))
    try simp only [go_sem]
    all_goals
      simp; intro h; subst h; exact c1 rfl
  · -- c1 false
    try simp only [nrm] at c1
    refine W_skip (kq2 _ _ ?_)
    refine W_seq fun kz5 kq5 => ?_
    refine W_seq fun kz6 kq6 => ?_
    refine W_region [0, 1, 5] fun R hR => ?_   -- r3
    simp only [go_sem]
    refine hR _ _ (kq6 _ _ ?_); clear hR R; try clear kq6 kz6
    try simp only [go_sem]
    refine W_block ?_
    refine W_loopS (α := Nat) (fun (i : Nat) => [(5, I i)]) (fun (i : Nat) => i ≤ xs.length ∧ xs.take i = ys.take i) (fun (i : Nat) => xs.length - i) (0) rfl (⟨Nat.zero_le _, rfl⟩) ?_
    rintro i ⟨hi, ht⟩
    refine W_seq fun kz7 kq7 => ?_
    refine W_seq fun kz8 kq8 => ?_
    refine W_region [0, 1, 5, 14] fun R hR => ?_   -- r4
    simp only [go_sem]
    refine hR _ _ (kq8 _ _ ?_); clear hR R; try clear kq8 kz8
    try simp only [go_sem]
    refine W_cond rfl (fun c2 => ?_) (fun c2 => ?_)
    · -- c2 true
      try simp only [nrm] at c2
      have hi' : i < xs.length := by first | assumption | omega
      obtain ⟨x, hxi⟩ : ∃ x, xs[i]? = some x := ⟨xs[i], by simp⟩
      obtain ⟨y, hyi⟩ : ∃ y, ys[i]? = some y := ⟨ys[i]'(by omega), by simp⟩
      refine W_skip (kq7 _ _ ?_)
      refine W_seq fun kz9 kq9 => ?_
      refine W_block ?_
      refine W_seq fun kz10 kq10 => ?_
      refine W_draw [0, 1, 5, 54] [0, 1, 2, 3, 4, 5, 6, 7, 8, 9, 10, 11, 12, 13, 14, 15, 16, 17, 18, 19, 20, 21, 22, 23, 24, 25, 26, 27, 28, 29, 30, 31, 32, 33, 34, 35, 36, 37] [] [[], [], [0, 1], [0, 1, 2], [0, 1, 2, 3], [], [], [5, 6], [5, 6, 7], [5, 6, 7, 8], [0, 1, 2, 3, 4, 5, 6, 7, 8, 9], [0, 1, 2, 3, 4, 5, 6, 7, 8, 9, 10], [0, 1, 2, 3, 4, 5, 6, 7, 8, 9, 10, 11], [0, 1, 2, 3, 4, 5, 6, 7, 8, 9, 10, 11], [0, 1, 2, 3, 4, 5, 6, 7, 8, 9, 10, 11, 12, 13], [0, 1, 2, 3, 4, 5, 6, 7, 8, 9, 10, 11, 12, 13, 14], [0, 1, 2, 3, 4, 5, 6, 7, 8, 9, 10, 11, 12, 13, 14, 15], [0, 1, 2, 3, 4, 5, 6, 7, 8, 9, 10, 11], [0, 1, 2, 3, 4, 5, 6, 7, 8, 9, 10, 11], [0, 1, 2, 3, 4, 5, 6, 7, 8, 9, 10, 11, 17, 18], [0, 1, 2, 3, 4, 5, 6, 7, 8, 9, 10, 11, 17, 18, 19], [0, 1, 2, 3, 4, 5, 6, 7, 8, 9, 10, 11, 17, 18, 19, 20], [0, 1, 2, 3, 4, 5, 6, 7, 8, 9, 10, 11, 12, 13, 14, 15, 16, 17, 18, 19, 20, 21], [0, 1, 2, 3, 4, 5, 6, 7, 8, 9, 10, 11, 12, 13, 14, 15, 16, 17, 18, 19, 20, 21, 22], [0, 1, 2, 3, 4, 5, 6, 7, 8, 9, 10, 11, 12, 13, 14, 15, 16, 17, 18, 19, 20, 21, 22, 23], [0, 1, 2, 3, 4, 5, 6, 7, 8, 9, 10, 11, 12, 13, 14, 15, 16, 17, 18, 19, 20, 21, 22, 23, 24], [0, 1, 2, 3, 4, 5, 6, 7, 8, 9, 10, 11, 12, 13, 14, 15, 16, 17, 18, 19, 20, 21, 22, 23, 24], [0, 1, 2, 3, 4, 5, 6, 7, 8, 9, 10, 11, 12, 13, 14, 15, 16, 17, 18, 19, 20, 21, 22, 23, 24, 25, 26], [0, 1, 2, 3, 4, 5, 6, 7, 8, 9, 10, 11, 12, 13, 14, 15, 16, 17, 18, 19, 20, 21, 22, 23, 24, 25, 26, 27], [0, 1, 2, 3, 4, 5, 6, 7, 8, 9, 10, 11, 12, 13, 14, 15, 16, 17, 18, 19, 20, 21, 22, 23, 24, 25, 26, 27, 28], [0, 1, 2, 3, 4, 5, 6, 7, 8, 9, 10, 11, 12, 13, 14, 15, 16, 17, 18, 19, 20, 21, 22, 23, 24], [0, 1, 2, 3, 4, 5, 6, 7, 8, 9, 10, 11, 12, 13, 14, 15, 16, 17, 18, 19, 20, 21, 22, 23, 24], [0, 1, 2, 3, 4, 5, 6, 7, 8, 9, 10, 11, 12, 13, 14, 15, 16, 17, 18, 19, 20, 21, 22, 23, 24, 30, 31], [0, 1, 2, 3, 4, 5, 6, 7, 8, 9, 10, 11, 12, 13, 14, 15, 16, 17, 18, 19, 20, 21, 22, 23, 24, 30, 31, 32], [0, 1, 2, 3, 4, 5, 6, 7, 8, 9, 10, 11, 12, 13, 14, 15, 16, 17, 18, 19, 20, 21, 22, 23, 24, 30, 31, 32, 33], [0, 1, 2, 3, 4, 5, 6, 7, 8, 9, 10, 11, 12, 13, 14, 15, 16, 17, 18, 19, 20, 21, 22, 23, 24, 25, 26, 27, 28, 29, 30, 31, 32, 33, 34], [0, 1, 2, 3, 4, 5, 6, 7, 8, 9, 10, 11, 12, 13, 14, 15, 16, 17, 18, 19, 20, 21, 22, 23, 24, 25, 26, 27, 28, 29, 30, 31, 32, 33, 34, 35], [0, 1, 2, 3, 4, 5, 6, 7, 8, 9, 10, 11, 12, 13, 14, 15, 16, 17, 18, 19, 20, 21, 22, 23, 24, 25, 26, 27, 28, 29, 30, 31, 32, 33, 34, 35, 36]] mixed (by kernel_rfl) fun R hR => ?_   -- r6
      simp only [go_sem, hxi, hyi]
      refine GWant_split (fun g1 => ?_) (fun g1 => ?_)
      · try simp only [Bool.not_eq_true', Bool.not_eq_false'] at g1
        have n1 := g1; try simp only [nrm] at n1
        simp only [go_sem, hxi, hyi, g1]
        refine GWant_split (fun g2 => ?_) (fun g2 => ?_)
        · try simp only [Bool.not_eq_true', Bool.not_eq_false'] at g2
          have n2 := g2; try simp only [nrm] at n2
          simp only [go_sem, hxi, hyi, g1, g2]
          refine GCall_of (EqInts_pc Y _ x.points y.points .ro .ro (by have := hy x (List.mem_of_getElem? hxi); omega)) ?_   -- t52
          simp only [go_sem, hxi, hyi, g1, g2]
          try refine And.intro (by repeat' (first | refine And.intro ?_ ?_ | exact GOr_right (fun _ => by simp only [go_sem, hxi, hyi]))) ?_
          refine hR _ _ (kq10 _ _ ?_); clear hR R; try clear kq10 kz10
          try simp only [go_sem, hxi, hyi]
          refine W_cond rfl (fun c3 => ?_) (fun c3 => ?_)
          · -- c3 true
            try simp only [nrm] at c3
            refine W_seq fun kz11 kq11 => ?_
            refine W_region [4] fun R hR => ?_   -- r7
            simp only [go_sem, hxi, hyi]
            refine hR _ _ (kq11 _ _ ?_); clear hR R; try clear kq11 kz11
            try simp only [go_sem, hxi, hyi]
            refine W_ret ?_
            simp only [go_sem, hxi, hyi]
            refine ⟨.inr (by trivial), ?_⟩
            first | refine Fin_same hcl rfl (Wk_eq ?_ (by simp only [go_sem])) | refine Fin_self hcl rfl (Wk_eq ?_ (by simp only [go_sem]))
            try simp only [go_sem]
            all_goals
              simp; intro h; subst h; rw [hxi] at hyi; injection hyi with h; subst h; simp_all
          · -- c3 false
            try simp only [nrm] at c3
            refine W_skip (kq9 _ _ ?_)
            refine W_region [0, 1, 5] fun R hR => ?_   -- r5
            simp only [go_sem, hxi, hyi]
            try simp (disch := omega) only [wrapI, wrapU]
            refine hR _ _ ?_; clear hR R
            try simp only [go_sem, hxi, hyi]
            refine ⟨i + 1, ?_, by (try simp only []); omega, ?_⟩
            · first | exact Weak.refl | exact Weak.eq (by first | rfl | (simp only [go_sem]; done) | (simp only [go_sem]; rfl) | (simp [go_sem]; done) | (simp [go_sem]; omega)) (by first | rfl | (simp only [go_sem]; done) | (simp [go_sem]; done))
            · try dsimp only
              refine ⟨hi', ?_⟩
              rw [List.take_add_one, List.take_add_one, ht, hxi, hyi, show x = y by obtain ⟨a, b, c⟩ := x; obtain ⟨a2, b2, c2⟩ := y; simp_all]
        · try simp only [Bool.not_eq_true', Bool.not_eq_false'] at g2
          have n2 := g2; try simp only [nrm] at n2
          simp only [go_sem, hxi, hyi, g1, g2]
          try refine And.intro (by repeat' (first | refine And.intro ?_ ?_ | exact GOr_right (fun _ => by simp only [go_sem, hxi, hyi]))) ?_
          refine hR _ _ (kq10 _ _ ?_); clear hR R; try clear kq10 kz10
          try simp only [go_sem, hxi, hyi]
          refine W_cond_true rfl ?_
          refine W_seq fun kz12 kq12 => ?_
          refine W_region [4] fun R hR => ?_   -- r7
          simp only [go_sem, hxi, hyi]
          refine hR _ _ (kq12 _ _ ?_); clear hR R; try clear kq12 kz12
          try simp only [go_sem, hxi, hyi]
          refine W_ret ?_
          simp only [go_sem, hxi, hyi]
          refine ⟨.inr (by trivial), ?_⟩
          first | refine Fin_same hcl rfl (Wk_eq ?_ (by simp only [go_sem])) | refine Fin_self hcl rfl (Wk_eq ?_ (by simp only [go_sem]))
          try simp only [go_sem]
          all_goals
            simp; intro h; subst h; rw [hxi] at hyi; injection hyi with h; subst h; simp_all
      · try simp only [Bool.not_eq_true', Bool.not_eq_false'] at g1
        have n1 := g1; try simp only [nrm] at n1
        simp only [go_sem, hxi, hyi, g1]
        try refine And.intro (by repeat' (first | refine And.intro ?_ ?_ | exact GOr_right (fun _ => by simp only [go_sem, hxi, hyi]))) ?_
        refine hR _ _ (kq10 _ _ ?_); clear hR R; try clear kq10 kz10
        try simp only [go_sem, hxi, hyi]
        refine W_cond_true rfl ?_
        refine W_seq fun kz13 kq13 => ?_
        refine W_region [4] fun R hR => ?_   -- r7
        simp only [go_sem, hxi, hyi]
        refine hR _ _ (kq13 _ _ ?_); clear hR R; try clear kq13 kz13
        try simp only [go_sem, hxi, hyi]
        refine W_ret ?_
        simp only [go_sem, hxi, hyi]
        refine ⟨.inr (by trivial), ?_⟩
        first | refine Fin_same hcl rfl (Wk_eq ?_ (by simp only [go_sem])) | refine Fin_self hcl rfl (Wk_eq ?_ (by simp only [go_sem]))
        try simp only [go_sem]
        all_goals
          simp; intro h; subst h; rw [hxi] at hyi; injection hyi with h; subst h; simp_all
    · -- c2 false
      try simp only [nrm] at c2
      have hie : i = xs.length := by omega
      subst hie
      have hxy : xs = ys := by rw [List.take_length] at ht; rw [c1, List.take_length] at ht; exact ht
      refine W_exit ?_
      simp only [go_sem]
      refine kq5 _ _ ?_
      refine W_seq fun kz14 kq14 => ?_
      refine W_region [4] fun R hR => ?_   -- r8
      simp only [go_sem]
      refine hR _ _ (kq14 _ _ ?_); clear hR R; try clear kq14 kz14
      try simp only [go_sem]
      refine W_ret ?_
      simp only [go_sem]
      refine ⟨.inr (by trivial), ?_⟩
      first | refine Fin_same hcl rfl (Wk_eq ?_ (by simp only [go_sem])) | refine Fin_self hcl rfl (Wk_eq ?_ (by simp only [go_sem]))
      try simp only [go_sem]
      all_goals
        simp [hxy]
set_option maxHeartbeats 2000000 in
theorem span_pc (Y : YEnv) (σ : Sg) (a b : Int) :
    PC Tryz.prog Y 36 [I a, I b] σ (.agg [I a, I b]) (σ) := by
  refine PC_of_W Tryz.func36 rfl (by kernel_rfl) Tryz.ntmps36 (by simp) fun hcl hca => ?_
  refine W_seq fun kz1 kq1 => ?_
  refine W_region [0, 1, 4] fun R hR => ?_   -- r0
  simp only [go_sem]
  refine hR _ _ (kq1 _ _ ?_); clear hR R; try clear kq1 kz1
  try simp only [go_sem]
  refine W_seq fun kz2 kq2 => ?_
  refine W_region [4] fun R hR => ?_   -- r1
  simp only [go_sem]
  refine hR _ _ (kq2 _ _ ?_); clear hR R; try clear kq2 kz2
  try simp only [go_sem]
  refine W_ret ?_
  simp only [go_sem]
  refine ⟨.inr (by trivial), ?_⟩
  first | refine Fin_same hcl (by show resPV Tryz.prog _ _ [.cell 4 63] = some _; simp only [resPV, go_sem]; rfl) (Wk_eq ?_ (by simp only [go_sem])) | refine Fin_same hcl rfl (Wk_eq ?_ (by simp only [go_sem]))
  try simp only [go_sem]
  all_goals
    first | rfl | (simp_all; done) | (simp_all; omega)
set_option maxHeartbeats 2000000 in
theorem scale_pc (Y : YEnv) (σ : Sg)  :
    PC Tryz.prog Y 49 [] σ (scPV exScale) (σ) := by
  refine PC_of_W Tryz.func49 rfl (by kernel_rfl) Tryz.ntmps49 (by simp) fun hcl hca => ?_
  refine W_seq fun kz1 kq1 => ?_
  refine W_region [0] fun R hR => ?_   -- r0
  simp only [go_sem]
  refine hR _ _ (kq1 _ _ ?_); clear hR R; try clear kq1 kz1
  try simp only [go_sem]
  refine W_seq fun kz2 kq2 => ?_
  refine W_region [0] fun R hR => ?_   -- r1
  simp only [go_sem]
  refine hR _ _ (kq2 _ _ ?_); clear hR R; try clear kq2 kz2
  try simp only [go_sem]
  refine W_ret ?_
  simp only [go_sem]
  refine ⟨.inr (by trivial), ?_⟩
  refine Fin_same hcl (by show resPV Tryz.prog _ _ [.cell 0 24] = some _; simp only [resPV, go_sem]; rfl) (Wk.ro (by simp only [go_sem]) ?_)
  try simp only [go_sem]
  all_goals
    rfl
set_option maxHeartbeats 2000000 in
theorem night_pc (Y : YEnv) (σ : Sg)  :
    PC Tryz.prog Y 50 [] σ (ngPV exNight) (σ) := by
  refine PC_of_W Tryz.func50 rfl (by kernel_rfl) Tryz.ntmps50 (by simp) fun hcl hca => ?_
  refine W_seq fun kz1 kq1 => ?_
  refine W_region [0] fun R hR => ?_   -- r0
  simp only [go_sem]
  refine hR _ _ (kq1 _ _ ?_); clear hR R; try clear kq1 kz1
  try simp only [go_sem]
  refine W_seq fun kz2 kq2 => ?_
  refine W_region [0] fun R hR => ?_   -- r1
  simp only [go_sem]
  refine hR _ _ (kq2 _ _ ?_); clear hR R; try clear kq2 kz2
  try simp only [go_sem]
  refine W_ret ?_
  simp only [go_sem]
  refine ⟨.inr (by trivial), ?_⟩
  refine Fin_same hcl (by show resPV Tryz.prog _ _ [.cell 0 29] = some _; simp only [resPV, go_sem]; rfl) (Wk.ro (by simp only [go_sem]) ?_)
  try simp only [go_sem]
  all_goals
    rfl
set_option maxHeartbeats 2000000 in
theorem before_pc (Y : YEnv) (σ : Sg)  :
    PC Tryz.prog Y 51 [] σ (ngPV exBefore) (σ) := by
  refine PC_of_W Tryz.func51 rfl (by kernel_rfl) Tryz.ntmps51 (by simp) fun hcl hca => ?_
  refine W_seq fun kz1 kq1 => ?_
  refine W_region [0] fun R hR => ?_   -- r0
  simp only [go_sem]
  refine hR _ _ (kq1 _ _ ?_); clear hR R; try clear kq1 kz1
  try simp only [go_sem]
  refine W_seq fun kz2 kq2 => ?_
  refine W_region [0, 1] fun R hR => ?_   -- r1
  simp only [go_sem]
  refine GCall_of (night_pc Y _) ?_   -- t2
  simp only [go_sem]
  refine hR _ _ (kq2 _ _ ?_); clear hR R; try clear kq2 kz2
  try simp only [go_sem]
  refine W_seq fun kz3 kq3 => ?_
  have hz4 : ((0 : Int) ≤ 4) = True := by decide
  have hb4 : (Int.toNat 4 ≤ exNight.opened.length) = True := by decide
  refine W_region [0, 1] fun R hR => ?_   -- r2
  simp only [go_sem, hz4, hb4]
  refine hR _ _ (kq3 _ _ ?_); clear hR R; try clear kq3 kz3
  try simp only [go_sem]
  refine W_seq fun kz4 kq4 => ?_
  refine W_region [0] fun R hR => ?_   -- r3
  simp only [go_sem]
  refine hR _ _ (kq4 _ _ ?_); clear hR R; try clear kq4 kz4
  try simp only [go_sem]
  refine W_ret ?_
  simp only [go_sem]
  refine ⟨.inr (by trivial), ?_⟩
  refine Fin_same hcl (by show resPV Tryz.prog _ _ [.cell 0 29] = some _; simp only [resPV, go_sem]; rfl) (Wk.ro (by simp only [go_sem]) ?_)
  try simp only [go_sem]
  all_goals
    rfl
end Go.Proofs.YtgelnjmddabgpaaGreat
namespace Go.Proofs.YtgelnjmddabgpaaGreat
open Go Go.RowKit
set_option maxRecDepth 100000
theorem eqAb {a b c d : Int} : eqPV Tryz.prog 94 (.agg [.int .i64 a, .int .i64 b]) (.agg [.int .i64 c, .int .i64 d]) = some (decide ((a, b) = (c, d))) := by
  rw [eqs94]
  refine congrArg some ?_
  rw [Bool.eq_iff_iff]
  simp
theorem eqFi {a b c d : Int} : eqPV Tryz.prog 97 (.agg [.int .i64 a, .int .i64 b]) (.agg [.int .i64 c, .int .i64 d]) = some (decide ((a, b) = (c, d))) := by
  rw [eqs97]
  refine congrArg some ?_
  rw [Bool.eq_iff_iff]
  simp
attribute [go_sem high] eqAb eqFi
end Go.Proofs.YtgelnjmddabgpaaGreat
namespace Go.Proofs.YtgelnjmddabgpaaGreat
open Go Go.RowKit
set_option maxRecDepth 100000
set_option maxHeartbeats 4000000 in
theorem OwnNightT_pc (Y : YEnv) (σ : Sg) (n : Night) (hn : n.Ok) :
    PC Tryz.prog Y 16 [ngPV n] σ (.agg [.isl (n.opened.map evPV) (.tok (σ.rooms.length + 2) n.opened.length 4), .isl (n.absent.map stPV) (.tok σ.rooms.length n.absent.length 2), .isl (n.fines.map stPV) (.tok (σ.rooms.length + 1) n.fines.length 2)]) (σ.ext [] [n.absent.length, n.fines.length, n.opened.length]) := by
  refine PC_of_W Tryz.func16 rfl (by kernel_rfl) Tryz.ntmps16 (by simp) fun hcl hca => ?_
  have ho := hn.ho
  have ha := hn.ha
  have hf := hn.hf
  have hm := hn.hm
  refine W_seq fun kz1 kq1 => ?_
  refine W_region [1, 2] fun R hR => ?_   -- r0
  simp only [go_sem]
  refine hR _ _ (kq1 _ _ ?_); clear hR R; try clear kq1 kz1
  try simp only [go_sem]
  refine W_seq fun kz2 kq2 => ?_
  refine W_region [1, 2, 3] fun R hR => ?_   -- r1
  simp only [go_sem]
  refine hR _ _ (kq2 _ _ ?_); clear hR R; try clear kq2 kz2
  try simp only [go_sem]
  refine W_seq fun kz3 kq3 => ?_
  refine W_draw [1, 2, 3] [0, 1, 2, 3, 4, 5, 6, 7, 8, 9, 10, 11, 12, 13] [(4, 3), (5, 3), (6, 3), (8, 3), (8, 7)] [[], [], [1], [0, 1, 2], [], [], [5], [0, 1, 2, 3, 4, 5, 6], [1, 2, 5, 6], [0, 1, 2, 3, 4, 5, 6, 7, 8], [0, 1, 2, 3, 4, 5, 6, 7, 8, 9], [0, 1, 2, 3, 4, 5, 6, 7, 8, 9, 10], [0, 1, 2, 3, 4, 5, 6, 7, 8, 9, 10, 11], [0, 1, 2, 3, 4, 5, 6, 7, 8, 9, 10, 11, 12]] mixed (by kernel_rfl) fun R hR => ?_   -- r2
  simp only [go_sem]
  try simp (disch := first | omega | (simp only [go_sem] <;> omega)) only [wrapI, wrapU, appX_exact, appX_tok]
  try simp only [go_sem]
  try simp (disch := first | omega | (simp only [go_sem] <;> omega)) only [wrapI, wrapU, appX_exact, appX_tok]
  try simp only [go_sem]
  try refine And.intro (by repeat' (first | refine And.intro ?_ ?_ | exact GOr_right (fun _ => by simp only [go_sem]))) ?_
  refine hR _ _ (kq3 _ _ ?_); clear hR R; try clear kq3 kz3
  try simp only [go_sem]
  refine W_seq fun kz4 kq4 => ?_
  refine W_seq fun kz5 kq5 => ?_
  refine W_region [1, 2, 3, 4] fun R hR => ?_   -- r3
  simp only [go_sem]
  refine hR _ _ (kq5 _ _ ?_); clear hR R; try clear kq5 kz5
  try simp only [go_sem]
  refine W_block ?_
  refine W_weak (Weak.roomX (j := 0) (off := 0) (es := 4) rfl rfl (by simp)) ?_
  simp only [go_sem]
  refine W_loopT (α := Nat) (fun (i : Nat) => [(4, I i)]) (fun (i : Nat) => σ.ext [some [.isl ((n.opened.take i).map evPV) (.tok (σ.rooms.length + 2) i 4), .isl (n.absent.map stPV) (.tok σ.rooms.length n.absent.length 2), .isl (n.fines.map stPV) (.tok (σ.rooms.length + 1) n.fines.length 2)], some [.isl [] .exact, .isl [] .exact, .isl [] .exact]] [n.absent.length, n.fines.length, i]) (fun (i : Nat) => i ≤ n.opened.length) (fun (i : Nat) => n.opened.length - i) (0) rfl (by first | rfl | (simp only [go_sem]; done) | (simp only [go_sem]; rfl)) (Nat.zero_le _) ?_
  rintro i hi
  refine W_seq fun kz6 kq6 => ?_
  refine W_seq fun kz7 kq7 => ?_
  refine W_region [1, 2, 3, 4, 22] fun R hR => ?_   -- r4
  simp only [go_sem]
  refine hR _ _ (kq7 _ _ ?_); clear hR R; try clear kq7 kz7
  try simp only [go_sem]
  refine W_cond rfl (fun c1 => ?_) (fun c1 => ?_)
  · -- c1 true
    try simp only [nrm] at c1
    have hi' : i < n.opened.length := by first | assumption | omega
    obtain ⟨x, hx⟩ : ∃ x, n.opened[i]? = some x := ⟨n.opened[i], by simp [hi']⟩
    have hdrop : n.opened.drop i = x :: n.opened.drop (i + 1) := by
      rw [List.drop_eq_getElem_cons hi']; congr 1; exact (List.getElem?_eq_some_iff.1 hx).2
    have htl : (n.opened.take i).length = i := by rw [List.length_take]; omega
    have hsn : (n.opened.take (i + 1)).map evPV = (n.opened.take i).map evPV ++ [evPV x] := by rw [List.take_add_one, hx]; simp
    refine W_skip (kq6 _ _ ?_)
    refine W_seq fun kz8 kq8 => ?_
    refine W_block ?_
    refine W_seq fun kz9 kq9 => ?_
    refine W_region [1, 2, 3, 4, 5] fun R hR => ?_   -- r6
    simp only [go_sem, hx, htl]
    refine hR _ _ (kq9 _ _ ?_); clear hR R; try clear kq9 kz9
    try simp only [go_sem, hx, htl]
    refine W_seq fun kz10 kq10 => ?_
    refine W_region [1, 2, 3, 4, 5] fun R hR => ?_   -- r7
    simp only [go_sem, hx, htl]
    refine GCall_of (Ints_pc Y _ x.marks .ro (hm x (List.mem_of_getElem? hx))) ?_   -- t31
    simp only [go_sem, hx, htl]
    refine hR _ _ (kq10 _ _ ?_); clear hR R; try clear kq10 kz10
    try simp only [go_sem, hx, htl]
    refine W_region [1, 2, 3, 4] fun R hR => ?_   -- r8
    simp only [go_sem, hx, htl]
    try simp (disch := first | omega | (simp only [go_sem] <;> omega)) only [wrapI, wrapU, appX_exact, appX_tok]
    try simp only [go_sem, hx, htl]
    refine hR _ _ (kq8 _ _ ?_); clear hR R; try clear kq8 kz8
    try simp only [go_sem, hx, htl]
    refine W_region [1, 2, 3, 4] fun R hR => ?_   -- r5
    simp only [go_sem, hx, htl]
    try simp (disch := omega) only [wrapI, wrapU]
    refine hR _ _ ?_; clear hR R
    try simp only [go_sem, hx, htl]
    refine ⟨i + 1, ?_, by (try simp only []); omega, ?_⟩
    · refine Weak.trans (Weak.cutX 2 3 (by omega) (by omega) hcl (by simp only [go_sem] <;> omega) (by simp only [go_sem] <;> omega)) ?_
      simp only [go_sem]
      refine Weak.eq (by first | rfl | (simp only [go_sem]; done) | (simp [go_sem]; done)) ?_
      simp only [go_sem, hsn]
      first | done | rfl | simp [evPV, evCells]
    · try dsimp only
      omega
  · -- c1 false
    try simp only [nrm] at c1
    have hdrop : n.opened.drop i = [] := List.drop_eq_nil_of_le (by omega)
    have hie : n.opened.length = i := by omega
    rw [← hie, List.take_length]
    refine W_exit ?_
    simp only [go_sem]
    refine kq4 _ _ ?_
    refine W_seq fun kz11 kq11 => ?_
    refine W_region [2] fun R hR => ?_   -- r9
    simp only [go_sem]
    refine hR _ _ (kq11 _ _ ?_); clear hR R; try clear kq11 kz11
    try simp only [go_sem]
    refine W_ret ?_
    simp only [go_sem]
    refine ⟨.inr (by trivial), ?_⟩
    exact Fin_ext 0 3 hcl (by show resPV Tryz.prog _ _ [.cell 2 29] = some _; simp only [resPV, go_sem]; rfl) (Wk_eq rfl (by simp only [go_sem] <;> omega)) (by show CleanLs _ _ _ _; simp only [go_sem, List.take_zero])
    try simp only [go_sem]
    all_goals
      skip
end Go.Proofs.YtgelnjmddabgpaaGreat
namespace Go.Proofs.YtgelnjmddabgpaaGreat
open Go Go.RowKit
set_option maxRecDepth 100000
def missQ (s : Scale) (g : Night) : List (Int × Int) := if knownE s g = 0 then sealedK s (knownK s g) else []
theorem sealed_len {s : Scale} (hv : s.V) (k : Kn) : (sealedK s k).length ≤ 30 := by
  have q1 := hv.mt
  have q2 := hv.jd
  have h : (sealedK s k).length ≤ (allJ s).length := List.length_filter_le _ _
  rw [allJ_len (M := s.matters.toNat) (J := s.judges.toNat) (by omega) (by omega)] at h
  have : s.matters.toNat * s.judges.toNat ≤ 6 * 5 := Nat.mul_le_mul (by omega) (by omega)
  omega
end Go.Proofs.YtgelnjmddabgpaaGreat
namespace Go.Proofs.YtgelnjmddabgpaaGreat
set_option maxRecDepth 100000
def Bef (m j : Nat) (p : Int × Int) : Prop := p.1 < m ∨ (p.1 = m ∧ p.2 < j)
structure RInv (s : Scale) (dec : Bool) (m j : Nat) (here : Int) (op : List Envl) (ab : List (Int × Int)) : Prop where
  go : ∀ x, x ∈ op → GoodE s x ∧ Bef m j (jdE x)
  ga : ∀ a, a ∈ ab → ofSc s a = true ∧ Bef m j a
  nd : (op.map jdE ++ ab).Nodup
  sh : ∀ m' : Int, 0 ≤ m' → m' < m → ∃ q, (0 ≤ q ∧ q < s.judges) ∧ (m', q) ∉ ab
  he : 0 < here → ∃ q : Int, (0 ≤ q ∧ q < j) ∧ ((m : Int), q) ∉ ab
  h0 : 0 ≤ here
  dc : dec = true → ∀ p, ofSc s p = true → Bef m j p → p ∈ ab ∨ ∃ x, x ∈ op ∧ jdE x = p
  l1 : op.length ≤ 5 * m + j
  l2 : ab.length ≤ 5 * m + j
theorem Bef.mono {m j : Nat} {p : Int × Int} (h : Bef m j p) : Bef m (j + 1) p := by
  unfold Bef at *; omega
theorem sealed_good {s : Scale} (hc : chkSc s = 0) {m j : Int} {l : List Int} (hj : ofSc s (m, j) = true) (hl : (l.length : Int) = s.schools ∧ ∀ x, x ∈ l → s.low ≤ x ∧ x ≤ s.high) : GoodE s (sealedE s m j l) := by
  have hm : marked s (m, j) l = 0 := marked_of hj hl.1 hl.2
  refine ⟨hm, ?_⟩
  show (sealAns s (m, j) l).1 = sealOf (m, j) l
  unfold sealAns
  rw [if_neg (by simp [hc]), if_neg (by simp [hm])]
section
variable {s : Scale} {dec : Bool} {m j : Nat} {here : Int} {op : List Envl} {ab : List (Int × Int)}
theorem RInv.absent (h : RInv s dec m j here op ab) (hj : ofSc s ((m : Int), (j : Int)) = true) : RInv s dec m (j + 1) here op (ab ++ [((m : Int), (j : Int))]) where
  go := fun x hx => ⟨(h.go x hx).1, (h.go x hx).2.mono⟩
  ga := fun a ha => by
    rcases List.mem_append.1 ha with ha | ha
    · exact ⟨(h.ga a ha).1, (h.ga a ha).2.mono⟩
    · simp at ha; subst ha; exact ⟨hj, .inr ⟨rfl, by simp; omega⟩⟩
  nd := by
    rw [← List.append_assoc, List.nodup_append]
    refine ⟨h.nd, by simp, fun a ha b hb e => ?_⟩
    simp at hb
    subst hb e
    rcases List.mem_append.1 ha with ha | ha
    · obtain ⟨x, hx, e⟩ := List.mem_map.1 ha
      have := (h.go x hx).2
      rw [e] at this
      unfold Bef at this; simp at this
    · have := (h.ga _ ha).2
      unfold Bef at this; simp at this
  sh := fun m' a b => by
    obtain ⟨q, h1, h2⟩ := h.sh m' a b
    refine ⟨q, h1, fun hq => ?_⟩
    rcases List.mem_append.1 hq with hq | hq
    · exact h2 hq
    · simp at hq; omega
  he := fun hh => by
    obtain ⟨q, h1, h2⟩ := h.he hh
    refine ⟨q, by omega, fun hq => ?_⟩
    rcases List.mem_append.1 hq with hq | hq
    · exact h2 hq
    · simp at hq; omega
  h0 := h.h0
  dc := fun hd p hp hb => by
    by_cases e : p = ((m : Int), (j : Int))
    · exact .inl (by simp [e])
    · have : Bef m j p := by
        unfold Bef at *
        have : ¬ (p.1 = m ∧ p.2 = j) := fun ⟨a, b⟩ => e (Prod.ext a b)
        omega
      rcases h.dc hd p hp this with k | k
      · exact .inl (by simp [k])
      · exact .inr k
  l1 := by have := h.l1; omega
  l2 := by have := h.l2; simp; omega
theorem RInv.skip (h : RInv s dec m j here op ab) (hd : dec = false) : RInv s dec m (j + 1) (here + 1) op ab where
  go := fun x hx => ⟨(h.go x hx).1, (h.go x hx).2.mono⟩
  ga := fun a ha => ⟨(h.ga a ha).1, (h.ga a ha).2.mono⟩
  nd := h.nd
  sh := h.sh
  he := fun _ => ⟨j, by omega, fun ha => by have := (h.ga _ ha).2; unfold Bef at this; simp at this⟩
  h0 := by have := h.h0; omega
  dc := fun e => by rw [hd] at e; cases e
  l1 := by have := h.l1; omega
  l2 := by have := h.l2; omega
theorem RInv.opened (h : RInv s dec m j here op ab) (hc : chkSc s = 0) (hj : ofSc s ((m : Int), (j : Int)) = true) {l : List Int} (hl : (l.length : Int) = s.schools ∧ ∀ x, x ∈ l → s.low ≤ x ∧ x ≤ s.high) : RInv s dec m (j + 1) (here + 1) (op ++ [sealedE s m j l]) ab where
  go := fun x hx => by
    rcases List.mem_append.1 hx with hx | hx
    · exact ⟨(h.go x hx).1, (h.go x hx).2.mono⟩
    · simp at hx; subst hx; exact ⟨sealed_good hc hj hl, .inr ⟨rfl, by simp [jdE, sealedE]; omega⟩⟩
  ga := fun a ha => ⟨(h.ga a ha).1, (h.ga a ha).2.mono⟩
  nd := by
    have hnew : ((m : Int), (j : Int)) ∉ op.map jdE ++ ab := fun ha => by
      rcases List.mem_append.1 ha with ha | ha
      · obtain ⟨x, hx, e⟩ := List.mem_map.1 ha
        have := (h.go x hx).2
        rw [e] at this
        unfold Bef at this; simp at this
      · have := (h.ga _ ha).2
        unfold Bef at this; simp at this
    rw [List.map_append, List.append_assoc]
    show (op.map jdE ++ ([((m : Int), (j : Int))] ++ ab)).Nodup
    have : (op.map jdE ++ ([((m : Int), (j : Int))] ++ ab)).Perm (((m : Int), (j : Int)) :: (op.map jdE ++ ab)) := List.perm_middle
    rw [this.nodup_iff, List.nodup_cons]
    exact ⟨hnew, h.nd⟩
  sh := h.sh
  he := fun _ => ⟨j, by omega, fun ha => by have := (h.ga _ ha).2; unfold Bef at this; simp at this⟩
  h0 := by have := h.h0; omega
  dc := fun hd p hp hb => by
    by_cases e : p = ((m : Int), (j : Int))
    · exact .inr ⟨_, List.mem_append.2 (.inr (List.mem_singleton.2 rfl)), e.symm⟩
    · have : Bef m j p := by
        unfold Bef at *
        have : ¬ (p.1 = m ∧ p.2 = j) := fun ⟨a, b⟩ => e (Prod.ext a b)
        omega
      rcases h.dc hd p hp this with k | ⟨x, k1, k2⟩
      · exact .inl k
      · exact .inr ⟨x, by simp [k1], k2⟩
  l1 := by have := h.l1; simp; omega
  l2 := by have := h.l2; omega
theorem RInv.next (h : RInv s dec m j here op ab) (hv : s.V) (hJ : s.judges = j) (hh : 0 < here) : RInv s dec (m + 1) 0 0 op ab where
  go := fun x hx => ⟨(h.go x hx).1, by have := (h.go x hx).2; unfold Bef at *; omega⟩
  ga := fun a ha => ⟨(h.ga a ha).1, by have := (h.ga a ha).2; unfold Bef at *; omega⟩
  nd := h.nd
  sh := fun m' a b => by
    by_cases e : m' < m
    · exact h.sh m' a e
    · obtain ⟨q, h1, h2⟩ := h.he hh
      have e2 : m' = m := by omega
      subst e2
      exact ⟨q, by omega, h2⟩
  he := fun a => absurd a (by omega)
  h0 := Int.le_refl _
  dc := fun hd p hp hb => h.dc hd p hp (by
    obtain ⟨_, h2⟩ := ofSc_true.1 hp
    unfold Bef at *
    omega)
  l1 := by have := h.l1; have := hv.jd; omega
  l2 := by have := h.l2; have := hv.jd; omega
end
theorem nightJ_ok {s : Scale} {dec : Bool} (hc : chkSc s = 0) {J m : Nat} (hJ : s.judges = J) (hm : (m : Int) < s.matters) : ∀ (k : Nat) (here : Int) (op : List Envl) (ab : List (Int × Int)), k ≤ J → RInv s dec m (J - k) here op ab → (k = 0 → 0 < here) → Holds (nightJ s dec J m k here op ab) fun p => RInv s dec (m + 1) 0 0 p.1 p.2 := by
  have hv := Scale.v hc
  have hjd := hv.jd
  intro k
  induction k with
  | zero =>
    intro here op ab _ h h0
    exact .ret (h.next hv (by simpa using hJ) (h0 rfl))
  | succ k ih =>
    intro here op ab hk h _
    have e : J - k = (J - (k + 1)) + 1 := by omega
    have hj : ofSc s ((m : Int), ((J - (k + 1) : Nat) : Int)) = true := by rw [ofSc_true]; constructor <;> simp <;> omega
    have hh := h.h0
    simp only [nightJ]
    have hr : Holds (rare 5) fun _ => True := fun _ => trivial
    refine hr.bind fun a _ => ?_
    split
    · rename_i hcond
      refine ih _ _ _ (by omega) (by rw [e]; exact h.absent hj) fun hk0 => ?_
      subst hk0
      omega
    · split
      · exact (marksD_ok hv).bind fun l hl => ih _ _ _ (by omega) (by rw [e]; exact h.opened hc hj hl) fun _ => by omega
      · rename_i hd
        have hr : Holds (rare 3) fun _ => True := fun _ => trivial
        refine hr.bind fun r _ => ?_
        split
        · exact ih _ _ _ (by omega) (by rw [e]; exact h.skip (by simpa using hd)) fun _ => by omega
        · exact (marksD_ok hv).bind fun l hl => ih _ _ _ (by omega) (by rw [e]; exact h.opened hc hj hl) fun _ => by omega
theorem nightM_ok {s : Scale} {dec : Bool} (hc : chkSc s = 0) {M J : Nat} (hM : s.matters = M) (hJ : s.judges = J) : ∀ (k : Nat) (op : List Envl) (ab : List (Int × Int)), k ≤ M → RInv s dec (M - k) 0 0 op ab → Holds (nightM s dec M J k op ab) fun p => RInv s dec M 0 0 p.1 p.2 := by
  have hjd := (Scale.v hc).jd
  intro k
  induction k with
  | zero => intro op ab _ h; exact .ret h
  | succ k ih =>
    intro op ab hk h
    simp only [nightM]
    refine (nightJ_ok hc hJ (by omega) J 0 op ab (Nat.le_refl _) (by rw [Nat.sub_self]; exact h) (fun e => by omega)).bind fun p hp => ih _ _ (by omega) ?_
    rw [show M - k = M - (k + 1) + 1 by omega]
    exact hp
def FinesIn (sc : Int) (l : List (Int × Int)) : Prop := ∀ f, f ∈ l → (0 ≤ f.1 ∧ f.1 ≤ sc - 1) ∧ 0 ≤ f.2 ∧ f.2 ≤ 1000
theorem finesC_ok {sc : Int} (hs : 1 ≤ sc) : ∀ (k : Nat) (fi : List (Int × Int)), FinesIn sc fi → Holds (finesC sc k fi) fun l => FinesIn sc l ∧ l.length = fi.length + k := by
  intro k
  induction k with
  | zero => intro fi h; exact .ret ⟨h, rfl⟩
  | succ k ih =>
    intro fi h
    simp only [finesC]
    refine (roll_bd sc).bind fun a ha => (anyOf_mem [3, 100] (by simp)).bind fun y hy => (roll_bd y).bind fun p hp => (ih (fi ++ [(a, p)]) fun f hf => ?_).mono fun l hl => ⟨hl.1, by rw [hl.2]; simp; omega⟩
    rcases List.mem_append.1 hf with hf | hf
    · exact h f hf
    · simp at hf
      subst hf
      simp only
      rcases mem2 hy with rfl | rfl <;> omega
theorem finesD_ok {sc : Int} (hs : 1 ≤ sc) : Holds (finesD sc) fun l => FinesIn sc l ∧ l.length ≤ 3 := by
  unfold finesD
  refine (roll_bd 4).bind fun q hq => (anyOf_mem [0, 0, q] (by simp)).bind fun n hn => (finesC_ok hs n.toNat [] (fun f hf => by cases hf)).mono fun l hl => ⟨hl.1, ?_⟩
  have : 0 ≤ n ∧ n ≤ 3 := by rcases mem3 hn with rfl | rfl | rfl <;> omega
  rw [hl.2]; simp; omega
theorem finesR_zero {s : Scale} : ∀ {l : List (Int × Int)}, finesR s l = 0 ↔ FinesIn s.schools l := by
  intro l
  induction l with
  | nil => simp [finesR, FinesIn]
  | cons f l ih =>
    simp only [finesR]
    by_cases h1 : inR f.1 0 (s.schools - 1) = true
    · rw [h1]
      simp only [Bool.not_true, Bool.false_eq_true, if_false]
      by_cases h2 : inR f.2 0 1000 = true
      · rw [h2]
        simp only [Bool.not_true, Bool.false_eq_true, if_false]
        rw [ih]
        constructor
        · intro h g hg
          rcases List.mem_cons.1 hg with rfl | hg
          · exact ⟨inR_true.1 h1, inR_true.1 h2⟩
          · exact h g hg
        · intro h g hg; exact h g (by simp [hg])
      · have e : inR f.2 0 1000 = false := by simpa using h2
        rw [e]
        constructor
        · intro h; exact absurd h (by simp)
        · intro h; exact absurd (inR_true.2 (h f (by simp)).2) h2
    · have e : inR f.1 0 (s.schools - 1) = false := by simpa using h1
      rw [e]
      constructor
      · intro h; exact absurd h (by simp)
      · intro h; exact absurd (inR_true.2 (h f (by simp)).1) h1
theorem pickE_perm {op : List Envl} {od : List Int} (h : od.Perm ((List.range op.length).map fun (i : Nat) => (i : Int))) : (pickE op od).Perm op := by
  have h1 := h.map fun i : Int => (op[i.toNat]?).getD ⟨0, 0, [], 0⟩
  refine h1.trans ?_
  rw [List.map_map]
  have : (List.range op.length).map ((fun i : Int => (op[i.toNat]?).getD ⟨0, 0, [], 0⟩) ∘ fun (i : Nat) => (i : Int)) = op := by
    apply List.ext_getElem?
    intro i
    by_cases hi : i < op.length
    · simp [hi]
    · simp [hi]
  rw [this]
theorem sameE_of_nodup : ∀ {l : List Envl}, (l.map jdE).Nodup → SameE l := by
  intro l
  induction l with
  | nil => intro _ x hx; cases hx
  | cons a l ih =>
    intro h x hx y hy e
    rw [List.map_cons, List.nodup_cons] at h
    rcases List.mem_cons.1 hx with rfl | hx'
    · rcases List.mem_cons.1 hy with rfl | hy
      · rfl
      · exact absurd (List.mem_map.2 ⟨y, hy, e.symm⟩) h.1
    · rcases List.mem_cons.1 hy with rfl | hy
      · exact absurd (List.mem_map.2 ⟨x, hx', e⟩) h.1
      · exact ih h.2 x hx' y hy e
structure NightM (s : Scale) (dec : Bool) (n : Night) : Prop where
  v : NightV s n
  l1 : n.opened.length ≤ 30
  l2 : n.absent.length ≤ 30
  l3 : n.fines.length ≤ 3
  nd : (n.opened.map jdE).Nodup
  fi : FinesIn s.schools n.fines
  dc : dec = true → ∀ p, ofSc s p = true → p ∈ n.absent ∨ ∃ x, x ∈ n.opened ∧ jdE x = p
theorem nightD_ok {s : Scale} (hc : chkSc s = 0) (dec : Bool) : Holds (nightD s dec) (NightM s dec) := by
  have hv := Scale.v hc
  have q1 := hv.mt
  have q2 := hv.jd
  have q3 := hv.sc
  unfold nightD
  have h0 : RInv s dec (s.matters.toNat - s.matters.toNat) 0 0 [] [] := by
    rw [Nat.sub_self]
    exact ⟨(fun x hx => by cases hx), (fun x hx => by cases hx), by simp, (fun m' a b => by omega), (fun h => absurd h (by omega)), Int.le_refl _, (fun _ p hp hb => by
      obtain ⟨h1, _⟩ := ofSc_true.1 hp
      unfold Bef at hb; omega), by simp, by simp⟩
  refine (nightM_ok hc (by omega) (by omega) s.matters.toNat [] [] (Nat.le_refl _) h0).bind fun p hp => (finesD_ok q3.1).bind fun fi hfi => (orderD_perm p.1.length).bind fun od hod => .ret ?_
  have hpm := pickE_perm hod
  have hmem : ∀ x, x ∈ pickE p.1 od ↔ x ∈ p.1 := fun x => hpm.mem_iff
  have hnd : ((pickE p.1 od).map jdE).Nodup := (hpm.map jdE).nodup_iff.2 (List.nodup_append.1 hp.nd).1
  have l1 := hp.l1
  have l2 := hp.l2
  have hl := hpm.length_eq
  refine ⟨⟨hc, by simp only; omega, fun x hx => (hp.go x ((hmem x).1 hx)).1, sameE_of_nodup hnd, by simp only; omega, fun j hj => ⟨(hp.ga j hj).1, fun x hx e => ?_⟩, fun m m0 m1 => hp.sh m m0 (by omega), ?_⟩, by simp only; omega, by simp only; omega, hfi.2, hnd, hfi.1, fun hd q hq => ?_⟩
  · exact (List.nodup_append.1 hp.nd).2.2 (jdE x) (List.mem_map.2 ⟨x, (hmem x).1 hx, rfl⟩) j hj e
  · show finesE s fi = 0
    unfold finesE
    rw [if_neg (by omega)]
    exact finesR_zero.2 hfi.1
  · rcases hp.dc hd q hq (.inl (by obtain ⟨h1, _⟩ := ofSc_true.1 hq; omega)) with k | ⟨x, k1, k2⟩
    · exact .inl k
    · exact .inr ⟨x, (hmem x).2 k1, k2⟩
theorem NightV.ok {s : Scale} {n : Night} (h : NightV s n) : n.Ok := by
  have hv := Scale.v h.c
  have hs := hv.sc
  have h1 := h.o60
  have h2 := h.a60
  refine ⟨by omega, by omega, ?_, fun x hx => ?_⟩
  · have := h.fi
    unfold finesE at this
    split at this
    · cases this
    · omega
  · have := (marked_ok (h.op x hx).m).2.1
    omega
end Go.Proofs.YtgelnjmddabgpaaGreat
namespace Go.Proofs.YtgelnjmddabgpaaGreat
open Go Go.RowKit
set_option maxRecDepth 100000
theorem Weak.freezeG {N : Nat} {lo : Nat × Nat} {E : Env} {σ : Sg} {l : List (Option (List PV))} {rm : List Nat} {ys : List LState} {t j : Nat} {xs : List Int} (ht : E.get t = .gsl (σ.store.length + j) xs.length 1) (hs : l[j]? = some (some (xs.map I))) :
    Weak N lo E (σ.ext l rm ys) (E.put (some t) (ints xs)) (σ.ext (l.set j none) rm ys) := by
  have h := Weak.freeze (N := N) (lo := lo) (E := E) (σ := σ.ext l rm ys) (t := t) (id := σ.store.length + j) (len := xs.length) (es := 1) (l := xs.map I) ht (by rw [Sg.get_ext, hs, rowC_ints]) (by simp) (fun q hq => by obtain ⟨x, _, rfl⟩ := List.mem_map.1 hq; rfl)
  rw [Sg.drop_ext] at h
  exact h
theorem miss_len2 (s : Scale) (g : Night) : (missQ s g).length ≤ 30 := by
  unfold missQ
  split
  · rename_i h
    exact sealed_len (Scale.v (nightV_iff.1 h).c) _
  · simp
theorem mapI_set {xs : List Int} {k : Nat} {v : Int} : (xs.map I).set k (I v) = (xs.set k v).map I := by simp [List.map_set]
/-- What is put into an envelope's place k. -/
def fillV (s : Scale) (school way : Int) (k : Nat) : Int := if (decide ((k : Int) = school) == decide (way = 1)) = true then s.high else s.low
def fillP (s : Scale) (school way : Int) (m : List Int) (k : Nat) : List Int := (List.range k).map (fillV s school way) ++ m.drop k
def fillM (s : Scale) (school way : Int) (m : List Int) : List Int := if way < 2 then fillP s school way m m.length else m
noncomputable def fillC (s : Scale) (school way : Int) : List (Int × Int) → List Envl → D (List Envl)
  | [], acc => dret acc
  | p :: t, acc => dbind (marksD s) fun m => fillC s school way t (acc ++ [sealedE s p.1 p.2 (fillM s school way m)])
noncomputable def fillD (s : Scale) (n : Night) (school way : Int) : D Night := dbind (fillC s school way (missQ s n) n.opened) fun op => dret ⟨op, n.absent, n.fines⟩
theorem fillP_len {s : Scale} {school way : Int} {m : List Int} {k : Nat} (h : k ≤ m.length) : (fillP s school way m k).length = m.length := by simp [fillP]; omega
theorem fillP_set {s : Scale} {school way : Int} {m : List Int} {k : Nat} {v : Int} (h : k < m.length) (hv : fillV s school way k = v) : (fillP s school way m k).set k v = fillP s school way m (k + 1) := by
  unfold fillP
  rw [List.set_append_right _ _ (by simp), List.range_succ, List.map_append, List.append_assoc]
  simp only [List.length_map, List.length_range, Nat.sub_self, List.map_cons, List.map_nil, hv]
  rw [List.drop_eq_getElem_cons h]
  rfl
theorem fillM_len {s : Scale} {school way : Int} {m : List Int} : (fillM s school way m).length = m.length := by
  unfold fillM; split
  · exact fillP_len (Nat.le_refl _)
  · rfl
set_option maxHeartbeats 8000000 in
theorem filled_pc (Y : YEnv) (σ : Sg) (d : Nat) (b : Int) (hd : σ.store[d]? = some (some [.int .u64 b])) (s : Scale) (n : Night) (school way : Int) (hv : s.V) (hs : s.Ok) (hn : n.Ok) :
    PC Tryz.prog Y 33 [.ptr d 0, scPV s, ngPV n, I school, I way] σ (ngPV (fillD s n school way b).1) (σ.setVar d [.int .u64 (fillD s n school way b).2]) := by
  refine PC_of_W Tryz.func33 rfl (by kernel_rfl) Tryz.ntmps33 (by simp) fun hcl hca => ?_
  have hlt := lt_of_get hd
  have q3 := hv.sc
  have q4 := hv.lo
  have q5 := hv.hi
  have q6 := hv.lh
  have ho := hn.ho
  obtain ⟨res, hres⟩ : ∃ r, fillD s n school way b = r := ⟨_, rfl⟩
  rw [hres]
  obtain ⟨l, hl⟩ : ∃ z, missQ s n = z := ⟨_, rfl⟩
  have hll : l.length ≤ 30 := by rw [← hl]; exact miss_len2 s n
  simp only [fillD, dbind, hl, dret] at hres
  refine W_seq fun kz1 kq1 => ?_
  refine W_region [0, 3, 4, 6, 7, 10] fun R hR => ?_   -- r0
  simp only [go_sem, ldS_at hd, stX_at hd, ldS_sv hlt, stX_sv hlt, sv_ext hlt, sv_ext_sv hlt]
  refine hR _ _ (kq1 _ _ ?_); clear hR R; try clear kq1 kz1
  try simp only [go_sem, ldS_at hd, stX_at hd, ldS_sv hlt, stX_sv hlt, sv_ext hlt, sv_ext_sv hlt]
  refine W_seq fun kz2 kq2 => ?_
  refine W_region [0, 3, 4, 6, 7, 10, 11] fun R hR => ?_   -- r1
  simp only [go_sem, ldS_at hd, stX_at hd, ldS_sv hlt, stX_sv hlt, sv_ext hlt, sv_ext_sv hlt]
  refine GCall_of (OwnNightT_pc Y _ n hn) ?_   -- t18
  simp only [go_sem, ldS_at hd, stX_at hd, ldS_sv hlt, stX_sv hlt, sv_ext hlt, sv_ext_sv hlt]
  refine hR _ _ (kq2 _ _ ?_); clear hR R; try clear kq2 kz2
  try simp only [go_sem, ldS_at hd, stX_at hd, ldS_sv hlt, stX_sv hlt, sv_ext hlt, sv_ext_sv hlt]
  refine W_seq fun kz3 kq3 => ?_
  refine W_region [0, 3, 4, 6, 10, 11, 12] fun R hR => ?_   -- r2
  simp only [go_sem, ldS_at hd, stX_at hd, ldS_sv hlt, stX_sv hlt, sv_ext hlt, sv_ext_sv hlt]
  refine GCall_of (PC.val (v' := .tuple [sts l, I (knownE s n)]) (rMissing_pc Y _ s n hs hn) (by rw [← hl]; rfl)) ?_   -- t22
  simp only [go_sem, ldS_at hd, stX_at hd, ldS_sv hlt, stX_sv hlt, sv_ext hlt, sv_ext_sv hlt]
  refine hR _ _ (kq3 _ _ ?_); clear hR R; try clear kq3 kz3
  try simp only [go_sem, ldS_at hd, stX_at hd, ldS_sv hlt, stX_sv hlt, sv_ext hlt, sv_ext_sv hlt]
  refine W_seq fun kz4 kq4 => ?_
  refine W_seq fun kz5 kq5 => ?_
  refine W_region [0, 3, 4, 6, 10, 11, 12, 14] fun R hR => ?_   -- r3
  simp only [go_sem, ldS_at hd, stX_at hd, ldS_sv hlt, stX_sv hlt, sv_ext hlt, sv_ext_sv hlt]
  refine hR _ _ (kq5 _ _ ?_); clear hR R; try clear kq5 kz5
  try simp only [go_sem, ldS_at hd, stX_at hd, ldS_sv hlt, stX_sv hlt, sv_ext hlt, sv_ext_sv hlt]
  refine W_block ?_
  refine W_loopT (α := Nat × (List Envl) × Int) (fun ⟨i, op, b⟩ => [(14, I i)]) (fun ⟨i, op, b⟩ => (σ.setVar d [.int .u64 b]).ext [some (scCells s), some (ngCells n), some [.isl [] .exact, .isl [] .exact, .isl [] .exact], some [.isl (op.map evPV) (.tok (σ.rooms.length + 2) op.length 4), .isl (n.absent.map stPV) (.tok σ.rooms.length n.absent.length 2), .isl (n.fines.map stPV) (.tok (σ.rooms.length + 1) n.fines.length 2)]] [n.absent.length, n.fines.length, op.length]) (fun ⟨i, op, b⟩ => i ≤ l.length ∧ op.length = n.opened.length + i ∧ res = ((⟨(fillC s school way (l.drop i) op b).1, n.absent, n.fines⟩ : Night), (fillC s school way (l.drop i) op b).2)) (fun ⟨i, op, b⟩ => l.length - i) ((0, n.opened, b)) rfl (by simp only [go_sem, sv_self hd]) (⟨Nat.zero_le _, rfl, hres.symm⟩) ?_
  rintro ⟨i, op, b⟩ ⟨hi, hal, hinv⟩
  refine W_seq fun kz6 kq6 => ?_
  refine W_seq fun kz7 kq7 => ?_
  refine W_region [0, 3, 4, 6, 10, 11, 12, 14, 28] fun R hR => ?_   -- r4
  simp only [go_sem, ldS_at hd, stX_at hd, ldS_sv hlt, stX_sv hlt, sv_ext hlt, sv_ext_sv hlt]
  refine hR _ _ (kq7 _ _ ?_); clear hR R; try clear kq7 kz7
  try simp only [go_sem, ldS_at hd, stX_at hd, ldS_sv hlt, stX_sv hlt, sv_ext hlt, sv_ext_sv hlt]
  refine W_cond rfl (fun c1 => ?_) (fun c1 => ?_)
  · -- c1 true
    try simp only [nrm] at c1
    have hi' : i < l.length := by first | assumption | omega
    obtain ⟨x, hx⟩ : ∃ x, l[i]? = some x := ⟨l[i], by simp [hi']⟩
    have hdrp : l.drop i = x :: l.drop (i + 1) := by
      rw [List.drop_eq_getElem_cons hi']; congr 1; exact (List.getElem?_eq_some_iff.1 hx).2
    rw [hdrp] at hinv
    simp only [fillC, dbind] at hinv
    obtain ⟨ml, hml⟩ : ∃ zz, (marksD s b).1 = zz := ⟨_, rfl⟩
    obtain ⟨b1, hb1⟩ : ∃ zz, (marksD s b).2 = zz := ⟨_, rfl⟩
    have dml := marksD_ok hv b
    simp only [hml] at dml
    simp only [hml, hb1] at hinv
    have hmL := dml.1
    obtain ⟨N, hN⟩ : ∃ z : Nat, ml.length = z := ⟨_, rfl⟩
    have hL : (σ.setVar d [.int .u64 b1]).store.length = σ.store.length := sv_len
    refine W_skip (kq6 _ _ ?_)
    refine W_seq fun kz8 kq8 => ?_
    refine W_block ?_
    refine W_seq fun kz9 kq9 => ?_
    refine W_region [0, 3, 4, 6, 10, 11, 12, 14, 15] fun R hR => ?_   -- r6
    simp only [go_sem, ldS_at hd, stX_at hd, ldS_sv hlt, stX_sv hlt, sv_ext hlt, sv_ext_sv hlt, hx, hL, hml, hb1]
    refine GCall_of (MarksOfW_pc Y _ d b (by first | exact hd | exact sv_get hlt | exact get_svx hlt | exact get_extx hd) s hv) ?_   -- t33
    simp only [go_sem, ldS_at hd, stX_at hd, ldS_sv hlt, stX_sv hlt, sv_ext hlt, sv_ext_sv hlt, hx, hL, hml, hb1]
    refine hR _ _ (kq9 _ _ ?_); clear hR R; try clear kq9 kz9
    try simp only [go_sem, ldS_at hd, stX_at hd, ldS_sv hlt, stX_sv hlt, sv_ext hlt, sv_ext_sv hlt, hx, hL, hml, hb1]
    refine W_seq fun kz10 kq10 => ?_
    refine W_seq fun kz11 kq11 => ?_
    refine W_region [0, 3, 4, 6, 10, 11, 12, 14, 15, 16] fun R hR => ?_   -- r7
    simp only [go_sem, ldS_at hd, stX_at hd, ldS_sv hlt, stX_sv hlt, sv_ext hlt, sv_ext_sv hlt, hx, hL, hml, hb1]
    refine hR _ _ (kq11 _ _ ?_); clear hR R; try clear kq11 kz11
    try simp only [go_sem, ldS_at hd, stX_at hd, ldS_sv hlt, stX_sv hlt, sv_ext hlt, sv_ext_sv hlt, hx, hL, hml, hb1]
    refine W_block ?_
    refine W_loopT (α := Nat) (fun (k : Nat) => [(16, I k)]) (fun (k : Nat) => (σ.setVar d [.int .u64 b1]).ext [some (scCells s), some (ngCells n), some [.isl [] .exact, .isl [] .exact, .isl [] .exact], some [.isl (op.map evPV) (.tok (σ.rooms.length + 2) op.length 4), .isl (n.absent.map stPV) (.tok σ.rooms.length n.absent.length 2), .isl (n.fines.map stPV) (.tok (σ.rooms.length + 1) n.fines.length 2)], some ((fillP s school way ml k).map I)] [n.absent.length, n.fines.length, op.length]) (fun (k : Nat) => k ≤ ml.length ∧ (¬ way < 2 → k = 0)) (fun (k : Nat) => ml.length - k) (0) rfl (by simp [go_sem, fillP]) (⟨Nat.zero_le _, fun _ => rfl⟩) ?_
    rintro k ⟨hk, hw0⟩
    refine W_seq fun kz12 kq12 => ?_
    refine W_seq fun kz13 kq13 => ?_
    refine W_regionJ [0, 3, 4, 6, 10, 11, 12, 14, 15, 16, 41] [(41, .bool (decide ((k : Int) < (ml.length : Int)) && decide (way < 2)))] ?_ fun R hR => ?_   -- r8
    · refine kq13 _ _ ?_
      simp only [go_sem, ldS_at hd, stX_at hd, ldS_sv hlt, stX_sv hlt, sv_ext hlt, sv_ext_sv hlt, hx, hL, hml, hb1]
      refine W_cond rfl (fun c2 => ?_) (fun c2 => ?_)
      · -- c2 true
        try simp only [nrm] at c2
        have hc2 : (k : Int) < (ml.length : Int) ∧ way < 2 := by simpa using c2
        have hkm : k < ml.length := by omega
        have hI1 : (k : Int) < (ml.length : Int) := hc2.1
        have hPl := fillP_len (s := s) (school := school) (way := way) (m := ml) (k := k) hk
        have hm1 : k + 1 ≤ ml.length := by omega
        refine W_skip (kq12 _ _ ?_)
        refine W_seq fun kz14 kq14 => ?_
        refine W_block ?_
        refine W_seq fun kz15 kq15 => ?_
        refine W_region [0, 3, 4, 6, 10, 11, 12, 14, 15, 16] fun R hR => ?_   -- r10
        simp only [go_sem, ldS_at hd, stX_at hd, ldS_sv hlt, stX_sv hlt, sv_ext hlt, sv_ext_sv hlt, hx, hL, hml, hb1, hI1, iaM_nat (Int.ofNat_lt.1 hI1), Nat.mul_one, Nat.zero_add, hm1, hPl, List.length_map]
        refine hR _ _ (kq15 _ _ ?_); clear hR R; try clear kq15 kz15
        try simp only [go_sem, ldS_at hd, stX_at hd, ldS_sv hlt, stX_sv hlt, sv_ext hlt, sv_ext_sv hlt, hx, hL, hml, hb1]
        refine W_seq fun kz16 kq16 => ?_
        refine W_region [0, 3, 4, 6, 10, 11, 12, 14, 15, 16, 54] fun R hR => ?_   -- r11
        simp only [go_sem, ldS_at hd, stX_at hd, ldS_sv hlt, stX_sv hlt, sv_ext hlt, sv_ext_sv hlt, hx, hL, hml, hb1]
        refine hR _ _ (kq16 _ _ ?_); clear hR R; try clear kq16 kz16
        try simp only [go_sem, ldS_at hd, stX_at hd, ldS_sv hlt, stX_sv hlt, sv_ext hlt, sv_ext_sv hlt, hx, hL, hml, hb1]
        refine W_cond rfl (fun c3 => ?_) (fun c3 => ?_)
        · -- c3 true
          try simp only [nrm] at c3
          have hvk : fillV s school way k = s.high := by unfold fillV; exact if_pos c3
          refine W_region [0, 3, 4, 6, 10, 11, 12, 14, 15, 16] fun R hR => ?_   -- r12
          simp only [go_sem, ldS_at hd, stX_at hd, ldS_sv hlt, stX_sv hlt, sv_ext hlt, sv_ext_sv hlt, hx, hL, hml, hb1, hI1, iaM_nat (Int.ofNat_lt.1 hI1), Nat.mul_one, Nat.zero_add, hm1, hPl, List.length_map, List.length_set]
          refine hR _ _ (kq14 _ _ ?_); clear hR R; try clear kq14 kz14
          try simp only [go_sem, ldS_at hd, stX_at hd, ldS_sv hlt, stX_sv hlt, sv_ext hlt, sv_ext_sv hlt, hx, hL, hml, hb1]
          refine W_region [0, 3, 4, 6, 10, 11, 12, 14, 15, 16] fun R hR => ?_   -- r9
          simp only [go_sem, ldS_at hd, stX_at hd, ldS_sv hlt, stX_sv hlt, sv_ext hlt, sv_ext_sv hlt, hx, hL, hml, hb1]
          try simp (disch := omega) only [wrapI, wrapU]
          refine hR _ _ ?_; clear hR R
          try simp only [go_sem, ldS_at hd, stX_at hd, ldS_sv hlt, stX_sv hlt, sv_ext hlt, sv_ext_sv hlt, hx, hL, hml, hb1]
          refine ⟨k + 1, ?_, by (try simp only []); omega, ?_⟩
          · refine Weak.eq (by first | rfl | (simp only [go_sem]; done) | (simp only [go_sem]; rfl)) ?_
            simp only [mapI_set, List.set_set, fillP_set hkm hvk]
          · try dsimp only
            exact ⟨by omega, fun h => absurd hc2.2 h⟩
        · -- c3 false
          try simp only [nrm] at c3
          have hvk : fillV s school way k = s.low := by unfold fillV; exact if_neg (ne_true_of_eq_false c3)
          refine W_skip (kq14 _ _ ?_)
          refine W_region [0, 3, 4, 6, 10, 11, 12, 14, 15, 16] fun R hR => ?_   -- r9
          simp only [go_sem, ldS_at hd, stX_at hd, ldS_sv hlt, stX_sv hlt, sv_ext hlt, sv_ext_sv hlt, hx, hL, hml, hb1]
          try simp (disch := omega) only [wrapI, wrapU]
          refine hR _ _ ?_; clear hR R
          try simp only [go_sem, ldS_at hd, stX_at hd, ldS_sv hlt, stX_sv hlt, sv_ext hlt, sv_ext_sv hlt, hx, hL, hml, hb1]
          refine ⟨k + 1, ?_, by (try simp only []); omega, ?_⟩
          · refine Weak.eq (by first | rfl | (simp only [go_sem]; done) | (simp only [go_sem]; rfl)) ?_
            simp only [mapI_set, List.set_set, fillP_set hkm hvk]
          · try dsimp only
            exact ⟨by omega, fun h => absurd hc2.2 h⟩
      · -- c2 false
        try simp only [nrm] at c2
        have hfm : fillP s school way ml k = fillM s school way ml := by
          have hc2 : ¬ ((k : Int) < (ml.length : Int) ∧ way < 2) := by simpa using c2
          unfold fillM
          split
          · rw [show k = ml.length by omega]
          · rw [hw0 (by assumption)]; simp [fillP]
        rw [hfm]
        refine W_weak (Weak.freezeG (σ := σ.setVar d [.int .u64 b1]) (t := 15) (j := 4) (xs := fillM s school way ml) (by simp only [go_sem, fillM_len, hL]) rfl) ?_
        refine W_weak (Weak.keep [0, 1, 2, 3, 4, 6, 7, 10, 11, 12, 14, 15]) ?_
        simp only [go_sem]
        refine W_exit ?_
        simp only [go_sem, ldS_at hd, stX_at hd, ldS_sv hlt, stX_sv hlt, sv_ext hlt, sv_ext_sv hlt, hx, hL, hml, hb1]
        refine kq10 _ _ ?_
        refine W_draw [0, 3, 4, 6, 10, 11, 12, 14] [0, 1, 2, 3, 4, 5, 6, 7, 8, 9, 10, 11, 12, 13, 14, 15, 16, 17, 18] [(0, 16), (1, 16)] [[], [0], [], [], [], [3, 4], [3, 4, 5], [3, 4, 5, 6], [], [], [8, 9], [8, 9, 10], [8, 9, 10, 11], [], [2, 3, 4, 5, 6, 7, 8, 9, 10, 11, 12, 13], [2, 3, 4, 5, 6, 7, 8, 9, 10, 11, 12, 13, 14], [0, 1, 2, 3, 4, 5, 6, 7, 8, 9, 10, 11, 12, 13, 14, 15], [0, 1, 2, 3, 4, 5, 6, 7, 8, 9, 10, 11, 12, 13, 14, 15, 16], [0, 1, 2, 3, 4, 5, 6, 7, 8, 9, 10, 11, 12, 13, 14, 15, 16, 17]] mixed (by kernel_rfl) fun R hR => ?_   -- r13
        simp only [go_sem, ldS_at hd, stX_at hd, ldS_sv hlt, stX_sv hlt, sv_ext hlt, sv_ext_sv hlt, hx, hL, hml, hb1]
        refine GCall_of (Sealed_pc Y _ s x.1 x.2 (fillM s school way ml) (by rw [fillM_len]; omega) hs) ?_   -- t74
        simp only [go_sem, ldS_at hd, stX_at hd, ldS_sv hlt, stX_sv hlt, sv_ext hlt, sv_ext_sv hlt, hx, hL, hml, hb1]
        try simp (disch := first | omega | (simp only [go_sem] <;> omega)) only [wrapI, wrapU, appX_exact, appX_tok]
        try simp only [go_sem, ldS_at hd, stX_at hd, ldS_sv hlt, stX_sv hlt, sv_ext hlt, sv_ext_sv hlt, hx, hL, hml, hb1]
        try refine And.intro (by repeat' (first | refine And.intro ?_ ?_ | exact GOr_right (fun _ => by simp only [go_sem, ldS_at hd, stX_at hd, ldS_sv hlt, stX_sv hlt, sv_ext hlt, sv_ext_sv hlt, hx, hL, hml, hb1]))) ?_
        refine hR _ _ (kq8 _ _ ?_); clear hR R; try clear kq8 kz8
        try simp only [go_sem, ldS_at hd, stX_at hd, ldS_sv hlt, stX_sv hlt, sv_ext hlt, sv_ext_sv hlt, hx, hL, hml, hb1]
        refine W_region [0, 3, 4, 6, 10, 11, 12, 14] fun R hR => ?_   -- r5
        simp only [go_sem, ldS_at hd, stX_at hd, ldS_sv hlt, stX_sv hlt, sv_ext hlt, sv_ext_sv hlt, hx, hL, hml, hb1]
        try simp (disch := omega) only [wrapI, wrapU]
        refine hR _ _ ?_; clear hR R
        try simp only [go_sem, ldS_at hd, stX_at hd, ldS_sv hlt, stX_sv hlt, sv_ext hlt, sv_ext_sv hlt, hx, hL, hml, hb1]
        refine ⟨(i + 1, op ++ [sealedE s x.1 x.2 (fillM s school way ml)], b1), ?_, by (try simp only []); omega, ?_⟩
        · refine Weak.trans (Weak.cutSV 4 3 (by omega) (by omega) hcl (by simp only [go_sem]) (by simp only [go_sem] <;> omega) (by simp only [go_sem] <;> omega)) ?_
          simp only [go_sem]
          exact Weak.eq (by first | rfl | (simp only [go_sem]; done) | (simp only [go_sem]; rfl) | (simp [go_sem]; done) | (simp [go_sem]; omega)) (by first | rfl | (simp only [go_sem]; done) | (simp [go_sem]; done))
        · try dsimp only
          exact ⟨by omega, by simp; omega, hinv⟩
    · simp only [go_sem, ldS_at hd, stX_at hd, ldS_sv hlt, stX_sv hlt, sv_ext hlt, sv_ext_sv hlt, hx, hL, hml, hb1]
      refine GWant_split (fun g1 => ?_) (fun g1 => ?_)
      · try simp only [Bool.not_eq_true', Bool.not_eq_false'] at g1
        have n1 := g1; try simp only [nrm] at n1
        simp only [go_sem, ldS_at hd, stX_at hd, ldS_sv hlt, stX_sv hlt, sv_ext hlt, sv_ext_sv hlt, hx, hL, hml, hb1, g1]
        refine hR _ ?_
        all_goals try simp only [go_sem, ldS_at hd, stX_at hd, ldS_sv hlt, stX_sv hlt, sv_ext hlt, sv_ext_sv hlt, hx, hL, hml, hb1]
        all_goals
          first | rfl | (simp only [g1, Bool.true_and, Bool.false_and]; done) | (simp [*]; done) | (simp_all; done)
      · try simp only [Bool.not_eq_true', Bool.not_eq_false'] at g1
        have n1 := g1; try simp only [nrm] at n1
        simp only [go_sem, ldS_at hd, stX_at hd, ldS_sv hlt, stX_sv hlt, sv_ext hlt, sv_ext_sv hlt, hx, hL, hml, hb1, g1]
        refine hR _ ?_
        all_goals try simp only [go_sem, ldS_at hd, stX_at hd, ldS_sv hlt, stX_sv hlt, sv_ext hlt, sv_ext_sv hlt, hx, hL, hml, hb1]
        all_goals
          first | rfl | (simp only [g1, Bool.true_and, Bool.false_and]; done) | (simp [*]; done) | (simp_all; done)
  · -- c1 false
    try simp only [nrm] at c1
    have hdrp : l.drop i = [] := List.drop_eq_nil_of_le (by omega)
    rw [hdrp] at hinv
    simp only [fillC, dret] at hinv
    refine W_exit ?_
    simp only [go_sem, ldS_at hd, stX_at hd, ldS_sv hlt, stX_sv hlt, sv_ext hlt, sv_ext_sv hlt]
    refine kq4 _ _ ?_
    refine W_seq fun kz17 kq17 => ?_
    refine W_region [10] fun R hR => ?_   -- r14
    simp only [go_sem, ldS_at hd, stX_at hd, ldS_sv hlt, stX_sv hlt, sv_ext hlt, sv_ext_sv hlt]
    refine hR _ _ (kq17 _ _ ?_); clear hR R; try clear kq17 kz17
    try simp only [go_sem, ldS_at hd, stX_at hd, ldS_sv hlt, stX_sv hlt, sv_ext hlt, sv_ext_sv hlt]
    refine W_ret ?_
    simp only [go_sem, ldS_at hd, stX_at hd, ldS_sv hlt, stX_sv hlt, sv_ext hlt, sv_ext_sv hlt]
    refine ⟨.inr (by trivial), ?_⟩
    rw [hinv]; refine Fin_set hcl (by simp only [go_sem]) (by show resPV Tryz.prog _ _ [.cell 10 29] = some _; simp only [resPV, go_sem]; rfl) (Wk.ro (by simp only [go_sem]) ?_)
    try simp only [go_sem]
    all_goals
      skip
end Go.Proofs.YtgelnjmddabgpaaGreat
namespace Go.Proofs.YtgelnjmddabgpaaGreat
set_option maxRecDepth 100000
theorem fillV_bd {s : Scale} (h : s.low ≤ s.high) (school way : Int) (k : Nat) : s.low ≤ fillV s school way k ∧ fillV s school way k ≤ s.high := by
  unfold fillV; split <;> omega
theorem fillM_bd {s : Scale} (h : s.low ≤ s.high) {school way : Int} {m : List Int} (hm : ∀ x, x ∈ m → s.low ≤ x ∧ x ≤ s.high) : ∀ x, x ∈ fillM s school way m → s.low ≤ x ∧ x ≤ s.high := by
  intro x hx
  unfold fillM at hx
  split at hx
  · unfold fillP at hx
    rcases List.mem_append.1 hx with hx | hx
    · obtain ⟨k, _, rfl⟩ := List.mem_map.1 hx
      exact fillV_bd h school way k
    · exact hm x (List.mem_of_mem_drop hx)
  · exact hm x hx
theorem fillM_at {s : Scale} {school way : Int} {m : List Int} (hw : way < 2) {k : Nat} (hk : k < m.length) : ((fillM s school way m)[k]?).getD 0 = fillV s school way k := by
  unfold fillM
  rw [if_pos hw]
  unfold fillP
  rw [List.getElem?_append_left (by simpa using hk)]
  simp [hk]
/-- What is in an envelope that was filled. -/
def FillE (s : Scale) (school way : Int) (x : Envl) : Prop := ∃ m : List Int, ((m.length : Int) = s.schools ∧ ∀ y, y ∈ m → s.low ≤ y ∧ y ≤ s.high) ∧ x = sealedE s (jdE x).1 (jdE x).2 (fillM s school way m)
theorem fillC_ok {s : Scale} (hv : s.V) (school way : Int) : ∀ (l : List (Int × Int)) (acc : List Envl), Holds (fillC s school way l acc) fun op => ∃ xs, op = acc ++ xs ∧ xs.map jdE = l ∧ ∀ x, x ∈ xs → FillE s school way x := by
  intro l
  induction l with
  | nil => intro acc; exact .ret ⟨[], by simp, rfl, fun x hx => by cases hx⟩
  | cons p t ih =>
    intro acc
    simp only [fillC]
    refine (marksD_ok hv).bind fun m hm => (ih _).mono fun op ⟨xs, h1, h2, h3⟩ => ⟨sealedE s p.1 p.2 (fillM s school way m) :: xs, by rw [h1]; simp, by rw [List.map_cons, h2]; rfl, fun x hx => ?_⟩
    rcases List.mem_cons.1 hx with rfl | hx
    · exact ⟨m, hm, rfl⟩
    · exact h3 x hx
theorem sealedK_mem {s : Scale} {k : Kn} {j : Int × Int} : j ∈ sealedK s k ↔ ofSc s j = true ∧ aget j k = none := by
  unfold sealedK
  rw [List.mem_filter]
  refine and_congr ?_ (by simp)
  unfold allJ
  rw [ofSc_true]
  simp only [List.mem_flatMap, List.mem_map, mem_toI]
  constructor
  · rintro ⟨m, hm, q, hq, rfl⟩
    simp only; omega
  · intro h
    exact ⟨j.1, by omega, j.2, by omega, rfl⟩
theorem toI_nodup (n : Int) : (toI n).Nodup := by
  unfold toI
  rw [List.nodup_iff_pairwise_ne, List.pairwise_map]
  exact (List.nodup_iff_pairwise_ne.1 List.nodup_range).imp fun h => by omega
theorem allJ_nodup (s : Scale) : (allJ s).Nodup := by
  unfold allJ
  generalize toI s.judges = l, toI_nodup s.judges = hl
  generalize toI s.matters = k, toI_nodup s.matters = hk
  induction k with
  | nil => simp
  | cons a k ih =>
    rw [List.flatMap_cons]
    rw [List.nodup_cons] at hk
    rw [List.nodup_append]
    have hl2 : (l.map fun j => (a, j)).Nodup := by
      rw [List.nodup_iff_pairwise_ne, List.pairwise_map]
      exact (List.nodup_iff_pairwise_ne.1 hl).imp fun h e => h (by injection e)
    refine ⟨hl2, ih hk.2, fun x hx y hy e => ?_⟩
    subst e
    obtain ⟨b, _, rfl⟩ := List.mem_map.1 hx
    obtain ⟨c, hc, hd⟩ := List.mem_flatMap.1 hy
    obtain ⟨d, _, e⟩ := List.mem_map.1 hd
    injection e with e1 e2
    subst e1
    exact hk.1 hc
theorem sealedK_nodup (s : Scale) (k : Kn) : (sealedK s k).Nodup := (allJ_nodup s).filter _
/-- A night that is filled. -/
structure FillN (s : Scale) (n n' : Night) (school way : Int) (xs : List Envl) : Prop where
  lg : Longer s n n' xs
  jd : xs.map jdE = sealedK s (knownK s n)
  fe : ∀ x, x ∈ xs → FillE s school way x
  dc : sealedK s (knownK s n') = []
  nd : (n'.opened.map jdE).Nodup
theorem FillE.good {s : Scale} (hc : chkSc s = 0) {school way : Int} {x : Envl} (h : FillE s school way x) (hj : ofSc s (jdE x) = true) : GoodE s x := by
  obtain ⟨m, hm, e⟩ := h
  rw [e]
  refine sealed_good hc hj ⟨by rw [fillM_len]; exact hm.1, fillM_bd (Scale.v hc).lh hm.2⟩
theorem kOf_none {n : Night} {j : Int × Int} : kOf n j = none ↔ (∀ x, x ∈ n.opened → jdE x ≠ j) ∧ j ∉ n.absent := by
  unfold kOf
  cases e : findE n.opened j with
  | none => by_cases h : j ∈ n.absent <;> simp [h]; exact findE_none.1 e
  | some v =>
    simp only [reduceCtorEq, false_iff]
    rintro ⟨h, _⟩
    rw [findE_none.2 h] at e; cases e
theorem fillD_ok {s : Scale} {n : Night} (hn : NightM s false n) (school way : Int) : Holds (fillD s n school way) fun n' => ∃ xs, FillN s n n' school way xs := by
  have hc := hn.v.c
  have hv := Scale.v hc
  have hK : missQ s n = sealedK s (knownK s n) := by unfold missQ; rw [if_pos (nightV_iff.2 hn.v)]
  have hL := sealed_len hv (knownK s n)
  unfold fillD
  refine (fillC_ok hv school way _ _).bind fun op ⟨xs, h1, h2, h3⟩ => .ret ⟨xs, ?_⟩
  rw [hK] at h2
  have hS : ∀ x, x ∈ xs → ofSc s (jdE x) = true ∧ aget (jdE x) (knownK s n) = none := fun x hx => sealedK_mem.1 (by rw [← h2]; exact List.mem_map.2 ⟨x, hx, rfl⟩)
  have hN : ∀ x, x ∈ xs → (∀ y, y ∈ n.opened → jdE y ≠ jdE x) ∧ jdE x ∉ n.absent := fun x hx => kOf_none.1 (by rw [← hn.v.get]; exact (hS x hx).2)
  have hxl : xs.length ≤ 30 := by have := congrArg List.length h2; rw [List.length_map] at this; omega
  have hnd : ((n.opened ++ xs).map jdE).Nodup := by
    rw [List.map_append, List.nodup_append]
    refine ⟨hn.nd, by rw [h2]; exact sealedK_nodup s _, fun a ha b hb e => ?_⟩
    obtain ⟨y, hy, rfl⟩ := List.mem_map.1 ha
    obtain ⟨x, hx, rfl⟩ := List.mem_map.1 hb
    exact (hN x hx).1 y hy e
  have hV : NightV s ⟨op, n.absent, n.fines⟩ := by
    have l1 := hn.l1
    refine ⟨hc, by simp only [h1, List.length_append]; omega, ?_, by simp only [h1]; exact sameE_of_nodup hnd, hn.v.a60, fun j hj => ⟨(hn.v.ab j hj).1, ?_⟩, hn.v.sh, hn.v.fi⟩
    · intro x hx
      simp only [h1] at hx
      rcases List.mem_append.1 hx with hx | hx
      · exact hn.v.op x hx
      · exact (h3 x hx).good hc (hS x hx).1
    · intro x hx
      simp only [h1] at hx
      rcases List.mem_append.1 hx with hx | hx
      · exact (hn.v.ab j hj).2 x hx
      · intro e; subst e; exact (hN x hx).2 hj
  refine ⟨⟨hn.v, hV, h1, rfl, rfl⟩, h2, h3, ?_, by simp only [h1]; exact hnd⟩
  rw [List.eq_nil_iff_forall_not_mem]
  intro j hj
  obtain ⟨hj1, hj2⟩ := sealedK_mem.1 hj
  rw [hV.get, kOf_none] at hj2
  simp only [h1] at hj2
  have : j ∈ sealedK s (knownK s n) := sealedK_mem.2 ⟨hj1, by rw [hn.v.get, kOf_none]; exact ⟨fun x hx => hj2.1 x (List.mem_append_left _ hx), hj2.2⟩⟩
  rw [← h2] at this
  obtain ⟨x, hx, e⟩ := List.mem_map.1 this
  exact hj2.1 x (List.mem_append_right _ hx) e
theorem stand_eq {s : Scale} {k k' : Kn} {g g' : Night} {sc u v : Int} (hA : ∀ j, absentK k j = absentK k' j) (hM : ∀ m n, (0 ≤ m ∧ m < s.matters) → (0 ≤ n ∧ n < s.judges) → absentK k (m, n) = false → mkAt k sc m u n = mkAt k' sc m v n) (hf : g.fines = g'.fines) : standK s k g sc u = standK s k' g' sc v := by
  have e : pointsL s k sc u = pointsL s k' sc v := by
    unfold pointsL
    refine List.map_congr_left fun m hm => Int.le_antisymm ?_ ?_
    · exact points_le (fun _ => hA _) fun q hq ha => Int.le_of_eq (hM m q (mem_toI.1 hm) (mem_toI.1 hq) ha)
    · exact points_le (fun _ => (hA _).symm) fun q hq ha => Int.le_of_eq (hM m q (mem_toI.1 hm) (mem_toI.1 hq) (by rw [hA]; exact ha)).symm
  unfold standK
  rw [e, hf]
section
variable {s : Scale} {n n' : Night} {school way : Int} {xs : List Envl}
/-- Each school's marks are those that were filled in. -/
theorem FillN.stand (h : FillN s n n' school way xs) (hw : way < 2) {sc : Int} (hs : 0 ≤ sc ∧ sc < s.schools) (u : Int) : standK s (knownK s n') n' sc u = standK s (knownK s n) n sc (fillV s school way sc.toNat) := by
  have hv := Scale.v h.lg.v.c
  rw [decided_stand h.lg.v' h.dc sc u (fillV s school way sc.toNat)]
  refine (stand_eq (h.lg.abs hv) (fun m q _ _ ha => ?_) h.lg.fi.symm).symm
  rcases h.lg.mark hv hs m q (fillV s school way sc.toNat) ha with e | ⟨e, x, hx, _, e2⟩
  · exact e.symm
  · rw [e, e2]
    obtain ⟨ml, hm, e3⟩ := h.fe x hx
    rw [e3]
    show _ = ((fillM s school way ml)[sc.toNat]?).getD 0
    rw [fillM_at hw (by omega)]
theorem fillV_own (s : Scale) (school : Int) (h : 0 ≤ school) : fillV s school 0 school.toNat = s.low ∧ fillV s school 1 school.toNat = s.high := by
  have : ((school.toNat : Nat) : Int) = school := by omega
  unfold fillV
  rw [this]; simp
theorem fillV_oth (s : Scale) (school sc : Int) (h : 0 ≤ sc) (hne : sc ≠ school) : fillV s school 0 sc.toNat = s.high ∧ fillV s school 1 sc.toNat = s.low := by
  have : ((sc.toNat : Nat) : Int) = sc := by omega
  unfold fillV
  rw [this]; simp [hne]
theorem place_congr {s : Scale} {k k' : Kn} {g g' : Night} {sc u v u' v' : Int} (h1 : standK s k g sc u = standK s k' g' sc u') (h2 : ∀ o, 0 ≤ o ∧ o < s.schools → o ≠ sc → standK s k g o v = standK s k' g' o v') : placeK s k g sc u v = placeK s k' g' sc u' v' := by
  unfold placeK
  congr 3
  refine List.filter_congr fun o ho => ?_
  by_cases e : o = sc
  · subst e; simp
  · rw [h1, h2 o (mem_toI.1 ho) e]
theorem FillN.place0 (h : FillN s n n' school 0 xs) (hs : 0 ≤ school ∧ school < s.schools) : placeK s (knownK s n') n' school 0 0 = placeK s (knownK s n) n school s.low s.high := by
  refine place_congr ?_ fun o ho hne => ?_
  · rw [h.stand (by omega) hs, (fillV_own s school hs.1).1]
  · rw [h.stand (by omega) ho, (fillV_oth s school o ho.1 hne).1]
theorem FillN.place1 (h : FillN s n n' school 1 xs) (hs : 0 ≤ school ∧ school < s.schools) : placeK s (knownK s n') n' school 0 0 = placeK s (knownK s n) n school s.high s.low := by
  refine place_congr ?_ fun o ho hne => ?_
  · rw [h.stand (by omega) hs, (fillV_own s school hs.1).2]
  · rw [h.stand (by omega) ho, (fillV_oth s school o ho.1 hne).2]
/-- Whatever is in the envelopes: totals within bounds. -/
theorem FillN.tot (h : FillN s n n' school way xs) {sc : Int} (hs : 0 ≤ sc ∧ sc < s.schools) : (standK s (knownK s n) n sc s.low).total ≤ (standK s (knownK s n') n' sc 0).total ∧ (standK s (knownK s n') n' sc 0).total ≤ (standK s (knownK s n) n sc s.high).total := by
  have hv := Scale.v h.lg.v.c
  have a := (h.lg.fuller hv).totL hs
  have b := (h.lg.fuller hv).totH hs
  rw [decided_stand h.lg.v' h.dc sc s.low 0] at a
  rw [decided_stand h.lg.v' h.dc sc s.high 0] at b
  exact ⟨a, b⟩
theorem FillN.place (h : FillN s n n' school way xs) {sc : Int} (hs : 0 ≤ sc ∧ sc < s.schools) : placeK s (knownK s n) n sc s.high s.low ≤ placeK s (knownK s n') n' sc 0 0 ∧ placeK s (knownK s n') n' sc 0 0 ≤ placeK s (knownK s n) n sc s.low s.high := by
  have hv := Scale.v h.lg.v.c
  have a := (h.lg.fuller hv).placeLo hs
  have b := (h.lg.fuller hv).placeHi hs
  rw [decided_place h.lg.v' h.dc sc s.high s.low 0 0] at a
  rw [decided_place h.lg.v' h.dc sc s.low s.high 0 0] at b
  exact ⟨a, b⟩
theorem FillN.table (h : FillN s n n' school way xs) : tableP s n' = (tblP s (knownK s n') n', 0) := by
  unfold tableP
  rw [if_neg (by rw [nightV_iff.2 h.lg.v']; simp), if_neg (by rw [h.dc]; simp)]
/-- The first envelopes of a filled night, and one more. -/
theorem FillN.upto (h : FillN s n n' school way xs) {k : Nat} (hk : n.opened.length ≤ k) : NightV s ⟨n'.opened.take k, n'.absent, n'.fines⟩ := by
  have V := h.lg.v'
  have hm : ∀ x, x ∈ n'.opened.take k → x ∈ n'.opened := fun x hx => List.mem_of_mem_take hx
  refine ⟨V.c, ?_, fun x hx => V.op x (hm x hx), fun x hx y hy => V.cs x (hm x hx) y (hm y hy), V.a60, fun j hj => ⟨(V.ab j hj).1, fun x hx => (V.ab j hj).2 x (hm x hx)⟩, V.sh, V.fi⟩
  have := V.o60
  simp only [List.length_take]; omega
theorem FillN.step (h : FillN s n n' school way xs) {k : Nat} (hk : n.opened.length ≤ k) (hl : k < n'.opened.length) : Longer s ⟨n'.opened.take k, n'.absent, n'.fines⟩ ⟨n'.opened.take (k + 1), n'.absent, n'.fines⟩ [n'.opened[k]] :=
  ⟨h.upto hk, h.upto (by omega), by simp only; rw [List.take_add_one, List.getElem?_eq_getElem hl]; rfl, rfl, rfl⟩
/-- A row of the table of a filled night, against what was known before. -/
theorem FillN.row (h : FillN s n n' school way xs) {N : Nat} (hN : s.schools = N) {i : Nat} {x : Stand} (hx : (tblP s (knownK s n') n')[i]? = some x) : ∃ c : Nat, c < N ∧ x.school = (c : Int) ∧
    (standK s (knownK s n) n c s.low).total ≤ x.total ∧ x.total ≤ (standK s (knownK s n) n c s.high).total ∧ ((c : Int) = school →
      placeK s (knownK s n) n school s.high s.low ≤ (i : Int) + 1 ∧ (i : Int) + 1 ≤ placeK s (knownK s n) n school s.low s.high ∧
      (way = 0 → (i : Int) + 1 = placeK s (knownK s n) n school s.low s.high ∧ x.total = (standK s (knownK s n) n c s.low).total) ∧
      (way = 1 → (i : Int) + 1 = placeK s (knownK s n) n school s.high s.low ∧ x.total = (standK s (knownK s n) n c s.high).total) ∧
      ((winsA s n school).1 = 1 → (i : Int) + 1 = 1) ∧ ((winsA s n school).1 = 2 → ¬ (i : Int) + 1 = 1)) := by
  obtain ⟨c, hc, e⟩ := (tbl_ok (s := s) (k := knownK s n') (g := n') hN).of x (List.mem_of_getElem? hx)
  have hcs : 0 ≤ (c : Int) ∧ (c : Int) < s.schools := by omega
  have ht := h.tot hcs
  refine ⟨c, hc, by rw [e]; rfl, by rw [e]; exact ht.1, by rw [e]; exact ht.2, fun hcsch => ?_⟩
  subst hcsch
  have hp := h.place hcs
  have hi : placeK s (knownK s n') n' c 0 0 = (i : Int) + 1 := tbl_place hN (by rw [hx, e])
  rw [hi] at hp
  refine ⟨hp.1, hp.2, fun hw => ?_, fun hw => ?_, fun hw => ?_, fun hw => ?_⟩
  · subst hw
    refine ⟨by rw [← hi]; exact h.place0 hcs, ?_⟩
    rw [e, h.stand (by omega) hcs, (fillV_own s c hcs.1).1]
  · subst hw
    refine ⟨by rw [← hi]; exact h.place1 hcs, ?_⟩
    rw [e, h.stand (by omega) hcs, (fillV_own s c hcs.1).2]
  · rw [winsA_ok h.lg.v hcs] at hw
    split at hw
    · have := placeK_ge (s := s) (k := knownK s n') (g := n') c 0 0
      omega
    · split at hw <;> cases hw
  · rw [winsA_ok h.lg.v hcs] at hw
    split at hw
    · cases hw
    · split at hw
      · omega
      · cases hw
def totAt (s : Scale) (g : Night) (c : Int) : Int × Int := ((standK s (knownK s g) g c s.low).total, (standK s (knownK s g) g c s.high).total)
theorem totals_at {s : Scale} {g : Night} (h : NightV s g) : totalsA s g = ((toI s.schools).map (totAt s g), 0) := by
  unfold totalsA
  rw [if_neg (by rw [nightV_iff.2 h]; simp)]
  rfl
theorem totAt_get {s : Scale} {g : Night} {N : Nat} (hN : s.schools = N) {c : Nat} (hc : c < N) : ((toI s.schools).map (totAt s g))[c]? = some (totAt s g c) := by
  rw [List.getElem?_map, toI, hN, Int.toNat_natCast, List.getElem?_map, List.getElem?_range hc]
  rfl
/-- The first envelopes of a filled night. -/
def uptoN (n n' : Night) (k : Nat) : Night := ⟨n'.opened.take k, n.absent, n.fines⟩
theorem FillN.uptoV (h : FillN s n n' school way xs) {k : Nat} (hk : n.opened.length ≤ k) : NightV s (uptoN n n' k) := by
  have := h.upto hk
  rw [h.lg.ab, h.lg.fi] at this
  exact this
theorem FillN.stepL (h : FillN s n n' school way xs) {k : Nat} (hk : n.opened.length ≤ k) (hl : k < n'.opened.length) : Longer s (uptoN n n' k) (uptoN n n' (k + 1)) [n'.opened[k]] := by
  have := h.step hk hl
  rw [h.lg.ab, h.lg.fi] at this
  exact this
theorem FillN.last (h : FillN s n n' school way xs) {N : Nat} (hN : s.schools = N) {i : Nat} {x : Stand} (hx : (tblP s (knownK s n') n')[i]? = some x) : ∃ c : Nat, c < N ∧ x.school = (c : Int) ∧
    placeA s n' c = (((i : Int) + 1, (i : Int) + 1), 0) ∧ totAt s n' c = (x.total, x.total) := by
  obtain ⟨c, hc, e⟩ := (tbl_ok (s := s) (k := knownK s n') (g := n') hN).of x (List.mem_of_getElem? hx)
  have hcs : 0 ≤ (c : Int) ∧ (c : Int) < s.schools := by omega
  have hi : placeK s (knownK s n') n' c 0 0 = (i : Int) + 1 := tbl_place hN (by rw [hx, e])
  refine ⟨c, hc, by rw [e]; rfl, ?_, ?_⟩
  · rw [placeA_ok h.lg.v' hcs, decided_place h.lg.v' h.dc c s.high s.low 0 0, decided_place h.lg.v' h.dc c s.low s.high 0 0, hi]
  · unfold totAt
    rw [decided_stand h.lg.v' h.dc c s.low 0, decided_stand h.lg.v' h.dc c s.high 0, e]
end
end Go.Proofs.YtgelnjmddabgpaaGreat
namespace Go.Proofs.YtgelnjmddabgpaaGreat
open Go Go.RowKit
set_option maxRecDepth 100000
set_option maxHeartbeats 2000000 in
theorem In_pc (Y : YEnv) (σ : Sg) (a b n : Int) :
    PC Tryz.prog Y 34 [.agg [I a, I b], I n] σ (.bool (decide (a ≤ n) && decide (n ≤ b))) (σ) := by
  refine PC_of_W Tryz.func34 rfl (by kernel_rfl) Tryz.ntmps34 (by simp) fun hcl hca => ?_
  refine W_seq fun kz1 kq1 => ?_
  refine W_region [1, 2] fun R hR => ?_   -- r0
  simp only [go_sem]
  refine hR _ _ (kq1 _ _ ?_); clear hR R; try clear kq1 kz1
  try simp only [go_sem]
  refine W_seq fun kz2 kq2 => ?_
  refine W_region [4] fun R hR => ?_   -- r1
  simp only [go_sem]
  refine GWant_split (fun g1 => ?_) (fun g1 => ?_)
  · try simp only [Bool.not_eq_true', Bool.not_eq_false'] at g1
    have n1 := g1; try simp only [nrm] at n1
    simp only [go_sem, g1]
    refine hR _ _ (kq2 _ _ ?_); clear hR R; try clear kq2 kz2
    try simp only [go_sem]
    refine W_ret ?_
    simp only [go_sem]
    refine ⟨.inr (by trivial), ?_⟩
    first | refine Fin_same hcl rfl (Wk_eq ?_ (by simp only [go_sem])) | refine Fin_self hcl rfl (Wk_eq ?_ (by simp only [go_sem]))
    try simp only [go_sem]
    all_goals
      first | rfl | (simp [*]; done) | (simp_all; done) | (simp_all; omega)
  · try simp only [Bool.not_eq_true', Bool.not_eq_false'] at g1
    have n1 := g1; try simp only [nrm] at n1
    simp only [go_sem, g1]
    refine hR _ _ (kq2 _ _ ?_); clear hR R; try clear kq2 kz2
    try simp only [go_sem]
    refine W_ret ?_
    simp only [go_sem]
    refine ⟨.inr (by trivial), ?_⟩
    first | refine Fin_same hcl rfl (Wk_eq ?_ (by simp only [go_sem])) | refine Fin_self hcl rfl (Wk_eq ?_ (by simp only [go_sem]))
    try simp only [go_sem]
    all_goals
      first | rfl | (simp [*]; done) | (simp_all; done) | (simp_all; omega)
set_option maxHeartbeats 2000000 in
theorem Inside_pc (Y : YEnv) (σ : Sg) (a b c d : Int) :
    PC Tryz.prog Y 35 [.agg [I a, I b], .agg [I c, I d]] σ (.bool (decide (c ≤ a) && decide (b ≤ d))) (σ) := by
  refine PC_of_W Tryz.func35 rfl (by kernel_rfl) Tryz.ntmps35 (by simp) fun hcl hca => ?_
  refine W_seq fun kz1 kq1 => ?_
  refine W_region [2, 3] fun R hR => ?_   -- r0
  simp only [go_sem]
  refine hR _ _ (kq1 _ _ ?_); clear hR R; try clear kq1 kz1
  try simp only [go_sem]
  refine W_seq fun kz2 kq2 => ?_
  refine W_region [4] fun R hR => ?_   -- r1
  simp only [go_sem]
  refine GWant_split (fun g1 => ?_) (fun g1 => ?_)
  · try simp only [Bool.not_eq_true', Bool.not_eq_false'] at g1
    have n1 := g1; try simp only [nrm] at n1
    simp only [go_sem, g1]
    refine hR _ _ (kq2 _ _ ?_); clear hR R; try clear kq2 kz2
    try simp only [go_sem]
    refine W_ret ?_
    simp only [go_sem]
    refine ⟨.inr (by trivial), ?_⟩
    first | refine Fin_same hcl rfl (Wk_eq ?_ (by simp only [go_sem])) | refine Fin_self hcl rfl (Wk_eq ?_ (by simp only [go_sem]))
    try simp only [go_sem]
    all_goals
      first | rfl | (simp [*]; done) | (simp_all; done) | (simp_all; omega)
  · try simp only [Bool.not_eq_true', Bool.not_eq_false'] at g1
    have n1 := g1; try simp only [nrm] at n1
    simp only [go_sem, g1]
    refine hR _ _ (kq2 _ _ ?_); clear hR R; try clear kq2 kz2
    try simp only [go_sem]
    refine W_ret ?_
    simp only [go_sem]
    refine ⟨.inr (by trivial), ?_⟩
    first | refine Fin_same hcl rfl (Wk_eq ?_ (by simp only [go_sem])) | refine Fin_self hcl rfl (Wk_eq ?_ (by simp only [go_sem]))
    try simp only [go_sem]
    all_goals
      first | rfl | (simp [*]; done) | (simp_all; done) | (simp_all; omega)
end Go.Proofs.YtgelnjmddabgpaaGreat
namespace Go.Proofs.YtgelnjmddabgpaaGreat
open Go Go.RowKit
set_option maxRecDepth 100000
def exTab : List Stand := [⟨0, 385, [195, 190]⟩, ⟨2, 365, [175, 195]⟩, ⟨1, 365, [195, 170]⟩]
def exTot : List (Int × Int) := [(340, 385), (355, 390), (345, 370)]
set_option maxHeartbeats 4000000 in
theorem awake_pc (Y : YEnv) (σ : Sg)  :
    PC Tryz.prog Y 10 [] σ (.bool true) (σ) := by
  refine PC_of_W Tryz.func10 rfl (by kernel_rfl) Tryz.ntmps10 (by simp) fun hcl hca => ?_
  refine W_seq fun kz1 kq1 => ?_
  refine W_region [] fun R hR => ?_   -- r0
  simp only [go_sem]
  refine hR _ _ (kq1 _ _ ?_); clear hR R; try clear kq1 kz1
  try simp only [go_sem]
  refine W_seq fun kz2 kq2 => ?_
  refine W_region [1, 2] fun R hR => ?_   -- r1
  simp only [go_sem]
  refine GCall_of (scale_pc Y _) ?_   -- t8
  simp only [go_sem]
  refine GCall_of (night_pc Y _) ?_   -- t9
  simp only [go_sem]
  refine GCall_of (PC.val (v' := .tuple [sds exTab, I 0]) (Table_pc Y _ exScale exNight exScale_ok exNight_ok) (by rw [exTable]; rfl)) ?_   -- t10
  simp only [go_sem]
  refine hR _ _ (kq2 _ _ ?_); clear hR R; try clear kq2 kz2
  try simp only [go_sem]
  refine W_seq fun kz3 kq3 => ?_
  refine W_region [1, 2, 3, 4] fun R hR => ?_   -- r2
  simp only [go_sem]
  refine GCall_of (scale_pc Y _) ?_   -- t14
  simp only [go_sem]
  refine GCall_of (before_pc Y _) ?_   -- t15
  simp only [go_sem]
  refine GCall_of (PC.val (v' := .tuple [sts exTot, I 0]) (Totals_pc Y _ exScale exBefore exScale_ok exBefore_ok) (by rw [exTotals]; rfl)) ?_   -- t16
  simp only [go_sem]
  refine hR _ _ (kq3 _ _ ?_); clear hR R; try clear kq3 kz3
  try simp only [go_sem]
  refine W_seq fun kz4 kq4 => ?_
  refine W_region [1, 2, 3, 4, 5, 6] fun R hR => ?_   -- r3
  simp only [go_sem]
  refine GCall_of (scale_pc Y _) ?_   -- t20
  simp only [go_sem]
  refine GCall_of (before_pc Y _) ?_   -- t21
  simp only [go_sem]
  refine GCall_of (PC.val (v' := .tuple [.agg [I 1, I 3], I 0]) (Place_pc Y _ exScale exBefore exScale_ok exBefore_ok 0) (by rw [exPlace])) ?_   -- t22
  simp only [go_sem]
  refine hR _ _ (kq4 _ _ ?_); clear hR R; try clear kq4 kz4
  try simp only [go_sem]
  refine W_seq fun kz5 kq5 => ?_
  refine W_draw [0] [0, 1, 2, 3, 4, 5, 6, 7, 8, 9, 10, 11, 12, 13, 14, 15, 16, 17, 18, 19, 20, 21, 22, 23, 24, 25, 26, 27, 28, 29, 30, 31, 32, 33, 34] [(22, 24), (22, 25), (22, 27), (30, 35)] [[], [0], [0, 1], [0, 1, 2], [0, 1, 2, 3], [0, 1, 2, 3, 4], [0, 1, 2, 3, 4, 5], [0, 1, 2, 3, 4, 5, 6], [0, 1, 2, 3, 4, 5, 6, 7], [0, 1, 2, 3, 4, 5, 6, 7, 8], [0, 1, 2, 3, 4, 5, 6, 7, 8, 9], [0, 1, 2, 3, 4, 5, 6, 7, 8, 9, 10], [0, 1, 2, 3, 4, 5, 6, 7, 8, 9, 10], [0, 1, 2, 3, 4, 5, 6, 7, 8, 9, 10, 12], [0, 1, 2, 3, 4, 5, 6, 7, 8, 9, 10], [0, 1, 2, 3, 4, 5, 6, 7, 8, 9, 10, 14], [0, 1, 2, 3, 4, 5, 6, 7, 8, 9, 10], [0, 1, 2, 3, 4, 5, 6, 7, 8, 9, 10, 16], [0, 1, 2, 3, 4, 5, 6, 7, 8, 9, 10, 12, 13, 14, 15, 16, 17], [0, 1, 2, 3, 4, 5, 6, 7, 8, 9, 10, 11, 12, 13, 14, 15, 16, 17, 18], [0, 1, 2, 3, 4, 5, 6, 7, 8, 9, 10, 11, 12, 13, 14, 15, 16, 17, 18, 19], [0, 1, 2, 3, 4, 5, 6, 7, 8, 9, 10, 11, 12, 13, 14, 15, 16, 17, 18, 19, 20], [0, 1, 2, 3, 4, 5, 6, 7, 8, 9, 10, 11, 12, 13, 14, 15, 16, 17, 18, 19, 20, 21], [0, 1, 2, 3, 4, 5, 6, 7, 8, 9, 10, 11, 12, 13, 14, 15, 16, 17, 18, 19, 20, 21], [0, 1, 2, 3, 4, 5, 6, 7, 8, 9, 10, 11, 12, 13, 14, 15, 16, 17, 18, 19, 20, 21, 23], [0, 1, 2, 3, 4, 5, 6, 7, 8, 9, 10, 11, 12, 13, 14, 15, 16, 17, 18, 19, 20, 21, 23, 24], [0, 1, 2, 3, 4, 5, 6, 7, 8, 9, 10, 11, 12, 13, 14, 15, 16, 17, 18, 19, 20, 21, 23, 24, 25], [0, 1, 2, 3, 4, 5, 6, 7, 8, 9, 10, 11, 12, 13, 14, 15, 16, 17, 18, 19, 20, 21, 22, 23, 24, 25, 26], [0, 1, 2, 3, 4, 5, 6, 7, 8, 9, 10, 11, 12, 13, 14, 15, 16, 17, 18, 19, 20, 21, 22, 23, 24, 25, 26, 27], [0, 1, 2, 3, 4, 5, 6, 7, 8, 9, 10, 11, 12, 13, 14, 15, 16, 17, 18, 19, 20, 21, 22, 23, 24, 25, 26, 27, 28], [0, 1, 2, 3, 4, 5, 6, 7, 8, 9, 10, 11, 12, 13, 14, 15, 16, 17, 18, 19, 20, 21, 22, 23, 24, 25, 26, 27, 28, 29], [0, 1, 2, 3, 4, 5, 6, 7, 8, 9, 10, 11, 12, 13, 14, 15, 16, 17, 18, 19, 20, 21, 22, 23, 24, 25, 26, 27, 28, 29], [0, 1, 2, 3, 4, 5, 6, 7, 8, 9, 10, 11, 12, 13, 14, 15, 16, 17, 18, 19, 20, 21, 22, 23, 24, 25, 26, 27, 28, 29, 30, 31], [0, 1, 2, 3, 4, 5, 6, 7, 8, 9, 10, 11, 12, 13, 14, 15, 16, 17, 18, 19, 20, 21, 22, 23, 24, 25, 26, 27, 28, 29, 30, 31, 32], [0, 1, 2, 3, 4, 5, 6, 7, 8, 9, 10, 11, 12, 13, 14, 15, 16, 17, 18, 19, 20, 21, 22, 23, 24, 25, 26, 27, 28, 29, 30, 31, 32, 33]] mixed (by kernel_rfl) fun R hR => ?_   -- r4
  simp only [go_sem]
  refine GCall_of (PC.val (v' := .bool true) (PC.ofRo (EqTables_pc Y _ exTab exTab .ro .ro (by decide) (by decide)) (by simp only [go_sem, exTab] <;> rfl)) (by rfl)) ?_   -- t44
  simp only [go_sem]
  refine GCall_of (span_pc Y _ 340 385) ?_   -- t48
  simp only [go_sem]
  refine GCall_of (span_pc Y _ 355 390) ?_   -- t49
  simp only [go_sem]
  refine GCall_of (span_pc Y _ 345 370) ?_   -- t50
  simp only [go_sem]
  refine GCall_of (EqSpans_pc Y _ exTot exTot .ro .exact (by decide)) ?_   -- t52
  simp only [go_sem]
  refine GCall_of (span_pc Y _ 1 3) ?_   -- t56
  simp only [go_sem]
  try refine And.intro (by repeat' (first | refine And.intro ?_ ?_ | exact GOr_right (fun _ => by simp only [go_sem]))) ?_
  refine hR _ _ (kq5 _ _ ?_); clear hR R; try clear kq5 kz5
  try simp only [go_sem]
  refine W_ret ?_
  simp only [go_sem]
  refine ⟨.inr (by trivial), ?_⟩
  first | refine Fin_same hcl rfl (Wk_eq ?_ (by simp only [go_sem])) | refine Fin_self hcl rfl (Wk_eq ?_ (by simp only [go_sem]))
  try simp only [go_sem]
  all_goals
    first | rfl | (simp_all; done) | (simp_all; omega)
end Go.Proofs.YtgelnjmddabgpaaGreat
namespace Go.Proofs.YtgelnjmddabgpaaGreat
open Go Go.RowKit
set_option maxRecDepth 100000
end Go.Proofs.YtgelnjmddabgpaaGreat
namespace Go.Proofs.YtgelnjmddabgpaaGreat
open Go Go.RowKit
set_option maxRecDepth 100000
end Go.Proofs.YtgelnjmddabgpaaGreat
namespace Go.Proofs.YtgelnjmddabgpaaGreat
open Go Go.RowKit
set_option maxRecDepth 100000
end Go.Proofs.YtgelnjmddabgpaaGreat
namespace Go.Proofs.YtgelnjmddabgpaaGreat
open Go Go.RowKit
set_option maxRecDepth 100000
theorem Scale.V.okS {s : Scale} (h : s.V) : s.Ok := ⟨by have := h.ol; have := h.mt; omega⟩
end Go.Proofs.YtgelnjmddabgpaaGreat
namespace Go.Proofs.YtgelnjmddabgpaaGreat
open Go Go.RowKit
set_option maxRecDepth 100000
set_option maxHeartbeats 16000000 in
theorem MarksOpened_pc (Y : YEnv) (σ : Sg) (nums : List Int) (hn : nums.length < 2 ^ 60) :
    PC Tryz.prog Y 7 [ints nums] σ (.bool true) (σ) := by
  refine PC_of_W Tryz.func7 rfl (by kernel_rfl) Tryz.ntmps7 (by simp) fun hcl hca => ?_
  obtain ⟨b0, hb0⟩ : ∃ z, drumB nums 2685821657736338717 = z := ⟨_, rfl⟩
  obtain ⟨s, hs⟩ : ∃ zz, (scaleD 4 b0).1 = zz := ⟨_, rfl⟩
  obtain ⟨b1, hb1⟩ : ∃ zz, (scaleD 4 b0).2 = zz := ⟨_, rfl⟩
  have ds := scaleD_ok 4 (by omega) (by omega) b0
  simp only [hs] at ds
  have hsc := ds.1
  have hv := Scale.v hsc
  have q3 := hv.sc
  have hsO := hv.okS
  obtain ⟨g, hg⟩ : ∃ zz, (nightD s false b1).1 = zz := ⟨_, rfl⟩
  obtain ⟨b2, hb2⟩ : ∃ zz, (nightD s false b1).2 = zz := ⟨_, rfl⟩
  have dg := nightD_ok hsc false b1
  simp only [hg] at dg
  obtain ⟨rs, hrs⟩ : ∃ zz, (roll s.schools b2).1 = zz := ⟨_, rfl⟩
  obtain ⟨b3, hb3⟩ : ∃ zz, (roll s.schools b2).2 = zz := ⟨_, rfl⟩
  have drs := roll_bd s.schools b2
  simp only [hrs] at drs
  have hnv := dg.v
  have hgO := hnv.ok
  obtain ⟨N, hN⟩ : ∃ z : Nat, s.schools = z := ⟨s.schools.toNat, by omega⟩
  have hNi : (s.schools : Int) = (N : Int) := hN
  have hrR : 0 ≤ rs ∧ rs < s.schools := by omega
  obtain ⟨nf, hnf⟩ : ∃ zz, (fillD s g rs 2 b3).1 = zz := ⟨_, rfl⟩
  obtain ⟨b4, hb4⟩ : ∃ zz, (fillD s g rs 2 b3).2 = zz := ⟨_, rfl⟩
  have dnf := fillD_ok dg rs 2 b3
  simp only [hnf] at dnf
  obtain ⟨xs, hF⟩ := dnf
  have hfO := hF.lg.v'.ok
  have hfl := hfO.ho
  have hok := tbl_ok (k := knownK s nf) (g := nf) hN
  have hrw := fun (i : Nat) (x : Stand) => hF.last hN (i := i) (x := x)
  have hFT := hF.table
  obtain ⟨l, hl⟩ : ∃ z, tblP s (knownK s nf) nf = z := ⟨_, rfl⟩
  rw [hl] at hok hrw hFT
  have hln := hok.ln
  have hTf := totals_at hF.lg.v'
  have hTfg := fun (c : Nat) (h : c < N) => totAt_get (g := nf) hN h
  obtain ⟨Tf, hTfe⟩ : ∃ z, (toI s.schools).map (totAt s nf) = z := ⟨_, rfl⟩
  rw [hTfe] at hTf hTfg
  have hTfl : Tf.length = N := by rw [← hTfe]; simp [toI, hN]
  have hlS : (l.length : Int) = s.schools := by omega
  have hTfS : (Tf.length : Int) = s.schools := by omega
  have hge : g.opened.length ≤ nf.opened.length := by rw [hF.lg.op]; simp
  refine W_seq fun kz1 kq1 => ?_
  refine W_region [0] fun R hR => ?_   -- r0
  simp only [go_sem, hb0, hs, hb1, hg, hb2, hrs, hb3, hnf, hb4, hlS, hTfS, bne_self_eq_false, Bool.not_false]
  refine hR _ _ (kq1 _ _ ?_); clear hR R; try clear kq1 kz1
  try simp only [go_sem, hb0, hs, hb1, hg, hb2, hrs, hb3, hnf, hb4, hlS, hTfS, bne_self_eq_false, Bool.not_false]
  refine W_seq fun kz2 kq2 => ?_
  refine W_region [3] fun R hR => ?_   -- r1
  simp only [go_sem, hb0, hs, hb1, hg, hb2, hrs, hb3, hnf, hb4, hlS, hTfS, bne_self_eq_false, Bool.not_false]
  refine GCall_of (DrumOf_pc Y _ nums hn) ?_   -- t32
  simp only [go_sem, hb0, hs, hb1, hg, hb2, hrs, hb3, hnf, hb4, hlS, hTfS, bne_self_eq_false, Bool.not_false]
  refine hR _ _ (kq2 _ _ ?_); clear hR R; try clear kq2 kz2
  try simp only [go_sem, hb0, hs, hb1, hg, hb2, hrs, hb3, hnf, hb4, hlS, hTfS, bne_self_eq_false, Bool.not_false]
  refine W_seq fun kz3 kq3 => ?_
  refine W_region [3, 4] fun R hR => ?_   -- r2
  simp only [go_sem, hb0, hs, hb1, hg, hb2, hrs, hb3, hnf, hb4, hlS, hTfS, bne_self_eq_false, Bool.not_false]
  refine GCall_of (ScaleOf_pc Y _ _ b0 (Sg.get_ext0 ..) 4 (by omega) (by omega)) ?_   -- t34
  simp only [go_sem, hb0, hs, hb1, hg, hb2, hrs, hb3, hnf, hb4, hlS, hTfS, bne_self_eq_false, Bool.not_false]
  refine hR _ _ (kq3 _ _ ?_); clear hR R; try clear kq3 kz3
  try simp only [go_sem, hb0, hs, hb1, hg, hb2, hrs, hb3, hnf, hb4, hlS, hTfS, bne_self_eq_false, Bool.not_false]
  refine W_seq fun kz4 kq4 => ?_
  refine W_region [3, 4, 5] fun R hR => ?_   -- r3
  simp only [go_sem, hb0, hs, hb1, hg, hb2, hrs, hb3, hnf, hb4, hlS, hTfS, bne_self_eq_false, Bool.not_false]
  refine GCall_of (NightOf_pc Y _ _ b1 (Sg.get_ext0 ..) s hv hsO false) ?_   -- t37
  simp only [go_sem, hb0, hs, hb1, hg, hb2, hrs, hb3, hnf, hb4, hlS, hTfS, bne_self_eq_false, Bool.not_false]
  refine hR _ _ (kq4 _ _ ?_); clear hR R; try clear kq4 kz4
  try simp only [go_sem, hb0, hs, hb1, hg, hb2, hrs, hb3, hnf, hb4, hlS, hTfS, bne_self_eq_false, Bool.not_false]
  refine W_seq fun kz5 kq5 => ?_
  refine W_region [3, 4, 5, 6] fun R hR => ?_   -- r4
  simp only [go_sem, hb0, hs, hb1, hg, hb2, hrs, hb3, hnf, hb4, hlS, hTfS, bne_self_eq_false, Bool.not_false]
  refine GCall_of (Roll_pc Y _ _ b2 (Sg.get_ext0 ..) s.schools (by omega)) ?_   -- t41
  simp only [go_sem, hb0, hs, hb1, hg, hb2, hrs, hb3, hnf, hb4, hlS, hTfS, bne_self_eq_false, Bool.not_false]
  refine hR _ _ (kq5 _ _ ?_); clear hR R; try clear kq5 kz5
  try simp only [go_sem, hb0, hs, hb1, hg, hb2, hrs, hb3, hnf, hb4, hlS, hTfS, bne_self_eq_false, Bool.not_false]
  refine W_seq fun kz6 kq6 => ?_
  refine W_region [4, 5, 6, 7] fun R hR => ?_   -- r5
  simp only [go_sem, hb0, hs, hb1, hg, hb2, hrs, hb3, hnf, hb4, hlS, hTfS, bne_self_eq_false, Bool.not_false]
  refine GCall_of (filled_pc Y _ _ b3 (Sg.get_ext0 ..) s g rs 2 hv hsO hgO) ?_   -- t46
  simp only [go_sem, hb0, hs, hb1, hg, hb2, hrs, hb3, hnf, hb4, hlS, hTfS, bne_self_eq_false, Bool.not_false]
  refine hR _ _ (kq6 _ _ ?_); clear hR R; try clear kq6 kz6
  try simp only [go_sem, hb0, hs, hb1, hg, hb2, hrs, hb3, hnf, hb4, hlS, hTfS, bne_self_eq_false, Bool.not_false]
  refine W_seq fun kz7 kq7 => ?_
  refine W_seq fun kz8 kq8 => ?_
  refine W_region [4, 5, 6, 7, 8] fun R hR => ?_   -- r6
  simp only [go_sem, hb0, hs, hb1, hg, hb2, hrs, hb3, hnf, hb4, hlS, hTfS, bne_self_eq_false, Bool.not_false]
  refine hR _ _ (kq8 _ _ ?_); clear hR R; try clear kq8 kz8
  try simp only [go_sem, hb0, hs, hb1, hg, hb2, hrs, hb3, hnf, hb4, hlS, hTfS, bne_self_eq_false, Bool.not_false]
  refine W_block ?_
  refine W_loopT (α := Nat) (fun (k : Nat) => [(8, I k)]) (fun (k : Nat) => σ.ext [some [.int .u64 b4], some (scCells s), some (ngCells g), some (ngCells nf)] []) (fun (k : Nat) => g.opened.length ≤ k ∧ k ≤ nf.opened.length) (fun (k : Nat) => nf.opened.length - k) (g.opened.length) rfl (by simp only [go_sem]) (⟨Nat.le_refl _, hge⟩) ?_
  rintro k ⟨hk1, hk2⟩
  refine W_seq fun kz9 kq9 => ?_
  refine W_seq fun kz10 kq10 => ?_
  refine W_region [4, 5, 6, 7, 8, 54] fun R hR => ?_   -- r7
  simp only [go_sem, hb0, hs, hb1, hg, hb2, hrs, hb3, hnf, hb4, hlS, hTfS, bne_self_eq_false, Bool.not_false]
  refine hR _ _ (kq10 _ _ ?_); clear hR R; try clear kq10 kz10
  try simp only [go_sem, hb0, hs, hb1, hg, hb2, hrs, hb3, hnf, hb4, hlS, hTfS, bne_self_eq_false, Bool.not_false]
  refine W_cond rfl (fun c1 => ?_) (fun c1 => ?_)
  · -- c1 true
    try simp only [nrm] at c1
    have hk3 : k < nf.opened.length := by first | omega | (simp at c1; omega)
    have hk4 : k + 1 ≤ nf.opened.length := by omega
    have hu := hF.uptoV hk1
    have hv' := hF.uptoV (k := k + 1) (by omega)
    have huO := hu.ok
    have hvO := hv'.ok
    have hst := hF.stepL hk1 hk3
    have hfu := hst.fuller hv
    have hTa := totals_at hu
    have hTag := fun (c : Nat) (h : c < N) => totAt_get (g := uptoN g nf k) hN h
    obtain ⟨Ta, hTae⟩ : ∃ z, (toI s.schools).map (totAt s (uptoN g nf k)) = z := ⟨_, rfl⟩
    rw [hTae] at hTa hTag
    have hTal : Ta.length = N := by rw [← hTae]; simp [toI, hN]
    have hTb := totals_at hv'
    have hTbg := fun (c : Nat) (h : c < N) => totAt_get (g := uptoN g nf (k + 1)) hN h
    obtain ⟨Tb, hTbe⟩ : ∃ z, (toI s.schools).map (totAt s (uptoN g nf (k + 1))) = z := ⟨_, rfl⟩
    rw [hTbe] at hTb hTbg
    have hTbl : Tb.length = N := by rw [← hTbe]; simp [toI, hN]
    have hPa := placeA_ok hu hrR
    have hPb := placeA_ok hv' hrR
    have hin1 := hfu.placeLo hrR
    have hin2 := hfu.placeHi hrR
    obtain ⟨pl, hpl⟩ : ∃ z, placeK s (knownK s (uptoN g nf k)) (uptoN g nf k) rs s.high s.low = z := ⟨_, rfl⟩
    obtain ⟨ph, hph⟩ : ∃ z, placeK s (knownK s (uptoN g nf k)) (uptoN g nf k) rs s.low s.high = z := ⟨_, rfl⟩
    obtain ⟨ql, hql⟩ : ∃ z, placeK s (knownK s (uptoN g nf (k + 1))) (uptoN g nf (k + 1)) rs s.high s.low = z := ⟨_, rfl⟩
    obtain ⟨qh, hqh⟩ : ∃ z, placeK s (knownK s (uptoN g nf (k + 1))) (uptoN g nf (k + 1)) rs s.low s.high = z := ⟨_, rfl⟩
    rw [hpl, hph] at hPa
    rw [hql, hqh] at hPb
    rw [hpl, hql] at hin1
    rw [hph, hqh] at hin2
    have hw3 := hst.wins hv hrR
    have hWa : winsA s (uptoN g nf k) rs = ((winsA s (uptoN g nf k) rs).1, 0) := by
      rw [winsA_ok hu hrR]; split
      · rfl
      · split <;> rfl
    have hWb : winsA s (uptoN g nf (k + 1)) rs = ((winsA s (uptoN g nf (k + 1)) rs).1, 0) := by
      rw [winsA_ok hv' hrR]; split
      · rfl
      · split <;> rfl
    obtain ⟨va, hva⟩ : ∃ z, (winsA s (uptoN g nf k) rs).1 = z := ⟨_, rfl⟩
    obtain ⟨vb, hvb⟩ : ∃ z, (winsA s (uptoN g nf (k + 1)) rs).1 = z := ⟨_, rfl⟩
    rw [hva] at hWa hw3
    rw [hvb] at hWb hw3
    have hTaS : (Ta.length : Int) = s.schools := by omega
    have hTbS : (Tb.length : Int) = s.schools := by omega
    have hwk : IntKind.i64.wrap ((k : Int) + 1) = ((k + 1 : Nat) : Int) := by rw [wrapI (by omega) (by omega)]; omega
    refine W_skip (kq9 _ _ ?_)
    refine W_seq fun kz11 kq11 => ?_
    refine W_block ?_
    refine W_seq fun kz12 kq12 => ?_
    refine W_draw [4, 5, 6, 7, 8, 9, 10] [0, 1, 2, 3, 4, 5] [(0, 3), (0, 4), (1, 3), (1, 4), (1, 5)] [[], [], [], [], [0, 2, 3], [0, 1, 2, 3, 4]] mixed (by kernel_rfl) fun R hR => ?_   -- r9
    simp only [go_sem, hb0, hs, hb1, hg, hb2, hrs, hb3, hnf, hb4, hlS, hTfS, bne_self_eq_false, Bool.not_false, hTaS, hTbS, hk2, hk4]
    try refine And.intro (by repeat' (first | refine And.intro ?_ ?_ | exact GOr_right (fun _ => by simp only [go_sem, hb0, hs, hb1, hg, hb2, hrs, hb3, hnf, hb4, hlS, hTfS, bne_self_eq_false, Bool.not_false, hTaS, hTbS, hk2, hk4]))) ?_
    refine hR _ _ (kq12 _ _ ?_); clear hR R; try clear kq12 kz12
    try simp only [go_sem, hb0, hs, hb1, hg, hb2, hrs, hb3, hnf, hb4, hlS, hTfS, bne_self_eq_false, Bool.not_false, hTaS, hTbS, hk2, hk4]
    refine W_seq fun kz13 kq13 => ?_
    refine W_draw [4, 5, 6, 7, 8, 9, 10] [0, 1, 2, 3, 4, 5, 6, 7, 8, 9, 10, 11, 12] [(4, 12), (5, 12), (6, 12), (7, 12), (8, 12)] [[], [0], [], [0, 1, 2], [], [4], [], [6], [4, 5, 6, 7], [0, 1, 2, 3], [0, 1, 2, 3, 9], [0, 1, 2, 3, 4, 5, 6, 7, 8, 9, 10], [0, 1, 2, 3, 4, 5, 6, 7, 8, 9, 10, 11]] mixed (by kernel_rfl) fun R hR => ?_   -- r10
    simp only [go_sem, hb0, hs, hb1, hg, hb2, hrs, hb3, hnf, hb4, hlS, hTfS, bne_self_eq_false, Bool.not_false, hTaS, hTbS, hk2, hk4, hwk, ← List.map_take]
    try simp (disch := omega) only [wrapI, wrapU]
    try refine And.intro (by repeat' (first | refine And.intro ?_ ?_ | exact GOr_right (fun _ => by simp only [go_sem, hb0, hs, hb1, hg, hb2, hrs, hb3, hnf, hb4, hlS, hTfS, bne_self_eq_false, Bool.not_false, hTaS, hTbS, hk2, hk4, hwk, ← List.map_take]))) ?_
    refine hR _ _ (kq13 _ _ ?_); clear hR R; try clear kq13 kz13
    try simp only [go_sem, hb0, hs, hb1, hg, hb2, hrs, hb3, hnf, hb4, hlS, hTfS, bne_self_eq_false, Bool.not_false, hTaS, hTbS, hk2, hk4]
    refine W_seq fun kz14 kq14 => ?_
    refine W_region [4, 5, 6, 7, 8, 9, 10, 11, 12] fun R hR => ?_   -- r11
    simp only [go_sem, hb0, hs, hb1, hg, hb2, hrs, hb3, hnf, hb4, hlS, hTfS, bne_self_eq_false, Bool.not_false, hTaS, hTbS, hk2, hk4]
    refine GCall_of (PC.val (v' := .tuple [sts Ta, I 0]) (Totals_pc Y _ s (uptoN g nf k) hsO huO) (by rw [hTa])) ?_   -- t73
    simp only [go_sem, hb0, hs, hb1, hg, hb2, hrs, hb3, hnf, hb4, hlS, hTfS, bne_self_eq_false, Bool.not_false, hTaS, hTbS, hk2, hk4]
    refine hR _ _ (kq14 _ _ ?_); clear hR R; try clear kq14 kz14
    try simp only [go_sem, hb0, hs, hb1, hg, hb2, hrs, hb3, hnf, hb4, hlS, hTfS, bne_self_eq_false, Bool.not_false, hTaS, hTbS, hk2, hk4]
    refine W_seq fun kz15 kq15 => ?_
    refine W_region [4, 5, 6, 7, 8, 9, 10, 11, 12, 13, 14] fun R hR => ?_   -- r12
    simp only [go_sem, hb0, hs, hb1, hg, hb2, hrs, hb3, hnf, hb4, hlS, hTfS, bne_self_eq_false, Bool.not_false, hTaS, hTbS, hk2, hk4]
    refine GCall_of (PC.val (v' := .tuple [sts Tb, I 0]) (Totals_pc Y _ s (uptoN g nf (k + 1)) hsO hvO) (by rw [hTb])) ?_   -- t79
    simp only [go_sem, hb0, hs, hb1, hg, hb2, hrs, hb3, hnf, hb4, hlS, hTfS, bne_self_eq_false, Bool.not_false, hTaS, hTbS, hk2, hk4]
    refine hR _ _ (kq15 _ _ ?_); clear hR R; try clear kq15 kz15
    try simp only [go_sem, hb0, hs, hb1, hg, hb2, hrs, hb3, hnf, hb4, hlS, hTfS, bne_self_eq_false, Bool.not_false, hTaS, hTbS, hk2, hk4]
    refine W_seq fun kz16 kq16 => ?_
    refine W_region [4, 5, 6, 7, 8, 9, 10, 11, 12, 13, 14, 15, 16] fun R hR => ?_   -- r13
    simp only [go_sem, hb0, hs, hb1, hg, hb2, hrs, hb3, hnf, hb4, hlS, hTfS, bne_self_eq_false, Bool.not_false, hTaS, hTbS, hk2, hk4]
    refine GCall_of (PC.val (v' := .tuple [.agg [I pl, I ph], I 0]) (Place_pc Y _ s (uptoN g nf k) hsO huO (rs)) (by rw [hPa])) ?_   -- t86
    simp only [go_sem, hb0, hs, hb1, hg, hb2, hrs, hb3, hnf, hb4, hlS, hTfS, bne_self_eq_false, Bool.not_false, hTaS, hTbS, hk2, hk4]
    refine hR _ _ (kq16 _ _ ?_); clear hR R; try clear kq16 kz16
    try simp only [go_sem, hb0, hs, hb1, hg, hb2, hrs, hb3, hnf, hb4, hlS, hTfS, bne_self_eq_false, Bool.not_false, hTaS, hTbS, hk2, hk4]
    refine W_seq fun kz17 kq17 => ?_
    refine W_region [4, 5, 6, 7, 8, 9, 10, 11, 12, 13, 14, 15, 16, 17, 18] fun R hR => ?_   -- r14
    simp only [go_sem, hb0, hs, hb1, hg, hb2, hrs, hb3, hnf, hb4, hlS, hTfS, bne_self_eq_false, Bool.not_false, hTaS, hTbS, hk2, hk4]
    refine GCall_of (PC.val (v' := .tuple [.agg [I ql, I qh], I 0]) (Place_pc Y _ s (uptoN g nf (k + 1)) hsO hvO (rs)) (by rw [hPb])) ?_   -- t93
    simp only [go_sem, hb0, hs, hb1, hg, hb2, hrs, hb3, hnf, hb4, hlS, hTfS, bne_self_eq_false, Bool.not_false, hTaS, hTbS, hk2, hk4]
    refine hR _ _ (kq17 _ _ ?_); clear hR R; try clear kq17 kz17
    try simp only [go_sem, hb0, hs, hb1, hg, hb2, hrs, hb3, hnf, hb4, hlS, hTfS, bne_self_eq_false, Bool.not_false, hTaS, hTbS, hk2, hk4]
    refine W_seq fun kz18 kq18 => ?_
    refine W_region [4, 5, 6, 7, 8, 10, 11, 12, 13, 14, 15, 16, 17, 18, 19, 20] fun R hR => ?_   -- r15
    simp only [go_sem, hb0, hs, hb1, hg, hb2, hrs, hb3, hnf, hb4, hlS, hTfS, bne_self_eq_false, Bool.not_false, hTaS, hTbS, hk2, hk4]
    refine GCall_of (PC.val (v' := .tuple [I va, I 0]) (Wins_pc Y _ s (uptoN g nf k) hsO huO rs) (by rw [hWa])) ?_   -- t100
    simp only [go_sem, hb0, hs, hb1, hg, hb2, hrs, hb3, hnf, hb4, hlS, hTfS, bne_self_eq_false, Bool.not_false, hTaS, hTbS, hk2, hk4]
    refine hR _ _ (kq18 _ _ ?_); clear hR R; try clear kq18 kz18
    try simp only [go_sem, hb0, hs, hb1, hg, hb2, hrs, hb3, hnf, hb4, hlS, hTfS, bne_self_eq_false, Bool.not_false, hTaS, hTbS, hk2, hk4]
    refine W_seq fun kz19 kq19 => ?_
    refine W_region [4, 5, 6, 7, 8, 11, 12, 13, 14, 15, 16, 17, 18, 19, 20, 21, 22] fun R hR => ?_   -- r16
    simp only [go_sem, hb0, hs, hb1, hg, hb2, hrs, hb3, hnf, hb4, hlS, hTfS, bne_self_eq_false, Bool.not_false, hTaS, hTbS, hk2, hk4]
    refine GCall_of (PC.val (v' := .tuple [I vb, I 0]) (Wins_pc Y _ s (uptoN g nf (k + 1)) hsO hvO rs) (by rw [hWb])) ?_   -- t107
    simp only [go_sem, hb0, hs, hb1, hg, hb2, hrs, hb3, hnf, hb4, hlS, hTfS, bne_self_eq_false, Bool.not_false, hTaS, hTbS, hk2, hk4]
    refine hR _ _ (kq19 _ _ ?_); clear hR R; try clear kq19 kz19
    try simp only [go_sem, hb0, hs, hb1, hg, hb2, hrs, hb3, hnf, hb4, hlS, hTfS, bne_self_eq_false, Bool.not_false, hTaS, hTbS, hk2, hk4]
    refine W_seq fun kz20 kq20 => ?_
    refine W_seq fun kz21 kq21 => ?_
    refine W_regionJ [4, 5, 6, 7, 8, 11, 13, 160] [(160, .bool false)] ?_ fun R hR => ?_   -- r17
    · refine kq21 _ _ ?_
      simp only [go_sem, hb0, hs, hb1, hg, hb2, hrs, hb3, hnf, hb4, hlS, hTfS, bne_self_eq_false, Bool.not_false, hTaS, hTbS, hk2, hk4]
      refine W_cond rfl (fun c2 => ?_) (fun c2 => ?_)
      · -- c2 true
        try simp only [nrm] at c2
        exfalso
        first | omega | (simp at c2; done) | (simp at c2; omega)
      · -- c2 false
        try simp only [nrm] at c2
        refine W_skip (kq20 _ _ ?_)
        refine W_seq fun kz22 kq22 => ?_
        refine W_region [4, 5, 6, 7, 8, 11, 13, 23] fun R hR => ?_   -- r19
        simp only [go_sem, hb0, hs, hb1, hg, hb2, hrs, hb3, hnf, hb4, hlS, hTfS, bne_self_eq_false, Bool.not_false, hTaS, hTbS, hk2, hk4]
        refine hR _ _ (kq22 _ _ ?_); clear hR R; try clear kq22 kz22
        try simp only [go_sem, hb0, hs, hb1, hg, hb2, hrs, hb3, hnf, hb4, hlS, hTfS, bne_self_eq_false, Bool.not_false, hTaS, hTbS, hk2, hk4]
        refine W_block ?_
        refine W_loopS (α := Nat) (fun (i : Nat) => [(23, I i)]) (fun (i : Nat) => i ≤ N) (fun (i : Nat) => N - i) (0) rfl (Nat.zero_le _) ?_
        rintro i hi
        refine W_seq fun kz23 kq23 => ?_
        refine W_seq fun kz24 kq24 => ?_
        refine W_region [4, 5, 6, 7, 8, 11, 13, 23, 164] fun R hR => ?_   -- r20
        simp only [go_sem, hb0, hs, hb1, hg, hb2, hrs, hb3, hnf, hb4, hlS, hTfS, bne_self_eq_false, Bool.not_false, hTaS, hTbS, hk2, hk4]
        refine hR _ _ (kq24 _ _ ?_); clear hR R; try clear kq24 kz24
        try simp only [go_sem, hb0, hs, hb1, hg, hb2, hrs, hb3, hnf, hb4, hlS, hTfS, bne_self_eq_false, Bool.not_false, hTaS, hTbS, hk2, hk4]
        refine W_cond rfl (fun c3 => ?_) (fun c3 => ?_)
        · -- c3 true
          try simp only [nrm] at c3
          have hiN : i < N := by first | omega | (simp at c3; omega)
          have hTac := hTag i hiN
          have hTbc := hTbg i hiN
          have hi1 := hfu.totL (sc := i) ⟨by omega, by omega⟩
          have hi2 := hfu.totH (sc := i) ⟨by omega, by omega⟩
          refine W_skip (kq23 _ _ ?_)
          refine W_seq fun kz25 kq25 => ?_
          refine W_block ?_
          refine W_seq fun kz26 kq26 => ?_
          refine W_draw [4, 5, 6, 7, 8, 11, 13, 23, 176] [0, 1, 2, 3, 4, 5, 6, 7, 8, 9] [] [[], [], [0, 1], [0, 1, 2], [], [], [4, 5], [4, 5, 6], [0, 1, 2, 3, 4, 5, 6, 7], [0, 1, 2, 3, 4, 5, 6, 7, 8]] mixed (by kernel_rfl) fun R hR => ?_   -- r22
          simp only [go_sem, hb0, hs, hb1, hg, hb2, hrs, hb3, hnf, hb4, hlS, hTfS, bne_self_eq_false, Bool.not_false, hTaS, hTbS, hk2, hk4, hTac, hTbc]
          refine GCall_of (PC.val (v' := .bool true) (Inside_pc Y _ (totAt s (uptoN g nf (k + 1)) i).1 (totAt s (uptoN g nf (k + 1)) i).2 (totAt s (uptoN g nf k) i).1 (totAt s (uptoN g nf k) i).2) (by simp [totAt, hi1, hi2])) ?_   -- t175
          simp only [go_sem, hb0, hs, hb1, hg, hb2, hrs, hb3, hnf, hb4, hlS, hTfS, bne_self_eq_false, Bool.not_false, hTaS, hTbS, hk2, hk4, hTac, hTbc]
          try refine And.intro (by repeat' (first | refine And.intro ?_ ?_ | exact GOr_right (fun _ => by simp only [go_sem, hb0, hs, hb1, hg, hb2, hrs, hb3, hnf, hb4, hlS, hTfS, bne_self_eq_false, Bool.not_false, hTaS, hTbS, hk2, hk4, hTac, hTbc]))) ?_
          refine hR _ _ (kq26 _ _ ?_); clear hR R; try clear kq26 kz26
          try simp only [go_sem, hb0, hs, hb1, hg, hb2, hrs, hb3, hnf, hb4, hlS, hTfS, bne_self_eq_false, Bool.not_false, hTaS, hTbS, hk2, hk4, hTac, hTbc]
          refine W_cond rfl (fun c4 => ?_) (fun c4 => ?_)
          · -- c4 true
            try simp only [nrm] at c4
            exfalso
            first | omega | (simp at c4; done) | (simp at c4; omega)
          · -- c4 false
            try simp only [nrm] at c4
            refine W_skip (kq25 _ _ ?_)
            refine W_region [4, 5, 6, 7, 8, 11, 13, 23] fun R hR => ?_   -- r21
            simp only [go_sem, hb0, hs, hb1, hg, hb2, hrs, hb3, hnf, hb4, hlS, hTfS, bne_self_eq_false, Bool.not_false, hTaS, hTbS, hk2, hk4, hTac, hTbc]
            try simp (disch := omega) only [wrapI, wrapU]
            refine hR _ _ ?_; clear hR R
            try simp only [go_sem, hb0, hs, hb1, hg, hb2, hrs, hb3, hnf, hb4, hlS, hTfS, bne_self_eq_false, Bool.not_false, hTaS, hTbS, hk2, hk4, hTac, hTbc]
            refine ⟨i + 1, ?_, by (try simp only []); omega, ?_⟩
            · first | exact Weak.refl | exact Weak.eq (by first | rfl | (simp only [go_sem]; done) | (simp only [go_sem]; rfl) | (simp [go_sem]; done) | (simp [go_sem]; omega)) (by first | rfl | (simp only [go_sem]; done) | (simp [go_sem]; done))
            · try dsimp only
              omega
        · -- c3 false
          try simp only [nrm] at c3
          skip
          refine W_exit ?_
          simp only [go_sem, hb0, hs, hb1, hg, hb2, hrs, hb3, hnf, hb4, hlS, hTfS, bne_self_eq_false, Bool.not_false, hTaS, hTbS, hk2, hk4]
          refine kq11 _ _ ?_
          refine W_region [4, 5, 6, 7, 8] fun R hR => ?_   -- r8
          simp only [go_sem, hb0, hs, hb1, hg, hb2, hrs, hb3, hnf, hb4, hlS, hTfS, bne_self_eq_false, Bool.not_false, hTaS, hTbS, hk2, hk4]
          try simp (disch := omega) only [wrapI, wrapU]
          refine hR _ _ ?_; clear hR R
          try simp only [go_sem, hb0, hs, hb1, hg, hb2, hrs, hb3, hnf, hb4, hlS, hTfS, bne_self_eq_false, Bool.not_false, hTaS, hTbS, hk2, hk4]
          refine ⟨k + 1, ?_, by (try simp only []); omega, ?_⟩
          · refine Weak.trans (Weak.cutX 4 0 (by omega) (by omega) hcl (by simp only [go_sem] <;> omega) (by simp only [go_sem] <;> omega)) ?_
            simp only [go_sem]
            exact Weak.eq (by first | rfl | (simp only [go_sem]; done) | (simp only [go_sem]; rfl) | (simp [go_sem]; done) | (simp [go_sem]; omega)) (by first | rfl | (simp only [go_sem]; done) | (simp [go_sem]; done))
          · try dsimp only
            exact ⟨by omega, by omega⟩
    · simp only [go_sem, hb0, hs, hb1, hg, hb2, hrs, hb3, hnf, hb4, hlS, hTfS, bne_self_eq_false, Bool.not_false, hTaS, hTbS, hk2, hk4]
      refine GCall_of (PC.val (v' := .bool true) (Inside_pc Y _ ql qh pl ph) (by simp [hin1, hin2])) ?_   -- t149
      simp only [go_sem, hb0, hs, hb1, hg, hb2, hrs, hb3, hnf, hb4, hlS, hTfS, bne_self_eq_false, Bool.not_false, hTaS, hTbS, hk2, hk4]
      refine GWant_split (fun g1 => ?_) (fun g1 => ?_)
      · try simp only [Bool.not_eq_true', Bool.not_eq_false'] at g1
        have n1 := g1; try simp only [nrm] at n1
        simp only [go_sem, hb0, hs, hb1, hg, hb2, hrs, hb3, hnf, hb4, hlS, hTfS, bne_self_eq_false, Bool.not_false, hTaS, hTbS, hk2, hk4, g1]
        refine hR _ ?_
        all_goals try simp only [go_sem, hb0, hs, hb1, hg, hb2, hrs, hb3, hnf, hb4, hlS, hTfS, bne_self_eq_false, Bool.not_false, hTaS, hTbS, hk2, hk4]
        all_goals
          first | rfl | (simp_all; done) | (rcases hw3 with h | h <;> simp_all; done) | (simp_all; omega)
      · try simp only [Bool.not_eq_true', Bool.not_eq_false'] at g1
        have n1 := g1; try simp only [nrm] at n1
        simp only [go_sem, hb0, hs, hb1, hg, hb2, hrs, hb3, hnf, hb4, hlS, hTfS, bne_self_eq_false, Bool.not_false, hTaS, hTbS, hk2, hk4, g1]
        refine hR _ ?_
        all_goals try simp only [go_sem, hb0, hs, hb1, hg, hb2, hrs, hb3, hnf, hb4, hlS, hTfS, bne_self_eq_false, Bool.not_false, hTaS, hTbS, hk2, hk4]
        all_goals
          first | rfl | (simp_all; done) | (rcases hw3 with h | h <;> simp_all; done) | (simp_all; omega)
  · -- c1 false
    try simp only [nrm] at c1
    skip
    refine W_exit ?_
    simp only [go_sem, hb0, hs, hb1, hg, hb2, hrs, hb3, hnf, hb4, hlS, hTfS, bne_self_eq_false, Bool.not_false]
    refine kq7 _ _ ?_
    refine W_seq fun kz27 kq27 => ?_
    refine W_region [4, 7, 24, 25] fun R hR => ?_   -- r24
    simp only [go_sem, hb0, hs, hb1, hg, hb2, hrs, hb3, hnf, hb4, hlS, hTfS, bne_self_eq_false, Bool.not_false]
    refine GCall_of (PC.val (v' := .tuple [sds l, I 0]) (Table_pc Y _ s nf hsO hfO) (by rw [hFT])) ?_   -- t180
    simp only [go_sem, hb0, hs, hb1, hg, hb2, hrs, hb3, hnf, hb4, hlS, hTfS, bne_self_eq_false, Bool.not_false]
    refine hR _ _ (kq27 _ _ ?_); clear hR R; try clear kq27 kz27
    try simp only [go_sem, hb0, hs, hb1, hg, hb2, hrs, hb3, hnf, hb4, hlS, hTfS, bne_self_eq_false, Bool.not_false]
    refine W_seq fun kz28 kq28 => ?_
    refine W_region [4, 7, 24, 25, 26, 27] fun R hR => ?_   -- r25
    simp only [go_sem, hb0, hs, hb1, hg, hb2, hrs, hb3, hnf, hb4, hlS, hTfS, bne_self_eq_false, Bool.not_false]
    refine GCall_of (PC.val (v' := .tuple [sts Tf, I 0]) (Totals_pc Y _ s (nf) hsO hfO) (by rw [hTf])) ?_   -- t186
    simp only [go_sem, hb0, hs, hb1, hg, hb2, hrs, hb3, hnf, hb4, hlS, hTfS, bne_self_eq_false, Bool.not_false]
    refine hR _ _ (kq28 _ _ ?_); clear hR R; try clear kq28 kz28
    try simp only [go_sem, hb0, hs, hb1, hg, hb2, hrs, hb3, hnf, hb4, hlS, hTfS, bne_self_eq_false, Bool.not_false]
    refine W_seq fun kz29 kq29 => ?_
    refine W_seq fun kz30 kq30 => ?_
    refine W_region [4, 7, 24, 26, 208] fun R hR => ?_   -- r26
    simp only [go_sem, hb0, hs, hb1, hg, hb2, hrs, hb3, hnf, hb4, hlS, hTfS, bne_self_eq_false, Bool.not_false]
    refine hR _ _ (kq30 _ _ ?_); clear hR R; try clear kq30 kz30
    try simp only [go_sem, hb0, hs, hb1, hg, hb2, hrs, hb3, hnf, hb4, hlS, hTfS, bne_self_eq_false, Bool.not_false]
    refine W_cond rfl (fun c5 => ?_) (fun c5 => ?_)
    · -- c5 true
      try simp only [nrm] at c5
      exfalso
      first | omega | (simp at c5; done) | (simp at c5; omega)
    · -- c5 false
      try simp only [nrm] at c5
      refine W_skip (kq29 _ _ ?_)
      refine W_seq fun kz31 kq31 => ?_
      refine W_seq fun kz32 kq32 => ?_
      refine W_region [4, 7, 24, 26, 28] fun R hR => ?_   -- r28
      simp only [go_sem, hb0, hs, hb1, hg, hb2, hrs, hb3, hnf, hb4, hlS, hTfS, bne_self_eq_false, Bool.not_false]
      refine hR _ _ (kq32 _ _ ?_); clear hR R; try clear kq32 kz32
      try simp only [go_sem, hb0, hs, hb1, hg, hb2, hrs, hb3, hnf, hb4, hlS, hTfS, bne_self_eq_false, Bool.not_false]
      refine W_block ?_
      refine W_loopS (α := Nat) (fun (i : Nat) => [(28, I i)]) (fun (i : Nat) => i ≤ N) (fun (i : Nat) => N - i) (0) rfl (Nat.zero_le _) ?_
      rintro i hi
      refine W_seq fun kz33 kq33 => ?_
      refine W_seq fun kz34 kq34 => ?_
      refine W_region [4, 7, 24, 26, 28, 212] fun R hR => ?_   -- r29
      simp only [go_sem, hb0, hs, hb1, hg, hb2, hrs, hb3, hnf, hb4, hlS, hTfS, bne_self_eq_false, Bool.not_false]
      refine hR _ _ (kq34 _ _ ?_); clear hR R; try clear kq34 kz34
      try simp only [go_sem, hb0, hs, hb1, hg, hb2, hrs, hb3, hnf, hb4, hlS, hTfS, bne_self_eq_false, Bool.not_false]
      refine W_cond rfl (fun c6 => ?_) (fun c6 => ?_)
      · -- c6 true
        try simp only [nrm] at c6
        have hiN : i < N := by first | omega | (simp at c6; omega)
        obtain ⟨x, hx⟩ : ∃ z, l[i]? = some z := ⟨l[i]'(by omega), by simp⟩
        obtain ⟨c, hcN, hxs, hPc, hTc2⟩ := hrw i x hx
        have hTc := hTfg c hcN
        rw [hTc2] at hTc
        have hc0 : ¬ ((c : Int) < 0) := by omega
        have hc1 : ¬ (s.schools ≤ (c : Int)) := by omega
        refine W_skip (kq33 _ _ ?_)
        refine W_seq fun kz35 kq35 => ?_
        refine W_block ?_
        refine W_seq fun kz36 kq36 => ?_
        refine W_seq fun kz37 kq37 => ?_
        refine W_draw [4, 7, 24, 26, 28, 230] [0, 1, 2, 3, 4, 5, 6, 7, 8, 9, 10, 11, 12, 13, 14, 15] [] [[], [], [0, 1], [0, 1, 2], [0, 1, 2, 3], [0, 1, 2, 3, 4], [0, 1, 2, 3, 4, 5], [0, 1, 2, 3, 4, 5, 6], [0, 1, 2, 3, 4, 5, 6], [0, 1, 2, 3, 4, 5, 6, 7, 8], [0, 1, 2, 3, 4, 5, 6, 7, 8, 9], [0, 1, 2, 3, 4, 5, 6, 7, 8, 9, 10], [0, 1, 2, 3, 4, 5, 6], [0, 1, 2, 3, 4, 5, 6, 12], [0, 1, 2, 3, 4, 5, 6, 7, 8, 9, 10, 11, 12, 13], [0, 1, 2, 3, 4, 5, 6, 7, 8, 9, 10, 11, 12, 13, 14]] mixed (by kernel_rfl) fun R hR => ?_   -- r31
        simp only [go_sem, hb0, hs, hb1, hg, hb2, hrs, hb3, hnf, hb4, hlS, hTfS, bne_self_eq_false, Bool.not_false, hx, hxs, hTc, hc0, decide_false, Bool.not_false, hc1]
        try refine And.intro (by repeat' (first | refine And.intro ?_ ?_ | exact GOr_right (fun _ => by simp only [go_sem, hb0, hs, hb1, hg, hb2, hrs, hb3, hnf, hb4, hlS, hTfS, bne_self_eq_false, Bool.not_false, hx, hxs, hTc, hc0, decide_false, Bool.not_false, hc1]))) ?_
        refine hR _ _ (kq37 _ _ ?_); clear hR R; try clear kq37 kz37
        try simp only [go_sem, hb0, hs, hb1, hg, hb2, hrs, hb3, hnf, hb4, hlS, hTfS, bne_self_eq_false, Bool.not_false, hx, hxs, hTc, hc0, decide_false, Bool.not_false, hc1]
        refine W_cond rfl (fun c7 => ?_) (fun c7 => ?_)
        · -- c7 true
          try simp only [nrm] at c7
          exfalso
          first | omega | (simp at c7; done) | (simp at c7; omega)
        · -- c7 false
          try simp only [nrm] at c7
          refine W_skip (kq36 _ _ ?_)
          refine W_seq fun kz38 kq38 => ?_
          refine W_draw [4, 7, 24, 26, 28, 29, 30] [0, 1, 2, 3, 4, 5, 6, 7, 8, 9, 10, 11, 12, 13] [(8, 12), (9, 12), (10, 12), (10, 14)] [[], [], [], [], [2, 3], [2, 3, 4], [2, 3, 4, 5], [0, 1, 2, 3, 4, 5, 6], [0, 1, 2, 3, 4, 5, 6, 7], [0, 1, 2, 3, 4, 5, 6, 7, 8], [0, 1, 2, 3, 4, 5, 6, 7, 8], [], [0, 1, 2, 3, 4, 5, 6, 7, 8, 9, 11], [0, 1, 2, 3, 4, 5, 6, 7, 8, 9, 10, 11, 12]] mixed (by kernel_rfl) fun R hR => ?_   -- r33
          simp only [go_sem, hb0, hs, hb1, hg, hb2, hrs, hb3, hnf, hb4, hlS, hTfS, bne_self_eq_false, Bool.not_false, hx, hxs, hTc, hc0, decide_false, Bool.not_false, hc1]
          refine GCall_of (PC.val (v' := .tuple [.agg [I ((i : Int) + 1), I ((i : Int) + 1)], I 0]) (Place_pc Y _ s (nf) hsO hfO ((c : Int))) (by rw [hPc])) ?_   -- t239
          simp only [go_sem, hb0, hs, hb1, hg, hb2, hrs, hb3, hnf, hb4, hlS, hTfS, bne_self_eq_false, Bool.not_false, hx, hxs, hTc, hc0, decide_false, Bool.not_false, hc1]
          try refine And.intro (by repeat' (first | refine And.intro ?_ ?_ | exact GOr_right (fun _ => by simp only [go_sem, hb0, hs, hb1, hg, hb2, hrs, hb3, hnf, hb4, hlS, hTfS, bne_self_eq_false, Bool.not_false, hx, hxs, hTc, hc0, decide_false, Bool.not_false, hc1]))) ?_
          refine hR _ _ (kq38 _ _ ?_); clear hR R; try clear kq38 kz38
          try simp only [go_sem, hb0, hs, hb1, hg, hb2, hrs, hb3, hnf, hb4, hlS, hTfS, bne_self_eq_false, Bool.not_false, hx, hxs, hTc, hc0, decide_false, Bool.not_false, hc1]
          refine W_seq fun kz39 kq39 => ?_
          refine W_draw [4, 7, 24, 26, 28, 274] [0, 1, 2, 3, 4, 5, 6, 7, 8, 9, 10, 11, 12, 13, 14, 15, 16, 17, 18, 19, 20, 21, 22, 23, 24, 25, 26, 27, 28, 29, 30, 31, 32] [(3, 30), (12, 33), (13, 33), (14, 33), (15, 33), (16, 33), (17, 33), (18, 33), (19, 33)] [[], [0], [0, 1], [0, 1, 2], [0, 1, 2], [0, 1, 2, 4], [0, 1, 2], [0, 1, 2, 6], [0, 1, 2, 4, 5, 6, 7], [0, 1, 2, 3, 4, 5, 6, 7, 8], [0, 1, 2, 3, 4, 5, 6, 7, 8, 9], [0, 1, 2, 3, 4, 5, 6, 7, 8, 9, 10], [0, 1, 2, 3, 4, 5, 6, 7, 8, 9, 10, 11], [0, 1, 2, 3, 4, 5, 6, 7, 8, 9, 10, 11], [0, 1, 2, 3, 4, 5, 6, 7, 8, 9, 10, 11], [0, 1, 2, 3, 4, 5, 6, 7, 8, 9, 10, 11, 13, 14], [0, 1, 2, 3, 4, 5, 6, 7, 8, 9, 10, 11, 13, 14, 15], [0, 1, 2, 3, 4, 5, 6, 7, 8, 9, 10, 11, 13, 14, 15, 16], [0, 1, 2, 3, 4, 5, 6, 7, 8, 9, 10, 11, 12, 13, 14, 15, 16, 17], [0, 1, 2, 3, 4, 5, 6, 7, 8, 9, 10, 11, 12, 13, 14, 15, 16, 17, 18], [0, 1, 2, 3, 4, 5, 6, 7, 8, 9, 10, 11], [0, 1, 2, 3, 4, 5, 6, 7, 8, 9, 10, 11], [0, 1, 2, 3, 4, 5, 6, 7, 8, 9, 10, 11, 20, 21], [0, 1, 2, 3, 4, 5, 6, 7, 8, 9, 10, 11, 20, 21, 22], [0, 1, 2, 3, 4, 5, 6, 7, 8, 9, 10, 11, 20, 21, 22, 23], [0, 1, 2, 3, 4, 5, 6, 7, 8, 9, 10, 11], [0, 1, 2, 3, 4, 5, 6, 7, 8, 9, 10, 11], [0, 1, 2, 3, 4, 5, 6, 7, 8, 9, 10, 11, 25, 26], [0, 1, 2, 3, 4, 5, 6, 7, 8, 9, 10, 11, 25, 26, 27], [0, 1, 2, 3, 4, 5, 6, 7, 8, 9, 10, 11, 25, 26, 27, 28], [0, 1, 2, 3, 4, 5, 6, 7, 8, 9, 10, 11, 20, 21, 22, 23, 24, 25, 26, 27, 28, 29], [0, 1, 2, 3, 4, 5, 6, 7, 8, 9, 10, 11, 12, 13, 14, 15, 16, 17, 18, 19, 20, 21, 22, 23, 24, 25, 26, 27, 28, 29, 30], [0, 1, 2, 3, 4, 5, 6, 7, 8, 9, 10, 11, 12, 13, 14, 15, 16, 17, 18, 19, 20, 21, 22, 23, 24, 25, 26, 27, 28, 29, 30, 31]] mixed (by kernel_rfl) fun R hR => ?_   -- r34
          simp only [go_sem, hb0, hs, hb1, hg, hb2, hrs, hb3, hnf, hb4, hlS, hTfS, bne_self_eq_false, Bool.not_false, hx, hxs, hTc, hc0, decide_false, Bool.not_false, hc1]
          try simp (disch := omega) only [wrapI, wrapU]
          refine GCall_of (span_pc Y _ ((i : Int) + 1) ((i : Int) + 1)) ?_   -- t250
          simp only [go_sem, hb0, hs, hb1, hg, hb2, hrs, hb3, hnf, hb4, hlS, hTfS, bne_self_eq_false, Bool.not_false, hx, hxs, hTc, hc0, decide_false, Bool.not_false, hc1]
          try simp (disch := omega) only [wrapI, wrapU]
          refine GCall_of (span_pc Y _ x.total x.total) ?_   -- t272
          simp only [go_sem, hb0, hs, hb1, hg, hb2, hrs, hb3, hnf, hb4, hlS, hTfS, bne_self_eq_false, Bool.not_false, hx, hxs, hTc, hc0, decide_false, Bool.not_false, hc1]
          try simp (disch := omega) only [wrapI, wrapU]
          try refine And.intro (by repeat' (first | refine And.intro ?_ ?_ | exact GOr_right (fun _ => by simp only [go_sem, hb0, hs, hb1, hg, hb2, hrs, hb3, hnf, hb4, hlS, hTfS, bne_self_eq_false, Bool.not_false, hx, hxs, hTc, hc0, decide_false, Bool.not_false, hc1]))) ?_
          refine hR _ _ (kq39 _ _ ?_); clear hR R; try clear kq39 kz39
          try simp only [go_sem, hb0, hs, hb1, hg, hb2, hrs, hb3, hnf, hb4, hlS, hTfS, bne_self_eq_false, Bool.not_false, hx, hxs, hTc, hc0, decide_false, Bool.not_false, hc1]
          refine W_cond rfl (fun c8 => ?_) (fun c8 => ?_)
          · -- c8 true
            try simp only [nrm] at c8
            exfalso
            first | omega | (simp at c8; done) | (simp at c8; omega)
          · -- c8 false
            try simp only [nrm] at c8
            refine W_skip (kq35 _ _ ?_)
            refine W_region [4, 7, 24, 26, 28] fun R hR => ?_   -- r30
            simp only [go_sem, hb0, hs, hb1, hg, hb2, hrs, hb3, hnf, hb4, hlS, hTfS, bne_self_eq_false, Bool.not_false, hx, hxs, hTc, hc0, decide_false, Bool.not_false, hc1]
            try simp (disch := omega) only [wrapI, wrapU]
            refine hR _ _ ?_; clear hR R
            try simp only [go_sem, hb0, hs, hb1, hg, hb2, hrs, hb3, hnf, hb4, hlS, hTfS, bne_self_eq_false, Bool.not_false, hx, hxs, hTc, hc0, decide_false, Bool.not_false, hc1]
            refine ⟨i + 1, ?_, by (try simp only []); omega, ?_⟩
            · refine Weak.trans (Weak.cutX 4 0 (by omega) (by omega) hcl (by simp only [go_sem] <;> omega) (by simp only [go_sem] <;> omega)) ?_
              simp only [go_sem]
              exact Weak.eq (by first | rfl | (simp only [go_sem]; done) | (simp only [go_sem]; rfl) | (simp [go_sem]; done) | (simp [go_sem]; omega)) (by first | rfl | (simp only [go_sem]; done) | (simp [go_sem]; done))
            · try dsimp only
              omega
      · -- c6 false
        try simp only [nrm] at c6
        skip
        refine W_exit ?_
        simp only [go_sem, hb0, hs, hb1, hg, hb2, hrs, hb3, hnf, hb4, hlS, hTfS, bne_self_eq_false, Bool.not_false]
        refine kq31 _ _ ?_
        refine W_seq fun kz40 kq40 => ?_
        refine W_region [2] fun R hR => ?_   -- r36
        simp only [go_sem, hb0, hs, hb1, hg, hb2, hrs, hb3, hnf, hb4, hlS, hTfS, bne_self_eq_false, Bool.not_false]
        refine GCall_of (awake_pc Y _) ?_   -- t275
        simp only [go_sem, hb0, hs, hb1, hg, hb2, hrs, hb3, hnf, hb4, hlS, hTfS, bne_self_eq_false, Bool.not_false]
        refine hR _ _ (kq40 _ _ ?_); clear hR R; try clear kq40 kz40
        try simp only [go_sem, hb0, hs, hb1, hg, hb2, hrs, hb3, hnf, hb4, hlS, hTfS, bne_self_eq_false, Bool.not_false]
        refine W_ret ?_
        simp only [go_sem, hb0, hs, hb1, hg, hb2, hrs, hb3, hnf, hb4, hlS, hTfS, bne_self_eq_false, Bool.not_false]
        refine ⟨.inr (by trivial), ?_⟩
        first | refine Fin_same hcl rfl (Wk_eq ?_ (by simp only [go_sem])) | refine Fin_self hcl rfl (Wk_eq ?_ (by simp only [go_sem]))
        try simp only [go_sem]
        all_goals
          first | rfl | (simp_all; done)
end Go.Proofs.YtgelnjmddabgpaaGreat
