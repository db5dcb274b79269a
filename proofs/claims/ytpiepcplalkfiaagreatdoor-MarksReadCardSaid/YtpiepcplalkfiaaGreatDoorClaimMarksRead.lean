/-
  The law MarksRead: whatever comes in, it answers true and leaves what came in as it was.
  The law MarksRead, walked: minutes that are written are read back, and what is read is written as it was.
  Minutes that are written are read back; what is read is written as it was: plainly.
  What is read of minutes: nothing, or a night that may be.
  Walks: minutes of any length are read.
-/
import Derived.Test.YtpiepcplalkfiaaGreatDoorPf
import Derived.CallsIn
import Derived.RangeFuncLeaves
import Derived.RangeFuncRecord
import Derived.OrdersIn
import Derived.Below
import Derived.Laws.World
import Derived.Laws.StructEq
import Derived.Laws.BytesString
import Derived.Laws.Append
import Derived.MapKept
import Derived.ProofKit
import Derived.Carry
import Derived.Handed
import Derived.ChangeCalls
import Derived.Stop.Joined
import Derived.Lib.LaidTab
import Derived.Shelf.Strconv.Itoa3
import Derived.RangeFuncIn
import Derived.RangeFuncNested
import Derived.Test.YtpiepcplalkfiaaGreatDoorProg
import Derived.KernelRfl
import Derived.IntWalk
import Derived.Test.YtpiepcplalkfiaaGreatDoorRows
import Derived.Sort.OwnSortedInts
import Derived.Lib.SlicesCompact
import Derived.Shelf.Sort.Plain
import Derived.Shelf.Slices.In.SortNone
import Derived.Shelf.Small.Bits
import Derived.Shelf.Strings.Builder1
import Derived.Lib.SplitLaws
import Derived.Lib.AtoiAll
import Derived.Lib.ItoaNum
import Derived.Lib.IndexBytes
import Derived.Shelf.Strings.Split
import Derived.Shelf.Strconv.AtoiAll
import Derived.Lib.AtoiErrMem
import Derived.Lib.ItoaLen
import Derived.Lib.AtoiAllCases
import Derived.Test.YtpiepcplalkfiaaGreatDoorCards
import Derived.Test.YtpiepcplalkfiaaGreatDoorTie
import Derived.JoinedOf
import Derived.LaidMore
import Derived.LaidSub
import Derived.Lay
import Derived.SevenTiedAt
import Derived.Lib.LaidU8
import Derived.Shelf.Vars
set_option linter.unusedSimpArgs false
set_option linter.unusedVariables false
namespace Go.Proofs.YtpiepcplalkfiaaGreatDoor
open Go Go.RowKit
set_option maxRecDepth 100000
set_option maxHeartbeats 2000000 in
theorem ReadL_pc (Y : YEnv) (σ : Sg) (s : List UInt8) (hs : 3000 < s.length) :
  PC Tryz.prog Y 28 [txt s] σ (ansPV (readM s)) (σ) := by
 refine PC_of_W Tryz.func28 rfl (by kernel_rfl) Tryz.ntmps28 (by simp) fun hcl hca => ?_
 refine W_seq fun kz1 kq1 => ?_
 refine W_region [0, 2, 3] fun R hR => ?_
 simp only [go_sem]
 refine hR _ _ (kq1 _ _ ?_); clear hR R; try clear kq1 kz1
 try simp only [go_sem]
 refine W_scope ?_
 refine W_seq fun kz2 kq2 => ?_
 refine W_seq fun kz3 kq3 => ?_
 refine W_region [0, 2, 3, 18] fun R hR => ?_
 simp only [go_sem]
 refine hR _ _ (kq3 _ _ ?_); clear hR R; try clear kq3 kz3
 try simp only [go_sem]
 refine W_cond rfl (fun c1 => ?_) (fun c1 => ?_)
 ·
  try simp only [nrm] at c1
  have hres : readM s = (sc0, ng0, 0, 6) := by unfold readM; rw [if_pos (by omega)]
  refine W_seq fun kz4 kq4 => ?_
  refine W_region [2, 3, 4, 5] fun R hR => ?_
  simp only [go_sem]
  refine hR _ _ (kq4 _ _ ?_); clear hR R; try clear kq4 kz4
  try simp only [go_sem]
  refine W_ret ?_
  simp only [go_sem]
  refine ⟨.inr (by trivial), ?_⟩
  refine Fin_same hcl (by show resPV Tryz.prog _ _ [.cell 2 24, .cell 3 35, .tmp 4, .tmp 5] = some _; simp only [resPV, go_sem]; rfl) (Wk.ro (by simp only [go_sem]) ?_)
  try simp only [go_sem]
  all_goals
   first | (rw [hres]; done) | (rw [hres]; rfl)
 ·
  try simp only [nrm] at c1
  exfalso
  omega
theorem ReadM_pc (Y : YEnv) (σ : Sg) (s : List UInt8) : PC Tryz.prog Y 28 [txt s] σ (ansPV (readM s)) σ := by
  by_cases h : 3000 < s.length
  · exact ReadL_pc Y σ s h
  · exact Read_pc Y σ s (by omega)
end Go.Proofs.YtpiepcplalkfiaaGreatDoor
namespace Go.Proofs.YtpiepcplalkfiaaGreatDoor
open Go
theorem readM_err {s : List UInt8} (h : (readM s).2.2.2 ≠ 0) : (readM s).1 = sc0 ∧ (readM s).2.1 = ng0 := by
  unfold readM at h ⊢
  split
  · exact ⟨rfl, rfl⟩
  · rename_i h1
    rw [if_neg h1] at h
    unfold readR at h ⊢
    repeat' split
    all_goals first | exact ⟨rfl, rfl⟩ | skip
    rename_i h2 h3 h4
    rw [if_neg h2, if_neg h3, if_neg h4] at h
    exact absurd rfl h
theorem readM_known {s : List UInt8} (h : (readM s).2.2.2 = 0) : knownE (readM s).1 (readM s).2.1 = 0 := by
  unfold readM at h ⊢
  split
  · rename_i h1; rw [if_pos h1] at h; cases h
  · rename_i h1
    rw [if_neg h1] at h
    unfold readR at h ⊢
    split
    · rename_i h2; rw [if_pos h2] at h; cases h
    · rename_i h2
      rw [if_neg h2] at h
      split
      · rename_i h3; rw [if_pos h3] at h; cases h
      · rename_i h3
        rw [if_neg h3] at h
        split
        · rename_i h4; rw [if_pos h4] at h; exact absurd h h4
        · rename_i h4; simpa using h4
theorem NightK.okS {s : Scale} {n : Night} (h : NightK s n) : s.Ok := ⟨by have := h.ol; omega⟩
theorem NightK.okN {s : Scale} {n : Night} (h : NightK s n) : n.Ok := ⟨by have := h.el; omega, by have := h.al; omega, by have := h.fl; omega, fun e he => by have := (h.ev e he).l; omega⟩
theorem readM_ok (s : List UInt8) : (readM s).1.Ok ∧ (readM s).2.1.Ok := by
  by_cases h : (readM s).2.2.2 = 0
  · have := night_k (readM_known h)
    exact ⟨this.okS, this.okN⟩
  · obtain ⟨h1, h2⟩ := readM_err h
    rw [h1, h2]
    exact ⟨⟨by simp [sc0]⟩, ⟨by simp [ng0], by simp [ng0], by simp [ng0], fun e he => by cases he⟩⟩
end Go.Proofs.YtpiepcplalkfiaaGreatDoor
namespace Go.Proofs.YtpiepcplalkfiaaGreatDoor
open Go
theorem Lim.short {b : Int} {l : List Int} {k : Nat} (h : Lim b l) (hb : b < ((10 ^ k : Nat) : Int)) (hk : 1 ≤ k) : ∀ n, n ∈ l → Short k n := fun n hn => short_lt (h n hn).1 (Int.lt_of_le_of_lt (h n hn).2 hb) hk
theorem short_len {k : Nat} : ∀ {l : List Int}, (∀ n, n ∈ l → Short k n) → ∀ w, (rowT w l).length ≤ w.length + (k + 1) * l.length := by
  intro l
  induction l with
  | nil => intro _ w; simp [rowT]
  | cons n l ih =>
    intro h w
    rw [rowT_cons]
    have h1 := ih (fun m hm => h m (List.mem_cons_of_mem _ hm)) (w ++ 32 :: Lib.itoa n)
    have h2 := (h n (List.mem_cons_self ..)).2
    simp only [List.length_append, List.length_cons, Nat.mul_add, Nat.mul_one] at h1 ⊢
    omega
theorem short_line {k : Nat} {w : List UInt8} {l : List Int} (h : ∀ n, n ∈ l → Short k n) : (lineT w l).length ≤ w.length + (k + 1) * l.length + 1 := by
  have := short_len h w
  simp only [lineT, List.length_append, List.length_cons, List.length_nil]
  omega
theorem EnvK.nums3 {e : Envl} (h : EnvK e) : Lim 999 (evNums e) := fun n hn => by
  have := h.m; have := h.j; have := h.s
  simp only [evNums, List.cons_append, List.nil_append, List.mem_cons] at hn
  rcases hn with rfl | rfl | rfl | hn <;> try omega
  have := h.k n hn
  omega
theorem evT_50 : ∀ {l : List Envl}, (∀ e, e ∈ l → EnvK e) → (evT l).length ≤ 50 * l.length := by
  intro l
  induction l with
  | nil => intro _; simp [evT]
  | cons b l ih =>
    intro h
    have h1 := ih fun x hx => h x (List.mem_cons_of_mem _ hx)
    have hb := h b (List.mem_cons_self ..)
    have h2 := short_line (w := marksW) (hb.nums3.short (k := 3) (by decide) (by decide))
    have h3 := hb.l
    have e1 : (evNums b).length = 3 + b.marks.length := by simp [evNums]; omega
    have e2 : marksW.length = 5 := rfl
    simp only [evT, List.flatMap_cons, List.length_append, List.length_cons] at h1 ⊢
    omega
theorem prT_20 {w : List UInt8} (hw : w.length ≤ 6) : ∀ {l : List (Int × Int)}, (∀ a, a ∈ l → Lim 1000 (prNums a)) → (prT w l).length ≤ 17 * l.length := by
  intro l
  induction l with
  | nil => intro _; simp [prT]
  | cons b l ih =>
    intro h
    have h1 := ih fun x hx => h x (List.mem_cons_of_mem _ hx)
    have h2 := short_line (w := w) ((h b (List.mem_cons_self ..)).short (k := 4) (by decide) (by decide))
    have e1 : (prNums b).length = 2 := rfl
    simp only [prT, List.flatMap_cons, List.length_append, List.length_cons] at h1 ⊢
    omega
theorem minT_3000 {s : Scale} {n : Night} (h : NightK s n) (h1 : n.opened.length ≤ 30) (h2 : n.absent.length ≤ 30) : (minT s n).length ≤ 3000 := by
  have q1 := short_line (w := scaleW) (h.sc.short (k := 3) (by decide) (by decide))
  have q2 := short_line (w := orderW) (h.od.short (k := 3) (by decide) (by decide))
  have q3 := evT_50 h.ev
  have q4 := prT_20 (w := absentW) (by decide) fun a ha => (h.ab a ha).mono (b := 1000) (by decide)
  have q5 := prT_20 (w := fineW) (by decide) h.fi
  have q6 := short_line (w := endW) (l := [(n.opened.length : Int)]) (k := 3) fun m hm => by simp at hm; subst hm; exact short_lt (by omega) (by simp; omega) (by omega)
  have e1 : (scNums s).length = 6 := rfl
  have e2 : scaleW.length = 5 := rfl
  have e3 : orderW.length = 5 := rfl
  have e4 : endW.length = 3 := rfl
  have e5 := h.ol
  have e6 := h.fl
  simp only [List.length_cons, List.length_nil] at q6
  simp only [minT, headT, List.length_append]
  omega
theorem mkEv_nums (e : Envl) : mkEv (evNums e) = e := by simp [mkEv, evNums]
theorem mkPr_nums (a : Int × Int) : mkPr (prNums a) = a := by simp [mkPr, prNums]
theorem mkSc_nums (s : Scale) : { mkSc sc0 (scNums s) with order := s.order } = s := by simp [mkSc, scNums]
theorem three {n : List Int} (h : 3 ≤ n.length) : ∃ a b c r, n = a :: b :: c :: r := by
  match n, h with
  | a :: b :: c :: r, _ => exact ⟨a, b, c, r, rfl⟩
theorem nums_mkEv {n : List Int} (h : 3 ≤ n.length) : evNums (mkEv n) = n := by
  obtain ⟨a, b, c, r, rfl⟩ := three h
  simp [mkEv, evNums]
theorem nums_mkPr {n : List Int} (h : n.length = 2) : prNums (mkPr n) = n := by
  match n, h with
  | [a, b], _ => rfl
theorem nums_mkSc {n : List Int} (h : n.length = 6) (l : List Int) : scNums { mkSc sc0 n with order := l } = n := by
  match n, h with
  | [a, b, c, d, e, f], _ => rfl
theorem nums_one {n : List Int} {m : Int} (h : n.length = 1) (h2 : n.getD 0 0 = m) : n = [m] := by
  match n, h with
  | [a], _ => simp at h2; rw [h2]
/-- The rows of minutes. -/
def evR (l : List Envl) : List (List UInt8) := l.map fun e => rowT marksW (evNums e)
def prR (w : List UInt8) (l : List (Int × Int)) : List (List UInt8) := l.map fun a => rowT w (prNums a)
def restR (a : List Envl) (b c : List (Int × Int)) (m : Nat) : List (List UInt8) := evR a ++ (prR absentW b ++ (prR fineW c ++ [rowT endW [(m : Int)]]))
def rowsN (s : Scale) (n : Night) : List (List UInt8) := rowT scaleW (scNums s) :: rowT orderW s.order :: restR n.opened n.absent n.fines n.opened.length
theorem minT_rows (s : Scale) (n : Night) : minT s n = (rowsN s n).flatMap fun r => r ++ [10] := by
  unfold minT rowsN restR headT evT prT evR prR lineT
  simp [List.flatMap_append, List.flatMap_map, List.flatMap_cons]
section
variable {s : Scale} {g : Night} {k : Int}
theorem step_sc {l : List Int} (h : Lim 1000 l) (hl : l.length = 6) : stepM (s, g, -1) (rowT scaleW l) = some (mkSc s l, g, 0) := by
  unfold stepM
  rw [parse_row (by decide) (h.short (by decide) (by decide))]
  show takeM _ _ _ = _
  rw [take_eq, if_pos ⟨rfl, rfl, hl⟩]
theorem step_od {l : List Int} (h : Lim 1000 l) : stepM (s, g, 0) (rowT orderW l) = some ({ s with order := l }, g, 1) := by
  unfold stepM
  rw [parse_row (by decide) (h.short (by decide) (by decide))]
  show takeM _ _ _ = _
  rw [take_eq, if_neg (by omega), if_pos ⟨rfl, rfl⟩]
theorem step_ev {e : Envl} (h : EnvK e) (h1 : 1 ≤ k) (h2 : k ≤ 2) : stepM (s, g, k) (rowT marksW (evNums e)) = some (s, { g with opened := g.opened ++ [e] }, 2) := by
  unfold stepM
  rw [parse_row (by decide) (h.nums.short (by decide) (by decide))]
  show takeM _ _ _ = _
  rw [take_eq, if_neg (by omega), if_neg (by omega), if_pos ⟨h1, h2, rfl, by simp [evNums]⟩, mkEv_nums]
theorem step_ab {a : Int × Int} (h : Lim 1000 (prNums a)) (h1 : 1 ≤ k) (h2 : k ≤ 3) : stepM (s, g, k) (rowT absentW (prNums a)) = some (s, { g with absent := g.absent ++ [a] }, 3) := by
  unfold stepM
  rw [parse_row (by decide) (h.short (by decide) (by decide))]
  show takeM _ _ _ = _
  rw [take_eq, if_neg (by omega), if_neg (by omega), if_neg (by simp [absentW, marksW]), if_pos ⟨h1, h2, rfl, rfl⟩, mkPr_nums]
theorem step_fi {a : Int × Int} (h : Lim 1000 (prNums a)) (h1 : 1 ≤ k) (h2 : k ≤ 4) : stepM (s, g, k) (rowT fineW (prNums a)) = some (s, { g with fines := g.fines ++ [a] }, 4) := by
  unfold stepM
  rw [parse_row (by decide) (h.short (by decide) (by decide))]
  show takeM _ _ _ = _
  rw [take_eq, if_neg (by omega), if_neg (by omega), if_neg (by simp [fineW, marksW]), if_neg (by simp [absentW, fineW]), if_pos ⟨h1, h2, rfl, rfl⟩, mkPr_nums]
theorem step_en (h : g.opened.length ≤ 60) (h1 : 1 ≤ k) (h2 : k ≤ 4) : stepM (s, g, k) (rowT endW [(g.opened.length : Int)]) = some (s, g, 5) := by
  unfold stepM
  rw [parse_row (by decide) fun n hn => by simp at hn; subst hn; exact short_lt (by omega) (by simp; omega) (by omega)]
  show takeM _ _ _ = _
  rw [take_eq, if_neg (by omega), if_neg (by omega), if_neg (by simp [endW, marksW]), if_neg (by simp [absentW, endW]), if_neg (by simp [fineW, endW]), if_pos ⟨h1, h2, rfl, rfl, rfl⟩]
end
theorem rows_ev {s : Scale} {q : List (List UInt8)} : ∀ (l : List Envl) (i : Nat) (g : Night) (k : Int), (∀ e, e ∈ l → EnvK e) → 1 ≤ k → k ≤ 2 →
    ∃ k', (1 ≤ k' ∧ k' ≤ 2) ∧ rowsM i (s, g, k) (evR l ++ q) = rowsM (i + l.length) (s, { g with opened := g.opened ++ l }, k') q := by
  intro l
  induction l with
  | nil => intro i g k _ h1 h2; exact ⟨k, ⟨h1, h2⟩, by simp [evR]⟩
  | cons e l ih =>
    intro i g k h h1 h2
    obtain ⟨k', hk, hr⟩ := ih (i + 1) { g with opened := g.opened ++ [e] } 2 (fun x hx => h x (List.mem_cons_of_mem _ hx)) (by omega) (by omega)
    refine ⟨k', hk, ?_⟩
    simp only [evR, List.map_cons, List.cons_append] at hr ⊢
    rw [rowsM_some (step_ev (h e (List.mem_cons_self ..)) h1 h2), hr]
    simp only [List.append_assoc, List.cons_append, List.nil_append, List.length_cons]
    congr 1; omega
theorem rows_ab {s : Scale} {q : List (List UInt8)} : ∀ (l : List (Int × Int)) (i : Nat) (g : Night) (k : Int), (∀ e, e ∈ l → Lim 1000 (prNums e)) → 1 ≤ k → k ≤ 3 →
    ∃ k', (1 ≤ k' ∧ k' ≤ 3) ∧ rowsM i (s, g, k) (prR absentW l ++ q) = rowsM (i + l.length) (s, { g with absent := g.absent ++ l }, k') q := by
  intro l
  induction l with
  | nil => intro i g k _ h1 h2; exact ⟨k, ⟨h1, h2⟩, by simp [prR]⟩
  | cons e l ih =>
    intro i g k h h1 h2
    obtain ⟨k', hk, hr⟩ := ih (i + 1) { g with absent := g.absent ++ [e] } 3 (fun x hx => h x (List.mem_cons_of_mem _ hx)) (by omega) (by omega)
    refine ⟨k', hk, ?_⟩
    simp only [prR, List.map_cons, List.cons_append] at hr ⊢
    rw [rowsM_some (step_ab (h e (List.mem_cons_self ..)) h1 h2), hr]
    simp only [List.append_assoc, List.cons_append, List.nil_append, List.length_cons]
    congr 1; omega
theorem rows_fi {s : Scale} {q : List (List UInt8)} : ∀ (l : List (Int × Int)) (i : Nat) (g : Night) (k : Int), (∀ e, e ∈ l → Lim 1000 (prNums e)) → 1 ≤ k → k ≤ 4 →
    ∃ k', (1 ≤ k' ∧ k' ≤ 4) ∧ rowsM i (s, g, k) (prR fineW l ++ q) = rowsM (i + l.length) (s, { g with fines := g.fines ++ l }, k') q := by
  intro l
  induction l with
  | nil => intro i g k _ h1 h2; exact ⟨k, ⟨h1, h2⟩, by simp [prR]⟩
  | cons e l ih =>
    intro i g k h h1 h2
    obtain ⟨k', hk, hr⟩ := ih (i + 1) { g with fines := g.fines ++ [e] } 4 (fun x hx => h x (List.mem_cons_of_mem _ hx)) (by omega) (by omega)
    refine ⟨k', hk, ?_⟩
    simp only [prR, List.map_cons, List.cons_append] at hr ⊢
    rw [rowsM_some (step_fi (h e (List.mem_cons_self ..)) h1 h2), hr]
    simp only [List.append_assoc, List.cons_append, List.nil_append, List.length_cons]
    congr 1; omega
theorem rows_all {s : Scale} {n : Night} (h : NightK s n) : rowsM 0 (sc0, ng0, -1) (rowsN s n) = ((s, n, 5), 0) := by
  unfold rowsN restR
  rw [rowsM_some (step_sc (h.sc.mono (by omega)) rfl), rowsM_some (step_od (h.od.mono (by omega))), mkSc_nums]
  obtain ⟨k1, h1, r1⟩ := rows_ev (s := s) (q := prR absentW n.absent ++ (prR fineW n.fines ++ [rowT endW [(n.opened.length : Int)]])) n.opened 2 ng0 1 h.ev (by omega) (by omega)
  rw [r1]
  obtain ⟨k2, h2, r2⟩ := rows_ab (s := s) (q := prR fineW n.fines ++ [rowT endW [(n.opened.length : Int)]]) n.absent (2 + n.opened.length) { ng0 with opened := ng0.opened ++ n.opened } k1 (fun a ha => (h.ab a ha).mono (by omega)) (by omega) (by omega)
  rw [r2]
  obtain ⟨k3, h3, r3⟩ := rows_fi (s := s) (q := [rowT endW [(n.opened.length : Int)]]) n.fines (2 + n.opened.length + n.absent.length) { ({ ng0 with opened := ng0.opened ++ n.opened } : Night) with absent := ng0.absent ++ n.absent } k2 h.fi (by omega) (by omega)
  rw [r3]
  have e : ({ ({ ({ ng0 with opened := ng0.opened ++ n.opened } : Night) with absent := ng0.absent ++ n.absent } : Night) with fines := ng0.fines ++ n.fines } : Night) = n := by simp [ng0]
  simp only [ng0, List.nil_append]
  rw [rowsM_some (step_en (s := s) (g := n) (k := k3) h.el h3.1 h3.2)]
  rfl
theorem read_write {s : Scale} {n : Night} (h : NightK s n) (hk : knownE s n = 0) (h1 : n.opened.length ≤ 30) (h2 : n.absent.length ≤ 30) : readM (minT s n) = (s, n, 0, 0) := by
  have hsp : splitL 10 (minT s n) = rowsN s n ++ [[]] := by
    rw [minT_rows]
    refine rows_split fun r hr => ?_
    unfold rowsN restR evR prR at hr
    simp only [List.mem_cons, List.mem_append, List.mem_map, List.not_mem_nil, or_false] at hr
    rcases hr with rfl | rfl | ⟨e, he, rfl⟩ | ⟨e, he, rfl⟩ | ⟨e, he, rfl⟩ | rfl
    · exact row_free (by decide) fun n hn => (h.sc n hn).1
    · exact row_free (by decide) fun n hn => (h.od n hn).1
    · exact row_free (by decide) fun n hn => ((h.ev e he).nums n hn).1
    · exact row_free (by decide) fun n hn => (h.ab e he n hn).1
    · exact row_free (by decide) fun n hn => (h.fi e he n hn).1
    · exact row_free (by decide) fun n hn => by simp at hn; omega
  have hr := rows_all h
  have ht : (rowsN s n ++ [[]]).take ((rowsN s n ++ [[]]).length - 1) = rowsN s n := by simp
  unfold readM
  rw [if_neg (by have := minT_3000 h h1 h2; omega), hsp, readR_end (st := (s, n, 5)) (by rw [ht]; exact hr) (by simp), if_neg (by simpa using hk)]
/-- What the rows were. -/
theorem rows_inv {s' : Scale} {g' : Night} : ∀ (q : List (List UInt8)) (i : Nat) (s : Scale) (g : Night) (k : Int), rowsM i (s, g, k) q = ((s', g', 5), 0) →
    (k = 5 → q = [] ∧ s' = s ∧ g' = g) ∧ (1 ≤ k → k ≤ 4 → s' = s ∧ ∃ a b c, (3 ≤ k → a = []) ∧ (4 ≤ k → b = []) ∧ g' = ⟨g.opened ++ a, g.absent ++ b, g.fines ++ c⟩ ∧ q = restR a b c g'.opened.length) := by
  intro q
  induction q with
  | nil =>
    intro i s g k h
    simp only [rowsM, Prod.mk.injEq, and_true] at h
    obtain ⟨rfl, rfl, rfl⟩ := h
    exact ⟨fun _ => ⟨rfl, rfl, rfl⟩, fun _ h => by omega⟩
  | cons r q ih =>
    intro i s g k h
    cases hs : stepM (s, g, k) r with
    | none => rw [rowsM_none hs] at h; simp only [Prod.mk.injEq] at h; omega
    | some st =>
      rw [rowsM_some hs] at h
      unfold stepM at hs
      cases hp : parseE 6 r with
      | none => rw [hp] at hs; cases hs
      | some p =>
        obtain ⟨w, n⟩ := p
        rw [hp] at hs
        obtain ⟨hr, hn⟩ := parse_inv hp
        simp only at hs
        rw [take_eq] at hs
        refine ⟨fun hk => ?_, fun hk1 hk2 => ?_⟩
        · subst hk
          simp at hs
        · rw [if_neg (by omega), if_neg (by omega)] at hs
          split at hs
          · rename_i hb
            injection hs with hs
            subst hs
            obtain ⟨hs', a, b, c, _, _, hg, hq⟩ := (ih _ _ _ _ h).2 (by omega) (by omega)
            refine ⟨hs', mkEv n :: a, b, c, fun _ => by omega, fun _ => by omega, by rw [hg]; simp, ?_⟩
            rw [hq, hr, hb.2.2.1]
            unfold restR evR
            simp only [List.map_cons, List.cons_append, nums_mkEv hb.2.2.2]
          · split at hs
            · rename_i hb
              injection hs with hs
              subst hs
              obtain ⟨hs', a, b, c, ha, _, hg, hq⟩ := (ih _ _ _ _ h).2 (by omega) (by omega)
              obtain rfl := ha (by omega)
              refine ⟨hs', [], mkPr n :: b, c, fun _ => rfl, fun _ => by omega, by rw [hg]; simp, ?_⟩
              rw [hq, hr, hb.2.2.1]
              unfold restR evR prR
              simp only [List.map_cons, List.map_nil, List.nil_append, List.cons_append, nums_mkPr hb.2.2.2]
            · split at hs
              · rename_i hb
                injection hs with hs
                subst hs
                obtain ⟨hs', a, b, c, ha, hb', hg, hq⟩ := (ih _ _ _ _ h).2 (by omega) (by omega)
                obtain rfl := ha (by omega)
                obtain rfl := hb' (by omega)
                refine ⟨hs', [], [], mkPr n :: c, fun _ => rfl, fun _ => rfl, by rw [hg]; simp, ?_⟩
                rw [hq, hr, hb.2.2.1]
                unfold restR evR prR
                simp only [List.map_cons, List.map_nil, List.nil_append, List.cons_append, nums_mkPr hb.2.2.2]
              · split at hs
                · rename_i hb
                  injection hs with hs
                  subst hs
                  obtain ⟨hq, hs', hg⟩ := (ih _ _ _ _ h).1 rfl
                  refine ⟨hs', [], [], [], fun _ => rfl, fun _ => rfl, by rw [hg]; simp, ?_⟩
                  rw [hq, hr, hb.2.2.1, hg, nums_one hb.2.2.2.1 hb.2.2.2.2]
                  rfl
                · cases hs
theorem rows_top {s' : Scale} {g' : Night} {q : List (List UInt8)} (h : rowsM 0 (sc0, ng0, -1) q = ((s', g', 5), 0)) : q = rowsN s' g' := by
  cases q with
  | nil => simp only [rowsM, Prod.mk.injEq] at h; omega
  | cons r q =>
    cases hs : stepM (sc0, ng0, -1) r with
    | none => rw [rowsM_none hs] at h; simp only [Prod.mk.injEq] at h; omega
    | some st =>
      rw [rowsM_some hs] at h
      unfold stepM at hs
      cases hp : parseE 6 r with
      | none => rw [hp] at hs; cases hs
      | some p =>
        obtain ⟨w, n⟩ := p
        rw [hp] at hs
        obtain ⟨hr, hn⟩ := parse_inv hp
        simp only at hs
        rw [take_eq] at hs
        split at hs
        case isFalse => rw [if_neg (by omega), if_neg (by omega), if_neg (by omega), if_neg (by omega), if_neg (by omega)] at hs; cases hs
        rename_i hb
        injection hs with hs
        subst hs
        cases q with
        | nil => simp only [rowsM, Prod.mk.injEq] at h; omega
        | cons r2 q =>
          cases hs : stepM (mkSc sc0 n, ng0, 0) r2 with
          | none => rw [rowsM_none hs] at h; simp only [Prod.mk.injEq] at h; omega
          | some st =>
            rw [rowsM_some hs] at h
            unfold stepM at hs
            cases hp2 : parseE 6 r2 with
            | none => rw [hp2] at hs; cases hs
            | some p =>
              obtain ⟨w2, n2⟩ := p
              rw [hp2] at hs
              obtain ⟨hr2, hn2⟩ := parse_inv hp2
              simp only at hs
              rw [take_eq, if_neg (by omega)] at hs
              split at hs
              case isFalse => rw [if_neg (by omega), if_neg (by omega), if_neg (by omega), if_neg (by omega)] at hs; cases hs
              rename_i hb2
              injection hs with hs
              subst hs
              obtain ⟨hs', a, b, c, _, _, hg, hq⟩ := (rows_inv _ _ _ _ _ h).2 (by omega) (by omega)
              simp only [ng0, List.nil_append] at hg
              unfold rowsN
              rw [hq, hr, hr2, hs', hg, hb.2.1, hb2.2, nums_mkSc hb.2.2]
theorem write_read {t : List UInt8} (h : (readM t).2.2.2 = 0) : minA (readM t).1 (readM t).2.1 = (t, 0) := by
  have hk := readM_known h
  unfold readM at h hk ⊢
  split
  · rename_i h1; rw [if_pos h1] at h; cases h
  · rename_i h1
    rw [if_neg h1] at h hk
    obtain ⟨ws, hws⟩ : ∃ z, splitL 10 t = z := ⟨_, rfl⟩
    rw [hws] at h hk ⊢
    unfold readR at h hk ⊢
    obtain ⟨p, hp⟩ : ∃ z, rowsM 0 (sc0, ng0, -1) (ws.take (ws.length - 1)) = z := ⟨_, rfl⟩
    rw [hp] at h hk ⊢
    split
    · rename_i h3; rw [if_pos h3] at h; cases h
    · rename_i h3
      rw [if_neg h3] at h hk
      split
      · rename_i h4; rw [if_pos h4] at h; cases h
      · rename_i h4
        rw [if_neg h4] at h hk
        split
        · rename_i h5; rw [if_pos h5] at h; exact absurd h h5
        · rename_i h5
          rw [if_neg h5] at hk
          simp only [not_or, Decidable.not_not] at h3 h4 h5
          obtain ⟨⟨x, y, z⟩, e⟩ := p
          simp only at h3 h4 h5 hk ⊢
          obtain ⟨rfl, h4⟩ := h4
          subst h3
          have hq := rows_top hp
          have hs := rows_of (s := t) (by rw [hws]; exact h4)
          rw [hws, hq, ← minT_rows] at hs
          unfold minA
          rw [if_neg (by simpa using h5), ← hs, if_neg h1]
end Go.Proofs.YtpiepcplalkfiaaGreatDoor
namespace Go.Proofs.YtpiepcplalkfiaaGreatDoor
open Go Go.RowKit
set_option maxRecDepth 100000
theorem Scale.V.okS1 {s : Scale} (h : s.V) : s.Ok := ⟨by have := h.ol; have := h.mt; omega⟩
set_option maxHeartbeats 8000000 in
theorem MarksRead_pc (Y : YEnv) (σ : Sg) (nums : List Int) (s : List UInt8) (hn : nums.length < 2 ^ 60) :
  PC Tryz.prog Y 5 [ints nums, txt s] σ (.bool true) (σ) := by
 refine PC_of_W Tryz.func5 rfl (by kernel_rfl) Tryz.ntmps5 (by simp) fun hcl hca => ?_
 obtain ⟨b0, hb0⟩ : ∃ z, drumB nums 2685821657736338717 = z := ⟨_, rfl⟩
 obtain ⟨sm, hsm⟩ : ∃ zz, (scaleD 8 b0).1 = zz := ⟨_, rfl⟩
 obtain ⟨b1, hb1⟩ : ∃ zz, (scaleD 8 b0).2 = zz := ⟨_, rfl⟩
 have dsm := scaleD_ok 8 (by omega) (by omega) b0
 simp only [hsm] at dsm
 obtain ⟨dec, hdec⟩ : ∃ zz, (rare 2 b1).1 = zz := ⟨_, rfl⟩
 obtain ⟨b2, hb2⟩ : ∃ zz, (rare 2 b1).2 = zz := ⟨_, rfl⟩
 have hsc := dsm.1
 have hvS := Scale.v hsc
 have q3 := hvS.sc
 have hsO := hvS.okS1
 obtain ⟨gm, hgm⟩ : ∃ zz, (nightD sm dec b2).1 = zz := ⟨_, rfl⟩
 obtain ⟨b3, hb3⟩ : ∃ zz, (nightD sm dec b2).2 = zz := ⟨_, rfl⟩
 have dgm := nightD_ok hsc dec b2
 simp only [hgm] at dgm
 have hgO := dgm.v.ok
 have hkn : knownE sm gm = 0 := nightV_iff.2 dgm.v
 have hnk := night_k hkn
 have hrw := read_write hnk hkn dgm.l1 dgm.l2
 have hml := minT_3000 hnk dgm.l1 dgm.l2
 have hwr : minA sm gm = (minT sm gm, 0) := by unfold minA; rw [if_neg (by omega), if_neg (by omega)]
 obtain ⟨x, hx⟩ : ∃ z, (readM s).1 = z := ⟨_, rfl⟩
 obtain ⟨y, hy⟩ : ∃ z, (readM s).2.1 = z := ⟨_, rfl⟩
 obtain ⟨r, hr⟩ : ∃ z, (readM s).2.2.1 = z := ⟨_, rfl⟩
 obtain ⟨g, hg⟩ : ∃ z, (readM s).2.2.2 = z := ⟨_, rfl⟩
 have hok := readM_ok s
 rw [hx, hy] at hok
 refine W_seq fun kz1 kq1 => ?_
 refine W_region [0, 1] fun R hR => ?_
 simp only [go_sem, hb0, hsm, hb1, hdec, hb2, hgm, hb3]
 refine hR _ _ (kq1 _ _ ?_); clear hR R; try clear kq1 kz1
 try simp only [go_sem, hb0, hsm, hb1, hdec, hb2, hgm, hb3]
 refine W_seq fun kz2 kq2 => ?_
 refine W_seq fun kz3 kq3 => ?_
 refine W_region [0, 1, 22] fun R hR => ?_
 simp only [go_sem, hb0, hsm, hb1, hdec, hb2, hgm, hb3]
 refine hR _ _ (kq3 _ _ ?_); clear hR R; try clear kq3 kz3
 try simp only [go_sem, hb0, hsm, hb1, hdec, hb2, hgm, hb3]
 refine W_cond rfl (fun c1 => ?_) (fun c1 => ?_)
 ·
  try simp only [nrm] at c1
  refine W_seq fun kz4 kq4 => ?_
  refine W_region [4] fun R hR => ?_
  simp only [go_sem, hb0, hsm, hb1, hdec, hb2, hgm, hb3]
  refine GCall_of (awake_pc Y _) ?_
  simp only [go_sem, hb0, hsm, hb1, hdec, hb2, hgm, hb3]
  refine hR _ _ (kq4 _ _ ?_); clear hR R; try clear kq4 kz4
  try simp only [go_sem, hb0, hsm, hb1, hdec, hb2, hgm, hb3]
  refine W_ret ?_
  simp only [go_sem, hb0, hsm, hb1, hdec, hb2, hgm, hb3]
  refine ⟨.inr (by trivial), ?_⟩
  first | refine Fin_same hcl rfl (Wk_eq ?_ (by simp only [go_sem])) | refine Fin_self hcl rfl (Wk_eq ?_ (by simp only [go_sem]))
  try simp only [go_sem]
  all_goals
   first | rfl | (simp_all; done) | (simp_all; omega)
 ·
  try simp only [nrm] at c1
  refine W_skip (kq2 _ _ ?_)
  refine W_seq fun kz5 kq5 => ?_
  refine W_region [1, 5] fun R hR => ?_
  simp only [go_sem, hb0, hsm, hb1, hdec, hb2, hgm, hb3]
  refine GCall_of (DrumOf_pc Y _ nums hn) ?_
  simp only [go_sem, hb0, hsm, hb1, hdec, hb2, hgm, hb3]
  refine hR _ _ (kq5 _ _ ?_); clear hR R; try clear kq5 kz5
  try simp only [go_sem, hb0, hsm, hb1, hdec, hb2, hgm, hb3]
  refine W_seq fun kz6 kq6 => ?_
  refine W_region [1, 5, 6] fun R hR => ?_
  simp only [go_sem, hb0, hsm, hb1, hdec, hb2, hgm, hb3]
  refine GCall_of (ScaleOf_pc Y _ _ b0 (Sg.get_ext0 _ _ _ _) 8 (by omega) (by omega)) ?_
  simp only [go_sem, hb0, hsm, hb1, hdec, hb2, hgm, hb3]
  refine hR _ _ (kq6 _ _ ?_); clear hR R; try clear kq6 kz6
  try simp only [go_sem, hb0, hsm, hb1, hdec, hb2, hgm, hb3]
  refine W_seq fun kz7 kq7 => ?_
  refine W_draw [1, 6, 7] [0, 1, 2, 3, 4, 5, 6] [(0, 4), (1, 4)] [[], [], [], [2], [0, 1, 2, 3], [], [0, 1, 2, 3, 4, 5]] mixed (by kernel_rfl) fun R hR => ?_
  simp only [go_sem, hb0, hsm, hb1, hdec, hb2, hgm, hb3]
  refine GCall_of (Rare_pc Y _ _ b1 (Sg.get_ext0 _ _ _ _) 2 (by omega)) ?_
  simp only [go_sem, hb0, hsm, hb1, hdec, hb2, hgm, hb3]
  refine GCall_of (NightOf_pc Y _ _ b2 (Sg.get_ext0 _ _ _ _) sm hvS hsO dec) ?_
  simp only [go_sem, hb0, hsm, hb1, hdec, hb2, hgm, hb3]
  try refine And.intro (by repeat' (first | refine And.intro ?_ ?_ | exact trivial | exact GOr_right (fun _ => by simp only [go_sem, hb0, hsm, hb1, hdec, hb2, hgm, hb3]))) ?_
  refine hR _ _ (kq7 _ _ ?_); clear hR R; try clear kq7 kz7
  try simp only [go_sem, hb0, hsm, hb1, hdec, hb2, hgm, hb3]
  refine W_seq fun kz8 kq8 => ?_
  refine W_region [1, 6, 7, 8, 9] fun R hR => ?_
  simp only [go_sem, hb0, hsm, hb1, hdec, hb2, hgm, hb3]
  refine GCall_of (PC.val (v' := .tuple [txt (minT sm gm), I 0]) (Write_pc Y _ sm gm hsO hgO) (by rw [hwr])) ?_
  simp only [go_sem, hb0, hsm, hb1, hdec, hb2, hgm, hb3]
  refine hR _ _ (kq8 _ _ ?_); clear hR R; try clear kq8 kz8
  try simp only [go_sem, hb0, hsm, hb1, hdec, hb2, hgm, hb3]
  refine W_seq fun kz9 kq9 => ?_
  refine W_region [1, 6, 7, 9, 10, 11, 12, 13] fun R hR => ?_
  simp only [go_sem, hb0, hsm, hb1, hdec, hb2, hgm, hb3]
  refine GCall_of (PC.val (v' := ansPV (sm, gm, 0, 0)) (ReadM_pc Y _ (minT sm gm)) (by rw [hrw])) ?_
  simp only [go_sem, hb0, hsm, hb1, hdec, hb2, hgm, hb3]
  refine hR _ _ (kq9 _ _ ?_); clear hR R; try clear kq9 kz9
  try simp only [go_sem, hb0, hsm, hb1, hdec, hb2, hgm, hb3]
  refine W_seq fun kz10 kq10 => ?_
  refine W_seq fun kz11 kq11 => ?_
  refine W_region [1, 67] fun R hR => ?_
  simp only [go_sem, hb0, hsm, hb1, hdec, hb2, hgm, hb3]
  refine GCall_of (EqScales_pc Y _ sm hsO) ?_
  simp only [go_sem, hb0, hsm, hb1, hdec, hb2, hgm, hb3]
  refine GCall_of (EqNights_pc Y _ gm hgO) ?_
  simp only [go_sem, hb0, hsm, hb1, hdec, hb2, hgm, hb3]
  refine hR _ _ (kq11 _ _ ?_); clear hR R; try clear kq11 kz11
  try simp only [go_sem, hb0, hsm, hb1, hdec, hb2, hgm, hb3]
  refine W_cond rfl (fun c2 => ?_) (fun c2 => ?_)
  ·
   try simp only [nrm] at c2
   exfalso
   simp at c2
  ·
   try simp only [nrm] at c2
   refine W_skip (kq10 _ _ ?_)
   refine W_seq fun kz12 kq12 => ?_
   refine W_region [1, 14, 15, 17] fun R hR => ?_
   simp only [go_sem, hb0, hsm, hb1, hdec, hb2, hgm, hb3]
   refine GCall_of (PC.val (v' := ansPV (x, y, r, g)) (ReadM_pc Y _ s) (by rw [← hx, ← hy, ← hr, ← hg])) ?_
   simp only [go_sem, hb0, hsm, hb1, hdec, hb2, hgm, hb3]
   refine hR _ _ (kq12 _ _ ?_); clear hR R; try clear kq12 kz12
   try simp only [go_sem, hb0, hsm, hb1, hdec, hb2, hgm, hb3]
   refine W_seq fun kz13 kq13 => ?_
   refine W_seq fun kz14 kq14 => ?_
   refine W_region [1, 14, 15, 76] fun R hR => ?_
   simp only [go_sem, hb0, hsm, hb1, hdec, hb2, hgm, hb3]
   refine hR _ _ (kq14 _ _ ?_); clear hR R; try clear kq14 kz14
   try simp only [go_sem, hb0, hsm, hb1, hdec, hb2, hgm, hb3]
   refine W_cond rfl (fun c3 => ?_) (fun c3 => ?_)
   ·
    try simp only [nrm] at c3
    obtain ⟨hx0, hy0⟩ := readM_err (s := s) (by rw [hg]; exact c3)
    rw [hx] at hx0
    rw [hy] at hy0
    subst hx0 hy0
    have hl1 : ((sc0.order.length : Int) == 0) = true := rfl
    have hl2 : ((ng0.opened.length : Int) == 0) = true := rfl
    refine W_seq fun kz15 kq15 => ?_
    refine W_region [4] fun R hR => ?_
    simp only [go_sem, hb0, hsm, hb1, hdec, hb2, hgm, hb3, hl1, hl2]
    refine GCall_of (awake_pc Y _) ?_
    simp only [go_sem, hb0, hsm, hb1, hdec, hb2, hgm, hb3, hl1, hl2]
    refine hR _ _ (kq15 _ _ ?_); clear hR R; try clear kq15 kz15
    try simp only [go_sem, hb0, hsm, hb1, hdec, hb2, hgm, hb3, hl1, hl2]
    refine W_ret ?_
    simp only [go_sem, hb0, hsm, hb1, hdec, hb2, hgm, hb3, hl1, hl2]
    refine ⟨.inr (by trivial), ?_⟩
    first | refine Fin_same hcl rfl (Wk_eq ?_ (by simp only [go_sem])) | refine Fin_self hcl rfl (Wk_eq ?_ (by simp only [go_sem]))
    try simp only [go_sem]
    all_goals
     first | rfl | (simp_all; done) | (simp_all; omega)
   ·
    try simp only [nrm] at c3
    have hg0 : (readM s).2.2.2 = 0 := by rw [hg]; simpa using c3
    have hwx := write_read hg0
    rw [hx, hy] at hwx
    refine W_skip (kq13 _ _ ?_)
    refine W_seq fun kz16 kq16 => ?_
    refine W_region [1, 18, 19] fun R hR => ?_
    simp only [go_sem, hb0, hsm, hb1, hdec, hb2, hgm, hb3]
    refine GCall_of (PC.val (v' := .tuple [txt s, I 0]) (Write_pc Y _ x y hok.1 hok.2) (by rw [hwx])) ?_
    simp only [go_sem, hb0, hsm, hb1, hdec, hb2, hgm, hb3]
    refine hR _ _ (kq16 _ _ ?_); clear hR R; try clear kq16 kz16
    try simp only [go_sem, hb0, hsm, hb1, hdec, hb2, hgm, hb3]
    refine W_seq fun kz17 kq17 => ?_
    refine W_region [4] fun R hR => ?_
    simp only [go_sem, hb0, hsm, hb1, hdec, hb2, hgm, hb3]
    refine GCall_of (awake_pc Y _) ?_
    simp only [go_sem, hb0, hsm, hb1, hdec, hb2, hgm, hb3]
    refine hR _ _ (kq17 _ _ ?_); clear hR R; try clear kq17 kz17
    try simp only [go_sem, hb0, hsm, hb1, hdec, hb2, hgm, hb3]
    refine W_ret ?_
    simp only [go_sem, hb0, hsm, hb1, hdec, hb2, hgm, hb3]
    refine ⟨.inr (by trivial), ?_⟩
    first | refine Fin_same hcl rfl (Wk_eq ?_ (by simp only [go_sem])) | refine Fin_self hcl rfl (Wk_eq ?_ (by simp only [go_sem]))
    try simp only [go_sem]
    all_goals
     first | rfl | (simp_all; done) | (simp_all; omega)
end Go.Proofs.YtpiepcplalkfiaaGreatDoor
namespace Go.Proofs.YtpiepcplalkfiaaGreatDoor
open Go Go.RowKit
set_option maxRecDepth 100000
theorem knownErrSyntax {W : World} (h : laidMet Tryz.prog Rows.marksReadRow.laid W) : ∃ t x, W.cell? ⟨2, 0, none⟩ = some (.iface t x) := by
  obtain ⟨g, t, cs, fuel, p, hg, ht, hv, hd⟩ := Lib.laidMet.reads h (n := "strconv.ErrSyntax") (d := Rows.laid_strconv_ErrSyntax) (by simp [Rows.marksReadRow])
  obtain rfl := Option.some.inj ((show Tryz.prog.globalNamed "strconv.ErrSyntax" = some 2 by kernel_rfl).symm.trans hg)
  obtain rfl := Option.some.inj ((show (Tryz.prog.globals[2]?).map (·.type) = some 118 by kernel_rfl).symm.trans ht)
  obtain ⟨_, u, v, e1, _, _⟩ := iface_of_trod Tryz.underlying118 hd
  refine ⟨u, v, ?_⟩
  rw [World.var?_cell hg hv 0]
  have : cs.toList[0]? = some (.iface u v) := by rw [e1]; rfl
  simpa using this
theorem knownErrRange {W : World} (h : laidMet Tryz.prog Rows.marksReadRow.laid W) : ∃ t x, W.cell? ⟨3, 0, none⟩ = some (.iface t x) := by
  obtain ⟨g, t, cs, fuel, p, hg, ht, hv, hd⟩ := Lib.laidMet.reads h (n := "strconv.ErrRange") (d := Rows.laid_strconv_ErrRange) (by simp [Rows.marksReadRow])
  obtain rfl := Option.some.inj ((show Tryz.prog.globalNamed "strconv.ErrRange" = some 3 by kernel_rfl).symm.trans hg)
  obtain rfl := Option.some.inj ((show (Tryz.prog.globals[3]?).map (·.type) = some 118 by kernel_rfl).symm.trans ht)
  obtain ⟨_, u, v, e1, _, _⟩ := iface_of_trod Tryz.underlying118 hd
  refine ⟨u, v, ?_⟩
  rw [World.var?_cell hg hv 0]
  have : cs.toList[0]? = some (.iface u v) := by rw [e1]; rfl
  simpa using this
theorem knownMax {W : World} (hsh : W.ShapedOpen Tryz.prog) : ∃ m, W.cell? ⟨1, 0, none⟩ = some (.int .i64 m) :=
  cell_of_shapedOpen_int (P := Tryz.prog) (g := 1) (t := 3) (zero := #[.int .i64 0]) hsh (of_decide_eq_true (by kernel_rfl)) (by kernel_rfl) rfl (by kernel_rfl) (by kernel_rfl) Tryz.underlying3
/-- What the listed variables give. -/
theorem known (W : World) (hsh : W.ShapedOpen Tryz.prog) (h : laidMetH Tryz.prog Rows.marksReadRow.laid W) : Known Tryz.prog W := by
  rw [MakeChecks.laidMetH_plain _ _ _ (by kernel_rfl)] at h
  have hg : Tryz.prog.globalNamed "internal/strconv.uint64pow10" = some 0 := by kernel_rfl
  have h2 := h.filter (fun x => x.1 == "internal/strconv.uint64pow10")
  rw [show (Rows.marksReadRow.laid.filter fun x => x.1 == "internal/strconv.uint64pow10") = [("internal/strconv.uint64pow10", Lib.tabData .u64 Lib.pow10Tab)] by kernel_rfl] at h2
  obtain ⟨t, f, hh⟩ := known_tab (Lib.tabIs_of_head (t := 210) (e := 104) (n := 20) hg (by kernel_rfl) (by kernel_rfl) (by kernel_rfl) (by kernel_rfl) (by kernel_rfl) h2) hg
  have _ := hsh
  refine ⟨[(0, .whole pow10A)], fun b s hb => ?_, fun k hk => ?_, fun k hk => ?_, fun q n hn k hk => ?_⟩
  · simp only [List.mem_singleton, Prod.mk.injEq] at hb
    obtain ⟨rfl, rfl⟩ := hb
    exact ⟨(Array.getElem?_eq_some_iff.1 hh).1, t, f, hh⟩
  · obtain rfl := Option.some.inj (hg.symm.trans hk)
    exact List.mem_singleton.2 rfl
  · obtain rfl := Option.some.inj ((show Tryz.prog.globalNamed "internal/bytealg.MaxLen" = some 1 by kernel_rfl).symm.trans hk)
    exact knownMax hsh
  · simp only [List.mem_cons, List.not_mem_nil, or_false] at hn
    rcases hn with rfl | rfl
    · obtain rfl := Option.some.inj ((show Tryz.prog.globalNamed "strconv.ErrSyntax" = some 2 by kernel_rfl).symm.trans hk)
      exact knownErrSyntax h
    · obtain rfl := Option.some.inj ((show Tryz.prog.globalNamed "strconv.ErrRange" = some 3 by kernel_rfl).symm.trans hk)
      exact knownErrRange h
theorem rdMarksReadArgs : All2 (fun t R => Rd Tryz.prog t R) Tryz.f5.params.toList [fun p => ∃ xs : List Int, p = ints xs ∧ xs.length * 8 ≤ 140737488351232, fun p => ∃ l : List UInt8, p = txt l] :=
  .cons rdInts (.cons rdTxt .nil)
set_option maxHeartbeats 4000000 in
theorem MarksRead_walk : ∀ qs, AllR [fun p => ∃ xs : List Int, p = ints xs ∧ xs.length * 8 ≤ 140737488351232, fun p => ∃ l : List UInt8, p = txt l] qs → ∃ σ', PC Tryz.prog noY 5 qs Sg.zero (.bool true) σ' := by
  intro qs hq
  obtain ⟨px0, qs, rfl, ⟨x0, hx0, sx0⟩, hq⟩ := allR_cons hq
  obtain ⟨px1, qs, rfl, ⟨x1, hx1⟩, hq⟩ := allR_cons hq
  obtain rfl := allR_nil hq
  subst hx0 hx1
  exact ⟨_, MarksRead_pc noY _ x0 x1 (by omega)⟩
theorem MarksRead_lifted (os : Os) (started : os.Started) (H : Type) (enc : TypeId × Value → H) :
    ReturnsInHanded {} Tryz.checked os 5 .any (fun w args => (Rows.marksReadSpec.pre enc Tryz.prog Tryz.f5 Rows.marksReadRow.domain false w args ∧ laidMetH Tryz.prog Rows.marksReadRow.laid w) ∧ sizedMet enc Tryz.prog Tryz.f5 (OpenSpec.ofChange Rows.marksReadSpec) false w args)
      (Rows.marksReadSpec.post enc Tryz.prog Tryz.f5 false true false false) :=
  law_laid (C := Tryz.checked) own started (by kernel_rfl) Tryz.func5 rfl laidOut (by kernel_rfl) rdMarksReadArgs rfl Tryz.underlying4
    (fun ds h => match ds, h with | [_, _], _ => rfl)
    (ChangeSpec.witness_shaped (enc := enc) (C := Tryz.checked) (os := os) (X := fun w _ => laidMetH Tryz.prog Rows.marksReadRow.laid w) false (World.laidAll Tryz.prog os Rows.marksReadRow.laid) #[.slice none 0 0, .string .empty] 8 (World.laidAll_os _ _ _)
      (World.shaped_of_ZipB (by kernel_rfl) (by kernel_rfl)) (by kernel_rfl) (by kernel_rfl) (by kernel_rfl)
      (by rw [MakeChecks.laidMetH_plain _ _ _ (by kernel_rfl)]; exact laidMet_laidAll _ (by kernel_rfl) (by kernel_rfl)))
    known MarksRead_walk
theorem MarksRead_row : Rows.MarksReadSaid :=
  OpenClaim.holds_of_wide 5 Tryz.f5 rfl rfl rfl rfl rfl rfl rfl ⟨rfl, rfl, rfl, rfl, rfl⟩ rfl rfl rfl rfl rfl (by kernel_rfl) Tryz.func5 (by kernel_rfl)
    (of_decide_eq_true (by kernel_rfl)) (by unfold Func.isWrapper; first | (rw [if_pos (by decide +kernel)]; kernel_rfl) | (rw [if_neg (by decide +kernel)]; exact ⟨rfl, rfl⟩))
    (fun os started H enc _ => MarksRead_lifted os started H enc)
theorem MarksRead_holds : Rows.MarksReadCardSaid :=
  Claim7.holds_tied_plain_at .later [] [.data, .data, .data, .data, .sentinel, .sentinel, .pinned] true (true, "cab0c22f0b46c07bc07997e3a0057b9cf7a4ccef9a40c24b3ed5f114cd2325d4") true
    MarksRead_row (fun _ h => by cases h) (by kernel_rfl) (fun _ h => by cases h) marksRead_row_tie rfl ⟨rfl, rfl⟩ (by kernel_rfl) rfl
    (fun f fn hf hfn => by
      obtain rfl : f = 5 := Option.some.inj (hf.symm.trans (by kernel_rfl))
      obtain rfl : fn = Tryz.f5 := (Option.some.inj (Tryz.func5.symm.trans hfn)).symm
      refine ⟨by kernel_rfl, fun j t ht => ?_⟩
      have hall : (Tryz.f5.params.toList.all fun t => !(Tryz.prog.wantsStandIn t)) = true := by kernel_rfl
      have hm : t ∈ Tryz.f5.params.toList := Array.mem_toList_iff.2 (Array.mem_of_getElem? ht)
      show Tryz.prog.wantsStandIn t = false
      simpa using List.all_eq_true.1 hall t hm)
    (by kernel_rfl)
end Go.Proofs.YtpiepcplalkfiaaGreatDoor
