/-
  Walks: may a song be kept, is it kept whatever happens (song, bateriaref04).
  Walks: what could still be, and how many votes a song needs (song, bateriaref04).
  Walks: how many votes a song needs (song).
  Walks: results compared, ballots copied, numbers taken into bounds (bateriakit).
  Walks: the document's run of a contest, and its ballots that count (song).
  Songs that are left out one after the other, in plain Lean.
  Walks: songs left out one after the other (song).
  Walks: contests and ballots copied and compared (bateriakit).
  Walks: contests and ballots made of numbers (bateriakit).
  Walks: the chapter's examples checked (song).
-/
import Derived.Test.YtnolifglhhjdnaaGreatPf
import Derived.CallsIn
import Derived.RangeFuncLeaves
import Derived.RangeFuncRecord
import Derived.OrdersIn
import Derived.Below
import Derived.Laws.World
import Derived.Laws.StructEq
import Derived.Laws.Append
import Derived.MapKept
import Derived.ProofKit
import Derived.Carry
import Derived.Handed
import Derived.ChangeCalls
import Derived.RangeFuncIn
import Derived.RangeFuncNested
import Derived.Test.YtnolifglhhjdnaaGreatProg
import Derived.KernelRfl
import Derived.IntWalk
import Derived.Sort.OwnSortedInts
import Derived.Lib.SlicesCompact
import Derived.Test.YtnolifglhhjdnaaGreatRows
import Derived.Shelf.Sort.Plain
import Derived.Shelf.Slices.In.SortNone
import Derived.Shelf.Small.Bits
import Derived.JoinedOf
set_option linter.unusedSimpArgs false
set_option linter.unusedVariables false
namespace Go.Proofs.YtnolifglhhjdnaaGreat
open Go Go.RowKit
set_option maxRecDepth 100000
def moreS (r : Rnd) (s : Std) (p v : Int) : Std := weighS ⟨s.song, s.points + p, s.votes + v, 0⟩ r
theorem more_std {t : Tally} {s p v : Int} : moreS t.rd (stdT t s 0 0) p v = stdT t s p v := by simp [moreS, stdT, weighS]
theorem more_std2 {t : Tally} {s p v : Int} : weighS ⟨(stdT t s 0 0).song, (stdT t s 0 0).points + p, (stdT t s 0 0).votes + v, 0⟩ t.rd = stdT t s p v := more_std
theorem cnt_other {t : Tally} {own : Std} {s : Int} : ∀ {l : List Int}, s ∉ l → ((l.map fun x => stdT t x 0 0).countP (fun y => decide (Ahd y own)) : Int) = cntA t own s l := by
 intro l
 induction l with
 | nil => intro _; rfl
 | cons x l ih =>
  intro h
  simp only [List.mem_cons, not_or] at h
  have := ih h.2
  simp only [List.map_cons, List.countP_cons, cntA, decide_eq_true_eq]
  by_cases q : Ahd (stdT t x 0 0) own
  ·rw [if_pos q, if_pos ⟨fun e => h.1 e.symm, q⟩]; omega
  ·rw [if_neg q, if_neg (fun e => q e.2)]; omega
theorem cnt_set {t : Tally} {own : Std} {s : Int} : ∀ {l : List Int} {i : Nat}, l.Nodup → l[i]? = some s → (((l.map fun x => stdT t x 0 0).set i own).countP (fun y => decide (Ahd y own)) : Int) = cntA t own s l := by
 intro l
 induction l with
 | nil => intro i _ h; simp at h
 | cons x l ih =>
  intro i hn h
  obtain ⟨h1, h2⟩ := List.nodup_cons.1 hn
  cases i with
  | zero =>
   simp only [List.getElem?_cons_zero, Option.some.injEq] at h
   subst h
   have := cnt_other (t := t) (own := own) h1
   simp only [List.map_cons, List.set_cons_zero, List.countP_cons, cntA, decide_eq_true_eq]
   rw [if_neg Ahd.irrefl, if_neg (by simp)]
   omega
  | succ i =>
   simp only [List.getElem?_cons_succ] at h
   have hne : x ≠ s := fun e => h1 (e ▸ List.mem_of_getElem? h)
   have := ih h2 h
   simp only [List.map_cons, List.set_cons_succ, List.countP_cons, cntA, decide_eq_true_eq]
   by_cases q : Ahd (stdT t x 0 0) own
   ·rw [if_pos q, if_pos ⟨hne, q⟩]; omega
   ·rw [if_neg q, if_neg (fun e => q e.2)]; omega
theorem may_rank {t : Tally} {c : Contest} {s v : Int} {i : Nat} (hn : t.songs.Nodup) (hs : t.songs[i]? = some s) : decide ((rank ((allT t).set i (stdT t s (openT t c s) v)) (stdT t s (openT t c s) v) : Int) < t.rd.keep) = mayT t c s v := by
 have := cnt_set (t := t) (own := stdT t s (openT t c s) v) hn hs
 unfold mayT
 rw [← this]
 rfl
def needW (t : Tally) (c : Contest) (own : Std) (s : Int) (fr : Nat) (x : Int) : List Int := if x = s then [] else [(((findV (aheadV t c own x) (fr + 1) 0).getD (fr + 1) : Nat) : Int)]
def needsW (t : Tally) (c : Contest) (own : Std) (s : Int) (fr : Nat) (l : List Int) : List Int := l.flatMap (needW t c own s fr)
theorem needsW_snoc {t : Tally} {c : Contest} {own : Std} {s : Int} {fr : Nat} {l : List Int} {x : Int} : needsW t c own s fr (l ++ [x]) = needsW t c own s fr l ++ needW t c own s fr x := by simp [needsW]
theorem needsW_perm {t : Tally} {c : Contest} {own : Std} {s : Int} {fr : Nat} : ∀ l : List Int, ∃ q, (needsW t c own s fr l).Perm (needsT t c own s fr l ++ List.replicate q ((fr : Int) + 1)) := by
 intro l
 induction l with
 | nil => exact ⟨0, by simp [needsW, needsT]⟩
 | cons x l ih =>
  obtain ⟨q, h⟩ := ih
  have e1 : needsW t c own s fr (x :: l) = needW t c own s fr x ++ needsW t c own s fr l := by simp [needsW]
  have e2 : needsT t c own s fr (x :: l) = needOne t c own s fr x ++ needsT t c own s fr l := by simp [needsT]
  rw [e1, e2]
  unfold needW needOne
  rw [show ((fr : Int) + 1).toNat = fr + 1 by omega]
  by_cases hx : x = s
  ·rw [if_pos hx, if_pos hx]; exact ⟨q, h⟩
  ·rw [if_neg hx, if_neg hx]
   cases findV (aheadV t c own x) (fr + 1) 0 with
   | some v => exact ⟨q, List.Perm.cons _ h⟩
   | none =>
    refine ⟨q + 1, ?_⟩
    simp only [List.nil_append, Option.getD_none]
    rw [List.replicate_succ, show (((fr + 1 : Nat) : Int)) = (fr : Int) + 1 by omega]
    exact (List.Perm.cons _ h).trans List.perm_middle.symm
theorem worst_must {t : Tally} {c : Contest} {s : Int} {fr : Nat} {w : List Int} (hf : freeT t c = fr) (hk : 1 ≤ t.rd.keep) (ha : Asc w) (hp : w.Perm (needsW t c (stdT t s 0 0) s fr t.songs)) : mustT t c s = if (w.length : Int) < t.rd.keep then true else decide ((fr : Int) < (w.take t.rd.keep.toNat).sum) := by
 obtain ⟨q, hq⟩ := needsW_perm (t := t) (c := c) (own := stdT t s 0 0) (s := s) (fr := fr) t.songs
 have hbd : ∀ y, y ∈ needsT t c (stdT t s 0 0) s fr t.songs → 0 ≤ y ∧ y ≤ fr := fun y h => needsT_bd h
 unfold mustT
 rw [hf]
 obtain ⟨nd, hnd⟩ : ∃ z, needsT t c (stdT t s 0 0) s fr t.songs = z := ⟨_, rfl⟩
 rw [hnd] at hq hbd ⊢
 obtain ⟨kn, hkn⟩ : ∃ z : Nat, t.rd.keep = z := ⟨t.rd.keep.toNat, by omega⟩
 simp only [hkn, Int.toNat_natCast]
 have hsb : ∀ y, y ∈ sortI nd → 0 ≤ y ∧ y ≤ fr := fun y h => hbd y ((List.mergeSort_perm nd _).mem_iff.1 h)
 have hw : w = sortI nd ++ List.replicate q ((fr : Int) + 1) := by
  refine asc_perm (hp.trans (hq.trans (List.Perm.append_right _ (List.mergeSort_perm nd _).symm))) ha ?_
  unfold Asc
  rw [List.pairwise_append]
  refine ⟨by rw [sortI_isort]; exact isortZ_asc nd, List.pairwise_replicate.2 (.inr (Int.le_refl _)), fun a h1 b h2 => ?_⟩
  obtain ⟨_, rfl⟩ := List.mem_replicate.1 h2
  have := hsb a h1
  omega
 have hsl : (sortI nd).length = nd.length := sortI_len nd
 have hwl : w.length = nd.length + q := by rw [hw, List.length_append, hsl, List.length_replicate]
 by_cases h1 : (w.length : Int) < kn
 ·rw [if_pos h1, if_pos (by omega)]
 ·rw [if_neg h1]
  by_cases h2 : (nd.length : Int) < kn
  ·rw [if_pos h2]
   have hg : w[nd.length]? = some ((fr : Int) + 1) := by
    rw [hw, List.getElem?_append_right (by omega), hsl, Nat.sub_self]
    have : 0 < q := by omega
    simp [this]
   have hm : (fr : Int) + 1 ∈ w.take kn := mem_take_iff.2 ⟨_, by omega, hg⟩
   have := mem_le_sum (f := fun x : Int => x) (l := w.take kn) (fun x h => by
    have h := List.mem_of_mem_take h
    rw [hw] at h
    rcases List.mem_append.1 h with h | h
    ·exact (hsb x h).1
    ·obtain ⟨_, rfl⟩ := List.mem_replicate.1 h
     omega) hm
   rw [List.map_id'] at this
   exact (decide_eq_true (by omega)).symm
  ·rw [if_neg h2, hw, List.take_append_of_le_length (by omega)]
theorem asc_mid {l : List Int} {a : Nat} {w : Int} (ha : Asc l) (h1 : ∀ x, x ∈ l.drop a → w ≤ x) (h2 : ∀ x, x ∈ l.take a → x ≤ w) : Asc (l.take a ++ w :: l.drop a) := by
 unfold Asc at *
 have h := ha
 rw [← List.take_append_drop a l, List.pairwise_append] at h
 rw [List.pairwise_append]
 refine ⟨h.1, List.pairwise_cons.2 ⟨h1, h.2.1⟩, fun x hx y hy => ?_⟩
 rcases List.mem_cons.1 hy with rfl | hy
 ·exact h2 x hx
 ·exact h.2.2 x hx y hy
theorem asc_take {l : List Int} {q : Nat} {y w : Int} (ha : Asc l) (h : l[q]? = some y) (hw : y ≤ w) : ∀ x, x ∈ l.take (q + 1) → x ≤ w := fun x hx => by
 obtain ⟨i, hi, hg⟩ := mem_take_iff.1 hx
 by_cases e : i = q
 ·subst e; rw [hg] at h; injection h with h; omega
 ·obtain ⟨b1, e1⟩ := List.getElem?_eq_some_iff.1 hg
  obtain ⟨b2, e2⟩ := List.getElem?_eq_some_iff.1 h
  have := List.pairwise_iff_getElem.1 ha i q b1 b2 (by omega)
  rw [e1, e2] at this
  omega
theorem mid_perm {l : List Int} {a : Nat} {w : Int} : (l.take a ++ w :: l.drop a).Perm (l ++ [w]) := by
 refine List.perm_middle.trans ?_
 rw [List.take_append_drop]
 exact (List.perm_append_comm (l₁ := [w]) (l₂ := l))
theorem mid_swap {l : List Int} {q : Nat} {y w : Int} (h : l[q]? = some y) : (l.take (q + 1) ++ w :: l.drop (q + 1)) = (l.take q ++ y :: w :: l.drop (q + 1)) ∧ (l.take q ++ w :: l.drop q) = (l.take q ++ w :: y :: l.drop (q + 1)) := by
 obtain ⟨b, e⟩ := List.getElem?_eq_some_iff.1 h
 constructor
 ·rw [List.take_add_one, h]; simp
 ·rw [List.drop_eq_getElem_cons b, e]
theorem mid_set {L R : List Int} {q : Nat} {y w : Int} (h : L.length = q) : ((L ++ y :: w :: R).set q w).set (q + 1) y = L ++ w :: y :: R := by
 subst h
 simp [List.set_append_right]
set_option maxHeartbeats 8000000 in
theorem rBest_pc (Y : YEnv) (σ : Sg) (c : Contest) (t : Tally) (i : Nat) (s v : Int) (hT : TlB t) (hn : t.songs.Nodup) (hs : t.songs[i]? = some s) (ho : -2 ^ 20 ≤ openT t c s ∧ openT t c s ≤ 2 ^ 20) (hv : -2 ^ 20 ≤ v ∧ v ≤ 2 ^ 20) :
  PC Tryz.prog Y 67 [cnPV c, rdPV t.rd, sds (allT t), ints (t.songs.map (jurT t c)), I i, I v] σ (.bool (mayT t c s v)) (σ) := by
 refine PC_of_W Tryz.func67 rfl (by kernel_rfl) Tryz.ntmps67 (by simp) fun hcl hca => ?_
 have hsl := hT.sl
 have hil0 : i < t.songs.length := (List.getElem?_eq_some_iff.1 hs).1
 have hp1 := hT.pb s.toNat
 have hv1 := hT.vb s.toNat
 have hwj := hT.wj
 have hwm := hT.wm
 have hmr := may_rank (c := c) (v := v) hn hs
 have hAi : (allT t)[i]? = some (stdT t s 0 0) := by unfold allT; rw [List.getElem?_map, hs]; rfl
 have hJi : (t.songs.map (jurT t c))[i]? = some (jurT t c s) := by rw [List.getElem?_map, hs]; rfl
 have hJl : (t.songs.map (jurT t c)).length = t.songs.length := by simp
 have hAl : (allT t).length = t.songs.length := allT_len
 obtain ⟨A, hA⟩ : ∃ z, allT t = z := ⟨_, rfl⟩
 obtain ⟨J, hJ⟩ : ∃ z, t.songs.map (jurT t c) = z := ⟨_, rfl⟩
 rw [hA] at hAi hAl hmr ⊢
 rw [hJ] at hJi hJl ⊢
 rw [← hmr]
 obtain ⟨own, hown⟩ : ∃ z, stdT t s (openT t c s) v = z := ⟨_, rfl⟩
 rw [hown]
 have hil : (i : Int) < (A.length : Int) := by omega
 have hjl : (i : Int) < (J.length : Int) := by omega
 have hwo : IntKind.i64.wrap (jurT t c s * c.most) = openT t c s := by rw [← openT_jur]; exact wrapI (by omega) (by omega)
 have hAn : (A.map sdPV).length = A.length := by simp
 have hrl := row4_len A
 have hld := row4_ld hAi
 have hrp := row4_put own (l := A) (j := i) (by omega)
 have hb1 : i * 4 + 4 ≤ (rowC (A.map sdPV)).length := by rw [hrl]; omega
 have hxo : (A.set i own)[i]? = some own := by rw [List.getElem?_set_self (by omega)]
 refine W_seq fun kz1 kq1 => ?_
 refine W_region [2, 3, 4, 5, 6, 7] fun R hR => ?_
 simp only [go_sem]
 refine hR _ _ (kq1 _ _ ?_); clear hR R; try clear kq1 kz1
 try simp only [go_sem]
 refine W_seq fun kz2 kq2 => ?_
 refine W_regionN [3, 4, 5, 6, 7, 13] 2 fun R hR => ?_
 simp only [go_sem, GLw]
 try simp (disch := first | omega | (simp only [go_sem] <;> omega)) only [wrapI, wrapU, appX_exact, appX_tok]
 try simp only [go_sem, GLw]
 refine ⟨_, _, Weak.gnil (t := 14) (by simp only [go_sem]), ?_⟩
 simp only [go_sem]
 rw [appG_nil (by simp [PV.cells, PV.scalar, sdPV, sdCells]) (by simp; omega) (by simp; omega)]
 simp only [go_sem, GLw]
 refine hR _ _ (kq2 _ _ ?_); clear hR R; try clear kq2 kz2
 try simp only [go_sem]
 refine W_seq fun kz3 kq3 => ?_
 refine W_draw [4, 7, 13] [0, 1, 2, 3, 4, 5, 6, 7, 8, 9, 10, 11, 12, 13, 14, 15, 16, 17] [(0, 17), (1, 17)] [[], [], [], [], [], [3, 4], [3, 4, 5], [], [], [7, 8], [7, 8, 9], [], [11], [7, 8, 9, 10, 11, 12], [], [2, 3, 4, 5, 6, 7, 8, 9, 10, 11, 12, 13, 14], [0, 1, 2, 3, 4, 5, 6, 7, 8, 9, 10, 11, 12, 13, 14, 15], [0, 1, 2, 3, 4, 5, 6, 7, 8, 9, 10, 11, 12, 13, 14, 15, 16]] mixed (by kernel_rfl) fun R hR => ?_
 simp only [go_sem, hil, hjl, iaM_nat (Int.ofNat_lt.1 hil), hJi, hwo, Nat.zero_add, hld, hb1, hrp]
 try simp (disch := omega) only [wrapI, wrapU]
 refine GCall_of (PC.val (v' := sdPV own) (rMore_pc Y _ t.rd (stdT t s 0 0) (openT t c s) v (by omega) (by omega) (by rw [std_points]; omega) (by show -2 ^ 30 ≤ t.vts s.toNat + 0 + v ∧ t.vts s.toNat + 0 + v ≤ 2 ^ 30; omega)) (by rw [more_std2, hown])) ?_
 simp only [go_sem, hil, hjl, iaM_nat (Int.ofNat_lt.1 hil), hJi, hwo, Nat.zero_add, hld, hb1, hrp]
 try simp (disch := omega) only [wrapI, wrapU]
 try refine And.intro (by repeat' (first | refine And.intro ?_ ?_ | exact trivial | exact GOr_right (fun _ => by simp only [go_sem, hil, hjl, iaM_nat (Int.ofNat_lt.1 hil), hJi, hwo, Nat.zero_add, hld, hb1, hrp]))) ?_
 refine hR _ _ (kq3 _ _ ?_); clear hR R; try clear kq3 kz3
 try simp only [go_sem]
 refine W_seq fun kz4 kq4 => ?_
 refine W_weak (Weak.freeze (t := 13) (id := σ.store.length + 2) (len := A.length) (es := 4) (l := (A.set i own).map sdPV) rfl (by rw [Sg.get_ext]; rfl) (by simp) (fun q hq => by obtain ⟨x, _, rfl⟩ := List.mem_map.1 hq; rfl)) ?_
 simp only [go_sem]
 refine W_region [12] fun R hR => ?_
 simp only [go_sem]
 refine GCall_of (rKept_pc Y _ (A.set i own) i own t.rd.keep .ro hxo (by simp; omega)) ?_
 simp only [go_sem]
 refine hR _ _ (kq4 _ _ ?_); clear hR R; try clear kq4 kz4
 try simp only [go_sem]
 refine W_ret ?_
 simp only [go_sem]
 refine ⟨.inr (by trivial), ?_⟩
 first | refine Fin_same hcl rfl (Wk_eq ?_ (by simp only [go_sem])) | refine Fin_self hcl rfl (Wk_eq ?_ (by simp only [go_sem]))
 try simp only [go_sem]
 all_goals
  first | rfl | (simp only [go_sem]; done)
set_option maxHeartbeats 16000000 in
theorem rWorst_pc (Y : YEnv) (σ : Sg) (c : Contest) (t : Tally) (i fr : Nat) (s : Int) (hT : TlB t) (hn : t.songs.Nodup) (hs : t.songs[i]? = some s) (ho : ∀ s, -2 ^ 20 ≤ openT t c s ∧ openT t c s ≤ 2 ^ 20) (hf : freeT t c = fr) (hf2 : fr ≤ 1000) :
  PC Tryz.prog Y 66 [cnPV c, rdPV t.rd, sds (allT t), ints (t.songs.map (jurT t c)), I i, I fr] σ (.bool (mustT t c s)) (σ) := by
 refine PC_of_W Tryz.func66 rfl (by kernel_rfl) Tryz.ntmps66 (by simp) fun hcl hca => ?_
 have hsl := hT.sl
 have hil0 : i < t.songs.length := (List.getElem?_eq_some_iff.1 hs).1
 have hkp := hT.kp
 have hwj := hT.wj
 have hwm := hT.wm
 have hAi : (allT t)[i]? = some (stdT t s 0 0) := by unfold allT; rw [List.getElem?_map, hs]; rfl
 have hJl : (t.songs.map (jurT t c)).length = t.songs.length := by simp
 have hAl : (allT t).length = t.songs.length := allT_len
 have hwm2 := fun w => worst_must (t := t) (c := c) (s := s) (w := w) hf hkp.1
 obtain ⟨A, hA⟩ : ∃ z, allT t = z := ⟨_, rfl⟩
 obtain ⟨J, hJ⟩ : ∃ z, t.songs.map (jurT t c) = z := ⟨_, rfl⟩
 obtain ⟨own, hown⟩ : ∃ z, stdT t s 0 0 = z := ⟨_, rfl⟩
 rw [hA, hown] at hAi
 rw [hA] at hAl ⊢
 rw [hJ] at hJl ⊢
 rw [hown] at hwm2
 have hil : (i : Int) < (A.length : Int) := by omega
 obtain ⟨kn, hkn⟩ : ∃ z : Nat, t.rd.keep = z := ⟨t.rd.keep.toNat, by omega⟩
 obtain ⟨τ, hτ⟩ : ∃ z, σ.ext [some [I c.songs, I c.juries, I c.members, I c.most, rds c.rounds], some [I t.rd.keep, I t.rd.jury, I t.rd.member]] [] = z := ⟨_, rfl⟩
 have hd0 : τ.store[σ.store.length]? = some (some [I c.songs, I c.juries, I c.members, I c.most, rds c.rounds]) := by rw [← hτ]; exact Sg.get_ext0 ..
 have hd1 : τ.store[σ.store.length + 1]? = some (some [I t.rd.keep, I t.rd.jury, I t.rd.member]) := by rw [← hτ]; exact Sg.get_ext ..
 have hτe : σ.ext [some [I c.songs, I c.juries, I c.members, I c.most, rds c.rounds], some [I t.rd.keep, I t.rd.jury, I t.rd.member]] [] = τ.ext [] [] := by rw [hτ]; simp [Sg.ext]
 refine W_seq fun kz1 kq1 => ?_
 refine W_region [2, 3, 4, 5, 6, 7] fun R hR => ?_
 simp only [go_sem]
 refine hR _ _ (kq1 _ _ ?_); clear hR R; try clear kq1 kz1
 try simp only [go_sem]
 refine W_seq fun kz2 kq2 => ?_
 refine W_region [2, 3, 4, 5, 6, 7, 13] fun R hR => ?_
 simp only [go_sem]
 refine hR _ _ (kq2 _ _ ?_); clear hR R; try clear kq2 kz2
 try simp only [go_sem]
 refine W_seq fun kz3 kq3 => ?_
 refine W_seq fun kz4 kq4 => ?_
 refine W_region [2, 3, 4, 5, 6, 7, 13, 14] fun R hR => ?_
 simp only [go_sem]
 refine hR _ _ (kq4 _ _ ?_); clear hR R; try clear kq4 kz4
 try simp only [go_sem]
 refine W_block ?_
 refine W_weak (Weak.gnil (t := 13) rfl) ?_
 refine W_weak (Weak.keep [2, 3, 4, 5, 6, 7, 13, 14]) ?_
 simp only [go_sem, hτe]
 refine W_loopT (α := Nat × (List Int)) (fun ⟨k, acc⟩ => [(13, glI τ.store.length acc), (14, I k)]) (fun ⟨k, acc⟩ => τ.ext (gsI acc) []) (fun ⟨k, acc⟩ => k ≤ t.songs.length ∧ Asc acc ∧ acc.Perm (needsW t c own s fr (t.songs.take k)) ∧ acc.length ≤ k ∧ ∀ z, z ∈ acc → 0 ≤ z ∧ z ≤ (fr : Int) + 1) (fun ⟨k, acc⟩ => t.songs.length - k) ((0, [])) rfl (by first | rfl | (simp only [gsI]; rfl) | simp [gsI, Sg.ext]) (⟨Nat.zero_le _, List.Pairwise.nil, .refl _, Nat.le_refl _, fun z h => absurd h (by simp)⟩) ?_
 rintro ⟨k, acc⟩ ⟨hk, has, hpm, hal, hzb⟩
 refine W_seq fun kz5 kq5 => ?_
 refine W_seq fun kz6 kq6 => ?_
 refine W_region [2, 3, 4, 5, 6, 7, 13, 14, 22] fun R hR => ?_
 simp only [go_sem]
 refine hR _ _ (kq6 _ _ ?_); clear hR R; try clear kq6 kz6
 try simp only [go_sem]
 refine W_cond rfl (fun c1 => ?_) (fun c1 => ?_)
 ·try simp only [nrm] at c1
  have hk' : k < t.songs.length := by first | omega | (simp at c1; omega)
  obtain ⟨x, hx⟩ : ∃ z, t.songs[k]? = some z := ⟨t.songs[k], by simp [hk']⟩
  have hAk : A[k]? = some (stdT t x 0 0) := by rw [← hA]; unfold allT; rw [List.getElem?_map, hx]; rfl
  have hJk : J[k]? = some (jurT t c x) := by rw [← hJ, List.getElem?_map, hx]; rfl
  have hkl : (k : Int) < (A.length : Int) := by omega
  have hkj : (k : Int) < (J.length : Int) := by omega
  have hob := ho x
  have hwo : IntKind.i64.wrap (jurT t c x * c.most) = openT t c x := by rw [← openT_jur]; exact wrapI (by omega) (by omega)
  have hp1 := hT.pb x.toNat
  have hv1 := hT.vb x.toNat
  have hsn : t.songs.take (k + 1) = t.songs.take k ++ [x] := by rw [List.take_add_one, hx]; rfl
  have hnW := needsW_snoc (t := t) (c := c) (own := own) (s := s) (fr := fr) (l := t.songs.take k) (x := x)
  rw [← hsn] at hnW
  refine W_skip (kq5 _ _ ?_)
  refine W_seq fun kz7 kq7 => ?_
  refine W_block ?_
  refine W_seq fun kz8 kq8 => ?_
  refine W_seq fun kz9 kq9 => ?_
  refine W_region [2, 3, 4, 5, 6, 7, 13, 14, 27] fun R hR => ?_
  simp only [go_sem]
  refine hR _ _ (kq9 _ _ ?_); clear hR R; try clear kq9 kz9
  try simp only [go_sem]
  refine W_cond rfl (fun c2 => ?_) (fun c2 => ?_)
  ·try simp only [nrm] at c2
   have hki : k = i := by first | omega | (simp at c2; omega)
   subst hki
   have hxs : x = s := by rw [hs] at hx; injection hx with q; exact q.symm
   have hW0 : needW t c own s fr x = [] := by unfold needW; rw [if_pos hxs]
   rw [hW0, List.append_nil] at hnW
   refine W_exit ?_
   simp only [go_sem]
   refine kq7 _ _ ?_
   refine W_region [2, 3, 4, 5, 6, 7, 13, 14] fun R hR => ?_
   simp only [go_sem]
   try simp (disch := omega) only [wrapI, wrapU]
   refine hR _ _ ?_; clear hR R
   try simp only [go_sem]
   refine ⟨(k + 1, acc), ?_, by (try simp only []); omega, ?_⟩
   ·exact Weak.eq rfl rfl
   ·try dsimp only
    rw [hnW]; exact ⟨hk', has, hpm, by omega, hzb⟩
  ·try simp only [nrm] at c2
   have hki : k ≠ i := by first | omega | (simp at c2; omega)
   have hxs : x ≠ s := fun e => hki ((List.getElem_inj hn (h₀ := hk') (h₁ := hil0)).1 (by rw [(List.getElem?_eq_some_iff.1 hx).2, (List.getElem?_eq_some_iff.1 hs).2, e]))
   refine W_skip (kq8 _ _ ?_)
   refine W_seq fun kz10 kq10 => ?_
   refine W_region [2, 3, 4, 5, 6, 7, 13, 14, 15] fun R hR => ?_
   simp only [go_sem]
   refine hR _ _ (kq10 _ _ ?_); clear hR R; try clear kq10 kz10
   try simp only [go_sem]
   refine W_seq fun kz11 kq11 => ?_
   refine W_block ?_
   refine W_loopS (α := Nat) (fun (v : Nat) => [(15, I v)]) (fun (v : Nat) => v ≤ fr + 1 ∧ findV (aheadV t c own x) (fr + 1) 0 = findV (aheadV t c own x) (fr + 1 - v) v) (fun (v : Nat) => fr + 1 - v) (0) rfl (⟨Nat.zero_le _, rfl⟩) ?_
   rintro v ⟨hv, hfv⟩
   refine W_seq fun kz12 kq12 => ?_
   refine W_seq fun kz13 kq13 => ?_
   refine W_drawJ [2, 3, 4, 5, 6, 7, 13, 14, 15, 52] [(52, .bool (decide (v ≤ fr) && !(aheadV t c own x v)))] [0, 1, 2, 3, 4, 5, 6, 7, 8, 9, 10, 11, 12, 13, 14, 15, 16, 17, 18, 19, 20, 21, 22, 23, 24] [(18, 17), (19, 17), (20, 17), (21, 17)] [[], [], [0, 1], [0, 1, 2], [0, 1, 2, 3], [0, 1, 2, 3], [0, 1, 2, 3], [0, 1, 2, 3, 5, 6], [0, 1, 2, 3, 5, 6, 7], [0, 1, 2, 3], [0, 1, 2, 3], [0, 1, 2, 3, 9, 10], [0, 1, 2, 3, 9, 10, 11], [0, 1, 2, 3], [0, 1, 2, 3, 13], [0, 1, 2, 3, 9, 10, 11, 12, 13, 14], [0, 1, 2, 3], [0, 1, 2, 3, 4, 5, 6, 7, 8, 9, 10, 11, 12, 13, 14, 15, 16], [0, 1, 2, 3], [0, 1, 2, 3], [0, 1, 2, 3, 18, 19], [0, 1, 2, 3, 18, 19, 20], [0, 1, 2, 3, 4, 5, 6, 7, 8, 9, 10, 11, 12, 13, 14, 15, 16, 17, 18, 19, 20, 21], [0, 1, 2, 3, 4, 5, 6, 7, 8, 9, 10, 11, 12, 13, 14, 15, 16, 17, 18, 19, 20, 21, 22], [0, 1, 2, 3, 4, 5, 6, 7, 8, 9, 10, 11, 12, 13, 14, 15, 16, 17, 18, 19, 20, 21, 22, 23]] mixed (by kernel_rfl) ?_ fun R hR => ?_
   ·refine kq13 _ _ ?_
    simp only [go_sem]
    refine W_cond rfl (fun c3 => ?_) (fun c3 => ?_)
    ·try simp only [nrm] at c3
     have hc3 : v ≤ fr ∧ aheadV t c own x v = false := by simpa using c3
     have hv1 := hc3.1
     have hfv2 : findV (aheadV t c own x) (fr + 1) 0 = findV (aheadV t c own x) (fr + 1 - (v + 1)) (v + 1) := by
      rw [hfv, show fr + 1 - v = (fr + 1 - (v + 1)) + 1 by omega]
      simp only [findV]
      rw [hc3.2, if_neg (by simp)]
     refine W_skip (kq12 _ _ ?_)
     refine W_block ?_
     refine W_region [2, 3, 4, 5, 6, 7, 13, 14, 15] fun R hR => ?_
     simp only [go_sem]
     try simp (disch := omega) only [wrapI, wrapU]
     refine hR _ _ ?_; clear hR R
     try simp only [go_sem]
     refine ⟨v + 1, ?_, by (try simp only []); omega, ?_⟩
     ·first | exact Weak.refl | exact Weak.eq (by first | rfl | (simp only [go_sem]; done) | (simp only [go_sem]; rfl) | (simp [go_sem]; done) | (simp [go_sem]; omega)) (by first | rfl | (simp only [go_sem]; done) | (simp [go_sem]; done))
     ·try dsimp only
      exact ⟨by omega, hfv2⟩
    ·try simp only [nrm] at c3
     have hvW : (findV (aheadV t c own x) (fr + 1) 0).getD (fr + 1) = v := by
      rw [hfv]
      by_cases hq : v ≤ fr
      ·have hpv : aheadV t c own x v = true := by simpa [hq] using c3
       rw [show fr + 1 - v = (fr - v) + 1 by omega]
       simp only [findV]
       rw [hpv, if_pos rfl]; rfl
      ·rw [show fr + 1 - v = 0 by omega]
       simp only [findV, Option.getD_none]
       omega
     have hW1 : needW t c own s fr x = [(v : Int)] := by unfold needW; rw [if_neg hxs, hvW]
     rw [hW1] at hnW
     have happ := appG_gl (σ := τ) (A := []) (rm := []) (ys := []) (out := acc) (v : Int) (by omega)
     simp only [go_sem, List.length_nil, List.nil_append] at happ
     refine W_exit ?_
     simp only [go_sem]
     refine kq11 _ _ ?_
     refine W_seq fun kz14 kq14 => ?_
     refine W_region [2, 3, 4, 5, 6, 7, 13, 14, 15, 16] fun R hR => ?_
     simp only [go_sem, len_glI]
     refine hR _ _ (kq14 _ _ ?_); clear hR R; try clear kq14 kz14
     try simp only [go_sem]
     refine W_seq fun kz15 kq15 => ?_
     refine W_region [2, 3, 4, 5, 6, 7, 13, 14, 16] fun R hR => ?_
     simp only [go_sem, happ]
     try simp (disch := first | omega | (simp only [go_sem] <;> omega)) only [wrapI, wrapU, appX_exact, appX_tok]
     try simp only [go_sem, happ]
     refine hR _ _ (kq15 _ _ ?_); clear hR R; try clear kq15 kz15
     try simp only [go_sem]
     refine W_block ?_
     refine W_loopT (α := Nat × (List Int)) (fun ⟨a, ac2⟩ => [(13, glI τ.store.length ac2), (16, I a)]) (fun ⟨a, ac2⟩ => τ.ext (gsI ac2) []) (fun ⟨a, ac2⟩ => a ≤ acc.length ∧ ac2 = acc.take a ++ (v : Int) :: acc.drop a ∧ (∀ z, z ∈ acc.drop a → (v : Int) ≤ z) ∧ ac2.length = acc.length + 1) (fun ⟨a, ac2⟩ => a) ((acc.length, acc ++ [(v : Int)])) rfl (by first | rfl | (simp only [go_sem]; done) | (simp only [go_sem]; rfl)) (⟨Nat.le_refl _, by simp, fun z h => absurd h (by simp), by simp⟩) ?_
     rintro ⟨a, ac2⟩ ⟨ha, hac, hdr, hal2⟩
     have hg1 : ∀ c : Option (List PV), (List.replicate acc.length none ++ [c])[acc.length]? = some c := fun c => by rw [List.getElem?_append_right (by simp)]; simp
     have hg2 : ∀ c c2 : Option (List PV), (List.replicate acc.length none ++ [c]).set acc.length c2 = List.replicate acc.length none ++ [c2] := fun c c2 => by rw [List.set_append_right _ _ (by simp)]; simp
     simp only [glI_of hal2, gsI_of hal2]
     refine W_seq fun kz16 kq16 => ?_
     refine W_seq fun kz17 kq17 => ?_
     refine W_draw [2, 3, 4, 5, 6, 7, 13, 14, 16, 74] [0, 1, 2, 3, 4, 5, 6, 7, 8, 9, 10, 11, 12, 13] [] [[], [0], [0, 1], [0, 1, 2], [0, 1, 2], [0, 1, 2, 4], [0, 1, 2, 3, 4, 5], [0, 1, 2, 3, 4, 5, 6], [0, 1, 2], [0, 1, 2], [0, 1, 2, 8, 9], [0, 1, 2, 8, 9, 10], [0, 1, 2, 3, 4, 5, 6, 7, 8, 9, 10, 11], [0, 1, 2, 3, 4, 5, 6, 7, 8, 9, 10, 11, 12]] mixed (by kernel_rfl) fun R hR => ?_
     simp only [go_sem]
     refine GWant_split (fun g1 => ?_) (fun g1 => ?_)
     ·try simp only [Bool.not_eq_true', Bool.not_eq_false'] at g1
      have n1 := g1; try simp only [nrm] at n1
      obtain ⟨q, rfl⟩ : ∃ q, a = q + 1 := ⟨a - 1, by first | omega | (simp at g1; omega)⟩
      obtain ⟨y, hyq⟩ : ∃ z, acc[q]? = some z := ⟨acc[q]'(by omega), by simp⟩
      obtain ⟨e1, e2⟩ := mid_swap (w := (v : Int)) hyq
      have htl : (acc.take q).length = q := by rw [List.length_take]; omega
      have hac3 : ac2 = acc.take q ++ y :: (v : Int) :: acc.drop (q + 1) := by rw [hac, e1]
      have hy : ac2[q]? = some y := by rw [hac3, List.getElem?_append_right (by omega), htl]; simp
      have hyw : ac2[q + 1]? = some (v : Int) := by rw [hac3, List.getElem?_append_right (by omega), htl, show q + 1 - q = 1 by omega]; rfl
      have hq0n : q < acc.length + 1 := by omega
      have hq1n : q + 1 < acc.length + 1 := by omega
      have hq0 : (q : Int) < ((acc.length + 1 : Nat) : Int) := by omega
      have hq1 : ((q + 1 : Nat) : Int) < ((acc.length + 1 : Nat) : Int) := by omega
      have hm0 : q + 1 ≤ ac2.length := by omega
      have hm1 : q + 1 + 1 ≤ ac2.length := by omega
      have hqw : IntKind.i64.wrap (((q + 1 : Nat) : Int) - 1) = (q : Int) := by rw [wrapI (by omega) (by omega)]; omega
      have hsw : (ac2.set q (v : Int)).set (q + 1) y = acc.take q ++ (v : Int) :: acc.drop q := by rw [hac3, mid_set htl, e2]
      simp only [go_sem, hqw, hq0, hq1, iaM_nat hq0n, iaM_nat hq1n, Nat.mul_one, Nat.zero_add, hg1, hg2, hy, hyw, List.getElem?_map, List.length_set, g1]
      try simp (disch := omega) only [wrapI, wrapU]
      try refine And.intro (by repeat' (first | refine And.intro ?_ ?_ | exact trivial | exact GOr_right (fun _ => by simp only [go_sem, hqw, hq0, hq1, iaM_nat hq0n, iaM_nat hq1n, Nat.mul_one, Nat.zero_add, hg1, hg2, hy, hyw, List.getElem?_map, List.length_set]))) ?_
      refine hR _ _ (kq17 _ _ ?_); clear hR R; try clear kq17 kz17
      try simp only [go_sem, hqw, hq0, hq1, iaM_nat hq0n, iaM_nat hq1n, Nat.mul_one, Nat.zero_add, hg1, hg2, hy, hyw, List.getElem?_map, List.length_set]
      refine W_cond rfl (fun c4 => ?_) (fun c4 => ?_)
      ·try simp only [nrm] at c4
       refine W_skip (kq16 _ _ ?_)
       refine W_block ?_
       refine W_seq fun kz18 kq18 => ?_
       refine W_draw [2, 3, 4, 5, 6, 7, 13, 14, 16] [0, 1, 2, 3, 4, 5, 6, 7, 8, 9, 10, 11, 12, 13, 14, 15, 16, 17] [(3, 17), (4, 17)] [[], [], [1], [], [], [], [], [5, 6], [5, 6, 7], [], [], [10], [9, 10, 11], [9, 10, 11, 12], [0, 1, 2, 5, 6, 7, 8, 9, 10, 11, 12, 13], [0, 1, 2, 5, 6, 7, 8, 9, 10, 11, 12, 13, 14], [0, 1, 2, 3, 4, 5, 6, 7, 8, 9, 10, 11, 12, 13, 14, 15], [0, 1, 2, 3, 4, 5, 6, 7, 8, 9, 10, 11, 12, 13, 14, 15, 16]] mixed (by kernel_rfl) fun R hR => ?_
       simp only [go_sem, hqw, hq0, hq1, iaM_nat hq0n, iaM_nat hq1n, Nat.mul_one, Nat.zero_add, hg1, hg2, hy, hyw, List.getElem?_map, List.length_set, hq0, hq1, iaM_nat hq0n, iaM_nat hq1n, Nat.mul_one, Nat.zero_add, hg1, hg2, hy, hyw, hm0, hm1, List.getElem?_map, List.length_set]
       try simp (disch := omega) only [wrapI, wrapU]
       try refine And.intro (by repeat' (first | refine And.intro ?_ ?_ | exact trivial | exact GOr_right (fun _ => by simp only [go_sem, hqw, hq0, hq1, iaM_nat hq0n, iaM_nat hq1n, Nat.mul_one, Nat.zero_add, hg1, hg2, hy, hyw, List.getElem?_map, List.length_set, hq0, hq1, iaM_nat hq0n, iaM_nat hq1n, Nat.mul_one, Nat.zero_add, hg1, hg2, hy, hyw, hm0, hm1, List.getElem?_map, List.length_set]))) ?_
       refine hR _ _ (kq18 _ _ ?_); clear hR R; try clear kq18 kz18
       try simp only [go_sem, hqw, hq0, hq1, iaM_nat hq0n, iaM_nat hq1n, Nat.mul_one, Nat.zero_add, hg1, hg2, hy, hyw, List.getElem?_map, List.length_set]
       refine W_region [2, 3, 4, 5, 6, 7, 13, 14, 16] fun R hR => ?_
       simp only [go_sem, hqw, hq0, hq1, iaM_nat hq0n, iaM_nat hq1n, Nat.mul_one, Nat.zero_add, hg1, hg2, hy, hyw, List.getElem?_map, List.length_set]
       try simp (disch := omega) only [wrapI, wrapU]
       refine hR _ _ ?_; clear hR R
       try simp only [go_sem, hqw, hq0, hq1, iaM_nat hq0n, iaM_nat hq1n, Nat.mul_one, Nat.zero_add, hg1, hg2, hy, hyw, List.getElem?_map, List.length_set]
       refine ⟨(q, acc.take q ++ (v : Int) :: acc.drop q), ?_, by (try simp only []); omega, ?_⟩
       ·have hl3 : (acc.take q ++ (v : Int) :: acc.drop q).length = acc.length + 1 := by simp; omega
        refine Weak.eq ?_ ?_
        ·simp only [go_sem, glI_of hl3]
         first | done | rfl | simp
        ·first | (rw [gsI_of hl3, ← hsw]; done) | (rw [gsI_of hl3, ← hsw]; simp only [List.map_set])
       ·try dsimp only
        refine ⟨by omega, rfl, fun z h => ?_, by simp; omega⟩
        rw [List.drop_eq_getElem_cons (by omega), (List.getElem?_eq_some_iff.1 hyq).2] at h
        rcases List.mem_cons.1 h with rfl | h
        ·omega
        ·exact hdr z h
      ·try simp only [nrm] at c4
       have hA2 : Asc ac2 := by rw [hac]; exact asc_mid has hdr (asc_take has hyq (by omega))
       refine W_exit ?_
       simp only [go_sem, hqw, hq0, hq1, iaM_nat hq0n, iaM_nat hq1n, Nat.mul_one, Nat.zero_add, hg1, hg2, hy, hyw, List.getElem?_map, List.length_set]
       refine kq7 _ _ ?_
       refine W_region [2, 3, 4, 5, 6, 7, 13, 14] fun R hR => ?_
       simp only [go_sem, hqw, hq0, hq1, iaM_nat hq0n, iaM_nat hq1n, Nat.mul_one, Nat.zero_add, hg1, hg2, hy, hyw, List.getElem?_map, List.length_set]
       try simp (disch := omega) only [wrapI, wrapU]
       refine hR _ _ ?_; clear hR R
       try simp only [go_sem, hqw, hq0, hq1, iaM_nat hq0n, iaM_nat hq1n, Nat.mul_one, Nat.zero_add, hg1, hg2, hy, hyw, List.getElem?_map, List.length_set]
       refine ⟨(k + 1, ac2), ?_, by (try simp only []); omega, ?_⟩
       ·refine Weak.eq ?_ ?_
        ·simp only [go_sem, glI_of hal2]
         first | done | rfl | simp
        ·rw [gsI_of hal2]
       ·try dsimp only
        rw [hnW]; exact ⟨hk', hA2, by rw [hac]; exact mid_perm.trans (List.Perm.append_right _ hpm), by omega, fun z h => by
         rw [hac] at h
         rcases List.mem_append.1 (mid_perm.mem_iff.1 h) with h | h
         ·exact hzb z h
         ·simp only [List.mem_singleton] at h; omega⟩
     ·try simp only [Bool.not_eq_true', Bool.not_eq_false'] at g1
      have n1 := g1; try simp only [nrm] at n1
      have ha0 : a = 0 := by first | omega | (simp at g1; omega)
      have hA2 : Asc ac2 := by rw [hac]; exact asc_mid has hdr (fun x h => absurd h (by rw [ha0]; simp))
      simp only [go_sem, g1]
      try simp (disch := omega) only [wrapI, wrapU]
      try refine And.intro (by repeat' (first | refine And.intro ?_ ?_ | exact trivial | exact GOr_right (fun _ => by simp only [go_sem]))) ?_
      refine hR _ _ (kq17 _ _ ?_); clear hR R; try clear kq17 kz17
      try simp only [go_sem]
      refine W_cond_false rfl ?_
      refine W_exit ?_
      simp only [go_sem]
      refine kq7 _ _ ?_
      refine W_region [2, 3, 4, 5, 6, 7, 13, 14] fun R hR => ?_
      simp only [go_sem]
      try simp (disch := omega) only [wrapI, wrapU]
      refine hR _ _ ?_; clear hR R
      try simp only [go_sem]
      refine ⟨(k + 1, ac2), ?_, by (try simp only []); omega, ?_⟩
      ·refine Weak.eq ?_ ?_
       ·simp only [go_sem, glI_of hal2]
        first | done | rfl | simp
       ·rw [gsI_of hal2]
      ·try dsimp only
       rw [hnW]; exact ⟨hk', hA2, by rw [hac]; exact mid_perm.trans (List.Perm.append_right _ hpm), by omega, fun z h => by
        rw [hac] at h
        rcases List.mem_append.1 (mid_perm.mem_iff.1 h) with h | h
        ·exact hzb z h
        ·simp only [List.mem_singleton] at h; omega⟩
   ·simp only [go_sem, hkl, hkj, hil, hAk, hAi, hJk, hwo, ldS_at (get_extx hd0), ldA_at (get_extx hd1)]
    refine GWant_split (fun g2 => ?_) (fun g2 => ?_)
    ·try simp only [Bool.not_eq_true', Bool.not_eq_false'] at g2
     have n2 := g2; try simp only [nrm] at n2
     have hvf : v ≤ fr := by first | omega | (simp at g2; omega)
     simp only [go_sem, hkl, hkj, hil, hAk, hAi, hJk, hwo, ldS_at (get_extx hd0), ldA_at (get_extx hd1), g2]
     try simp (disch := omega) only [wrapI, wrapU]
     refine GCall_of (PC.val (v' := sdPV (stdT t x (openT t c x) v)) (rMore_pc Y _ t.rd (stdT t x 0 0) (openT t c x) v (by omega) (by omega) (by rw [std_points]; omega) (by show -2 ^ 30 ≤ t.vts x.toNat + 0 + (v : Int) ∧ t.vts x.toNat + 0 + (v : Int) ≤ 2 ^ 30; omega)) (by rw [more_std2])) ?_
     simp only [go_sem, hkl, hkj, hil, hAk, hAi, hJk, hwo, ldS_at (get_extx hd0), ldA_at (get_extx hd1), g2]
     try simp (disch := omega) only [wrapI, wrapU]
     refine GCall_of (rAhead_pc Y _ (stdT t x (openT t c x) v) own) ?_
     simp only [go_sem, hkl, hkj, hil, hAk, hAi, hJk, hwo, ldS_at (get_extx hd0), ldA_at (get_extx hd1), g2]
     try simp (disch := omega) only [wrapI, wrapU]
     try refine And.intro (by repeat' (first | refine And.intro ?_ ?_ | exact trivial | exact GOr_right (fun _ => by simp only [go_sem, hkl, hkj, hil, hAk, hAi, hJk, hwo, ldS_at (get_extx hd0), ldA_at (get_extx hd1)]))) ?_
     refine hR _ ?_
     all_goals try simp only [go_sem, hkl, hkj, hil, hAk, hAi, hJk, hwo, ldS_at (get_extx hd0), ldA_at (get_extx hd1)]
     all_goals
      first | (rw [decide_eq_true hvf]; rfl) | (rw [decide_eq_false hvf]; rfl)
    ·try simp only [Bool.not_eq_true', Bool.not_eq_false'] at g2
     have n2 := g2; try simp only [nrm] at n2
     have hvf : ¬ v ≤ fr := by first | omega | (simp at g2; omega)
     simp only [go_sem, hkl, hkj, hil, hAk, hAi, hJk, hwo, ldS_at (get_extx hd0), ldA_at (get_extx hd1), g2]
     try simp (disch := omega) only [wrapI, wrapU]
     try refine And.intro (by repeat' (first | refine And.intro ?_ ?_ | exact trivial | exact GOr_right (fun _ => by simp only [go_sem, hkl, hkj, hil, hAk, hAi, hJk, hwo, ldS_at (get_extx hd0), ldA_at (get_extx hd1)]))) ?_
     refine hR _ ?_
     all_goals try simp only [go_sem, hkl, hkj, hil, hAk, hAi, hJk, hwo, ldS_at (get_extx hd0), ldA_at (get_extx hd1)]
     all_goals
      first | (rw [decide_eq_true hvf]; rfl) | (rw [decide_eq_false hvf]; rfl)
 ·try simp only [nrm] at c1
  have hke : t.songs.length = k := by first | omega | (simp at c1; omega)
  rw [← hke, List.take_length] at hpm
  have hmu := hwm2 acc has hpm
  refine W_weak (Weak.readI (t := 13) (A := []) (out := acc) (by simp only [go_sem, List.length_nil])) ?_
  refine W_weak (Weak.keep [5, 7, 13]) ?_
  simp only [go_sem]
  refine W_exit ?_
  simp only [go_sem]
  refine kq3 _ _ ?_
  refine W_seq fun kz19 kq19 => ?_
  refine W_seq fun kz20 kq20 => ?_
  refine W_region [5, 7, 13, 97] fun R hR => ?_
  simp only [go_sem, ldS_at (get_extx hd1)]
  refine hR _ _ (kq20 _ _ ?_); clear hR R; try clear kq20 kz20
  try simp only [go_sem]
  refine W_cond rfl (fun c5 => ?_) (fun c5 => ?_)
  ·try simp only [nrm] at c5
   refine W_seq fun kz21 kq21 => ?_
   refine W_region [12] fun R hR => ?_
   simp only [go_sem]
   refine hR _ _ (kq21 _ _ ?_); clear hR R; try clear kq21 kz21
   try simp only [go_sem]
   refine W_ret ?_
   simp only [go_sem]
   refine ⟨.inr (by trivial), ?_⟩
   rw [hmu, ← hτ, Sg.ext_ext]
   refine Fin_same hcl rfl (Wk_eq ?_ (by simp only [go_sem]))
   try simp only [go_sem]
   all_goals
    first | (rw [if_pos (by omega)]; done) | (rw [if_neg (by omega), hkn, Int.toNat_natCast, hje, ← hsm]; done) | skip
  ·try simp only [nrm] at c5
   refine W_skip (kq19 _ _ ?_)
   refine W_seq fun kz22 kq22 => ?_
   refine W_region [5, 7, 13, 17] fun R hR => ?_
   simp only [go_sem]
   refine hR _ _ (kq22 _ _ ?_); clear hR R; try clear kq22 kz22
   try simp only [go_sem]
   refine W_seq fun kz23 kq23 => ?_
   refine W_seq fun kz24 kq24 => ?_
   refine W_region [5, 7, 13, 17, 18] fun R hR => ?_
   simp only [go_sem]
   refine hR _ _ (kq24 _ _ ?_); clear hR R; try clear kq24 kz24
   try simp only [go_sem]
   refine W_block ?_
   refine W_loopS (α := Nat × Int) (fun ⟨j, sm⟩ => [(17, I sm), (18, I j)]) (fun ⟨j, sm⟩ => j ≤ kn ∧ sm = (acc.take j).sum ∧ 0 ≤ sm ∧ sm ≤ 1001 * (j : Int)) (fun ⟨j, sm⟩ => kn - j) ((0, 0)) rfl (⟨Nat.zero_le _, rfl, Int.le_refl _, Int.le_refl _⟩) ?_
   rintro ⟨j, sm⟩ ⟨hj, hsm, hs1, hs2⟩
   refine W_seq fun kz25 kq25 => ?_
   refine W_seq fun kz26 kq26 => ?_
   refine W_region [5, 7, 13, 17, 18, 101] fun R hR => ?_
   simp only [go_sem, ldS_at (get_extx hd1)]
   refine hR _ _ (kq26 _ _ ?_); clear hR R; try clear kq26 kz26
   try simp only [go_sem]
   refine W_cond rfl (fun c6 => ?_) (fun c6 => ?_)
   ·try simp only [nrm] at c6
    have hj1 : j < kn := by first | omega | (simp at c6; omega)
    obtain ⟨z, hjx⟩ : ∃ z, acc[j]? = some z := ⟨acc[j]'(by omega), by simp⟩
    have hjl : (j : Int) < (acc.length : Int) := by omega
    have hzj := hzb z (List.mem_of_getElem? hjx)
    have hs3 : (acc.take (j + 1)).sum = sm + z := by rw [List.take_add_one, hjx, List.sum_append, ← hsm]; simp
    have hws : IntKind.i64.wrap (sm + z) = sm + z := wrapI (by omega) (by omega)
    refine W_skip (kq25 _ _ ?_)
    refine W_seq fun kz27 kq27 => ?_
    refine W_block ?_
    refine W_region [5, 7, 13, 17, 18] fun R hR => ?_
    simp only [go_sem, hjl, hjx, hws]
    try simp (disch := omega) only [wrapI, wrapU]
    refine hR _ _ (kq27 _ _ ?_); clear hR R; try clear kq27 kz27
    try simp only [go_sem]
    refine W_region [5, 7, 13, 17, 18] fun R hR => ?_
    simp only [go_sem]
    try simp (disch := omega) only [wrapI, wrapU]
    refine hR _ _ ?_; clear hR R
    try simp only [go_sem]
    refine ⟨(j + 1, sm + z), ?_, by (try simp only []); omega, ?_⟩
    ·first | exact Weak.refl | exact Weak.eq (by first | rfl | (simp only [go_sem]; done) | (simp only [go_sem]; rfl) | (simp [go_sem]; done) | (simp [go_sem]; omega)) (by first | rfl | (simp only [go_sem]; done) | (simp [go_sem]; done))
    ·try dsimp only
     rw [hs3]; exact ⟨by omega, rfl, by omega, by omega⟩
   ·try simp only [nrm] at c6
    have hje : kn = j := by first | omega | (simp at c6; omega)
    refine W_exit ?_
    simp only [go_sem]
    refine kq23 _ _ ?_
    refine W_seq fun kz28 kq28 => ?_
    refine W_region [12] fun R hR => ?_
    simp only [go_sem]
    refine hR _ _ (kq28 _ _ ?_); clear hR R; try clear kq28 kz28
    try simp only [go_sem]
    refine W_ret ?_
    simp only [go_sem]
    refine ⟨.inr (by trivial), ?_⟩
    rw [hmu, ← hτ, Sg.ext_ext]
    refine Fin_same hcl rfl (Wk_eq ?_ (by simp only [go_sem]))
    try simp only [go_sem]
    all_goals
     first | (rw [if_pos (by omega)]; done) | (rw [if_neg (by omega), hkn, Int.toNat_natCast, hje, ← hsm]; done) | skip
end Go.Proofs.YtnolifglhhjdnaaGreat
namespace Go.Proofs.YtnolifglhhjdnaaGreat
open Go Go.RowKit
set_option maxRecDepth 100000
theorem rdsT_sub {l : List Ballot} : ∀ {rs : List Rnd} {i : Nat} {ss : List Int}, ∀ t, t ∈ rdsT l rs i ss → ∀ s, s ∈ t.songs → s ∈ ss := by
 intro rs
 induction rs with
 | nil => intro i ss t h; cases h
 | cons r rs ih =>
  intro i ss t h s hs
  simp only [rdsT, List.mem_cons] at h
  rcases h with rfl | h
  ·exact hs
  ·exact mem_kept (ih t h s hs)
theorem chkRnd_in {c : Contest} {l : List Ballot} {rd : Int} (h : chkRnd c l rd = 0) : chkBls c l = 0 ∧ inR rd 0 ((c.rounds.length : Int) - 1) = true := by
 unfold chkRnd at h
 by_cases h1 : chkBls c l = 0
 ·rw [if_neg (by simp [h1])] at h
  refine ⟨h1, ?_⟩
  cases h2 : inR rd 0 ((c.rounds.length : Int) - 1) with
  | true => rfl
  | false => rw [h2] at h; simp at h
 ·rw [if_pos h1] at h
  exact absurd h h1
theorem staysD_rnd {c : Contest} {l : List Ballot} {rd : Int} (h : chkRnd c l rd ≠ 0) : staysD c l rd = ([], chkRnd c l rd) := by
 unfold chkRnd at h ⊢
 unfold staysD
 by_cases h1 : chkBls c l = 0
 ·have e1 : ¬ (chkBls c l ≠ 0) := by simp [h1]
  rw [if_neg e1] at h
  simp only [if_neg e1]
  by_cases h2 : inR rd 0 ((c.rounds.length : Int) - 1) = false
  ·simp only [if_pos h2]
  ·rw [if_neg h2] at h; exact absurd rfl h
 ·rw [if_pos h1, if_pos h1]
def needsD (c : Contest) (l : List Ballot) (rd s : Int) : Int × Int := if chkRnd c l rd ≠ 0 then (0, chkRnd c l rd) else match (roundsT c l)[rd.toNat]? with
 | some t => if has t.songs s = false then (0, 7) else match findV (fun v => mayT t c s v) (freeT t c + 1).toNat 0 with
  | some v => ((v : Int), 0)
  | none => (0, 7)
 | none => (0, 7)
structure RndOk (c : Contest) (l : List Ballot) (rn : Nat) (t : Tally) (fr : Nat) : Prop where
 V : CnV c
 ll : l.length ≤ 300
 hb : ∀ b, b ∈ l → BlV c b
 sn : (l.map (·.serial)).Nodup
 tt : (roundsT c l)[rn]? = some t
 rr : c.rounds[rn]? = some t.rd
 te : t = countT t.rd rn t.songs l
 T : TlB t
 nd : t.songs.Nodup
 ff : freeT t c = fr
 f2 : fr ≤ 1000
 op : ∀ s, -2 ^ 20 ≤ openT t c s ∧ openT t c s ≤ 2 ^ 20
 sb : ∀ s, s ∈ t.songs → 0 ≤ s ∧ s < c.songs
theorem rnd_ok {c : Contest} {l : List Ballot} {rd : Int} (h : chkRnd c l rd = 0) : ∃ (rn : Nat) (t : Tally) (fr : Nat), rd = rn ∧ RndOk c l rn t fr := by
 obtain ⟨h1, h2⟩ := chkRnd_in h
 obtain ⟨hV, hl, hb, hn⟩ := blsV_of h1
 have hrb := inR_true.1 h2
 obtain ⟨rn, rfl⟩ : ∃ z : Nat, rd = z := ⟨rd.toNat, by omega⟩
 have htl : (roundsT c l).length = c.rounds.length := rdsT_len
 obtain ⟨t, ht⟩ : ∃ z, (roundsT c l)[rn]? = some z := ⟨(roundsT c l)[rn]'(by omega), by simp⟩
 obtain ⟨r, hr, hte⟩ := rdsT_get ht
 rw [Nat.zero_add] at hte
 have hm := List.mem_of_getElem? ht
 have hrd : t.rd = r := by rw [hte]; rfl
 have hml : t.m.length ≤ 300 := Nat.le_trans (rdsT_m t hm) hl
 have hf := freeT_bd hV hml
 have hnn : 0 ≤ freeT t c := by rw [hte]; exact free_nn hV.mb.1 hb
 refine ⟨rn, t, (freeT t c).toNat, rfl, hV, hl, hb, hn, ht, by rw [hrd]; exact hr, by rw [hrd]; exact hte, roundsT_b hV hl hb t hm, (roundsT_up hm).nodup, by omega, by omega, openT_bd hV hml, fun s hs => ?_⟩
 have := rdsT_sub t hm s hs
 unfold toI at this
 obtain ⟨i, hi, rfl⟩ := List.mem_map.1 this
 have := List.mem_range.1 hi
 omega
def oF (t : Tally) (c : Contest) (i x : Nat) : Int := if has (t.songs.take i) x = true then staysV t c x else 2
theorem oF_step {t : Tally} {c : Contest} {i sn : Nat} (h : t.songs[i]? = some (sn : Int)) (N : Nat) : (rowG (oF t c i) N).set sn (staysV t c sn) = rowG (oF t c (i + 1)) N := by
 rw [rowG_set]
 refine rowG_congr fun x _ => ?_
 unfold oF
 rw [List.take_add_one, h, Option.toList_some]
 by_cases e : x = sn
 ·subst e
  rw [if_pos rfl, if_pos (by rw [has_iff]; simp)]
 ·rw [if_neg e]
  have : (has (t.songs.take i ++ [(sn : Int)]) x = true) ↔ (has (t.songs.take i) x = true) := by
   rw [has_iff, has_iff]
   simp
   omega
  simp only [this]
theorem oF_same {t : Tally} {c : Contest} {i sn : Nat} (h : t.songs[i]? = some (sn : Int)) (h2 : staysV t c sn = 2) (N : Nat) : rowG (oF t c i) N = rowG (oF t c (i + 1)) N := by
 rw [← oF_step h, h2, rowG_set]
 refine rowG_congr fun x _ => ?_
 by_cases e : x = sn
 ·subst e
  rw [if_pos rfl]
  unfold oF
  rw [h2]; simp
 ·rw [if_neg e]
theorem oF_all {t : Tally} {c : Contest} {N : Nat} : rowG (oF t c t.songs.length) N = (toN N).map (staysV t c) := by
 unfold rowG toN
 rw [List.map_map]
 refine List.map_congr_left fun x _ => ?_
 unfold oF
 rw [List.take_length]
 by_cases h : has t.songs x = true
 ·rw [if_pos h]; rfl
 ·rw [if_neg h]
  show 2 = staysV t c x
  unfold staysV
  rw [if_pos (by simpa using h)]
set_option maxHeartbeats 8000000 in
theorem rStays_pc (Y : YEnv) (σ : Sg) (c : Contest) (l : List Ballot) (rd : Int) (hr : c.rounds.length < 2 ^ 40) (hl : l.length < 2 ^ 40) :
  PC Tryz.prog Y 34 [cnPV c, bls l, I rd] σ (.tuple [ints (staysD c l rd).1, I (staysD c l rd).2]) (σ) := by
 refine PC_of_W Tryz.func34 rfl (by kernel_rfl) Tryz.ntmps34 (by simp) fun hcl hca => ?_
 refine W_seq fun kz1 kq1 => ?_
 refine W_region [1, 2, 3] fun R hR => ?_
 simp only [go_sem]
 refine hR _ _ (kq1 _ _ ?_); clear hR R; try clear kq1 kz1
 try simp only [go_sem]
 refine W_seq fun kz2 kq2 => ?_
 refine W_seq fun kz3 kq3 => ?_
 refine W_region [1, 2, 3, 8] fun R hR => ?_
 simp only [go_sem]
 refine GCall_of (rchkRnd_pc Y _ c l rd hr hl) ?_
 simp only [go_sem]
 refine hR _ _ (kq3 _ _ ?_); clear hR R; try clear kq3 kz3
 try simp only [go_sem]
 refine W_seq fun kz4 kq4 => ?_
 refine W_region [1, 2, 3, 8, 22] fun R hR => ?_
 simp only [go_sem]
 refine hR _ _ (kq4 _ _ ?_); clear hR R; try clear kq4 kz4
 try simp only [go_sem]
 refine W_cond rfl (fun c1 => ?_) (fun c1 => ?_)
 ·try simp only [nrm] at c1
  have hres := staysD_rnd c1
  refine W_seq fun kz5 kq5 => ?_
  refine W_region [6, 7] fun R hR => ?_
  simp only [go_sem]
  refine hR _ _ (kq5 _ _ ?_); clear hR R; try clear kq5 kz5
  try simp only [go_sem]
  refine W_ret ?_
  simp only [go_sem]
  refine ⟨.inr (by trivial), ?_⟩
  rw [hres]; refine Fin_same hcl rfl (Wk.ro (by simp only [go_sem]) ?_)
  try simp only [go_sem]
  all_goals
   first | rfl | (simp only [go_sem]; done)
 ·try simp only [nrm] at c1
  obtain ⟨rn, t, fr, rfl, hO⟩ := rnd_ok c1
  obtain ⟨hV, hl3, hb, hnd, ht, hrr, hte, hT, hsn, hff, hf2, hop, hsb⟩ := hO
  have hrn : rn < c.rounds.length := (List.getElem?_eq_some_iff.1 hrr).1
  have hrn2 : (rn : Int) < (c.rounds.length : Int) := by omega
  have hsl := hT.sl
  have hsg := hV.sg
  obtain ⟨N, hN⟩ : ∃ z : Nat, c.songs = z := ⟨c.songs.toNat, by omega⟩
  have hmk : ∀ {σ : Sg}, makePV Tryz.prog σ 22 (I c.songs) (I c.songs) = some (.msl σ.store.length 0 N, σ.push ((List.replicate N (0 : Int)).map I)) := fun {σ} => by rw [hN]; exact mkI (k := N) (by omega)
  have hck := (chkRnd_in c1)
  have hres : staysD c l rn = ((toN N).map (staysV t c), 0) := by unfold staysD; rw [if_neg (by simp [hck.1]), if_neg (by simp [hck.2]), Int.toNat_natCast, ht, hN, toI_N]
  have hz0 : rowG (fun x => if x < 0 then (2 : Int) else 0) N = List.replicate N 0 := by rw [← rowG_zero]; exact rowG_congr fun x _ => if_neg (by omega)
  refine W_skip (kq2 _ _ ?_)
  refine W_seq fun kz6 kq6 => ?_
  refine W_draw [1, 2, 3, 9, 10] [0, 1, 2, 3, 4, 5, 6, 7, 8, 9, 10, 11] [(4, 3), (4, 11), (5, 3), (5, 11), (6, 3), (6, 11), (7, 3), (7, 11), (8, 3), (8, 11), (10, 9)] [[], [], [], [0, 1, 2], [], [4], [], [4, 5, 6], [4, 5, 6, 7], [], [0, 1, 2, 3, 9], [0, 1, 2, 3, 4, 5, 6, 7, 8, 9, 10]] mixed (by kernel_rfl) fun R hR => ?_
  simp only [go_sem, hrr, hrn2]
  refine GCall_of (rSongs_pc c l hV hl3 hb hnd rn t ht Y _) ?_
  simp only [go_sem, hrr, hrn2]
  try refine And.intro (by repeat' (first | refine And.intro ?_ ?_ | exact trivial | exact GOr_right (fun _ => by simp only [go_sem, hrr, hrn2]))) ?_
  refine hR _ _ (kq6 _ _ ?_); clear hR R; try clear kq6 kz6
  try simp only [go_sem]
  refine W_seq fun kz7 kq7 => ?_
  refine W_region [1, 2, 3, 9, 10, 11] fun R hR => ?_
  simp only [go_sem]
  refine GCall_of (PC.val (v' := sds (allT t)) (rStand_pc Y _ c l rn t.rd t.songs hrr hV hl3 hb hnd (by rw [← hte]; exact hT)) (by rw [← hte])) ?_
  simp only [go_sem]
  refine hR _ _ (kq7 _ _ ?_); clear hR R; try clear kq7 kz7
  try simp only [go_sem]
  refine W_seq fun kz8 kq8 => ?_
  refine W_region [3, 9, 10, 11, 12, 13] fun R hR => ?_
  simp only [go_sem]
  refine GCall_of (PC.val (v' := .tuple [I fr, ints (t.songs.map (jurT t c))]) (rLeft_pc Y _ c l rn t hV hl3 hb hnd ht) (by rw [hff])) ?_
  simp only [go_sem]
  refine hR _ _ (kq8 _ _ ?_); clear hR R; try clear kq8 kz8
  try simp only [go_sem]
  refine W_seq fun kz9 kq9 => ?_
  refine W_region [3, 9, 10, 11, 12, 13, 14] fun R hR => ?_
  simp only [go_sem, hmk]
  refine hR _ _ (kq9 _ _ ?_); clear hR R; try clear kq9 kz9
  try simp only [go_sem]
  refine W_seq fun kz10 kq10 => ?_
  refine W_seq fun kz11 kq11 => ?_
  refine W_region [3, 9, 10, 11, 12, 13, 14, 15] fun R hR => ?_
  simp only [go_sem]
  refine hR _ _ (kq11 _ _ ?_); clear hR R; try clear kq11 kz11
  try simp only [go_sem]
  refine W_block ?_
  refine W_loopT (α := Nat) (fun (i : Nat) => [(15, I i)]) (fun (i : Nat) => σ.ext [some [I c.songs, I c.juries, I c.members, I c.most, rds c.rounds], some (rdCells t.rd), some ((rowG (fun x => if x < i then (2 : Int) else 0) N).map I)] []) (fun (i : Nat) => i ≤ N) (fun (i : Nat) => N - i) (0) rfl (by rw [hz0]; rfl) (Nat.zero_le _) ?_
  rintro i hi
  refine W_seq fun kz12 kq12 => ?_
  refine W_seq fun kz13 kq13 => ?_
  refine W_region [3, 9, 10, 11, 12, 13, 14, 15, 51] fun R hR => ?_
  simp only [go_sem]
  refine hR _ _ (kq13 _ _ ?_); clear hR R; try clear kq13 kz13
  try simp only [go_sem]
  refine W_cond rfl (fun c2 => ?_) (fun c2 => ?_)
  ·try simp only [nrm] at c2
   have hil0 : (i : Int) < (N : Int) := by first | omega | (simp at c2; omega)
   have hiN0 : i + 1 ≤ N := by omega
   have hrl0 := rowG_len (fun x => if x < i then (2 : Int) else 0) N
   have hrs0 : (rowG (fun x => if x < i then (2 : Int) else 0) N).set i 2 = rowG (fun x => if x < i + 1 then (2 : Int) else 0) N := by
    rw [rowG_set]
    refine rowG_congr fun x _ => ?_
    by_cases e : x = i
    ·subst e; rw [if_pos rfl, if_pos (by omega)]
    ·by_cases q : x < i
     ·rw [if_neg e, if_pos q, if_pos (by omega)]
     ·rw [if_neg e, if_neg q, if_neg (by omega)]
   refine W_skip (kq12 _ _ ?_)
   refine W_seq fun kz14 kq14 => ?_
   refine W_block ?_
   refine W_region [3, 9, 10, 11, 12, 13, 14, 15] fun R hR => ?_
   simp only [go_sem, hil0, hiN0, hrl0, Nat.mul_one, hrs0]
   refine hR _ _ (kq14 _ _ ?_); clear hR R; try clear kq14 kz14
   try simp only [go_sem]
   refine W_region [3, 9, 10, 11, 12, 13, 14, 15] fun R hR => ?_
   simp only [go_sem]
   try simp (disch := omega) only [wrapI, wrapU]
   refine hR _ _ ?_; clear hR R
   try simp only [go_sem]
   refine ⟨i + 1, ?_, by (try simp only []); omega, ?_⟩
   ·first | exact Weak.refl | exact Weak.eq rfl rfl
   ·try dsimp only
    omega
  ·try simp only [nrm] at c2
   have hie : N = i := by first | omega | (simp at c2; omega)
   subst hie
   have hz1 : rowG (fun x => if x < N then (2 : Int) else 0) N = rowG (oF t c 0) N := rowG_congr fun x h => by rw [if_pos h]; simp [oF, has]
   rw [hz1]
   refine W_exit ?_
   simp only [go_sem]
   refine kq10 _ _ ?_
   refine W_seq fun kz15 kq15 => ?_
   refine W_seq fun kz16 kq16 => ?_
   refine W_region [3, 9, 10, 11, 12, 13, 14, 16] fun R hR => ?_
   simp only [go_sem]
   refine hR _ _ (kq16 _ _ ?_); clear hR R; try clear kq16 kz16
   try simp only [go_sem]
   refine W_block ?_
   refine W_loopT (α := Nat) (fun (i : Nat) => [(16, I i)]) (fun (i : Nat) => σ.ext [some [I c.songs, I c.juries, I c.members, I c.most, rds c.rounds], some (rdCells t.rd), some ((rowG (oF t c i) N).map I)] []) (fun (i : Nat) => i ≤ t.songs.length) (fun (i : Nat) => t.songs.length - i) (0) rfl (by first | rfl | (simp only [go_sem]; done) | (simp only [go_sem]; rfl)) (Nat.zero_le _) ?_
   rintro i hi
   refine W_seq fun kz17 kq17 => ?_
   refine W_seq fun kz18 kq18 => ?_
   refine W_region [3, 9, 10, 11, 12, 13, 14, 16, 60] fun R hR => ?_
   simp only [go_sem]
   refine hR _ _ (kq18 _ _ ?_); clear hR R; try clear kq18 kz18
   try simp only [go_sem]
   refine W_cond rfl (fun c3 => ?_) (fun c3 => ?_)
   ·try simp only [nrm] at c3
    have hi' : i < t.songs.length := by first | omega | (simp at c3; omega)
    have hil : (i : Int) < (t.songs.length : Int) := by omega
    obtain ⟨x, hx⟩ : ∃ z, t.songs[i]? = some z := ⟨t.songs[i], by simp [hi']⟩
    have hxb := hsb x (List.mem_of_getElem? hx)
    obtain ⟨sn, hsnx⟩ : ∃ z : Nat, x = z := ⟨x.toNat, by omega⟩
    subst hsnx
    have hhas : has t.songs sn = true := by rw [has_iff]; exact List.mem_of_getElem? hx
    have hsnI : (sn : Int) < (N : Int) := by omega
    have hsnN : sn + 1 ≤ N := by omega
    have hrl := rowG_len (oF t c i) N
    refine W_skip (kq17 _ _ ?_)
    refine W_seq fun kz19 kq19 => ?_
    refine W_block ?_
    refine W_block ?_
    refine W_seq fun kz20 kq20 => ?_
    refine W_region [3, 9, 10, 11, 12, 13, 14, 16, 63] fun R hR => ?_
    simp only [go_sem]
    refine GCall_of (rWorst_pc Y _ c t i fr sn hT hsn hx hop hff hf2) ?_
    simp only [go_sem]
    refine hR _ _ (kq20 _ _ ?_); clear hR R; try clear kq20 kz20
    try simp only [go_sem]
    refine W_cond rfl (fun c4 => ?_) (fun c4 => ?_)
    ·try simp only [nrm] at c4
     have hsv : staysV t c sn = 1 := by unfold staysV; rw [if_neg (by simp [hhas]), if_pos c4]
     have hrs : (rowG (oF t c i) N).set sn 1 = rowG (oF t c (i + 1)) N := by rw [← hsv]; exact oF_step hx N
     refine W_region [3, 9, 10, 11, 12, 13, 14, 16] fun R hR => ?_
     simp only [go_sem, hil, hx, hsnI, hsnN, hrl, Nat.mul_one, hrs]
     refine hR _ _ (kq19 _ _ ?_); clear hR R; try clear kq19 kz19
     try simp only [go_sem]
     refine W_region [3, 9, 10, 11, 12, 13, 14, 16] fun R hR => ?_
     simp only [go_sem]
     try simp (disch := omega) only [wrapI, wrapU]
     refine hR _ _ ?_; clear hR R
     try simp only [go_sem]
     refine ⟨i + 1, ?_, by (try simp only []); omega, ?_⟩
     ·first | exact Weak.eq rfl rfl | exact Weak.eq rfl (by rw [hrs])
     ·try dsimp only
      exact hi'
    ·try simp only [nrm] at c4
     refine W_seq fun kz21 kq21 => ?_
     refine W_region [3, 9, 10, 11, 12, 13, 14, 16, 77] fun R hR => ?_
     simp only [go_sem]
     refine GCall_of (rBest_pc Y _ c t i sn fr hT hsn hx (hop _) (by omega)) ?_
     simp only [go_sem]
     refine hR _ _ (kq21 _ _ ?_); clear hR R; try clear kq21 kz21
     try simp only [go_sem]
     refine W_cond rfl (fun c5 => ?_) (fun c5 => ?_)
     ·try simp only [nrm] at c5
      have hsv : staysV t c sn = 3 := by unfold staysV; rw [if_neg (by simp [hhas]), if_neg (by simp [c4]), hff, if_pos c5]
      have hrs : (rowG (oF t c i) N).set sn 3 = rowG (oF t c (i + 1)) N := by rw [← hsv]; exact oF_step hx N
      refine W_region [3, 9, 10, 11, 12, 13, 14, 16] fun R hR => ?_
      simp only [go_sem, hil, hx, hsnI, hsnN, hrl, Nat.mul_one, hrs]
      refine hR _ _ (kq19 _ _ ?_); clear hR R; try clear kq19 kz19
      try simp only [go_sem]
      refine W_region [3, 9, 10, 11, 12, 13, 14, 16] fun R hR => ?_
      simp only [go_sem]
      try simp (disch := omega) only [wrapI, wrapU]
      refine hR _ _ ?_; clear hR R
      try simp only [go_sem]
      refine ⟨i + 1, ?_, by (try simp only []); omega, ?_⟩
      ·first | exact Weak.eq rfl rfl | exact Weak.eq rfl (by rw [hrs])
      ·try dsimp only
       exact hi'
     ·try simp only [nrm] at c5
      have hsv : staysV t c sn = 2 := by unfold staysV; rw [if_neg (by simp [hhas]), if_neg (by simp [c4]), hff, if_neg (by simp [c5])]
      have hrs : rowG (oF t c i) N = rowG (oF t c (i + 1)) N := oF_same hx hsv N
      refine W_skip (kq19 _ _ ?_)
      refine W_region [3, 9, 10, 11, 12, 13, 14, 16] fun R hR => ?_
      simp only [go_sem]
      try simp (disch := omega) only [wrapI, wrapU]
      refine hR _ _ ?_; clear hR R
      try simp only [go_sem]
      refine ⟨i + 1, ?_, by (try simp only []); omega, ?_⟩
      ·first | exact Weak.eq rfl rfl | exact Weak.eq rfl (by rw [hrs])
      ·try dsimp only
       exact hi'
   ·try simp only [nrm] at c3
    have hie : t.songs.length = i := by first | omega | (simp at c3; omega)
    subst hie
    rw [oF_all]
    refine W_weak (Weak.freezeI (t := 14) (j := 2) (xs := (toN N).map (staysV t c)) (by rw [List.length_map, toN_len]; rfl) rfl) ?_
    simp only [go_sem]
    refine W_exit ?_
    simp only [go_sem]
    refine kq15 _ _ ?_
    refine W_seq fun kz22 kq22 => ?_
    refine W_region [6, 7] fun R hR => ?_
    simp only [go_sem]
    refine hR _ _ (kq22 _ _ ?_); clear hR R; try clear kq22 kz22
    try simp only [go_sem]
    refine W_ret ?_
    simp only [go_sem]
    refine ⟨.inr (by trivial), ?_⟩
    rw [hres]; refine Fin_same hcl rfl (Wk.ro (by simp only [go_sem]) ?_)
    try simp only [go_sem]
    all_goals
     first | rfl | (simp only [go_sem]; done)
set_option maxHeartbeats 8000000 in
theorem rNeeds_pc (Y : YEnv) (σ : Sg) (c : Contest) (l : List Ballot) (rd s : Int) (hr : c.rounds.length < 2 ^ 40) (hl : l.length < 2 ^ 40) :
  PC Tryz.prog Y 36 [cnPV c, bls l, I rd, I s] σ (.tuple [I (needsD c l rd s).1, I (needsD c l rd s).2]) (σ) := by
 refine PC_of_W Tryz.func36 rfl (by kernel_rfl) Tryz.ntmps36 (by simp) fun hcl hca => ?_
 refine W_seq fun kz1 kq1 => ?_
 refine W_region [1, 2, 3, 4] fun R hR => ?_
 simp only [go_sem]
 refine hR _ _ (kq1 _ _ ?_); clear hR R; try clear kq1 kz1
 try simp only [go_sem]
 refine W_seq fun kz2 kq2 => ?_
 refine W_seq fun kz3 kq3 => ?_
 refine W_region [1, 2, 3, 4, 10] fun R hR => ?_
 simp only [go_sem]
 refine GCall_of (rchkRnd_pc Y _ c l rd hr hl) ?_
 simp only [go_sem]
 refine hR _ _ (kq3 _ _ ?_); clear hR R; try clear kq3 kz3
 try simp only [go_sem]
 refine W_seq fun kz4 kq4 => ?_
 refine W_region [1, 2, 3, 4, 10, 22] fun R hR => ?_
 simp only [go_sem]
 refine hR _ _ (kq4 _ _ ?_); clear hR R; try clear kq4 kz4
 try simp only [go_sem]
 refine W_cond rfl (fun c1 => ?_) (fun c1 => ?_)
 ·try simp only [nrm] at c1
  have hres : needsD c l rd s = (0, chkRnd c l rd) := by unfold needsD; rw [if_pos c1]
  refine W_seq fun kz5 kq5 => ?_
  refine W_region [8, 9] fun R hR => ?_
  simp only [go_sem]
  refine hR _ _ (kq5 _ _ ?_); clear hR R; try clear kq5 kz5
  try simp only [go_sem]
  refine W_ret ?_
  simp only [go_sem]
  refine ⟨.inr (by trivial), ?_⟩
  first | rw [hres2] | rw [hres]
  refine Fin_same hcl rfl (Wk.ro (by simp only [go_sem]) ?_)
  try simp only [go_sem]
  all_goals
   first | rfl | (simp only [go_sem]; done)
 ·try simp only [nrm] at c1
  obtain ⟨rn, t, fr, rfl, hO⟩ := rnd_ok c1
  obtain ⟨hV, hl3, hb, hnd, ht, hrr, hte, hT, hsn, hff, hf2, hop, hsb⟩ := hO
  have hrn : rn < c.rounds.length := (List.getElem?_eq_some_iff.1 hrr).1
  have hrn2 : (rn : Int) < (c.rounds.length : Int) := by omega
  have hsl := hT.sl
  have hsg := hV.sg
  have hfn : (freeT t c + 1).toNat = fr + 1 := by omega
  have hres : needsD c l rn s = if has t.songs s = false then ((0, 7) : Int × Int) else match findV (fun v => mayT t c s v) (fr + 1) 0 with | some v => ((v : Int), (0 : Int)) | none => ((0, 7) : Int × Int) := by unfold needsD; rw [if_neg (by simp [c1]), Int.toNat_natCast, ht]; simp only [hfn]
  refine W_skip (kq2 _ _ ?_)
  refine W_seq fun kz6 kq6 => ?_
  refine W_region [1, 2, 3, 4, 11] fun R hR => ?_
  simp only [go_sem]
  refine GCall_of (rSongs_pc c l hV hl3 hb hnd rn t ht Y _) ?_
  simp only [go_sem]
  refine hR _ _ (kq6 _ _ ?_); clear hR R; try clear kq6 kz6
  try simp only [go_sem]
  refine W_seq fun kz7 kq7 => ?_
  refine W_region [1, 2, 3, 4, 11, 12] fun R hR => ?_
  simp only [go_sem]
  refine GCall_of (PC.val (v' := sds (allT t)) (rStand_pc Y _ c l rn t.rd t.songs hrr hV hl3 hb hnd (by rw [← hte]; exact hT)) (by rw [← hte])) ?_
  simp only [go_sem]
  refine hR _ _ (kq7 _ _ ?_); clear hR R; try clear kq7 kz7
  try simp only [go_sem]
  refine W_seq fun kz8 kq8 => ?_
  refine W_region [2, 3, 4, 11, 12, 13, 14] fun R hR => ?_
  simp only [go_sem]
  refine GCall_of (PC.val (v' := .tuple [I fr, ints (t.songs.map (jurT t c))]) (rLeft_pc Y _ c l rn t hV hl3 hb hnd ht) (by rw [hff])) ?_
  simp only [go_sem]
  refine hR _ _ (kq8 _ _ ?_); clear hR R; try clear kq8 kz8
  try simp only [go_sem]
  refine W_seq fun kz9 kq9 => ?_
  refine W_seq fun kz10 kq10 => ?_
  refine W_region [2, 3, 4, 11, 12, 13, 14, 15] fun R hR => ?_
  simp only [go_sem]
  refine hR _ _ (kq10 _ _ ?_); clear hR R; try clear kq10 kz10
  try simp only [go_sem]
  refine W_block ?_
  refine W_loopS (α := Nat) (fun (i : Nat) => [(15, I i)]) (fun (i : Nat) => i ≤ t.songs.length ∧ ∀ x, x ∈ t.songs.take i → x = s → findV (fun v => mayT t c s v) (fr + 1) 0 = none) (fun (i : Nat) => t.songs.length - i) (0) rfl (⟨Nat.zero_le _, fun x h => absurd h (by simp)⟩) ?_
  rintro i ⟨hi, hno⟩
  refine W_seq fun kz11 kq11 => ?_
  refine W_seq fun kz12 kq12 => ?_
  refine W_region [2, 3, 4, 11, 12, 13, 14, 15, 43] fun R hR => ?_
  simp only [go_sem]
  refine hR _ _ (kq12 _ _ ?_); clear hR R; try clear kq12 kz12
  try simp only [go_sem]
  refine W_cond rfl (fun c2 => ?_) (fun c2 => ?_)
  ·try simp only [nrm] at c2
   have hi' : i < t.songs.length := by first | omega | (simp at c2; omega)
   have hil : (i : Int) < (t.songs.length : Int) := by omega
   obtain ⟨x, hx⟩ : ∃ z, t.songs[i]? = some z := ⟨t.songs[i], by simp [hi']⟩
   refine W_skip (kq11 _ _ ?_)
   refine W_seq fun kz13 kq13 => ?_
   refine W_block ?_
   refine W_seq fun kz14 kq14 => ?_
   refine W_region [2, 3, 4, 11, 12, 13, 14, 15, 16] fun R hR => ?_
   simp only [go_sem]
   refine hR _ _ (kq14 _ _ ?_); clear hR R; try clear kq14 kz14
   try simp only [go_sem]
   refine W_block ?_
   refine W_loopS (α := Nat) (fun (v : Nat) => [(16, I v)]) (fun (v : Nat) => v ≤ fr + 1 ∧ (x = s → findV (fun v => mayT t c s v) (fr + 1) 0 = findV (fun v => mayT t c s v) (fr + 1 - v) v)) (fun (v : Nat) => fr + 1 - v) (0) rfl (⟨Nat.zero_le _, fun _ => rfl⟩) ?_
   rintro v ⟨hv, hfv⟩
   refine W_seq fun kz15 kq15 => ?_
   refine W_seq fun kz16 kq16 => ?_
   refine W_regionJ [2, 3, 4, 11, 12, 13, 14, 15, 16, 56] [(56, .bool (decide (x = s) && decide ((v : Int) ≤ (fr : Int))))] ?_ fun R hR => ?_
   ·refine kq16 _ _ ?_
    simp only [go_sem]
    refine W_cond rfl (fun c3 => ?_) (fun c3 => ?_)
    ·try simp only [nrm] at c3
     have hc3 : x = s ∧ v ≤ fr := by simp at c3; omega
     have hv1 := hc3.2
     have hxs : t.songs[i]? = some s := by rw [← hc3.1]; exact hx
     have hfv1 := hfv hc3.1
     refine W_skip (kq15 _ _ ?_)
     refine W_seq fun kz17 kq17 => ?_
     refine W_block ?_
     refine W_seq fun kz18 kq18 => ?_
     refine W_draw [2, 3, 4, 11, 12, 13, 14, 15, 16, 69] [0, 1, 2, 3, 4, 5, 6, 7, 8, 9, 10] [] [[], [], [1], [], [1, 2, 3], [1, 2, 3, 4], [], [], [], [], [0, 1, 2, 3, 4, 5, 6, 7, 8, 9]] mixed (by kernel_rfl) fun R hR => ?_
     simp only [go_sem, hrr, hrn2]
     refine GCall_of (rBest_pc Y _ c t i s v hT hsn hxs (hop _) (by omega)) ?_
     simp only [go_sem, hrr, hrn2]
     try refine And.intro (by repeat' (first | refine And.intro ?_ ?_ | exact trivial | exact GOr_right (fun _ => by simp only [go_sem, hrr, hrn2]))) ?_
     refine hR _ _ (kq18 _ _ ?_); clear hR R; try clear kq18 kz18
     try simp only [go_sem]
     refine W_cond rfl (fun c4 => ?_) (fun c4 => ?_)
     ·try simp only [nrm] at c4
      have hres2 : needsD c l rn s = ((v : Int), 0) := by
       rw [hres, if_neg (by rw [show has t.songs s = true by rw [has_iff]; exact List.mem_of_getElem? hxs]; simp), hfv1, show fr + 1 - v = (fr - v) + 1 by omega]
       simp only [findV]
       rw [if_pos c4]
      refine W_seq fun kz19 kq19 => ?_
      refine W_region [8, 9] fun R hR => ?_
      simp only [go_sem]
      refine hR _ _ (kq19 _ _ ?_); clear hR R; try clear kq19 kz19
      try simp only [go_sem]
      refine W_ret ?_
      simp only [go_sem]
      refine ⟨.inr (by trivial), ?_⟩
      first | rw [hres2] | rw [hres]
      refine Fin_same hcl rfl (Wk.ro (by simp only [go_sem]) ?_)
      try simp only [go_sem]
      all_goals
       first | rfl | (simp only [go_sem]; done)
     ·try simp only [nrm] at c4
      have hfv2 : findV (fun v => mayT t c s v) (fr + 1) 0 = findV (fun v => mayT t c s v) (fr + 1 - (v + 1)) (v + 1) := by
       rw [hfv1, show fr + 1 - v = (fr + 1 - (v + 1)) + 1 by omega]
       simp only [findV]
       rw [if_neg (by simp [c4])]
      refine W_skip (kq17 _ _ ?_)
      refine W_region [2, 3, 4, 11, 12, 13, 14, 15, 16] fun R hR => ?_
      simp only [go_sem]
      try simp (disch := omega) only [wrapI, wrapU]
      refine hR _ _ ?_; clear hR R
      try simp only [go_sem]
      refine ⟨v + 1, ?_, by (try simp only []); omega, ?_⟩
      ·first | exact Weak.refl | exact Weak.eq (by first | rfl | (simp only [go_sem]; done) | (simp only [go_sem]; rfl) | (simp [go_sem]; done) | (simp [go_sem]; omega)) (by first | rfl | (simp only [go_sem]; done) | (simp [go_sem]; done))
      ·try dsimp only
       exact ⟨by omega, fun _ => hfv2⟩
    ·try simp only [nrm] at c3
     have hnone : x = s → findV (fun v => mayT t c s v) (fr + 1) 0 = none := fun e => by
      have : ¬ v ≤ fr := fun h => by simp [e] at c3; omega
      rw [hfv e, show fr + 1 - v = 0 by omega]
      rfl
     refine W_exit ?_
     simp only [go_sem]
     refine kq13 _ _ ?_
     refine W_region [2, 3, 4, 11, 12, 13, 14, 15] fun R hR => ?_
     simp only [go_sem]
     try simp (disch := omega) only [wrapI, wrapU]
     refine hR _ _ ?_; clear hR R
     try simp only [go_sem]
     refine ⟨i + 1, ?_, by (try simp only []); omega, ?_⟩
     ·first | exact Weak.refl | exact Weak.eq (by first | rfl | (simp only [go_sem]; done) | (simp only [go_sem]; rfl) | (simp [go_sem]; done) | (simp [go_sem]; omega)) (by first | rfl | (simp only [go_sem]; done) | (simp [go_sem]; done))
     ·try dsimp only
      refine ⟨hi', fun y hy e => ?_⟩
      rw [List.take_add_one, hx] at hy
      rcases List.mem_append.1 hy with h | h
      ·exact hno y h e
      ·simp at h
       exact hnone (h ▸ e)
   ·simp only [go_sem, hil, hx]
    refine GWant_split (fun g1 => ?_) (fun g1 => ?_)
    ·try simp only [Bool.not_eq_true', Bool.not_eq_false'] at g1
     have n1 := g1; try simp only [nrm] at n1
     have hgx : x = s := by simpa using g1
     simp only [go_sem, hil, hx, g1]
     refine hR _ ?_
     all_goals try simp only [go_sem, hil, hx]
     all_goals
      first | (rw [decide_eq_true hgx, Bool.true_and]; done) | (rw [decide_eq_false hgx, Bool.false_and]; done)
    ·try simp only [Bool.not_eq_true', Bool.not_eq_false'] at g1
     have n1 := g1; try simp only [nrm] at n1
     have hgx : ¬ x = s := by simpa using g1
     simp only [go_sem, hil, hx, g1]
     refine hR _ ?_
     all_goals try simp only [go_sem, hil, hx]
     all_goals
      first | (rw [decide_eq_true hgx, Bool.true_and]; done) | (rw [decide_eq_false hgx, Bool.false_and]; done)
  ·try simp only [nrm] at c2
   have hie : t.songs.length = i := by first | omega | (simp at c2; omega)
   rw [← hie, List.take_length] at hno
   have hres2 : needsD c l rn s = (0, 7) := by
    rw [hres]
    by_cases hh : has t.songs s = true
    ·rw [if_neg (by simp [hh]), hno s (has_iff.1 hh) rfl]
    ·rw [if_pos (by simpa using hh)]
   refine W_exit ?_
   simp only [go_sem]
   refine kq9 _ _ ?_
   refine W_seq fun kz20 kq20 => ?_
   refine W_region [8, 9] fun R hR => ?_
   simp only [go_sem]
   refine hR _ _ (kq20 _ _ ?_); clear hR R; try clear kq20 kz20
   try simp only [go_sem]
   refine W_ret ?_
   simp only [go_sem]
   refine ⟨.inr (by trivial), ?_⟩
   first | rw [hres2] | rw [hres]
   refine Fin_same hcl rfl (Wk.ro (by simp only [go_sem]) ?_)
   try simp only [go_sem]
   all_goals
    first | rfl | (simp only [go_sem]; done)
end Go.Proofs.YtnolifglhhjdnaaGreat
namespace Go.Proofs.YtnolifglhhjdnaaGreat
open Go Go.RowKit
set_option maxRecDepth 100000
theorem needsD_err {c : Contest} {l : List Ballot} {rd s : Int} (h : chkRnd c l rd ≠ 0) : needsD c l rd s = (0, chkRnd c l rd) := by unfold needsD; rw [if_pos h]
set_option maxHeartbeats 8000000 in
theorem Needs_pc (Y : YEnv) (σ : Sg) (c : Contest) (l : List Ballot) (rd s : Int) (hr : c.rounds.length < 2 ^ 40) (hl : l.length < 2 ^ 40) :
  PC Tryz.prog Y 35 [cnPV c, bls l, I rd, I s] σ (.tuple [I (needsD c l rd s).1, I (needsD c l rd s).2]) (σ) := by
 refine PC_of_W Tryz.func35 rfl (by kernel_rfl) Tryz.ntmps35 (by simp) fun hcl hca => ?_
 refine W_seq fun kz1 kq1 => ?_
 refine W_region [1, 2, 3, 4] fun R hR => ?_
 simp only [go_sem, allIn1]
 refine hR _ _ (kq1 _ _ ?_); clear hR R; try clear kq1 kz1
 try simp only [go_sem, allIn1]
 refine W_seq fun kz2 kq2 => ?_
 refine W_seq fun kz3 kq3 => ?_
 refine W_region [1, 2, 3, 4, 10] fun R hR => ?_
 simp only [go_sem, allIn1]
 refine GCall_of (chkBls_pc Y _ c l hr hl) ?_
 simp only [go_sem, allIn1]
 refine hR _ _ (kq3 _ _ ?_); clear hR R; try clear kq3 kz3
 try simp only [go_sem, allIn1]
 refine W_seq fun kz4 kq4 => ?_
 refine W_region [1, 2, 3, 4, 10, 17] fun R hR => ?_
 simp only [go_sem, allIn1]
 refine hR _ _ (kq4 _ _ ?_); clear hR R; try clear kq4 kz4
 try simp only [go_sem, allIn1]
 refine W_cond rfl (fun c1 => ?_) (fun c1 => ?_)
 ·try simp only [nrm] at c1
  have hck : chkRnd c l rd = chkBls c l := by unfold chkRnd; rw [if_pos c1]
  have hres := needsD_err (s := s) (rd := rd) (show chkRnd c l rd ≠ 0 by rw [hck]; exact c1)
  rw [hck] at hres
  refine W_seq fun kz5 kq5 => ?_
  refine W_region [8, 9] fun R hR => ?_
  simp only [go_sem, allIn1]
  refine hR _ _ (kq5 _ _ ?_); clear hR R; try clear kq5 kz5
  try simp only [go_sem, allIn1]
  refine W_ret ?_
  simp only [go_sem, allIn1]
  refine ⟨.inr (by trivial), ?_⟩
  rw [hres]
  refine Fin_same hcl rfl (Wk.ro (by simp only [go_sem]) ?_)
  try simp only [go_sem]
  all_goals
   first | rfl | (simp only [go_sem]; done)
 ·try simp only [nrm] at c1
  refine W_skip (kq2 _ _ ?_)
  refine W_seq fun kz6 kq6 => ?_
  refine W_seq fun kz7 kq7 => ?_
  refine W_region [1, 2, 3, 4, 26] fun R hR => ?_
  simp only [go_sem, allIn1]
  try simp (disch := omega) only [wrapI, wrapU]
  refine GCall_of (in_pc Y _ 0 ((c.rounds.length : Int) - 1) [rd] .exact (by simp)) ?_
  simp only [go_sem, allIn1]
  try simp (disch := omega) only [wrapI, wrapU]
  refine hR _ _ (kq7 _ _ ?_); clear hR R; try clear kq7 kz7
  try simp only [go_sem, allIn1]
  refine W_cond rfl (fun c2 => ?_) (fun c2 => ?_)
  ·try simp only [nrm] at c2
   have hck : chkRnd c l rd = 2 := by unfold chkRnd; rw [if_neg (by simp [c1]), if_pos (by simpa using c2)]
   have hres := needsD_err (s := s) (rd := rd) (show chkRnd c l rd ≠ 0 by rw [hck]; decide)
   rw [hck] at hres
   refine W_seq fun kz8 kq8 => ?_
   refine W_region [8, 9] fun R hR => ?_
   simp only [go_sem, allIn1]
   refine hR _ _ (kq8 _ _ ?_); clear hR R; try clear kq8 kz8
   try simp only [go_sem, allIn1]
   refine W_ret ?_
   simp only [go_sem, allIn1]
   refine ⟨.inr (by trivial), ?_⟩
   rw [hres]
   refine Fin_same hcl rfl (Wk.ro (by simp only [go_sem]) ?_)
   try simp only [go_sem]
   all_goals
    first | rfl | (simp only [go_sem]; done)
  ·try simp only [nrm] at c2
   have hck : chkRnd c l rd = 0 := by unfold chkRnd; rw [if_neg (by simp [c1]), if_neg (by simpa using c2)]
   obtain ⟨rn, t, fr, rfl, hO⟩ := rnd_ok hck
   obtain ⟨hV, hl3, hb, hnd, ht, hrr, hte, hT, hsn, hff, hf2, hop, hsb⟩ := hO
   have hsl := hT.sl
   have hml := rdsT_m t (List.mem_of_getElem? ht)
   have hrn0 : rn < c.rounds.length := (List.getElem?_eq_some_iff.1 hrr).1
   obtain ⟨ts, hts⟩ : ∃ z, roundsT c l = z := ⟨_, rfl⟩
   have htl : ts.length = c.rounds.length := by rw [← hts]; exact rdsT_len
   have htt : ts[rn]? = some t := by rw [← hts]; exact ht
   have hrn : (rn : Int) < (ts.length : Int) := by omega
   have hfn : (freeT t c + 1).toNat = fr + 1 := by omega
   have hfw : IntKind.i64.wrap ((fr : Int) + 1) = (fr : Int) + 1 := wrapI (by omega) (by omega)
   have hres : needsD c l rn s = if has t.songs s = false then ((0, 7) : Int × Int) else match findV (fun v => mayT t c s v) (fr + 1) 0 with | some v => ((v : Int), (0 : Int)) | none => ((0, 7) : Int × Int) := by unfold needsD; rw [if_neg (by simp [hck]), Int.toNat_natCast, ht]; simp only [hfn]; first | done | rfl
   refine W_skip (kq6 _ _ ?_)
   refine W_seq fun kz9 kq9 => ?_
   obtain ⟨τ, hτ⟩ : ∃ z, σ.ext (some [I c.songs, I c.juries, I c.members, I c.most, rds c.rounds] :: none :: mapsOf ts) [] = z := ⟨_, rfl⟩
   have hτr : τ.rooms.length = σ.rooms.length := by rw [← hτ]; simp [Sg.ext]
   have hτl : τ.store.length = σ.store.length + 1 + 1 + ts.length := by rw [← hτ]; simp only [Sg.len_ext, List.length_cons, mapsOf_len]; omega
   have hclτ : CleanSg τ := by rw [← hτ]; exact CleanSg_ext hcl (by show CleanLs _ _ _ _; simp only [go_sem])
   have hd0 : τ.store[σ.store.length]? = some (some [I c.songs, I c.juries, I c.members, I c.most, rds c.rounds]) := by rw [← hτ]; exact Sg.get_ext0 ..
   have hmp : τ.store[σ.store.length + 1 + 1 + rn]? = some (some (.mark :: mapE vcPV I t.m)) := by
    rw [← hτ, show σ.store.length + 1 + 1 + rn = σ.store.length + (rn + 1 + 1) by omega, Sg.get_ext]
    simp only [List.getElem?_cons_succ]
    exact mapsOf_get htt
   have hτe : σ.ext (some [I c.songs, I c.juries, I c.members, I c.most, rds c.rounds] :: none :: mapsOf ts) [] = τ.ext [] [] := by rw [hτ]; simp [Sg.ext]
   refine W_regionN [3, 4, 11] 3 fun R hR => ?_
   simp only [go_sem, allIn1, iaX_tls htt, elA_tls htt, tlPV, tlCells, hrn, GLw]
   refine GCall_of (rounds_pc Y _ c l hV hl3 hb) ?_
   simp only [go_sem, allIn1, iaX_tls htt, elA_tls htt, tlPV, tlCells, hrn, GLw]
   simp only [hts]
   refine ⟨_, _, Weak.eq rfl hτe, ?_⟩
   simp only [go_sem, allIn1, iaX_tls htt, elA_tls htt, tlPV, tlCells, hrn, GLw]
   refine hR _ _ (kq9 _ _ ?_); clear hR R; try clear kq9 kz9
   try simp only [go_sem, allIn1]
   refine W_seq fun kz10 kq10 => ?_
   refine W_seq fun kz11 kq11 => ?_
   refine W_region [3, 4, 11, 37] fun R hR => ?_
   simp only [go_sem, allIn1, tl_songs]
   refine GCall_of (contains_pc Y _ t.songs .ro s (by omega)) ?_
   simp only [go_sem, allIn1, tl_songs]
   refine hR _ _ (kq11 _ _ ?_); clear hR R; try clear kq11 kz11
   try simp only [go_sem, allIn1]
   refine W_cond rfl (fun c3 => ?_) (fun c3 => ?_)
   ·try simp only [nrm] at c3
    have hres2 : needsD c l rn s = (0, 7) := by rw [hres, if_pos (by simpa using c3)]
    refine W_seq fun kz12 kq12 => ?_
    refine W_region [8, 9] fun R hR => ?_
    simp only [go_sem, allIn1]
    refine hR _ _ (kq12 _ _ ?_); clear hR R; try clear kq12 kz12
    try simp only [go_sem, allIn1]
    refine W_ret ?_
    simp only [go_sem, allIn1]
    refine ⟨.inr (by trivial), ?_⟩
    rw [hres2, ← hτ, Sg.ext_ext]
    refine Fin_same hcl rfl (Wk.ro (by simp only [go_sem]) ?_)
    try simp only [go_sem]
    all_goals
     first | rfl | (simp only [go_sem]; done)
   ·try simp only [nrm] at c3
    have hhas : has t.songs s = true := by simpa using c3
    rw [if_neg (by simp [hhas])] at hres
    have hsb2 := hT.sg s (has_iff.1 hhas)
    obtain ⟨sn, hsnx⟩ : ∃ z : Nat, s = z := ⟨s.toNat, by omega⟩
    subst hsnx
    refine W_skip (kq10 _ _ ?_)
    refine W_seq fun kz13 kq13 => ?_
    refine W_seq fun kz14 kq14 => ?_
    refine W_region [3, 4, 11, 41, 42] fun R hR => ?_
    simp only [go_sem, allIn1, tlPV, tl_len, tl_take21, ldA_at (get_extx hd0), hfw]
    refine GCall_of (PC.val (v' := I fr) (free_pc Y _ (σ.store.length + 1 + 1 + rn) t c (get_extx hmp) (by omega) hV) (by rw [hff])) ?_
    simp only [go_sem, allIn1, tlPV, tl_len, tl_take21, ldA_at (get_extx hd0), hfw]
    try simp (disch := omega) only [wrapI, wrapU]
    refine hR _ _ (kq14 _ _ ?_); clear hR R; try clear kq14 kz14
    try simp only [go_sem, allIn1]
    refine W_block ?_
    refine W_loopT (α := Nat) (fun (v : Nat) => [(42, I v)]) (fun (v : Nat) => τ.ext [some (tlCells (σ.store.length + 1 + 1 + rn) t)] []) (fun (v : Nat) => v ≤ fr + 1 ∧ findV (fun v => mayT t c sn v) (fr + 1) 0 = findV (fun v => mayT t c sn v) (fr + 1 - v) v) (fun (v : Nat) => fr + 1 - v) (0) rfl (by first | rfl | (simp only [go_sem]; done) | (simp only [go_sem]; rfl)) (⟨Nat.zero_le _, rfl⟩) ?_
    rintro v ⟨hv, hfv⟩
    refine W_seq fun kz15 kq15 => ?_
    refine W_region [3, 4, 11, 41, 42, 43] fun R hR => ?_
    simp only [go_sem, allIn1]
    refine hR _ _ (kq15 _ _ ?_); clear hR R; try clear kq15 kz15
    try simp only [go_sem, allIn1]
    refine W_seq fun kz16 kq16 => ?_
    refine W_cond rfl (fun c4 => ?_) (fun c4 => ?_)
    ·try simp only [nrm] at c4
     have hv1 : v < fr + 1 := by first | omega | (simp at c4; omega)
     refine W_skip (kq16 _ _ ?_)
     refine W_seq fun kz17 kq17 => ?_
     refine W_block ?_
     refine W_seq fun kz18 kq18 => ?_
     refine W_region [3, 4, 11, 12, 41, 42] fun R hR => ?_
     simp only [go_sem, allIn1]
     refine hR _ _ (kq18 _ _ ?_); clear hR R; try clear kq18 kz18
     try simp only [go_sem, allIn1]
     refine W_seq fun kz19 kq19 => ?_
     refine W_region [3, 4, 11, 12, 41, 42, 49] fun R hR => ?_
     simp only [go_sem, allIn1, tlPV, tl_len, tl_take21, ldA_at (get_extx hd0)]
     refine GCall_of (may_pc Y _ (σ.store.length + 1 + 1 + rn) t c (get_extx hmp) (by omega) hV hT sn (by omega) v (by omega)) ?_
     simp only [go_sem, allIn1, tlPV, tl_len, tl_take21, ldA_at (get_extx hd0)]
     refine hR _ _ (kq19 _ _ ?_); clear hR R; try clear kq19 kz19
     try simp only [go_sem, allIn1]
     refine W_cond rfl (fun c5 => ?_) (fun c5 => ?_)
     ·try simp only [nrm] at c5
      have hres2 : needsD c l rn sn = ((v : Int), 0) := by
       rw [hres, hfv, show fr + 1 - v = (fr - v) + 1 by omega]
       simp only [findV]
       rw [if_pos c5]
      refine W_seq fun kz20 kq20 => ?_
      refine W_region [8, 9] fun R hR => ?_
      simp only [go_sem, allIn1]
      refine hR _ _ (kq20 _ _ ?_); clear hR R; try clear kq20 kz20
      try simp only [go_sem, allIn1]
      refine W_ret ?_
      simp only [go_sem, allIn1]
      refine ⟨.inr (by trivial), ?_⟩
      rw [hres2, ← hτ, Sg.ext_ext]
      refine Fin_same hcl rfl (Wk.ro (by simp only [go_sem]) ?_)
      try simp only [go_sem]
      all_goals
       first | rfl | (simp only [go_sem]; done)
     ·try simp only [nrm] at c5
      have hfv2 : findV (fun v => mayT t c sn v) (fr + 1) 0 = findV (fun v => mayT t c sn v) (fr + 1 - (v + 1)) (v + 1) := by
       rw [hfv, show fr + 1 - v = (fr + 1 - (v + 1)) + 1 by omega]
       simp only [findV]
       rw [if_neg (by simp [c5])]
      refine W_skip (kq17 _ _ ?_)
      refine W_region [3, 4, 11, 41, 42] fun R hR => ?_
      simp only [go_sem, allIn1]
      try simp (disch := omega) only [wrapI, wrapU]
      refine hR _ _ ?_; clear hR R
      try simp only [go_sem, allIn1]
      refine ⟨v + 1, ?_, by (try simp only []); omega, ?_⟩
      ·first | exact Weak.refl | exact Weak.eq (by first | rfl | (simp only [go_sem]; done) | (simp only [go_sem]; rfl) | (simp [go_sem]; done) | (simp [go_sem]; omega)) (by first | rfl | (simp only [go_sem]; done) | (simp [go_sem]; done))
      ·try dsimp only
       exact ⟨by omega, hfv2⟩
    ·try simp only [nrm] at c4
     have hve : fr + 1 = v := by first | omega | (simp at c4; omega)
     have hres2 : needsD c l rn sn = (0, 7) := by
      rw [hres, hfv, show fr + 1 - v = 0 by omega]
      rfl
     refine W_exit ?_
     simp only [go_sem, allIn1]
     refine kq13 _ _ ?_
     refine W_seq fun kz21 kq21 => ?_
     refine W_region [8, 9] fun R hR => ?_
     simp only [go_sem, allIn1]
     refine hR _ _ (kq21 _ _ ?_); clear hR R; try clear kq21 kz21
     try simp only [go_sem, allIn1]
     refine W_ret ?_
     simp only [go_sem, allIn1]
     refine ⟨.inr (by trivial), ?_⟩
     rw [hres2, ← hτ, Sg.ext_ext]
     refine Fin_same hcl rfl (Wk.ro (by simp only [go_sem]) ?_)
     try simp only [go_sem]
     all_goals
      first | rfl | (simp only [go_sem]; done)
end Go.Proofs.YtnolifglhhjdnaaGreat
namespace Go.Proofs.YtnolifglhhjdnaaGreat
open Go Go.RowKit
set_option maxRecDepth 100000
end Go.Proofs.YtnolifglhhjdnaaGreat
namespace Go.Proofs.YtnolifglhhjdnaaGreat
open Go Go.RowKit
set_option maxRecDepth 100000
theorem roL_bools {xs : List Bool} : PV.roL (xs.map PV.bool) = xs.map PV.bool := roL_enc fun x => by simp only [ro_bool]
attribute [go_sem] roL_bools
theorem okC_bools {xs : List Bool} : okC 1 (xs.map PV.bool) = True := okC_map fun x => by simp [okC, PV.cells, PV.scalar]
attribute [go_sem] okC_bools
end Go.Proofs.YtnolifglhhjdnaaGreat
namespace Go.Proofs.YtnolifglhhjdnaaGreat
open Go
set_option maxRecDepth 100000
def firstLeft (out l : List Int) : Option Int := l.find? fun s => !has out s
def manyFor (out : List Int) (ls : List (List Int)) (s : Int) : Nat := ls.countP fun l => decide (firstLeft out l = some s)
theorem manyFor_snoc (out : List Int) (ls : List (List Int)) (l : List Int) (s : Int) : manyFor out (ls ++ [l]) s = manyFor out ls s + (if firstLeft out l = some s then 1 else 0) := by
 simp [manyFor, List.countP_append, List.countP_cons]
theorem manyFor_le (out : List Int) (ls : List (List Int)) (s : Int) : manyFor out ls s ≤ ls.length := List.countP_le_length
def worstF (out : List Int) (ls : List (List Int)) : Nat → Int
 | 0 => -1
 | i + 1 => if !has out i && (decide (worstF out ls i < 0) || decide (manyFor out ls i ≤ manyFor out ls (worstF out ls i))) then (i : Int) else worstF out ls i
theorem worstF_bd (out : List Int) (ls : List (List Int)) : ∀ i, (worstF out ls i = -1 ∧ ∀ s : Nat, s < i → has out s = true) ∨ (0 ≤ worstF out ls i ∧ worstF out ls i < i ∧ has out (worstF out ls i) = false) := by
 intro i
 induction i with
 | zero => exact .inl ⟨rfl, fun s h => by omega⟩
 | succ i ih =>
  simp only [worstF]
  split
  ·rename_i h
   right
   simp only [Bool.and_eq_true, Bool.not_eq_true'] at h
   exact ⟨by omega, by omega, h.1⟩
  ·rename_i h
   rcases ih with ⟨h1, h2⟩ | ⟨h1, h2, h3⟩
   ·left
    refine ⟨h1, fun s hs => ?_⟩
    by_cases e : s = i
    ·subst e
     rw [h1] at h
     simpa using h
    ·exact h2 s (by omega)
   ·right; exact ⟨h1, by omega, h3⟩
def runU (n : Nat) (ls : List (List Int)) : Nat → List Int
 | 0 => []
 | i + 1 => runU n ls i ++ [worstF (runU n ls i) ls n]
theorem runU_len (n : Nat) (ls : List (List Int)) : ∀ i, (runU n ls i).length = i := by
 intro i
 induction i with
 | zero => rfl
 | succ i ih => simp [runU, ih]
theorem sub_len : ∀ {l l' : List Int}, l.Nodup → (∀ x, x ∈ l → x ∈ l') → l.length ≤ l'.length := by
 intro l
 induction l with
 | nil => intro l' _ _; simp
 | cons a l ih =>
  intro l' hn hs
  obtain ⟨h1, h2⟩ := List.nodup_cons.1 hn
  have ha := hs a (by simp)
  have := ih (l' := l'.erase a) h2 fun x hx => (List.mem_erase_of_ne (show x ≠ a from fun e => h1 (by rw [← e]; exact hx))).2 (hs x (by simp [hx]))
  rw [List.length_erase_of_mem ha] at this
  have hp := List.length_pos_of_mem ha
  simp only [List.length_cons]
  omega
theorem some_left {n : Nat} {out : List Int} (h : out.length < n) : ∃ s : Nat, s < n ∧ has out s = false := by
 refine Classical.byContradiction fun hh => ?_
 have hall : ∀ s : Nat, s < n → has out s = true := fun s hs => by
  cases e : has out s with
  | true => rfl
  | false => exact absurd ⟨s, hs, e⟩ hh
 have hnd : ((List.range n).map fun s : Nat => (s : Int)).Nodup := by
  rw [List.nodup_iff_pairwise_ne, List.pairwise_map]
  exact (List.nodup_iff_pairwise_ne.1 List.nodup_range).imp fun h e => h (by omega)
 have := sub_len hnd (l' := out) fun x hx => by
  obtain ⟨s, hs, rfl⟩ := List.mem_map.1 hx
  exact has_iff.1 (hall s (List.mem_range.1 hs))
 simp at this
 omega
theorem worst_ok {n : Nat} {out : List Int} (ls : List (List Int)) (h : out.length < n) : 0 ≤ worstF out ls n ∧ worstF out ls n < n ∧ has out (worstF out ls n) = false := by
 rcases worstF_bd out ls n with ⟨_, h2⟩ | h2
 ·obtain ⟨s, hs, e⟩ := some_left h
  rw [h2 s hs] at e; cases e
 ·exact h2
theorem runU_ok (n : Nat) (ls : List (List Int)) : ∀ i, i ≤ n → (∀ x, x ∈ runU n ls i → 0 ≤ x ∧ x < n) ∧ (runU n ls i).Nodup := by
 intro i
 induction i with
 | zero => intro _; exact ⟨fun x hx => absurd hx (by simp [runU]), by simp [runU]⟩
 | succ i ih =>
  intro hi
  obtain ⟨h1, h2⟩ := ih (by omega)
  obtain ⟨w1, w2, w3⟩ := worst_ok (n := n) (out := runU n ls i) ls (by rw [runU_len]; omega)
  refine ⟨fun x hx => ?_, ?_⟩
  ·simp only [runU, List.mem_append, List.mem_singleton] at hx
   rcases hx with hx | rfl
   ·exact h1 x hx
   ·exact ⟨w1, w2⟩
  ·simp only [runU]
   rw [List.nodup_append]
   refine ⟨h2, by simp, fun a ha b hb e => ?_⟩
   simp at hb
   subst hb e
   rw [has_iff.2 ha] at w3; cases w3
def winF (out : List Int) : Nat → Nat → Int
 | 0, i => i
 | k + 1, i => if has out i then winF out k (i + 1) else i
def runoffA (n : Int) (ls : List (List Int)) : List Int × Int × Int :=
 if chkPf n ls ≠ 0 then ([], 0, chkPf n ls) else (runU n.toNat ls (n.toNat - 1), winF (runU n.toNat ls (n.toNat - 1)) n.toNat 0, 0)
def goneC (out : List Int) : List PV := (List.range 8).map fun s : Nat => PV.bool (has out s)
def manyC (out : List Int) (ls : List (List Int)) : List PV := (List.range 8).map fun s : Nat => I (manyFor out ls s : Nat)
theorem goneC_get {out : List Int} {s : Nat} (h : s < 8) : (goneC out)[s]? = some (.bool (has out s)) := by simp [goneC, h]
theorem manyC_get {out : List Int} {ls : List (List Int)} {s : Nat} (h : s < 8) : (manyC out ls)[s]? = some (I (manyFor out ls s : Nat)) := by simp [manyC, h]
theorem has_snoc {out : List Int} {w v : Int} : has (out ++ [w]) v = (has out v || decide (w = v)) := by simp [has, List.any_append]
theorem goneC_set {out : List Int} {s : Nat} (h : s < 8) : (goneC out).set s (.bool true) = goneC (out ++ [(s : Int)]) := by
 apply List.ext_getElem?
 intro i
 by_cases e : s = i
 ·subst e
  rw [List.getElem?_set_self (by simpa [goneC] using h), goneC_get h, has_snoc]
  simp
 ·rw [List.getElem?_set_ne e]
  by_cases hi : i < 8
  ·rw [goneC_get hi, goneC_get hi, has_snoc]
   simp; omega
  ·simp [goneC, hi]
theorem manyC_none {out : List Int} {ls : List (List Int)} {l : List Int} (h : firstLeft out l = none) : manyC out (ls ++ [l]) = manyC out ls := by
 unfold manyC
 refine List.map_congr_left fun s _ => ?_
 rw [manyFor_snoc, if_neg (by rw [h]; simp)]
 rfl
theorem manyC_some {out : List Int} {ls : List (List Int)} {l : List Int} {s : Nat} (h : s < 8) (hf : firstLeft out l = some (s : Int)) : (manyC out ls).set s (I ((manyFor out ls s : Nat) + 1)) = manyC out (ls ++ [l]) := by
 apply List.ext_getElem?
 intro i
 by_cases e : s = i
 ·subst e
  rw [List.getElem?_set_self (by simpa [manyC] using h), manyC_get h, manyFor_snoc, if_pos hf]
  rfl
 ·rw [List.getElem?_set_ne e]
  by_cases hi : i < 8
  ·rw [manyC_get hi, manyC_get hi, manyFor_snoc, if_neg (by rw [hf]; intro h; injection h with h; omega)]
   rfl
  ·simp [manyC, hi]
theorem firstLeft_at {out l : List Int} {k : Nat} {v : Int} (hk : ∀ x, x ∈ l.take k → has out x = true) (hv : l[k]? = some v) (h : has out v = false) : firstLeft out l = some v := by
 have hlt := (List.getElem?_eq_some_iff.1 hv).1
 unfold firstLeft
 rw [List.find?_eq_some_iff_append]
 refine ⟨by simp [h], l.take k, l.drop (k + 1), ?_, fun x hx => by simp [hk x hx]⟩
 conv => lhs; rw [← List.take_append_drop k l]
 rw [List.drop_eq_getElem_cons hlt, (List.getElem?_eq_some_iff.1 hv).2]
theorem firstLeft_none {out l : List Int} (h : ∀ x, x ∈ l → has out x = true) : firstLeft out l = none := by
 unfold firstLeft
 rw [List.find?_eq_none]
 intro x hx
 simp [h x hx]
end Go.Proofs.YtnolifglhhjdnaaGreat
namespace Go.Proofs.YtnolifglhhjdnaaGreat
open Go Go.RowKit
set_option maxRecDepth 100000
theorem goneC_len (out : List Int) : (goneC out).length = 8 := by simp [goneC]
theorem manyC_len (out : List Int) (ls : List (List Int)) : (manyC out ls).length = 8 := by simp [manyC]
theorem goneC_clean {a b c : Nat} (out : List Int) : CleanAll a b c (goneC out) := by
 intro p hp
 obtain ⟨s, _, rfl⟩ := List.mem_map.1 hp
 simp only [go_sem]
theorem beqB2 {a b : Bool} : eqPV Tryz.prog 4 (.bool a) (.bool b) = some (decide (a = b)) := by cases a <;> cases b <;> kernel_rfl
theorem sl86 {id : Nat} {k : IntKind} {n : Nat} (h0 : 0 < n) (h8 : n ≤ 8) : slicePV Tryz.prog 134 (.ptr id 0) none (some (.int k n)) none = some (.msl id 0 n) := by
 unfold slicePV
 rw [Tryz.underlying134]
 simp only [Tryz.underlying4, bnd]
 simp [h8]
 omega
def idxF (out : List Int) : Nat → Nat → Int
 | 0, _ => -1
 | k + 1, i => if has out i = false then i else idxF out k (i + 1)
theorem idxF_eq {n : Nat} {out : List Int} : ∀ (k i : Nat), i + k = n → (∃ s : Nat, i ≤ s ∧ s < n ∧ has out s = false) → idxF out k i = winF out k i := by
 intro k
 induction k with
 | zero => rintro i h ⟨s, h1, h2, _⟩; omega
 | succ k ih =>
  rintro i h ⟨s, h1, h2, h3⟩
  simp only [idxF, winF]
  cases e : has out i with
  | false => simp
  | true =>
   simp only [Bool.true_eq_false, if_false, if_true]
   exact ih (i + 1) (by omega) ⟨s, by
    by_cases q : s = i
    ·subst q; rw [e] at h3; cases h3
    ·omega, h2, h3⟩
set_option maxHeartbeats 2000000 in
theorem gIndex_pc (Y : YEnv) (σ : Sg) (out : List Int) (id n : Nat) (hn8 : n ≤ 8) (hd : σ.store[id]? = some (some (goneC out))) :
  PC Tryz.prog Y 79 [.msl id 0 n, .bool false] σ (I (idxF out n 0)) (σ) := by
 refine PC_of_W Tryz.func79 rfl (by kernel_rfl) Tryz.ntmps79 (by simp) fun hcl hca => ?_
 obtain ⟨res, hres⟩ : ∃ r, idxF out n 0 = r := ⟨_, rfl⟩
 rw [hres]
 refine W_seq fun kz1 kq1 => ?_
 refine W_region [0, 1] fun R hR => ?_
 simp only [go_sem, beqB2, ldS_at hd]
 refine hR _ _ (kq1 _ _ ?_); clear hR R; try clear kq1 kz1
 try simp only [go_sem, beqB2, ldS_at hd]
 refine W_seq fun kz2 kq2 => ?_
 refine W_seq fun kz3 kq3 => ?_
 refine W_region [0, 1, 7, 8] fun R hR => ?_
 simp only [go_sem, beqB2, ldS_at hd]
 refine hR _ _ (kq3 _ _ ?_); clear hR R; try clear kq3 kz3
 try simp only [go_sem, beqB2, ldS_at hd]
 refine W_block ?_
 refine W_loopS (α := Nat) (fun (i : Nat) => [(8, I i)]) (fun (i : Nat) => i ≤ n ∧ res = idxF out (n - i) i) (fun (i : Nat) => n - i) (0) rfl (⟨Nat.zero_le _, hres.symm⟩) ?_
 rintro i ⟨hi, hinv⟩
 refine W_seq fun kz4 kq4 => ?_
 refine W_region [0, 1, 7, 8, 9] fun R hR => ?_
 simp only [go_sem, beqB2, ldS_at hd]
 refine hR _ _ (kq4 _ _ ?_); clear hR R; try clear kq4 kz4
 try simp only [go_sem, beqB2, ldS_at hd]
 refine W_seq fun kz5 kq5 => ?_
 refine W_cond rfl (fun c1 => ?_) (fun c1 => ?_)
 ·try simp only [nrm] at c1
  have hin : i < n := by first | assumption | omega
  have hin2 : (i : Int) < (n : Int) := by omega
  obtain ⟨k, hk⟩ : ∃ k, n - i = k + 1 := ⟨n - i - 1, by omega⟩
  rw [hk] at hinv
  simp only [idxF] at hinv
  have hg := goneC_get (out := out) (s := i) (by omega)
  refine W_skip (kq5 _ _ ?_)
  refine W_seq fun kz6 kq6 => ?_
  refine W_block ?_
  refine W_seq fun kz7 kq7 => ?_
  refine W_region [0, 1, 5, 7, 8] fun R hR => ?_
  simp only [go_sem, beqB2, ldS_at hd, hg]
  refine hR _ _ (kq7 _ _ ?_); clear hR R; try clear kq7 kz7
  try simp only [go_sem, beqB2, ldS_at hd, hg]
  refine W_seq fun kz8 kq8 => ?_
  refine W_region [0, 1, 5, 7, 8, 16] fun R hR => ?_
  simp only [go_sem, beqB2, ldS_at hd, hg, hin2, iaM_nat (Int.ofNat_lt.1 hin2), Nat.mul_one, Nat.zero_add, bindSome]
  refine hR _ _ (kq8 _ _ ?_); clear hR R; try clear kq8 kz8
  try simp only [go_sem, beqB2, ldS_at hd, hg]
  refine W_cond rfl (fun c2 => ?_) (fun c2 => ?_)
  ·try simp only [nrm] at c2
   refine W_seq fun kz9 kq9 => ?_
   refine W_region [4] fun R hR => ?_
   simp only [go_sem, beqB2, ldS_at hd, hg]
   refine hR _ _ (kq9 _ _ ?_); clear hR R; try clear kq9 kz9
   try simp only [go_sem, beqB2, ldS_at hd, hg]
   refine W_ret ?_
   simp only [go_sem, beqB2, ldS_at hd, hg]
   refine ⟨.inr (by trivial), ?_⟩
   first | refine Fin_same hcl rfl (Wk_eq ?_ (by simp only [go_sem])) | refine Fin_self hcl rfl (Wk_eq ?_ (by simp only [go_sem]))
   try simp only [go_sem]
   all_goals
    first | (rw [hinv]; done) | (rw [hinv]; simp_all; done) | rfl
  ·try simp only [nrm] at c2
   refine W_skip (kq6 _ _ ?_)
   refine W_region [0, 1, 7, 8] fun R hR => ?_
   simp only [go_sem, beqB2, ldS_at hd, hg]
   try simp (disch := omega) only [wrapI, wrapU]
   refine hR _ _ ?_; clear hR R
   try simp only [go_sem, beqB2, ldS_at hd, hg]
   refine ⟨i + 1, ?_, by (try simp only []); omega, ?_⟩
   ·first | exact Weak.refl | exact Weak.eq (by first | rfl | (simp only [go_sem]; done) | (simp only [go_sem]; rfl) | (simp [go_sem]; done) | (simp [go_sem]; omega)) (by first | rfl | (simp only [go_sem]; done) | (simp [go_sem]; done))
   ·try dsimp only
    refine ⟨hin, ?_⟩
    rw [hinv, show n - (i + 1) = k by omega]
    simp_all
 ·try simp only [nrm] at c1
  have hie : n - i = 0 := by omega
  rw [hie] at hinv
  simp only [idxF] at hinv
  refine W_exit ?_
  simp only [go_sem, beqB2, ldS_at hd]
  refine kq2 _ _ ?_
  refine W_seq fun kz10 kq10 => ?_
  refine W_region [4] fun R hR => ?_
  simp only [go_sem, beqB2, ldS_at hd]
  refine hR _ _ (kq10 _ _ ?_); clear hR R; try clear kq10 kz10
  try simp only [go_sem, beqB2, ldS_at hd]
  refine W_ret ?_
  simp only [go_sem, beqB2, ldS_at hd]
  refine ⟨.inr (by trivial), ?_⟩
  first | refine Fin_same hcl rfl (Wk_eq ?_ (by simp only [go_sem])) | refine Fin_self hcl rfl (Wk_eq ?_ (by simp only [go_sem]))
  try simp only [go_sem]
  all_goals
   first | (rw [hinv]; done) | (rw [hinv]; simp_all; done) | rfl
set_option maxHeartbeats 8000000 in
theorem Runoff_pc (Y : YEnv) (σ : Sg) (n : Int) (ls : List (List Int)) (hl : ls.length < 2 ^ 40) (hl2 : ∀ l, l ∈ ls → l.length < 2 ^ 40) :
  PC Tryz.prog Y 55 [I n, lls ls] σ (.tuple [ints (runoffA n ls).1, I (runoffA n ls).2.1, I (runoffA n ls).2.2]) (σ) := by
 refine PC_of_W Tryz.func55 rfl (by kernel_rfl) Tryz.ntmps55 (by simp) fun hcl hca => ?_
 refine W_seq fun kz1 kq1 => ?_
 refine W_region [0, 1, 4] fun R hR => ?_
 simp only [go_sem]
 refine hR _ _ (kq1 _ _ ?_); clear hR R; try clear kq1 kz1
 try simp only [go_sem]
 refine W_seq fun kz2 kq2 => ?_
 refine W_seq fun kz3 kq3 => ?_
 refine W_region [0, 1, 4, 7] fun R hR => ?_
 simp only [go_sem]
 refine GCall_of (chkPf_pc Y _ n ls hl hl2) ?_
 simp only [go_sem]
 refine hR _ _ (kq3 _ _ ?_); clear hR R; try clear kq3 kz3
 try simp only [go_sem]
 refine W_seq fun kz4 kq4 => ?_
 refine W_region [0, 1, 4, 7, 20] fun R hR => ?_
 simp only [go_sem]
 refine hR _ _ (kq4 _ _ ?_); clear hR R; try clear kq4 kz4
 try simp only [go_sem]
 refine W_cond rfl (fun c1 => ?_) (fun c1 => ?_)
 ·try simp only [nrm] at c1
  refine W_seq fun kz5 kq5 => ?_
  refine W_region [4, 5, 6] fun R hR => ?_
  simp only [go_sem]
  refine hR _ _ (kq5 _ _ ?_); clear hR R; try clear kq5 kz5
  try simp only [go_sem]
  refine W_ret ?_
  simp only [go_sem]
  refine ⟨.inr (by trivial), ?_⟩
  first | (rw [hall]; refine Fin_same hcl rfl (Wk.ro (by simp only [go_sem]) ?_)) | refine Fin_same hcl rfl (Wk.ro (by simp only [go_sem]) ?_) | refine Fin_self hcl rfl (Wk.ro (by simp only [go_sem]) ?_)
  try simp only [go_sem]
  all_goals
   simp only [runoffA]; rw [if_pos c1]; first | rfl | simp only [go_sem]
 ·try simp only [nrm] at c1
  have hV := pfV_iff.1 c1
  have hn1 := hV.nb
  obtain ⟨N, hN⟩ : ∃ z : Nat, n = z := ⟨n.toNat, by omega⟩
  have hall : runoffA n ls = (runU N ls (N - 1), winF (runU N ls (N - 1)) N 0, 0) := by
   unfold runoffA
   rw [if_neg (by simp [c1]), hN, Int.toNat_natCast]
  have hmem := fun l (h : l ∈ ls) => (chkRow_mem (hV.ck l h)).1
  subst hN
  refine W_skip (kq2 _ _ ?_)
  refine W_seq fun kz6 kq6 => ?_
  refine W_region [0, 1, 4, 8] fun R hR => ?_
  simp only [go_sem]
  refine hR _ _ (kq6 _ _ ?_); clear hR R; try clear kq6 kz6
  try simp only [go_sem]
  refine W_seq fun kz7 kq7 => ?_
  refine W_block ?_
  refine W_weak (Weak.room (t := 4) (es := 1) rfl (by simp)) ?_
  refine W_weak (Weak.keep [0, 1, 4, 8]) ?_
  simp only [go_sem]
  refine W_loopT (α := Nat) (fun (i : Nat) => [(4, .isl ((runU N ls i).map I) (.tok σ.rooms.length i 1))]) (fun (i : Nat) => σ.ext [some (goneC (runU N ls i))] [i]) (fun (i : Nat) => i ≤ N - 1) (fun (i : Nat) => N - 1 - i) (0) rfl (by first | rfl | (simp only [go_sem]; done) | (simp only [go_sem]; rfl)) (Nat.zero_le _) ?_
  rintro i hi
  have hrl := runU_len N ls i
  obtain ⟨out, hout⟩ : ∃ z, runU N ls i = z := ⟨_, rfl⟩
  rw [hout] at hrl
  rw [hout]
  refine W_seq fun kz8 kq8 => ?_
  refine W_seq fun kz9 kq9 => ?_
  refine W_region [0, 1, 4, 8, 26] fun R hR => ?_
  simp only [go_sem, hrl]
  try simp (disch := omega) only [wrapI, wrapU]
  refine hR _ _ (kq9 _ _ ?_); clear hR R; try clear kq9 kz9
  try simp only [go_sem, hrl]
  refine W_cond rfl (fun c2 => ?_) (fun c2 => ?_)
  ·try simp only [nrm] at c2
   have hiN : i < N - 1 := by first | omega | (simp at c2; omega)
   have hok := runU_ok N ls i (by omega)
   have hw := worst_ok (n := N) ls (out := out) (by omega)
   refine W_skip (kq8 _ _ ?_)
   refine W_block ?_
   refine W_scope ?_
   refine W_seq fun kz10 kq10 => ?_
   refine W_region [0, 1, 4, 8, 9] fun R hR => ?_
   simp only [go_sem, hrl]
   refine hR _ _ (kq10 _ _ ?_); clear hR R; try clear kq10 kz10
   try simp only [go_sem, hrl]
   refine W_seq fun kz11 kq11 => ?_
   refine W_label (kq11 _ _ ?_)
   refine W_seq fun kz12 kq12 => ?_
   refine W_seq fun kz13 kq13 => ?_
   refine W_region [0, 1, 4, 8, 9, 27, 28, 29] fun R hR => ?_
   simp only [go_sem, hrl]
   refine hR _ _ (kq13 _ _ ?_); clear hR R; try clear kq13 kz13
   try simp only [go_sem, hrl]
   refine W_block ?_
   refine W_loopT (α := Nat) (fun (j : Nat) => [(29, I j)]) (fun (j : Nat) => σ.ext [some (goneC out), some (manyC out (ls.take j))] [i]) (fun (j : Nat) => j ≤ ls.length) (fun (j : Nat) => ls.length - j) (0) rfl (by first | rfl | (simp only [go_sem]; done) | (simp only [go_sem]; rfl)) (Nat.zero_le _) ?_
   rintro j hj
   refine W_seq fun kz14 kq14 => ?_
   refine W_region [0, 1, 4, 8, 9, 27, 28, 29, 30] fun R hR => ?_
   simp only [go_sem, hrl]
   refine hR _ _ (kq14 _ _ ?_); clear hR R; try clear kq14 kz14
   try simp only [go_sem, hrl]
   refine W_seq fun kz15 kq15 => ?_
   refine W_cond rfl (fun c3 => ?_) (fun c3 => ?_)
   ·try simp only [nrm] at c3
    have hj' : j < ls.length := by first | assumption | omega
    obtain ⟨l, hlj⟩ : ∃ l, ls[j]? = some l := ⟨ls[j], by simp [hj']⟩
    have hdrop : ls.drop j = l :: ls.drop (j + 1) := by
     rw [List.drop_eq_getElem_cons hj']; congr 1; exact (List.getElem?_eq_some_iff.1 hlj).2
    have hsn : ls.take (j + 1) = ls.take j ++ [l] := by rw [List.take_add_one, hlj]; rfl
    have hlm := hmem l (List.mem_of_getElem? hlj)
    have hll := hl2 l (List.mem_of_getElem? hlj)
    have hj2 : j + 1 ≤ ls.length := hj'
    refine W_skip (kq15 _ _ ?_)
    refine W_seq fun kz16 kq16 => ?_
    refine W_block ?_
    refine W_seq fun kz17 kq17 => ?_
    refine W_region [0, 1, 4, 8, 9, 11, 27, 28, 29] fun R hR => ?_
    simp only [go_sem, hrl, hlj, llPV]
    refine hR _ _ (kq17 _ _ ?_); clear hR R; try clear kq17 kz17
    try simp only [go_sem, hrl, hlj, llPV]
    refine W_seq fun kz18 kq18 => ?_
    refine W_region [0, 1, 4, 8, 9, 27, 28, 29, 33, 34, 35] fun R hR => ?_
    simp only [go_sem, hrl, hlj, llPV]
    refine hR _ _ (kq18 _ _ ?_); clear hR R; try clear kq18 kz18
    try simp only [go_sem, hrl, hlj, llPV]
    refine W_block ?_
    refine W_loopT (α := Nat) (fun (k : Nat) => [(35, I k)]) (fun (k : Nat) => σ.ext [some (goneC out), some (manyC out (ls.take j))] [i]) (fun (k : Nat) => k ≤ l.length ∧ ∀ x, x ∈ l.take k → has out x = true) (fun (k : Nat) => l.length - k) (0) rfl (by first | rfl | (simp only [go_sem]; done) | (simp only [go_sem]; rfl)) (⟨Nat.zero_le _, fun x hx => by simp at hx⟩) ?_
    rintro k ⟨hk, hta⟩
    refine W_seq fun kz19 kq19 => ?_
    refine W_region [0, 1, 4, 8, 9, 27, 28, 29, 33, 34, 35, 36] fun R hR => ?_
    simp only [go_sem, hrl, hlj, llPV]
    refine hR _ _ (kq19 _ _ ?_); clear hR R; try clear kq19 kz19
    try simp only [go_sem, hrl, hlj, llPV]
    refine W_seq fun kz20 kq20 => ?_
    refine W_cond rfl (fun c4 => ?_) (fun c4 => ?_)
    ·try simp only [nrm] at c4
     have hk' : k < l.length := by first | assumption | omega
     obtain ⟨v, hv⟩ : ∃ v, l[k]? = some v := ⟨l[k], by simp [hk']⟩
     have hdrop : l.drop k = v :: l.drop (k + 1) := by
      rw [List.drop_eq_getElem_cons hk']; congr 1; exact (List.getElem?_eq_some_iff.1 hv).2
     have hvb := hlm v (List.mem_of_getElem? hv)
     obtain ⟨vn, hvn⟩ : ∃ z : Nat, v = z := ⟨v.toNat, by omega⟩
     subst hvn
     have hgv := goneC_get (out := out) (s := vn) (by omega)
     have hmv := manyC_get (out := out) (ls := ls.take j) (s := vn) (by omega)
     have hml := manyFor_le out (ls.take j) vn
     have hvn8 : (vn : Int) < 8 := by omega
     have hml8 : decide (vn + 1 ≤ (manyC out (ls.take j)).length) = true := decide_eq_true (by rw [manyC_len]; omega)
     rw [List.length_take] at hml
     refine W_skip (kq20 _ _ ?_)
     refine W_seq fun kz21 kq21 => ?_
     refine W_block ?_
     refine W_seq fun kz22 kq22 => ?_
     refine W_region [0, 1, 4, 8, 9, 13, 27, 28, 29, 33, 34, 35] fun R hR => ?_
     simp only [go_sem, hrl, hlj, llPV, hv, hgv, hmv, hvn8, hml8, Nat.mul_one]
     refine hR _ _ (kq22 _ _ ?_); clear hR R; try clear kq22 kz22
     try simp only [go_sem, hrl, hlj, llPV, hv, hgv, hmv, hvn8, hml8, Nat.mul_one]
     refine W_seq fun kz23 kq23 => ?_
     refine W_region [0, 1, 4, 8, 9, 13, 27, 28, 29, 33, 34, 35, 42] fun R hR => ?_
     simp only [go_sem, hrl, hlj, llPV, hv, hgv, hmv, hvn8, hml8, Nat.mul_one]
     refine hR _ _ (kq23 _ _ ?_); clear hR R; try clear kq23 kz23
     try simp only [go_sem, hrl, hlj, llPV, hv, hgv, hmv, hvn8, hml8, Nat.mul_one]
     refine W_cond rfl (fun c5 => ?_) (fun c5 => ?_)
     ·try simp only [nrm] at c5
      have hf := firstLeft_at hta hv (by simpa using c5)
      have hset := manyC_some (out := out) (ls := ls.take j) (s := vn) (by omega) hf
      rw [← hsn] at hset
      refine W_seq fun kz24 kq24 => ?_
      refine W_region [0, 1, 4, 8, 9, 27, 28, 29] fun R hR => ?_
      simp only [go_sem, hrl, hlj, llPV, hv, hgv, hmv, hvn8, hml8, Nat.mul_one, hset]
      try simp (disch := omega) only [wrapI, wrapU]
      refine hR _ _ (kq24 _ _ ?_); clear hR R; try clear kq24 kz24
      try simp only [go_sem, hrl, hlj, llPV, hv, hgv, hmv, hvn8, hml8, Nat.mul_one]
      refine W_exit ?_
      simp only [go_sem, hrl, hlj, llPV, hv, hgv, hmv, hvn8, hml8, Nat.mul_one]
      refine kq16 _ _ ?_
      refine W_region [0, 1, 4, 8, 9, 27, 28, 29] fun R hR => ?_
      simp only [go_sem, hrl, hlj, llPV, hv, hgv, hmv, hvn8, hml8, Nat.mul_one]
      try simp (disch := omega) only [wrapI, wrapU]
      refine hR _ _ ?_; clear hR R
      try simp only [go_sem, hrl, hlj, llPV, hv, hgv, hmv, hvn8, hml8, Nat.mul_one]
      refine ⟨j + 1, ?_, by (try simp only []); omega, ?_⟩
      ·first | exact Weak.refl | exact Weak.eq rfl (by rw [hmn]) | exact Weak.eq rfl (congrArg (fun z => σ.ext [some (goneC out), some z] [i]) hset)
      ·try dsimp only
       exact hj2
     ·try simp only [nrm] at c5
      have hhv : has out (vn : Int) = true := by simpa using c5
      refine W_skip (kq21 _ _ ?_)
      refine W_region [0, 1, 4, 8, 9, 27, 28, 29, 33, 34, 35] fun R hR => ?_
      simp only [go_sem, hrl, hlj, llPV, hv, hgv, hmv, hvn8, hml8, Nat.mul_one]
      try simp (disch := omega) only [wrapI, wrapU]
      refine hR _ _ ?_; clear hR R
      try simp only [go_sem, hrl, hlj, llPV, hv, hgv, hmv, hvn8, hml8, Nat.mul_one]
      refine ⟨k + 1, ?_, by (try simp only []); omega, ?_⟩
      ·first | exact Weak.refl | exact Weak.eq (by first | rfl | (simp only [go_sem]; done) | (simp only [go_sem]; rfl) | (simp [go_sem]; done) | (simp [go_sem]; omega)) (by first | rfl | (simp only [go_sem]; done) | (simp [go_sem]; done))
      ·try dsimp only
       refine ⟨by omega, fun x hx => ?_⟩
       rw [List.take_add_one, hv] at hx
       rcases List.mem_append.1 hx with h | h
       ·exact hta x h
       ·simp at h; subst h; exact hhv
    ·try simp only [nrm] at c4
     have hke : k = l.length := by omega
     rw [hke, List.take_length] at hta
     have hmn : manyC out (ls.take j) = manyC out (ls.take (j + 1)) := by rw [hsn, manyC_none (firstLeft_none hta)]
     refine W_exit ?_
     simp only [go_sem, hrl, hlj, llPV]
     refine kq16 _ _ ?_
     refine W_region [0, 1, 4, 8, 9, 27, 28, 29] fun R hR => ?_
     simp only [go_sem, hrl, hlj, llPV]
     try simp (disch := omega) only [wrapI, wrapU]
     refine hR _ _ ?_; clear hR R
     try simp only [go_sem, hrl, hlj, llPV]
     refine ⟨j + 1, ?_, by (try simp only []); omega, ?_⟩
     ·first | exact Weak.refl | exact Weak.eq rfl (by rw [hmn]) | exact Weak.eq rfl (congrArg (fun z => σ.ext [some (goneC out), some z] [i]) hset)
     ·try dsimp only
      exact hj2
   ·try simp only [nrm] at c3
    have hje : j = ls.length := by omega
    subst hje
    rw [List.take_length]
    refine W_exit ?_
    simp only [go_sem, hrl]
    refine kq12 _ _ ?_
    refine W_seq fun kz25 kq25 => ?_
    refine W_region [0, 1, 4, 8, 9, 14] fun R hR => ?_
    simp only [go_sem, hrl]
    refine hR _ _ (kq25 _ _ ?_); clear hR R; try clear kq25 kz25
    try simp only [go_sem, hrl]
    refine W_seq fun kz26 kq26 => ?_
    refine W_seq fun kz27 kq27 => ?_
    refine W_region [0, 1, 4, 8, 9, 14, 50, 51] fun R hR => ?_
    simp only [go_sem, hrl]
    refine hR _ _ (kq27 _ _ ?_); clear hR R; try clear kq27 kz27
    try simp only [go_sem, hrl]
    refine W_block ?_
    refine W_loopS (α := Nat) (fun (s : Nat) => [(14, I (worstF out ls s)), (51, I s)]) (fun (s : Nat) => s ≤ N) (fun (s : Nat) => N - s) (0) rfl (Nat.zero_le _) ?_
    rintro s hs
    refine W_seq fun kz28 kq28 => ?_
    refine W_region [0, 1, 4, 8, 9, 14, 50, 51, 52] fun R hR => ?_
    simp only [go_sem, hrl]
    refine hR _ _ (kq28 _ _ ?_); clear hR R; try clear kq28 kz28
    try simp only [go_sem, hrl]
    refine W_seq fun kz29 kq29 => ?_
    refine W_cond rfl (fun c6 => ?_) (fun c6 => ?_)
    ·try simp only [nrm] at c6
     have hsN : s < N := by first | omega | (simp at c6; omega)
     have hgs := goneC_get (out := out) (s := s) (by omega)
     have hms := manyC_get (out := out) (ls := ls) (s := s) (by omega)
     have hwb := worstF_bd out ls s
     have hs8 : (s : Int) < 8 := by omega
     refine W_skip (kq29 _ _ ?_)
     refine W_seq fun kz30 kq30 => ?_
     refine W_block ?_
     refine W_seq fun kz31 kq31 => ?_
     refine W_region [0, 1, 4, 8, 9, 14, 15, 50, 51] fun R hR => ?_
     simp only [go_sem, hrl, hgs, hms, hs8, Nat.mul_one]
     refine hR _ _ (kq31 _ _ ?_); clear hR R; try clear kq31 kz31
     try simp only [go_sem, hrl, hgs, hms, hs8, Nat.mul_one]
     refine W_seq fun kz32 kq32 => ?_
     refine W_drawJ [0, 1, 4, 8, 9, 14, 15, 50, 51, 70] [(70, .bool (!has out s && (decide (worstF out ls s < 0) || decide (manyFor out ls s ≤ manyFor out ls (worstF out ls s)))))] [0, 1, 2, 3, 4, 5, 6, 7, 8, 9, 10, 11, 12, 13, 14, 15, 16] [] [[], [0], [0, 1], [0, 1, 2], [0, 1, 2, 3], [0, 1, 2, 3, 4], [0, 1, 2, 3, 4, 5], [0, 1, 2, 3, 4, 5, 6], [0, 1, 2, 3, 4, 5, 6, 7], [0, 1, 2, 3, 4, 5, 6, 7, 8], [0, 1, 2, 3, 4, 5, 6, 7, 8, 9], [0, 1, 2, 3, 4, 5, 6, 7], [0, 1, 2, 3, 4, 5, 6, 7, 11], [0, 1, 2, 3, 4, 5, 6, 7, 11, 12], [0, 1, 2, 3, 4, 5, 6, 7, 8, 9, 10, 11, 12, 13], [0, 1, 2, 3, 4, 5, 6, 7, 8, 9, 10, 11, 12, 13, 14], [0, 1, 2, 3, 4, 5, 6, 7, 8, 9, 10, 11, 12, 13, 14, 15]] mixed (by kernel_rfl) ?_ fun R hR => ?_
     ·refine kq32 _ _ ?_
      simp only [go_sem, hrl, hgs, hms, hs8, Nat.mul_one]
      refine W_cond rfl (fun c7 => ?_) (fun c7 => ?_)
      ·try simp only [nrm] at c7
       have hws1 : worstF out ls (s + 1) = (s : Int) := by simp only [worstF]; rw [if_pos c7]
       refine W_region [0, 1, 4, 8, 9, 14, 50, 51] fun R hR => ?_
       simp only [go_sem, hrl, hgs, hms, hs8, Nat.mul_one]
       refine hR _ _ (kq30 _ _ ?_); clear hR R; try clear kq30 kz30
       try simp only [go_sem, hrl, hgs, hms, hs8, Nat.mul_one]
       refine W_region [0, 1, 4, 8, 9, 14, 50, 51] fun R hR => ?_
       simp only [go_sem, hrl, hgs, hms, hs8, Nat.mul_one]
       try simp (disch := omega) only [wrapI, wrapU]
       refine hR _ _ ?_; clear hR R
       try simp only [go_sem, hrl, hgs, hms, hs8, Nat.mul_one]
       refine ⟨s + 1, ?_, by (try simp only []); omega, ?_⟩
       ·refine Weak.eq (by simp only [hws1]; first | done | rfl | (simp only [go_sem]; done)) rfl
       ·try dsimp only
        omega
      ·try simp only [nrm] at c7
       have hws1 : worstF out ls (s + 1) = worstF out ls s := by simp only [worstF]; rw [if_neg (by rw [c7]; simp)]
       refine W_skip (kq30 _ _ ?_)
       refine W_region [0, 1, 4, 8, 9, 14, 50, 51] fun R hR => ?_
       simp only [go_sem, hrl, hgs, hms, hs8, Nat.mul_one]
       try simp (disch := omega) only [wrapI, wrapU]
       refine hR _ _ ?_; clear hR R
       try simp only [go_sem, hrl, hgs, hms, hs8, Nat.mul_one]
       refine ⟨s + 1, ?_, by (try simp only []); omega, ?_⟩
       ·refine Weak.eq (by simp only [hws1]; first | done | rfl | (simp only [go_sem]; done)) rfl
       ·try dsimp only
        omega
     ·simp only [go_sem, hrl, hgs, hms, hs8, Nat.mul_one]
      refine GWant_split (fun g1 => ?_) (fun g1 => ?_)
      ·try simp only [Bool.not_eq_true', Bool.not_eq_false'] at g1
       have n1 := g1; try simp only [nrm] at n1
       simp only [go_sem, hrl, hgs, hms, hs8, Nat.mul_one, g1]
       refine GWant_split (fun g2 => ?_) (fun g2 => ?_)
       ·try simp only [Bool.not_eq_true', Bool.not_eq_false'] at g2
        have n2 := g2; try simp only [nrm] at n2
        obtain ⟨wn, hwn⟩ : ∃ z : Nat, worstF out ls s = z := ⟨(worstF out ls s).toNat, by simp at g2; omega⟩
        rw [hwn] at g2
        have hmw := manyC_get (out := out) (ls := ls) (s := wn) (by omega)
        have hwn8 : (wn : Int) < 8 := by omega
        simp only [go_sem, hrl, hgs, hms, hs8, Nat.mul_one, hwn, hmw, hwn8, Nat.mul_one, g1, g2]
        try refine And.intro (by repeat' (first | refine And.intro ?_ ?_ | exact GOr_right (fun _ => by simp only [go_sem, hrl, hgs, hms, hs8, Nat.mul_one, hwn, hmw, hwn8, Nat.mul_one]))) ?_
        refine hR _ ?_
        all_goals try simp only [go_sem, hrl, hgs, hms, hs8, Nat.mul_one, hwn, hmw, hwn8, Nat.mul_one]
        all_goals
         first | rfl | (simp [*]; done) | (simp_all; done) | (simp_all; omega)
       ·try simp only [Bool.not_eq_true', Bool.not_eq_false'] at g2
        have n2 := g2; try simp only [nrm] at n2
        simp only [go_sem, hrl, hgs, hms, hs8, Nat.mul_one, g1, g2]
        try refine And.intro (by repeat' (first | refine And.intro ?_ ?_ | exact GOr_right (fun _ => by simp only [go_sem, hrl, hgs, hms, hs8, Nat.mul_one]))) ?_
        refine hR _ ?_
        all_goals try simp only [go_sem, hrl, hgs, hms, hs8, Nat.mul_one]
        all_goals
         first | rfl | (simp [*]; done) | (simp_all; done) | (simp_all; omega)
      ·try simp only [Bool.not_eq_true', Bool.not_eq_false'] at g1
       have n1 := g1; try simp only [nrm] at n1
       simp only [go_sem, hrl, hgs, hms, hs8, Nat.mul_one, g1]
       try refine And.intro (by repeat' (first | refine And.intro ?_ ?_ | exact GOr_right (fun _ => by simp only [go_sem, hrl, hgs, hms, hs8, Nat.mul_one]))) ?_
       refine hR _ ?_
       all_goals try simp only [go_sem, hrl, hgs, hms, hs8, Nat.mul_one]
       all_goals
        first | rfl | (simp [*]; done) | (simp_all; done) | (simp_all; omega)
    ·try simp only [nrm] at c6
     have hse : N = s := by first | omega | (simp at c6; omega)
     subst hse
     obtain ⟨wl, hwl⟩ : ∃ z : Nat, worstF out ls N = z := ⟨(worstF out ls N).toNat, by omega⟩
     have hgset := goneC_set (out := out) (s := wl) (by omega)
     have hwl8 : (wl : Int) < 8 := by omega
     have hgl8 : decide (wl + 1 ≤ (goneC out).length) = true := decide_eq_true (by rw [goneC_len]; omega)
     refine W_exit ?_
     simp only [go_sem, hrl, hwl, hgset, hwl8, hgl8, Nat.mul_one]
     refine kq26 _ _ ?_
     refine W_seq fun kz33 kq33 => ?_
     refine W_region [0, 1, 4, 8, 14] fun R hR => ?_
     simp only [go_sem, hrl, hwl, hgset, hwl8, hgl8, Nat.mul_one]
     refine hR _ _ (kq33 _ _ ?_); clear hR R; try clear kq33 kz33
     try simp only [go_sem, hrl, hwl, hgset, hwl8, hgl8, Nat.mul_one]
     refine W_region [0, 1, 4, 8] fun R hR => ?_
     simp only [go_sem, hrl, hwl, hgset, hwl8, hgl8, Nat.mul_one]
     try simp (disch := first | omega | (simp only [go_sem] <;> omega)) only [wrapI, wrapU, appX_exact, appX_tok]
     try simp only [go_sem, hrl, hwl, hgset, hwl8, hgl8, Nat.mul_one]
     refine hR _ _ ?_; clear hR R
     try simp only [go_sem, hrl, hwl, hgset, hwl8, hgl8, Nat.mul_one]
     refine ⟨i + 1, ?_, by (try simp only []); omega, ?_⟩
     ·have hru : runU N ls (i + 1) = out ++ [(wl : Int)] := by simp only [runU, hout, hwl]
      refine Weak.trans (Weak.cutX 1 1 (by omega) (by omega) hcl ?_ ?_) ?_
      ·simp only [go_sem, eq_true (goneC_clean _)]
      ·simp only [go_sem]
       all_goals first | omega | exact fail1
      simp only [go_sem]
      refine Weak.eq ?_ ?_
      ·simp only [hru, List.map_append, List.map_cons, List.map_nil]; first | done | rfl
      ·simp only [hru]; first | done | rfl
     ·try dsimp only
      omega
  ·try simp only [nrm] at c2
   have hie : i = N - 1 := by first | omega | (simp at c2; omega)
   subst hie
   have hlo := some_left (n := N) (out := out) (by omega)
   have hsl : ∀ id, slicePV Tryz.prog 134 (.ptr id 0) none (some (I N)) none = some (.msl id 0 N) := fun id => sl86 (by omega) (by omega)
   refine W_exit ?_
   simp only [go_sem, hrl, hsl]
   refine kq7 _ _ ?_
   refine W_seq fun kz34 kq34 => ?_
   refine W_region [4, 5, 6] fun R hR => ?_
   simp only [go_sem, hrl, hsl]
   refine GCall_of (gIndex_pc Y (σ.ext [some (goneC out)] [N - 1]) out σ.store.length N (by omega) (Sg.get_ext0 ..)) ?_
   simp only [go_sem, hrl, hsl]
   refine hR _ _ (kq34 _ _ ?_); clear hR R; try clear kq34 kz34
   try simp only [go_sem, hrl, hsl]
   refine W_ret ?_
   simp only [go_sem, hrl, hsl]
   refine ⟨.inr (by trivial), ?_⟩
   first | (rw [hall]; refine Fin_same hcl rfl (Wk.ro (by simp only [go_sem]) ?_)) | refine Fin_same hcl rfl (Wk.ro (by simp only [go_sem]) ?_) | refine Fin_self hcl rfl (Wk.ro (by simp only [go_sem]) ?_)
   try simp only [go_sem]
   all_goals
    first | done | rfl | (simp only [go_sem]; done) | (rw [idxF_eq (n := N) (out := out) N 0 (by omega) (by obtain ⟨s, h1, h2⟩ := hlo; exact ⟨s, Nat.zero_le _, h1, h2⟩), hout]; first | done | rfl)
end Go.Proofs.YtnolifglhhjdnaaGreat
namespace Go.Proofs.YtnolifglhhjdnaaGreat
open Go Go.RowKit
set_option maxRecDepth 100000
theorem eqCn (a b : Contest) : decide (a = b) = ((decide (a.songs = b.songs) && (decide (a.juries = b.juries) && (decide (a.members = b.members) && decide (a.most = b.most)))) && decide (a.rounds = b.rounds)) := by
 obtain ⟨a1, a2, a3, a4, a5⟩ := a
 obtain ⟨b1, b2, b3, b4, b5⟩ := b
 rw [Bool.eq_iff_iff]
 simp only [Contest.mk.injEq, decide_eq_true_eq, Bool.and_eq_true]
 constructor
 ·rintro ⟨h1, h2, h3, h4, h5⟩
  exact ⟨⟨h1, h2, h3, h4⟩, h5⟩
 ·rintro ⟨⟨h1, h2, h3, h4⟩, h5⟩
  exact ⟨h1, h2, h3, h4, h5⟩
theorem eqRnd (x y : Rnd) : decide (x = y) = (x.keep == y.keep && (x.jury == y.jury && (x.member == y.member && true))) := by
 obtain ⟨a1, a2, a3⟩ := x
 obtain ⟨b1, b2, b3⟩ := y
 rw [Bool.eq_iff_iff]
 simp
theorem eqBal (x y : Ballot) : decide (x = y) = (x.serial == y.serial && (x.round == y.round && (x.kind == y.kind && (x.voter == y.voter && (x.song == y.song && (x.points == y.points && true)))))) := by
 obtain ⟨a1, a2, a3, a4, a5, a6⟩ := x
 obtain ⟨b1, b2, b3, b4, b5, b6⟩ := y
 rw [Bool.eq_iff_iff]
 simp
theorem take_snoc_eq {α : Type} [DecidableEq α] {a b : List α} {i : Nat} {x y : α} (hx : a[i]? = some x) (hy : b[i]? = some y) (h : a.take i = b.take i) : decide (a.take (i + 1) = b.take (i + 1)) = decide (x = y) := by
 rw [List.take_add_one, List.take_add_one, hx, hy, h]
 simp
def longD (c : Contest) (l : List Ballot) : Bool := decide (10 < (c.rounds.length : Int)) || (decide (40 < (l.length : Int)) && decide ((l.length : Int) ≤ 300)) || decide (309 < (l.length : Int))
set_option maxHeartbeats 2000000 in
theorem OwnCn_pc (Y : YEnv) (σ : Sg) (c : Contest) (hl : c.rounds.length < 2 ^ 30) :
  PC Tryz.prog Y 21 [cnPV c] σ (cnPV c) (σ) := by
 refine PC_of_W Tryz.func21 rfl (by kernel_rfl) Tryz.ntmps21 (by simp) fun hcl hca => ?_
 refine W_seq fun kz1 kq1 => ?_
 refine W_region [1, 2] fun R hR => ?_
 simp only [go_sem]
 refine hR _ _ (kq1 _ _ ?_); clear hR R; try clear kq1 kz1
 try simp only [go_sem]
 refine W_seq fun kz2 kq2 => ?_
 refine W_region [1, 2] fun R hR => ?_
 simp only [go_sem]
 try simp (disch := first | omega | (simp only [go_sem] <;> omega)) only [wrapI, wrapU, appX_exact, appX_tok]
 try simp only [go_sem]
 refine hR _ _ (kq2 _ _ ?_); clear hR R; try clear kq2 kz2
 try simp only [go_sem]
 refine W_seq fun kz3 kq3 => ?_
 refine W_region [2] fun R hR => ?_
 simp only [go_sem]
 refine hR _ _ (kq3 _ _ ?_); clear hR R; try clear kq3 kz3
 try simp only [go_sem]
 refine W_ret ?_
 simp only [go_sem]
 refine ⟨.inr (by trivial), ?_⟩
 refine Fin_same hcl (by show resPV Tryz.prog _ _ [.cell 2 25] = some _; simp only [resPV, go_sem]; rfl) (Wk.ro (by simp only [go_sem]) ?_)
 try simp only [go_sem]
 all_goals
  first | rfl | (simp only [go_sem]; done)
set_option maxHeartbeats 2000000 in
theorem OwnB_pc (Y : YEnv) (σ : Sg) (l : List Ballot) (hl : l.length < 2 ^ 30) :
  PC Tryz.prog Y 20 [bls l] σ (bls l) (σ) := by
 refine PC_of_W Tryz.func20 rfl (by kernel_rfl) Tryz.ntmps20 (by simp) fun hcl hca => ?_
 refine W_seq fun kz1 kq1 => ?_
 refine W_region [0] fun R hR => ?_
 simp only [go_sem]
 refine hR _ _ (kq1 _ _ ?_); clear hR R; try clear kq1 kz1
 try simp only [go_sem]
 refine W_seq fun kz2 kq2 => ?_
 refine W_region [2] fun R hR => ?_
 simp only [go_sem]
 try simp (disch := first | omega | (simp only [go_sem] <;> omega)) only [wrapI, wrapU, appX_exact, appX_tok]
 try simp only [go_sem]
 refine hR _ _ (kq2 _ _ ?_); clear hR R; try clear kq2 kz2
 try simp only [go_sem]
 refine W_ret ?_
 simp only [go_sem]
 refine ⟨.inr (by trivial), ?_⟩
 first | refine Fin_same hcl rfl (Wk.ro (by simp only [go_sem]) ?_) | refine Fin_self hcl rfl (Wk.ro (by simp only [go_sem]) ?_)
 try simp only [go_sem]
 all_goals
  first | rfl | (simp only [go_sem]; done)
theorem eqBool (x y : Bool) : decide (x = y) = (x == y) := by cases x <;> cases y <;> rfl
set_option maxHeartbeats 4000000 in
theorem EqBools_pc (Y : YEnv) (σ : Sg) (a b : List Bool) (o o2 : Own) (hl : a.length < 2 ^ 40) :
  PC Tryz.prog Y 30 [.isl (a.map PV.bool) o, .isl (b.map PV.bool) o2] σ (.bool (decide (a = b))) (σ) := by
 refine PC_of_W Tryz.func30 rfl (by kernel_rfl) Tryz.ntmps30 (by simp) fun hcl hca => ?_
 refine W_seq fun kz1 kq1 => ?_
 refine W_region [0, 1] fun R hR => ?_
 simp only [go_sem, beqB2]
 refine hR _ _ (kq1 _ _ ?_); clear hR R; try clear kq1 kz1
 try simp only [go_sem, beqB2]
 refine W_seq fun kz2 kq2 => ?_
 refine W_region [0, 1, 5] fun R hR => ?_
 simp only [go_sem, beqB2]
 refine hR _ _ (kq2 _ _ ?_); clear hR R; try clear kq2 kz2
 try simp only [go_sem, beqB2]
 refine W_seq fun kz3 kq3 => ?_
 refine W_seq fun kz4 kq4 => ?_
 refine W_region [0, 1, 5, 6] fun R hR => ?_
 simp only [go_sem, beqB2]
 refine hR _ _ (kq4 _ _ ?_); clear hR R; try clear kq4 kz4
 try simp only [go_sem, beqB2]
 refine W_block ?_
 refine W_loopS (α := Nat × Bool) (fun ⟨i, same⟩ => [(5, .bool same), (6, I i)]) (fun ⟨i, same⟩ => i ≤ a.length ∧ same = (decide (a.length = b.length) && decide (a.take i = b.take i))) (fun ⟨i, same⟩ => a.length - i) ((0, ((a.length : Int) == (b.length : Int)))) rfl (⟨Nat.zero_le _, by rw [Bool.eq_iff_iff]; simp; omega⟩) ?_
 rintro ⟨i, same⟩ ⟨hi, hs⟩
 refine W_seq fun kz5 kq5 => ?_
 refine W_seq fun kz6 kq6 => ?_
 refine W_regionJ [0, 1, 5, 6, 18] [(18, .bool (same && decide (i < a.length)))] ?_ fun R hR => ?_
 ·refine kq6 _ _ ?_
  simp only [go_sem, beqB2]
  refine W_cond rfl (fun c1 => ?_) (fun c1 => ?_)
  ·try simp only [nrm] at c1
   have hsi : same = true ∧ i < a.length := by simpa using c1
   have hab : a.length = b.length ∧ a.take i = b.take i := by rw [hsi.1] at hs; simpa using hs.symm
   have hi1 : i < a.length := hsi.2
   obtain ⟨x, hx⟩ : ∃ z, a[i]? = some z := ⟨a[i], by simp [hi1]⟩
   obtain ⟨y, hy⟩ : ∃ z, b[i]? = some z := ⟨b[i]'(by omega), by simp⟩
   have hib : i < b.length := by omega
   have hial : (i : Int) < (a.length : Int) := by omega
   have hibl : (i : Int) < (b.length : Int) := by omega
   have hst : (decide (a.length = b.length) && decide (a.take (i + 1) = b.take (i + 1))) = decide (x = y) := by
    rw [take_snoc_eq hx hy hab.2]
    simp [hab.1]
   have hxy := eqBool x y
   refine W_skip (kq5 _ _ ?_)
   refine W_seq fun kz7 kq7 => ?_
   refine W_block ?_
   refine W_drawJ [0, 1, 5, 6] [(5, .bool (decide (x = y)))] [0, 1, 2, 3, 4, 5, 6, 7, 8, 9] [] [[], [], [0, 1], [0, 1, 2], [], [], [4, 5], [4, 5, 6], [0, 1, 2, 3, 4, 5, 6, 7], [0, 1, 2, 3, 4, 5, 6, 7, 8]] mixed (by kernel_rfl) ?_ fun R hR => ?_
   ·refine kq7 _ _ ?_
    simp only [go_sem, beqB2, hx, hy, hial, hibl]
    refine W_region [0, 1, 5, 6] fun R hR => ?_
    simp only [go_sem, beqB2, hx, hy, hial, hibl]
    try simp (disch := omega) only [wrapI, wrapU]
    refine hR _ _ ?_; clear hR R
    try simp only [go_sem, beqB2, hx, hy, hial, hibl]
    refine ⟨(i + 1, decide (x = y)), ?_, by (try simp only []); omega, ?_⟩
    ·first | exact Weak.refl | exact Weak.eq (by first | rfl | (simp only [go_sem]; done) | (simp only [go_sem]; rfl) | (simp [go_sem]; done) | (simp [go_sem]; omega)) (by first | rfl | (simp only [go_sem]; done) | (simp [go_sem]; done))
    ·try dsimp only
     exact ⟨hi1, hst.symm⟩
   ·simp only [go_sem, beqB2, hx, hy, hial, hibl]
    try refine And.intro (by repeat' (first | refine And.intro ?_ ?_ | exact trivial | exact GOr_right (fun _ => by simp only [go_sem, beqB2, hx, hy, hial, hibl]))) ?_
    refine hR _ ?_
    all_goals try simp only [go_sem, beqB2, hx, hy, hial, hibl]
    all_goals
     first | rfl | (rw [hxy]; first | done | rfl) | (rw [hxy]; simp; done)
  ·try simp only [nrm] at c1
   have hfin : same = decide (a = b) := by
    rw [hs, Bool.eq_iff_iff]
    simp only [Bool.and_eq_true, decide_eq_true_eq]
    constructor
    ·rintro ⟨h1, h2⟩
     have h3 : same = true := by rw [hs]; simp [h1, h2]
     have h4 : ¬ i < a.length := by rw [h3] at c1; simpa using c1
     rw [List.take_of_length_le (by omega), List.take_of_length_le (by omega)] at h2
     exact h2
    ·rintro rfl; exact ⟨rfl, rfl⟩
   refine W_exit ?_
   simp only [go_sem, beqB2]
   refine kq3 _ _ ?_
   refine W_seq fun kz8 kq8 => ?_
   refine W_region [4] fun R hR => ?_
   simp only [go_sem, beqB2]
   refine hR _ _ (kq8 _ _ ?_); clear hR R; try clear kq8 kz8
   try simp only [go_sem, beqB2]
   refine W_ret ?_
   simp only [go_sem, beqB2]
   refine ⟨.inr (by trivial), ?_⟩
   first | refine Fin_same hcl rfl (Wk_eq ?_ (by simp only [go_sem])) | refine Fin_self hcl rfl (Wk_eq ?_ (by simp only [go_sem]))
   try simp only [go_sem]
   all_goals
    rw [hfin]
 ·simp only [go_sem, beqB2]
  refine GWant_split (fun g1 => ?_) (fun g1 => ?_)
  ·try simp only [Bool.not_eq_true', Bool.not_eq_false'] at g1
   have n1 := g1; try simp only [nrm] at n1
   simp only [go_sem, beqB2, g1]
   refine hR _ ?_
   all_goals try simp only [go_sem, beqB2]
   all_goals
    first | rfl | (simp [*]; done) | (simp_all; done)
  ·try simp only [Bool.not_eq_true', Bool.not_eq_false'] at g1
   have n1 := g1; try simp only [nrm] at n1
   simp only [go_sem, beqB2, g1]
   refine hR _ ?_
   all_goals try simp only [go_sem, beqB2]
   all_goals
    first | rfl | (simp [*]; done) | (simp_all; done)
set_option maxHeartbeats 4000000 in
theorem EqBls_pc (Y : YEnv) (σ : Sg) (a b : List Ballot) (o o2 : Own) (hl : a.length < 2 ^ 40) :
  PC Tryz.prog Y 32 [.isl (a.map blPV) o, .isl (b.map blPV) o2] σ (.bool (decide (a = b))) (σ) := by
 refine PC_of_W Tryz.func32 rfl (by kernel_rfl) Tryz.ntmps32 (by simp) fun hcl hca => ?_
 refine W_seq fun kz1 kq1 => ?_
 refine W_region [0, 1] fun R hR => ?_
 simp only [go_sem, beqB2]
 refine hR _ _ (kq1 _ _ ?_); clear hR R; try clear kq1 kz1
 try simp only [go_sem, beqB2]
 refine W_seq fun kz2 kq2 => ?_
 refine W_region [0, 1, 5] fun R hR => ?_
 simp only [go_sem, beqB2]
 refine hR _ _ (kq2 _ _ ?_); clear hR R; try clear kq2 kz2
 try simp only [go_sem, beqB2]
 refine W_seq fun kz3 kq3 => ?_
 refine W_seq fun kz4 kq4 => ?_
 refine W_region [0, 1, 5, 6] fun R hR => ?_
 simp only [go_sem, beqB2]
 refine hR _ _ (kq4 _ _ ?_); clear hR R; try clear kq4 kz4
 try simp only [go_sem, beqB2]
 refine W_block ?_
 refine W_loopS (α := Nat × Bool) (fun ⟨i, same⟩ => [(5, .bool same), (6, I i)]) (fun ⟨i, same⟩ => i ≤ a.length ∧ same = (decide (a.length = b.length) && decide (a.take i = b.take i))) (fun ⟨i, same⟩ => a.length - i) ((0, ((a.length : Int) == (b.length : Int)))) rfl (⟨Nat.zero_le _, by rw [Bool.eq_iff_iff]; simp; omega⟩) ?_
 rintro ⟨i, same⟩ ⟨hi, hs⟩
 refine W_seq fun kz5 kq5 => ?_
 refine W_seq fun kz6 kq6 => ?_
 refine W_regionJ [0, 1, 5, 6, 18] [(18, .bool (same && decide (i < a.length)))] ?_ fun R hR => ?_
 ·refine kq6 _ _ ?_
  simp only [go_sem, beqB2]
  refine W_cond rfl (fun c1 => ?_) (fun c1 => ?_)
  ·try simp only [nrm] at c1
   have hsi : same = true ∧ i < a.length := by simpa using c1
   have hab : a.length = b.length ∧ a.take i = b.take i := by rw [hsi.1] at hs; simpa using hs.symm
   have hi1 : i < a.length := hsi.2
   obtain ⟨x, hx⟩ : ∃ z, a[i]? = some z := ⟨a[i], by simp [hi1]⟩
   obtain ⟨y, hy⟩ : ∃ z, b[i]? = some z := ⟨b[i]'(by omega), by simp⟩
   have hib : i < b.length := by omega
   have hial : (i : Int) < (a.length : Int) := by omega
   have hibl : (i : Int) < (b.length : Int) := by omega
   have hst : (decide (a.length = b.length) && decide (a.take (i + 1) = b.take (i + 1))) = decide (x = y) := by
    rw [take_snoc_eq hx hy hab.2]
    simp [hab.1]
   have hxy := eqBal x y
   refine W_skip (kq5 _ _ ?_)
   refine W_seq fun kz7 kq7 => ?_
   refine W_block ?_
   refine W_drawJ [0, 1, 5, 6] [(5, .bool (decide (x = y)))] [0, 1, 2, 3, 4, 5, 6, 7, 8, 9] [] [[], [], [0, 1], [0, 1, 2], [], [], [4, 5], [4, 5, 6], [0, 1, 2, 3, 4, 5, 6, 7], [0, 1, 2, 3, 4, 5, 6, 7, 8]] mixed (by kernel_rfl) ?_ fun R hR => ?_
   ·refine kq7 _ _ ?_
    simp only [go_sem, beqB2, hx, hy, hial, hibl]
    refine W_region [0, 1, 5, 6] fun R hR => ?_
    simp only [go_sem, beqB2, hx, hy, hial, hibl]
    try simp (disch := omega) only [wrapI, wrapU]
    refine hR _ _ ?_; clear hR R
    try simp only [go_sem, beqB2, hx, hy, hial, hibl]
    refine ⟨(i + 1, decide (x = y)), ?_, by (try simp only []); omega, ?_⟩
    ·first | exact Weak.refl | exact Weak.eq (by first | rfl | (simp only [go_sem]; done) | (simp only [go_sem]; rfl) | (simp [go_sem]; done) | (simp [go_sem]; omega)) (by first | rfl | (simp only [go_sem]; done) | (simp [go_sem]; done))
    ·try dsimp only
     exact ⟨hi1, hst.symm⟩
   ·simp only [go_sem, beqB2, hx, hy, hial, hibl]
    try refine And.intro (by repeat' (first | refine And.intro ?_ ?_ | exact trivial | exact GOr_right (fun _ => by simp only [go_sem, beqB2, hx, hy, hial, hibl]))) ?_
    refine hR _ ?_
    all_goals try simp only [go_sem, beqB2, hx, hy, hial, hibl]
    all_goals
     first | rfl | (rw [hxy]; first | done | rfl) | (rw [hxy]; simp; done)
  ·try simp only [nrm] at c1
   have hfin : same = decide (a = b) := by
    rw [hs, Bool.eq_iff_iff]
    simp only [Bool.and_eq_true, decide_eq_true_eq]
    constructor
    ·rintro ⟨h1, h2⟩
     have h3 : same = true := by rw [hs]; simp [h1, h2]
     have h4 : ¬ i < a.length := by rw [h3] at c1; simpa using c1
     rw [List.take_of_length_le (by omega), List.take_of_length_le (by omega)] at h2
     exact h2
    ·rintro rfl; exact ⟨rfl, rfl⟩
   refine W_exit ?_
   simp only [go_sem, beqB2]
   refine kq3 _ _ ?_
   refine W_seq fun kz8 kq8 => ?_
   refine W_region [4] fun R hR => ?_
   simp only [go_sem, beqB2]
   refine hR _ _ (kq8 _ _ ?_); clear hR R; try clear kq8 kz8
   try simp only [go_sem, beqB2]
   refine W_ret ?_
   simp only [go_sem, beqB2]
   refine ⟨.inr (by trivial), ?_⟩
   first | refine Fin_same hcl rfl (Wk_eq ?_ (by simp only [go_sem])) | refine Fin_self hcl rfl (Wk_eq ?_ (by simp only [go_sem]))
   try simp only [go_sem]
   all_goals
    rw [hfin]
 ·simp only [go_sem, beqB2]
  refine GWant_split (fun g1 => ?_) (fun g1 => ?_)
  ·try simp only [Bool.not_eq_true', Bool.not_eq_false'] at g1
   have n1 := g1; try simp only [nrm] at n1
   simp only [go_sem, beqB2, g1]
   refine hR _ ?_
   all_goals try simp only [go_sem, beqB2]
   all_goals
    first | rfl | (simp [*]; done) | (simp_all; done)
  ·try simp only [Bool.not_eq_true', Bool.not_eq_false'] at g1
   have n1 := g1; try simp only [nrm] at n1
   simp only [go_sem, beqB2, g1]
   refine hR _ ?_
   all_goals try simp only [go_sem, beqB2]
   all_goals
    first | rfl | (simp [*]; done) | (simp_all; done)
set_option maxHeartbeats 8000000 in
theorem EqCns_pc (Y : YEnv) (σ : Sg) (a b : Contest) (hl : a.rounds.length < 2 ^ 40) :
  PC Tryz.prog Y 31 [cnPV a, cnPV b] σ (.bool (decide (a = b))) (σ) := by
 refine PC_of_W Tryz.func31 rfl (by kernel_rfl) Tryz.ntmps31 (by simp) fun hcl hca => ?_
 obtain ⟨h0, hh0⟩ : ∃ z, (decide (a.songs = b.songs) && (decide (a.juries = b.juries) && (decide (a.members = b.members) && decide (a.most = b.most)))) = z := ⟨_, rfl⟩
 have heq := eqCn a b
 rw [hh0] at heq
 have hlen : decide (a.rounds.length = b.rounds.length) = ((a.rounds.length : Int) == (b.rounds.length : Int)) := by rw [Bool.eq_iff_iff]; simp; omega
 refine W_seq fun kz1 kq1 => ?_
 refine W_region [2, 3] fun R hR => ?_
 simp only [go_sem, cnCells]
 refine hR _ _ (kq1 _ _ ?_); clear hR R; try clear kq1 kz1
 try simp only [go_sem, cnCells]
 refine W_seq fun kz2 kq2 => ?_
 refine W_regionJ [2, 3, 5] [(5, .bool (h0 && decide (a.rounds.length = b.rounds.length)))] ?_ fun R hR => ?_
 ·refine kq2 _ _ ?_
  simp only [go_sem, cnCells]
  refine W_seq fun kz3 kq3 => ?_
  refine W_seq fun kz4 kq4 => ?_
  refine W_region [2, 3, 5, 6] fun R hR => ?_
  simp only [go_sem, cnCells]
  refine hR _ _ (kq4 _ _ ?_); clear hR R; try clear kq4 kz4
  try simp only [go_sem, cnCells]
  refine W_block ?_
  refine W_loopS (α := Nat × Bool) (fun ⟨i, same⟩ => [(5, .bool same), (6, I i)]) (fun ⟨i, same⟩ => i ≤ a.rounds.length ∧ same = (h0 && (decide (a.rounds.length = b.rounds.length) && decide (a.rounds.take i = b.rounds.take i)))) (fun ⟨i, same⟩ => a.rounds.length - i) ((0, (h0 && decide (a.rounds.length = b.rounds.length)))) rfl (⟨Nat.zero_le _, by simp⟩) ?_
  rintro ⟨i, same⟩ ⟨hi, hs⟩
  refine W_seq fun kz5 kq5 => ?_
  refine W_seq fun kz6 kq6 => ?_
  refine W_regionJ [2, 3, 5, 6, 49] [(49, .bool (same && decide (i < a.rounds.length)))] ?_ fun R hR => ?_
  ·refine kq6 _ _ ?_
   simp only [go_sem, cnCells]
   refine W_cond rfl (fun c1 => ?_) (fun c1 => ?_)
   ·try simp only [nrm] at c1
    have hsi : same = true ∧ i < a.rounds.length := by simpa using c1
    have hab : h0 = true ∧ a.rounds.length = b.rounds.length ∧ a.rounds.take i = b.rounds.take i := by rw [hsi.1] at hs; simpa using hs.symm
    have hi1 : i < a.rounds.length := hsi.2
    obtain ⟨x, hx⟩ : ∃ z, a.rounds[i]? = some z := ⟨a.rounds[i], by simp [hi1]⟩
    obtain ⟨y, hy⟩ : ∃ z, b.rounds[i]? = some z := ⟨b.rounds[i]'(by omega), by simp⟩
    have hib : i < b.rounds.length := by omega
    have hial : (i : Int) < (a.rounds.length : Int) := by omega
    have hibl : (i : Int) < (b.rounds.length : Int) := by omega
    have hst : (h0 && (decide (a.rounds.length = b.rounds.length) && decide (a.rounds.take (i + 1) = b.rounds.take (i + 1)))) = decide (x = y) := by
     rw [take_snoc_eq hx hy hab.2.2, hab.1]
     simp [hab.2.1]
    have hxy := eqRnd x y
    refine W_skip (kq5 _ _ ?_)
    refine W_seq fun kz7 kq7 => ?_
    refine W_block ?_
    refine W_drawJ [2, 3, 5, 6] [(5, .bool (decide (x = y)))] [0, 1, 2, 3, 4, 5, 6, 7, 8, 9, 10, 11] [] [[], [0], [], [0, 1, 2], [0, 1, 2, 3], [], [5], [], [5, 6, 7], [5, 6, 7, 8], [0, 1, 2, 3, 4, 5, 6, 7, 8, 9], [0, 1, 2, 3, 4, 5, 6, 7, 8, 9, 10]] mixed (by kernel_rfl) ?_ fun R hR => ?_
    ·refine kq7 _ _ ?_
     simp only [go_sem, cnCells, hx, hy, hial, hibl]
     refine W_region [2, 3, 5, 6] fun R hR => ?_
     simp only [go_sem, cnCells, hx, hy, hial, hibl]
     try simp (disch := omega) only [wrapI, wrapU]
     refine hR _ _ ?_; clear hR R
     try simp only [go_sem, cnCells, hx, hy, hial, hibl]
     refine ⟨(i + 1, decide (x = y)), ?_, by (try simp only []); omega, ?_⟩
     ·first | exact Weak.refl | exact Weak.eq (by first | rfl | (simp only [go_sem]; done) | (simp only [go_sem]; rfl) | (simp [go_sem]; done) | (simp [go_sem]; omega)) (by first | rfl | (simp only [go_sem]; done) | (simp [go_sem]; done))
     ·try dsimp only
      exact ⟨hi1, hst.symm⟩
    ·simp only [go_sem, cnCells, hx, hy, hial, hibl]
     try refine And.intro (by repeat' (first | refine And.intro ?_ ?_ | exact trivial | exact GOr_right (fun _ => by simp only [go_sem, cnCells, hx, hy, hial, hibl]))) ?_
     refine hR _ ?_
     all_goals try simp only [go_sem, cnCells, hx, hy, hial, hibl]
     all_goals
      first | rfl | (rw [hxy]; first | done | rfl) | (rw [hxy]; simp; done)
   ·try simp only [nrm] at c1
    have hfin : same = decide (a = b) := by
     rw [hs, heq, Bool.eq_iff_iff]
     simp only [Bool.and_eq_true, decide_eq_true_eq]
     constructor
     ·rintro ⟨h1, h2, h3⟩
      have h4 : same = true := by rw [hs]; simp [h1, h2, h3]
      have h5 : ¬ i < a.rounds.length := by rw [h4] at c1; simpa using c1
      rw [List.take_of_length_le (by omega), List.take_of_length_le (by omega)] at h3
      exact ⟨h1, h3⟩
     ·rintro ⟨h1, h2⟩
      rw [h2]
      exact ⟨h1, rfl, rfl⟩
    refine W_exit ?_
    simp only [go_sem, cnCells]
    refine kq3 _ _ ?_
    refine W_seq fun kz8 kq8 => ?_
    refine W_region [4] fun R hR => ?_
    simp only [go_sem, cnCells]
    refine hR _ _ (kq8 _ _ ?_); clear hR R; try clear kq8 kz8
    try simp only [go_sem, cnCells]
    refine W_ret ?_
    simp only [go_sem, cnCells]
    refine ⟨.inr (by trivial), ?_⟩
    first | refine Fin_same hcl rfl (Wk_eq ?_ (by simp only [go_sem])) | refine Fin_self hcl rfl (Wk_eq ?_ (by simp only [go_sem]))
    try simp only [go_sem]
    all_goals
     rw [hfin]
  ·simp only [go_sem, cnCells]
   refine GWant_split (fun g1 => ?_) (fun g1 => ?_)
   ·try simp only [Bool.not_eq_true', Bool.not_eq_false'] at g1
    have n1 := g1; try simp only [nrm] at n1
    simp only [go_sem, cnCells, g1]
    refine hR _ ?_
    all_goals try simp only [go_sem, cnCells]
    all_goals
     first | rfl | (simp [*]; done) | (simp_all; done)
   ·try simp only [Bool.not_eq_true', Bool.not_eq_false'] at g1
    have n1 := g1; try simp only [nrm] at n1
    simp only [go_sem, cnCells, g1]
    refine hR _ ?_
    all_goals try simp only [go_sem, cnCells]
    all_goals
     first | rfl | (simp [*]; done) | (simp_all; done)
 ·simp only [go_sem, cnCells]
  refine GWant_split (fun g2 => ?_) (fun g2 => ?_)
  ·try simp only [Bool.not_eq_true', Bool.not_eq_false'] at g2
   have n2 := g2; try simp only [nrm] at n2
   simp only [go_sem, cnCells, g2]
   refine GWant_split (fun g3 => ?_) (fun g3 => ?_)
   ·try simp only [Bool.not_eq_true', Bool.not_eq_false'] at g3
    have n3 := g3; try simp only [nrm] at n3
    simp only [go_sem, cnCells, g2, g3]
    refine GWant_split (fun g4 => ?_) (fun g4 => ?_)
    ·try simp only [Bool.not_eq_true', Bool.not_eq_false'] at g4
     have n4 := g4; try simp only [nrm] at n4
     simp only [go_sem, cnCells, g2, g3, g4]
     refine GWant_split (fun g5 => ?_) (fun g5 => ?_)
     ·try simp only [Bool.not_eq_true', Bool.not_eq_false'] at g5
      have n5 := g5; try simp only [nrm] at n5
      simp only [go_sem, cnCells, g2, g3, g4, g5]
      refine hR _ ?_
      all_goals try simp only [go_sem, cnCells]
      all_goals
       first | rfl | (rw [hlen, ← hh0]; simp [*]; done) | (rw [← hh0]; simp [*]; done) | (rw [← hh0]; simp_all; done)
     ·try simp only [Bool.not_eq_true', Bool.not_eq_false'] at g5
      have n5 := g5; try simp only [nrm] at n5
      simp only [go_sem, cnCells, g2, g3, g4, g5]
      refine hR _ ?_
      all_goals try simp only [go_sem, cnCells]
      all_goals
       first | rfl | (rw [hlen, ← hh0]; simp [*]; done) | (rw [← hh0]; simp [*]; done) | (rw [← hh0]; simp_all; done)
    ·try simp only [Bool.not_eq_true', Bool.not_eq_false'] at g4
     have n4 := g4; try simp only [nrm] at n4
     simp only [go_sem, cnCells, g2, g3, g4]
     refine hR _ ?_
     all_goals try simp only [go_sem, cnCells]
     all_goals
      first | rfl | (rw [hlen, ← hh0]; simp [*]; done) | (rw [← hh0]; simp [*]; done) | (rw [← hh0]; simp_all; done)
   ·try simp only [Bool.not_eq_true', Bool.not_eq_false'] at g3
    have n3 := g3; try simp only [nrm] at n3
    simp only [go_sem, cnCells, g2, g3]
    refine hR _ ?_
    all_goals try simp only [go_sem, cnCells]
    all_goals
     first | rfl | (rw [hlen, ← hh0]; simp [*]; done) | (rw [← hh0]; simp [*]; done) | (rw [← hh0]; simp_all; done)
  ·try simp only [Bool.not_eq_true', Bool.not_eq_false'] at g2
   have n2 := g2; try simp only [nrm] at n2
   simp only [go_sem, cnCells, g2]
   refine hR _ ?_
   all_goals try simp only [go_sem, cnCells]
   all_goals
    first | rfl | (rw [hlen, ← hh0]; simp [*]; done) | (rw [← hh0]; simp [*]; done) | (rw [← hh0]; simp_all; done)
set_option maxHeartbeats 2000000 in
theorem long_pc (Y : YEnv) (σ : Sg) (c : Contest) (l : List Ballot) :
  PC Tryz.prog Y 17 [cnPV c, bls l] σ (.bool (longD c l)) (σ) := by
 refine PC_of_W Tryz.func17 rfl (by kernel_rfl) Tryz.ntmps17 (by simp) fun hcl hca => ?_
 refine W_seq fun kz1 kq1 => ?_
 refine W_region [1, 2] fun R hR => ?_
 simp only [go_sem, cnCells]
 refine hR _ _ (kq1 _ _ ?_); clear hR R; try clear kq1 kz1
 try simp only [go_sem, cnCells]
 refine W_seq fun kz2 kq2 => ?_
 refine W_regionJ [4] [(4, .bool (longD c l))] ?_ fun R hR => ?_
 ·refine kq2 _ _ ?_
  simp only [go_sem, cnCells]
  refine W_ret ?_
  simp only [go_sem, cnCells]
  refine ⟨.inr (by trivial), ?_⟩
  first | refine Fin_same hcl rfl (Wk_eq ?_ (by simp only [go_sem])) | refine Fin_self hcl rfl (Wk_eq ?_ (by simp only [go_sem]))
  try simp only [go_sem]
  all_goals
   rfl
 ·simp only [go_sem, cnCells]
  refine GWant_split (fun g1 => ?_) (fun g1 => ?_)
  ·try simp only [Bool.not_eq_true', Bool.not_eq_false'] at g1
   have n1 := g1; try simp only [nrm] at n1
   simp only [go_sem, cnCells, g1]
   refine GWant_split (fun g2 => ?_) (fun g2 => ?_)
   ·try simp only [Bool.not_eq_true', Bool.not_eq_false'] at g2
    have n2 := g2; try simp only [nrm] at n2
    simp only [go_sem, cnCells, g1, g2]
    refine GWant_split (fun g3 => ?_) (fun g3 => ?_)
    ·try simp only [Bool.not_eq_true', Bool.not_eq_false'] at g3
     have n3 := g3; try simp only [nrm] at n3
     simp only [go_sem, cnCells, g1, g2, g3]
     refine hR _ ?_
     all_goals try simp only [go_sem, cnCells]
     all_goals
      first | rfl | (simp [longD, *]; done) | (simp_all [longD]; done)
    ·try simp only [Bool.not_eq_true', Bool.not_eq_false'] at g3
     have n3 := g3; try simp only [nrm] at n3
     simp only [go_sem, cnCells, g1, g2, g3]
     refine hR _ ?_
     all_goals try simp only [go_sem, cnCells]
     all_goals
      first | rfl | (simp [longD, *]; done) | (simp_all [longD]; done)
   ·try simp only [Bool.not_eq_true', Bool.not_eq_false'] at g2
    have n2 := g2; try simp only [nrm] at n2
    simp only [go_sem, cnCells, g1, g2]
    refine hR _ ?_
    all_goals try simp only [go_sem, cnCells]
    all_goals
     first | rfl | (simp [longD, *]; done) | (simp_all [longD]; done)
  ·try simp only [Bool.not_eq_true', Bool.not_eq_false'] at g1
   have n1 := g1; try simp only [nrm] at n1
   simp only [go_sem, cnCells, g1]
   refine hR _ ?_
   all_goals try simp only [go_sem, cnCells]
   all_goals
    first | rfl | (simp [longD, *]; done) | (simp_all [longD]; done)
end Go.Proofs.YtnolifglhhjdnaaGreat
namespace Go.Proofs.YtnolifglhhjdnaaGreat
open Go Go.RowKit
set_option maxRecDepth 100000
set_option maxHeartbeats 8000000 in
theorem ContestOf_pc (Y : YEnv) (σ : Sg) (d : Nat) (b : Int) (hd : σ.store[d]? = some (some [.int .u64 b])) (songs juries members : Int) (h1 : 1 ≤ songs ∧ songs ≤ 1000) (h2 : 0 ≤ juries ∧ juries ≤ 1000) (h3 : 0 ≤ members ∧ members ≤ 1000) :
  PC Tryz.prog Y 18 [.ptr d 0, I songs, I juries, I members] σ (cnPV (contestD songs juries members b).1) (σ.setVar d [.int .u64 (contestD songs juries members b).2]) := by
 refine PC_of_W Tryz.func18 rfl (by kernel_rfl) Tryz.ntmps18 (by simp) fun hcl hca => ?_
 have hlt := lt_of_get hd
 obtain ⟨s, hs⟩ : ∃ zz, (mid 1 songs b).1 = zz := ⟨_, rfl⟩
 obtain ⟨b1, hb1⟩ : ∃ zz, (mid 1 songs b).2 = zz := ⟨_, rfl⟩
 have ds := mid_bd 1 songs h1.1 b
 simp only [hs] at ds
 obtain ⟨j, hj⟩ : ∃ zz, (roll (juries + 1) b1).1 = zz := ⟨_, rfl⟩
 obtain ⟨b2, hb2⟩ : ∃ zz, (roll (juries + 1) b1).2 = zz := ⟨_, rfl⟩
 have dj := roll_bd (juries + 1) b1
 simp only [hj] at dj
 obtain ⟨m, hm⟩ : ∃ zz, (roll (members + 1) b2).1 = zz := ⟨_, rfl⟩
 obtain ⟨b3, hb3⟩ : ∃ zz, (roll (members + 1) b2).2 = zz := ⟨_, rfl⟩
 have dm := roll_bd (members + 1) b2
 simp only [hm] at dm
 obtain ⟨mo, hmo⟩ : ∃ zz, (anyOf [0, 2, 10] b3).1 = zz := ⟨_, rfl⟩
 obtain ⟨b4, hb4⟩ : ∃ zz, (anyOf [0, 2, 10] b3).2 = zz := ⟨_, rfl⟩
 have dmo := anyOf_mem [0, 2, 10] (by simp) b3
 simp only [hmo] at dmo
 obtain ⟨kz, hkz⟩ : ∃ zz, (mid 1 3 b4).1 = zz := ⟨_, rfl⟩
 obtain ⟨b5, hb5⟩ : ∃ zz, (mid 1 3 b4).2 = zz := ⟨_, rfl⟩
 have dkz := mid_bd 1 3 (by omega) b4
 simp only [hkz] at dkz
 obtain ⟨kn, hkn⟩ : ∃ z : Nat, kz = z := ⟨kz.toNat, by omega⟩
 subst hkn
 obtain ⟨rs, hrs⟩ : ∃ z, roundsC kn s [] b5 = z := ⟨_, rfl⟩
 have hdef : contestD songs juries members b = (⟨s, j, m, mo, rs.1⟩, rs.2) := by simp only [contestD, dbind, dret, hs, hb1, hj, hb2, hm, hb3, hmo, hb4, hkz, hb5, Int.toNat_natCast, hrs]
 rw [hdef]
 refine W_seq fun kz1 kq1 => ?_
 refine W_region [0, 1, 2, 3, 8] fun R hR => ?_
 simp only [go_sem, ldS_at hd, stX_at hd, ldS_sv hlt, stX_sv hlt, sv_ext hlt, sv_ext_sv hlt, hs, hb1, hj, hb2, hm, hb3, hmo, hb4, hkz, hb5]
 refine hR _ _ (kq1 _ _ ?_); clear hR R; try clear kq1 kz1
 try simp only [go_sem, ldS_at hd, stX_at hd, ldS_sv hlt, stX_sv hlt, sv_ext hlt, sv_ext_sv hlt, hs, hb1, hj, hb2, hm, hb3, hmo, hb4, hkz, hb5]
 refine W_seq fun kz2 kq2 => ?_
 refine W_region [0, 8, 9] fun R hR => ?_
 simp only [go_sem, ldS_at hd, stX_at hd, ldS_sv hlt, stX_sv hlt, sv_ext hlt, sv_ext_sv hlt, hs, hb1, hj, hb2, hm, hb3, hmo, hb4, hkz, hb5]
 refine GCall_of (Mid_pc Y _ d b (by first | exact hd | exact sv_get hlt | exact get_svx hlt | exact get_extx hd) 1 songs (by omega) (by omega) (by omega) (by omega)) ?_
 simp only [go_sem, ldS_at hd, stX_at hd, ldS_sv hlt, stX_sv hlt, sv_ext hlt, sv_ext_sv hlt, hs, hb1, hj, hb2, hm, hb3, hmo, hb4, hkz, hb5]
 try simp (disch := omega) only [wrapI]
 try simp (disch := omega) only [wrapI, wrapU]
 refine GCall_of (Roll_pc Y _ d b1 (by first | exact hd | exact sv_get hlt | exact get_svx hlt | exact get_extx hd) (juries + 1) (by omega)) ?_
 simp only [go_sem, ldS_at hd, stX_at hd, ldS_sv hlt, stX_sv hlt, sv_ext hlt, sv_ext_sv hlt, hs, hb1, hj, hb2, hm, hb3, hmo, hb4, hkz, hb5]
 try simp (disch := omega) only [wrapI]
 try simp (disch := omega) only [wrapI, wrapU]
 refine GCall_of (Roll_pc Y _ d b2 (by first | exact hd | exact sv_get hlt | exact get_svx hlt | exact get_extx hd) (members + 1) (by omega)) ?_
 simp only [go_sem, ldS_at hd, stX_at hd, ldS_sv hlt, stX_sv hlt, sv_ext hlt, sv_ext_sv hlt, hs, hb1, hj, hb2, hm, hb3, hmo, hb4, hkz, hb5]
 try simp (disch := omega) only [wrapI, wrapU]
 refine GCall_of (Any_pc Y _ d b3 (by first | exact hd | exact sv_get hlt | exact get_svx hlt | exact get_extx hd) [0, 2, 10] (by simp) (by simp)) ?_
 simp only [go_sem, ldS_at hd, stX_at hd, ldS_sv hlt, stX_sv hlt, sv_ext hlt, sv_ext_sv hlt, hs, hb1, hj, hb2, hm, hb3, hmo, hb4, hkz, hb5]
 try simp (disch := omega) only [wrapI, wrapU]
 refine hR _ _ (kq2 _ _ ?_); clear hR R; try clear kq2 kz2
 try simp only [go_sem, ldS_at hd, stX_at hd, ldS_sv hlt, stX_sv hlt, sv_ext hlt, sv_ext_sv hlt, hs, hb1, hj, hb2, hm, hb3, hmo, hb4, hkz, hb5]
 refine W_seq fun kz3 kq3 => ?_
 refine W_region [0, 8, 9, 10] fun R hR => ?_
 simp only [go_sem, ldS_at hd, stX_at hd, ldS_sv hlt, stX_sv hlt, sv_ext hlt, sv_ext_sv hlt, hs, hb1, hj, hb2, hm, hb3, hmo, hb4, hkz, hb5]
 refine hR _ _ (kq3 _ _ ?_); clear hR R; try clear kq3 kz3
 try simp only [go_sem, ldS_at hd, stX_at hd, ldS_sv hlt, stX_sv hlt, sv_ext hlt, sv_ext_sv hlt, hs, hb1, hj, hb2, hm, hb3, hmo, hb4, hkz, hb5]
 refine W_seq fun kz4 kq4 => ?_
 refine W_seq fun kz5 kq5 => ?_
 refine W_region [0, 8, 9, 10, 11] fun R hR => ?_
 simp only [go_sem, ldS_at hd, stX_at hd, ldS_sv hlt, stX_sv hlt, sv_ext hlt, sv_ext_sv hlt, hs, hb1, hj, hb2, hm, hb3, hmo, hb4, hkz, hb5]
 refine GCall_of (Mid_pc Y _ d b4 (by first | exact hd | exact sv_get hlt | exact get_svx hlt | exact get_extx hd) 1 3 (by omega) (by omega) (by omega) (by omega)) ?_
 simp only [go_sem, ldS_at hd, stX_at hd, ldS_sv hlt, stX_sv hlt, sv_ext hlt, sv_ext_sv hlt, hs, hb1, hj, hb2, hm, hb3, hmo, hb4, hkz, hb5]
 refine hR _ _ (kq5 _ _ ?_); clear hR R; try clear kq5 kz5
 try simp only [go_sem, ldS_at hd, stX_at hd, ldS_sv hlt, stX_sv hlt, sv_ext hlt, sv_ext_sv hlt, hs, hb1, hj, hb2, hm, hb3, hmo, hb4, hkz, hb5]
 refine W_block ?_
 refine W_weak (Weak.roomSV (j := 1) (off := 4) (es := 3) rfl rfl (by simp)) ?_
 simp only [go_sem, ldS_at hd, stX_at hd, ldS_sv hlt, stX_sv hlt, sv_ext hlt, sv_ext_sv hlt, hs, hb1, hj, hb2, hm, hb3, hmo, hb4, hkz, hb5]
 refine W_loopT (α := Nat × Int × (List Rnd) × Int) (fun ⟨k, kp, acc, bb⟩ => [(10, I kp), (11, I k)]) (fun ⟨k, kp, acc, bb⟩ => (σ.setVar d [.int .u64 bb]).ext [some [I 0, I 0, I 0, I 0, .isl [] .exact], some [I s, I j, I m, I mo, .isl (acc.map rdPV) (.tok σ.rooms.length acc.length 3)]] [acc.length]) (fun ⟨k, kp, acc, bb⟩ => (1 ≤ kp ∧ kp ≤ 1000) ∧ acc.length + k = kn ∧ roundsC k kp acc bb = rs) (fun ⟨k, kp, acc, bb⟩ => k) ((kn, s, [], b5)) rfl (by first | rfl | (simp only [go_sem]; done) | (simp only [go_sem]; rfl)) (⟨by omega, by simp, hrs⟩) ?_
 rintro ⟨k, kp, acc, bb⟩ ⟨hkp, hal, hinv⟩
 refine W_seq fun kz6 kq6 => ?_
 refine W_seq fun kz7 kq7 => ?_
 refine W_region [0, 8, 9, 10, 11, 32] fun R hR => ?_
 simp only [go_sem, ldS_at hd, stX_at hd, ldS_sv hlt, stX_sv hlt, sv_ext hlt, sv_ext_sv hlt, hs, hb1, hj, hb2, hm, hb3, hmo, hb4, hkz, hb5]
 refine hR _ _ (kq7 _ _ ?_); clear hR R; try clear kq7 kz7
 try simp only [go_sem, ldS_at hd, stX_at hd, ldS_sv hlt, stX_sv hlt, sv_ext hlt, sv_ext_sv hlt, hs, hb1, hj, hb2, hm, hb3, hmo, hb4, hkz, hb5]
 refine W_cond rfl (fun c1 => ?_) (fun c1 => ?_)
 ·try simp only [nrm] at c1
  obtain ⟨k, rfl⟩ : ∃ z, k = z + 1 := ⟨k - 1, by first | omega | (simp at c1; omega)⟩
  simp only [roundsC] at hinv
  have hk1 : ((k + 1 : Nat) : Int) - 1 = (k : Int) := by omega
  refine W_skip (kq6 _ _ ?_)
  refine W_seq fun kz8 kq8 => ?_
  refine W_block ?_
  refine W_seq fun kz9 kq9 => ?_
  refine W_seq fun kz10 kq10 => ?_
  refine W_region [0, 8, 9, 10, 11, 36] fun R hR => ?_
  simp only [go_sem, ldS_at hd, stX_at hd, ldS_sv hlt, stX_sv hlt, sv_ext hlt, sv_ext_sv hlt, hs, hb1, hj, hb2, hm, hb3, hmo, hb4, hkz, hb5]
  refine hR _ _ (kq10 _ _ ?_); clear hR R; try clear kq10 kz10
  try simp only [go_sem, ldS_at hd, stX_at hd, ldS_sv hlt, stX_sv hlt, sv_ext hlt, sv_ext_sv hlt, hs, hb1, hj, hb2, hm, hb3, hmo, hb4, hkz, hb5]
  refine W_cond rfl (fun c2 => ?_) (fun c2 => ?_)
  ·try simp only [nrm] at c2
   have hk0 : k = 0 := by omega
   subst hk0
   rw [if_pos rfl] at hinv
   obtain ⟨bq, rfl⟩ : ∃ z, z = bb := ⟨bb, rfl⟩
   obtain ⟨ra, hra⟩ : ∃ zz, (roll 4 bq).1 = zz := ⟨_, rfl⟩
   obtain ⟨b8, hb8⟩ : ∃ zz, (roll 4 bq).2 = zz := ⟨_, rfl⟩
   have dra := roll_bd 4 bq
   simp only [hra] at dra
   obtain ⟨rb, hrb⟩ : ∃ zz, (roll 5 b8).1 = zz := ⟨_, rfl⟩
   obtain ⟨b9, hb9⟩ : ∃ zz, (roll 5 b8).2 = zz := ⟨_, rfl⟩
   have drb := roll_bd 5 b8
   simp only [hrb] at drb
   simp only [dbind, hra, hb8, hrb, hb9] at hinv
   refine W_region [0, 8, 9, 10, 11] fun R hR => ?_
   simp only [go_sem, ldS_at hd, stX_at hd, ldS_sv hlt, stX_sv hlt, sv_ext hlt, sv_ext_sv hlt, hs, hb1, hj, hb2, hm, hb3, hmo, hb4, hkz, hb5, hra, hb8, hrb, hb9]
   refine hR _ _ (kq9 _ _ ?_); clear hR R; try clear kq9 kz9
   try simp only [go_sem, ldS_at hd, stX_at hd, ldS_sv hlt, stX_sv hlt, sv_ext hlt, sv_ext_sv hlt, hs, hb1, hj, hb2, hm, hb3, hmo, hb4, hkz, hb5, hra, hb8, hrb, hb9]
   refine W_draw [0, 8, 9, 10, 11] [0, 1, 2, 3, 4, 5, 6, 7, 8, 9, 10, 11] [(0, 6), (0, 9), (1, 6), (1, 9), (2, 6), (2, 9), (5, 4)] [[], [0], [], [], [3], [], [3, 4, 5], [2, 3, 4, 5, 6], [2, 3, 4, 5, 6, 7], [0, 1, 2, 3, 4, 5, 6, 7, 8], [0, 1, 2, 3, 4, 5, 6, 7, 8, 9], [0, 1, 2, 3, 4, 5, 6, 7, 8, 9, 10]] mixed (by kernel_rfl) fun R hR => ?_
   simp only [go_sem, ldS_at hd, stX_at hd, ldS_sv hlt, stX_sv hlt, sv_ext hlt, sv_ext_sv hlt, hs, hb1, hj, hb2, hm, hb3, hmo, hb4, hkz, hb5, hra, hb8, hrb, hb9]
   refine GCall_of (Roll_pc Y _ d bq (by first | exact hd | exact sv_get hlt | exact get_svx hlt | exact get_extx hd) 4 (by omega)) ?_
   simp only [go_sem, ldS_at hd, stX_at hd, ldS_sv hlt, stX_sv hlt, sv_ext hlt, sv_ext_sv hlt, hs, hb1, hj, hb2, hm, hb3, hmo, hb4, hkz, hb5, hra, hb8, hrb, hb9]
   refine GCall_of (Roll_pc Y _ d b8 (by first | exact hd | exact sv_get hlt | exact get_svx hlt | exact get_extx hd) 5 (by omega)) ?_
   simp only [go_sem, ldS_at hd, stX_at hd, ldS_sv hlt, stX_sv hlt, sv_ext hlt, sv_ext_sv hlt, hs, hb1, hj, hb2, hm, hb3, hmo, hb4, hkz, hb5, hra, hb8, hrb, hb9]
   try simp (disch := first | omega | (simp only [go_sem] <;> omega)) only [wrapI, wrapU, appX_exact, appX_tok]
   try simp only [go_sem, ldS_at hd, stX_at hd, ldS_sv hlt, stX_sv hlt, sv_ext hlt, sv_ext_sv hlt, hs, hb1, hj, hb2, hm, hb3, hmo, hb4, hkz, hb5, hra, hb8, hrb, hb9]
   try refine And.intro (by repeat' (first | refine And.intro ?_ ?_ | exact GOr_right (fun _ => by simp only [go_sem, ldS_at hd, stX_at hd, ldS_sv hlt, stX_sv hlt, sv_ext hlt, sv_ext_sv hlt, hs, hb1, hj, hb2, hm, hb3, hmo, hb4, hkz, hb5, hra, hb8, hrb, hb9]))) ?_
   refine hR _ _ (kq8 _ _ ?_); clear hR R; try clear kq8 kz8
   try simp only [go_sem, ldS_at hd, stX_at hd, ldS_sv hlt, stX_sv hlt, sv_ext hlt, sv_ext_sv hlt, hs, hb1, hj, hb2, hm, hb3, hmo, hb4, hkz, hb5, hra, hb8, hrb, hb9]
   refine W_region [0, 8, 9, 10, 11] fun R hR => ?_
   simp only [go_sem, ldS_at hd, stX_at hd, ldS_sv hlt, stX_sv hlt, sv_ext hlt, sv_ext_sv hlt, hs, hb1, hj, hb2, hm, hb3, hmo, hb4, hkz, hb5, hra, hb8, hrb, hb9]
   try simp (disch := omega) only [wrapI, wrapU]
   refine hR _ _ ?_; clear hR R
   try simp only [go_sem, ldS_at hd, stX_at hd, ldS_sv hlt, stX_sv hlt, sv_ext hlt, sv_ext_sv hlt, hs, hb1, hj, hb2, hm, hb3, hmo, hb4, hkz, hb5, hra, hb8, hrb, hb9]
   refine ⟨(0, 1, acc ++ [⟨1, ra, rb⟩], b9), ?_, by (try simp only []); omega, ?_⟩
   ·refine Weak.eq ?_ ?_
    ·first | (simp only [hk1, List.map_append, List.map_cons, List.map_nil, List.length_append, List.length_cons, List.length_nil]; first | done | rfl) | (simp only [List.map_append, List.map_cons, List.map_nil, List.length_append, List.length_cons, List.length_nil]; first | done | rfl)
    ·simp only [List.map_append, List.map_cons, List.map_nil, List.length_append, List.length_cons, List.length_nil]; first | done | rfl
   ·try dsimp only
    exact ⟨by omega, by simp; omega, hinv⟩
  ·try simp only [nrm] at c2
   rw [if_neg (by omega)] at hinv
   obtain ⟨kq, hkq⟩ : ∃ zz, (mid 1 kp bb).1 = zz := ⟨_, rfl⟩
   obtain ⟨bq, hbq⟩ : ∃ zz, (mid 1 kp bb).2 = zz := ⟨_, rfl⟩
   have dkq := mid_bd 1 kp hkp.1 bb
   simp only [hkq] at dkq
   obtain ⟨ra, hra⟩ : ∃ zz, (roll 4 bq).1 = zz := ⟨_, rfl⟩
   obtain ⟨b8, hb8⟩ : ∃ zz, (roll 4 bq).2 = zz := ⟨_, rfl⟩
   have dra := roll_bd 4 bq
   simp only [hra] at dra
   obtain ⟨rb, hrb⟩ : ∃ zz, (roll 5 b8).1 = zz := ⟨_, rfl⟩
   obtain ⟨b9, hb9⟩ : ∃ zz, (roll 5 b8).2 = zz := ⟨_, rfl⟩
   have drb := roll_bd 5 b8
   simp only [hrb] at drb
   simp only [dbind, hkq, hbq, hra, hb8, hrb, hb9] at hinv
   refine W_region [0, 8, 9, 10, 11] fun R hR => ?_
   simp only [go_sem, ldS_at hd, stX_at hd, ldS_sv hlt, stX_sv hlt, sv_ext hlt, sv_ext_sv hlt, hs, hb1, hj, hb2, hm, hb3, hmo, hb4, hkz, hb5, hkq, hbq, hra, hb8, hrb, hb9]
   refine GCall_of (Mid_pc Y _ d bb (by first | exact hd | exact sv_get hlt | exact get_svx hlt | exact get_extx hd) 1 kp (by omega) (by omega) (by omega) (by omega)) ?_
   simp only [go_sem, ldS_at hd, stX_at hd, ldS_sv hlt, stX_sv hlt, sv_ext hlt, sv_ext_sv hlt, hs, hb1, hj, hb2, hm, hb3, hmo, hb4, hkz, hb5, hkq, hbq, hra, hb8, hrb, hb9]
   refine hR _ _ (kq9 _ _ ?_); clear hR R; try clear kq9 kz9
   try simp only [go_sem, ldS_at hd, stX_at hd, ldS_sv hlt, stX_sv hlt, sv_ext hlt, sv_ext_sv hlt, hs, hb1, hj, hb2, hm, hb3, hmo, hb4, hkz, hb5, hkq, hbq, hra, hb8, hrb, hb9]
   refine W_draw [0, 8, 9, 10, 11] [0, 1, 2, 3, 4, 5, 6, 7, 8, 9, 10, 11] [(0, 6), (0, 9), (1, 6), (1, 9), (2, 6), (2, 9), (5, 4)] [[], [0], [], [], [3], [], [3, 4, 5], [2, 3, 4, 5, 6], [2, 3, 4, 5, 6, 7], [0, 1, 2, 3, 4, 5, 6, 7, 8], [0, 1, 2, 3, 4, 5, 6, 7, 8, 9], [0, 1, 2, 3, 4, 5, 6, 7, 8, 9, 10]] mixed (by kernel_rfl) fun R hR => ?_
   simp only [go_sem, ldS_at hd, stX_at hd, ldS_sv hlt, stX_sv hlt, sv_ext hlt, sv_ext_sv hlt, hs, hb1, hj, hb2, hm, hb3, hmo, hb4, hkz, hb5, hkq, hbq, hra, hb8, hrb, hb9]
   refine GCall_of (Roll_pc Y _ d bq (by first | exact hd | exact sv_get hlt | exact get_svx hlt | exact get_extx hd) 4 (by omega)) ?_
   simp only [go_sem, ldS_at hd, stX_at hd, ldS_sv hlt, stX_sv hlt, sv_ext hlt, sv_ext_sv hlt, hs, hb1, hj, hb2, hm, hb3, hmo, hb4, hkz, hb5, hkq, hbq, hra, hb8, hrb, hb9]
   refine GCall_of (Roll_pc Y _ d b8 (by first | exact hd | exact sv_get hlt | exact get_svx hlt | exact get_extx hd) 5 (by omega)) ?_
   simp only [go_sem, ldS_at hd, stX_at hd, ldS_sv hlt, stX_sv hlt, sv_ext hlt, sv_ext_sv hlt, hs, hb1, hj, hb2, hm, hb3, hmo, hb4, hkz, hb5, hkq, hbq, hra, hb8, hrb, hb9]
   try simp (disch := first | omega | (simp only [go_sem] <;> omega)) only [wrapI, wrapU, appX_exact, appX_tok]
   try simp only [go_sem, ldS_at hd, stX_at hd, ldS_sv hlt, stX_sv hlt, sv_ext hlt, sv_ext_sv hlt, hs, hb1, hj, hb2, hm, hb3, hmo, hb4, hkz, hb5, hkq, hbq, hra, hb8, hrb, hb9]
   try refine And.intro (by repeat' (first | refine And.intro ?_ ?_ | exact GOr_right (fun _ => by simp only [go_sem, ldS_at hd, stX_at hd, ldS_sv hlt, stX_sv hlt, sv_ext hlt, sv_ext_sv hlt, hs, hb1, hj, hb2, hm, hb3, hmo, hb4, hkz, hb5, hkq, hbq, hra, hb8, hrb, hb9]))) ?_
   refine hR _ _ (kq8 _ _ ?_); clear hR R; try clear kq8 kz8
   try simp only [go_sem, ldS_at hd, stX_at hd, ldS_sv hlt, stX_sv hlt, sv_ext hlt, sv_ext_sv hlt, hs, hb1, hj, hb2, hm, hb3, hmo, hb4, hkz, hb5, hkq, hbq, hra, hb8, hrb, hb9]
   refine W_region [0, 8, 9, 10, 11] fun R hR => ?_
   simp only [go_sem, ldS_at hd, stX_at hd, ldS_sv hlt, stX_sv hlt, sv_ext hlt, sv_ext_sv hlt, hs, hb1, hj, hb2, hm, hb3, hmo, hb4, hkz, hb5, hkq, hbq, hra, hb8, hrb, hb9]
   try simp (disch := omega) only [wrapI, wrapU]
   refine hR _ _ ?_; clear hR R
   try simp only [go_sem, ldS_at hd, stX_at hd, ldS_sv hlt, stX_sv hlt, sv_ext hlt, sv_ext_sv hlt, hs, hb1, hj, hb2, hm, hb3, hmo, hb4, hkz, hb5, hkq, hbq, hra, hb8, hrb, hb9]
   refine ⟨(k, kq, acc ++ [⟨kq, ra, rb⟩], b9), ?_, by (try simp only []); omega, ?_⟩
   ·refine Weak.eq ?_ ?_
    ·first | (simp only [hk1, List.map_append, List.map_cons, List.map_nil, List.length_append, List.length_cons, List.length_nil]; first | done | rfl) | (simp only [List.map_append, List.map_cons, List.map_nil, List.length_append, List.length_cons, List.length_nil]; first | done | rfl)
    ·simp only [List.map_append, List.map_cons, List.map_nil, List.length_append, List.length_cons, List.length_nil]; first | done | rfl
   ·try dsimp only
    exact ⟨by omega, by simp; omega, hinv⟩
 ·try simp only [nrm] at c1
  have hke : k = 0 := by first | omega | (simp at c1; omega)
  subst hke
  simp only [roundsC, dret] at hinv
  refine W_exit ?_
  simp only [go_sem, ldS_at hd, stX_at hd, ldS_sv hlt, stX_sv hlt, sv_ext hlt, sv_ext_sv hlt, hs, hb1, hj, hb2, hm, hb3, hmo, hb4, hkz, hb5]
  refine kq4 _ _ ?_
  refine W_seq fun kz11 kq11 => ?_
  refine W_region [8] fun R hR => ?_
  simp only [go_sem, ldS_at hd, stX_at hd, ldS_sv hlt, stX_sv hlt, sv_ext hlt, sv_ext_sv hlt, hs, hb1, hj, hb2, hm, hb3, hmo, hb4, hkz, hb5]
  refine hR _ _ (kq11 _ _ ?_); clear hR R; try clear kq11 kz11
  try simp only [go_sem, ldS_at hd, stX_at hd, ldS_sv hlt, stX_sv hlt, sv_ext hlt, sv_ext_sv hlt, hs, hb1, hj, hb2, hm, hb3, hmo, hb4, hkz, hb5]
  refine W_ret ?_
  simp only [go_sem, ldS_at hd, stX_at hd, ldS_sv hlt, stX_sv hlt, sv_ext hlt, sv_ext_sv hlt, hs, hb1, hj, hb2, hm, hb3, hmo, hb4, hkz, hb5]
  refine ⟨.inr (by trivial), ?_⟩
  rw [← hinv]; refine Fin_set hcl (by simp only [go_sem]) (by show resPV Tryz.prog _ _ [.cell 8 25] = some _; simp only [resPV, go_sem]; rfl) (Wk.ro (by simp only [go_sem]) ?_)
  try simp only [go_sem]
  all_goals
   first | done | rfl | simp only [go_sem]
set_option maxHeartbeats 16000000 in
theorem BallotsOf_pc (Y : YEnv) (σ : Sg) (d : Nat) (b : Int) (hd : σ.store[d]? = some (some [.int .u64 b])) (c : Contest) (songs juries members most : Int) (hc : CnMade c songs juries members) (h1 : songs ≤ 1000 ∧ juries ≤ 1000 ∧ members ≤ 1000) (hm : 0 ≤ most ∧ most ≤ 1000) :
  PC Tryz.prog Y 19 [.ptr d 0, cnPV c, I most] σ (bls (ballotsD c most b).1) (σ.setVar d [.int .u64 (ballotsD c most b).2]) := by
 refine PC_of_W Tryz.func19 rfl (by kernel_rfl) Tryz.ntmps19 (by simp) fun hcl hca => ?_
 have hlt := lt_of_get hd
 have hsg := hc.sg
 have hjr := hc.jr
 have hmb := hc.mb
 have hms := hc.ms
 have hrl := hc.rl
 have hwjm : IntKind.i64.wrap (c.juries + c.members) = c.juries + c.members := wrapI (by omega) (by omega)
 obtain ⟨res, hres⟩ : ∃ r, ballotsD c most b = r := ⟨_, rfl⟩
 rw [hres]
 refine W_seq fun kz1 kq1 => ?_
 refine W_region [0, 2, 4] fun R hR => ?_
 simp only [go_sem, ldS_at hd, stX_at hd, ldS_sv hlt, stX_sv hlt, sv_ext hlt, sv_ext_sv hlt]
 refine hR _ _ (kq1 _ _ ?_); clear hR R; try clear kq1 kz1
 try simp only [go_sem, ldS_at hd, stX_at hd, ldS_sv hlt, stX_sv hlt, sv_ext hlt, sv_ext_sv hlt]
 refine W_seq fun kz2 kq2 => ?_
 refine W_region [0, 2, 4, 7] fun R hR => ?_
 simp only [go_sem, ldS_at hd, stX_at hd, ldS_sv hlt, stX_sv hlt, sv_ext hlt, sv_ext_sv hlt]
 refine hR _ _ (kq2 _ _ ?_); clear hR R; try clear kq2 kz2
 try simp only [go_sem, ldS_at hd, stX_at hd, ldS_sv hlt, stX_sv hlt, sv_ext hlt, sv_ext_sv hlt]
 refine W_seq fun kz3 kq3 => ?_
 refine W_seq fun kz4 kq4 => ?_
 refine W_region [0, 2, 4, 7, 17] fun R hR => ?_
 simp only [go_sem, ldS_at hd, stX_at hd, ldS_sv hlt, stX_sv hlt, sv_ext hlt, sv_ext_sv hlt, hwjm]
 try simp (disch := omega) only [wrapI, wrapU]
 refine hR _ _ (kq4 _ _ ?_); clear hR R; try clear kq4 kz4
 try simp only [go_sem, ldS_at hd, stX_at hd, ldS_sv hlt, stX_sv hlt, sv_ext hlt, sv_ext_sv hlt]
 refine W_cond rfl (fun c1 => ?_) (fun c1 => ?_)
 ·try simp only [nrm] at c1
  have hr0 : res = ([], b) := by rw [← hres]; unfold ballotsD; rw [if_pos c1]; rfl
  refine W_seq fun kz5 kq5 => ?_
  refine W_region [6] fun R hR => ?_
  simp only [go_sem, ldS_at hd, stX_at hd, ldS_sv hlt, stX_sv hlt, sv_ext hlt, sv_ext_sv hlt]
  refine hR _ _ (kq5 _ _ ?_); clear hR R; try clear kq5 kz5
  try simp only [go_sem, ldS_at hd, stX_at hd, ldS_sv hlt, stX_sv hlt, sv_ext hlt, sv_ext_sv hlt]
  refine W_ret ?_
  simp only [go_sem, ldS_at hd, stX_at hd, ldS_sv hlt, stX_sv hlt, sv_ext hlt, sv_ext_sv hlt]
  refine ⟨.inr (by trivial), ?_⟩
  rw [hr0]; simp only [sv_self hd]; refine Fin_same hcl rfl (Wk.ro (by simp only [go_sem]) ?_)
  try simp only [go_sem]
  all_goals
   first | done | rfl | simp only [go_sem]
 ·try simp only [nrm] at c1
  obtain ⟨k0, hk0⟩ : ∃ zz, (roll (most + 1) b).1 = zz := ⟨_, rfl⟩
  obtain ⟨b1, hb1⟩ : ∃ zz, (roll (most + 1) b).2 = zz := ⟨_, rfl⟩
  have dk0 := roll_bd (most + 1) b
  simp only [hk0] at dk0
  obtain ⟨kn, hkn⟩ : ∃ z : Nat, k0 = z := ⟨k0.toNat, by omega⟩
  subst hkn
  obtain ⟨n3, hn3⟩ : ∃ z : Nat, 3 * (kn + 1) = z := ⟨_, rfl⟩
  have hn3i : 3 * ((kn : Int) + 1) = (n3 : Int) := by omega
  obtain ⟨ser, hser⟩ : ∃ zz, (orderD n3 b1).1 = zz := ⟨_, rfl⟩
  obtain ⟨b2, hb2⟩ : ∃ zz, (orderD n3 b1).2 = zz := ⟨_, rfl⟩
  have dser := orderD_perm n3 b1
  simp only [hser] at dser
  have hsl : ser.length = n3 := by rw [dser.length_eq]; simp
  have hsb : ∀ x, x ∈ ser → 0 ≤ x ∧ x < 100000 := fun x hx => by
   obtain ⟨i, h1, rfl⟩ := List.mem_map.1 (dser.mem_iff.1 hx)
   have := List.mem_range.1 h1
   omega
  have hres2 : ballotsC c ser kn 0 [] b2 = res := by
   rw [← hres]; unfold ballotsD; rw [if_neg c1]; simp only [dbind, hk0, hb1, hser, hb2, Int.toNat_natCast, hn3]
  refine W_skip (kq3 _ _ ?_)
  refine W_seq fun kz6 kq6 => ?_
  refine W_region [0, 4, 7, 8] fun R hR => ?_
  simp only [go_sem, ldS_at hd, stX_at hd, ldS_sv hlt, stX_sv hlt, sv_ext hlt, sv_ext_sv hlt, hk0, hb1, hser, hb2]
  try simp (disch := omega) only [wrapI]
  try simp (disch := omega) only [wrapI, wrapU]
  refine GCall_of (Roll_pc Y _ d b (by first | exact hd | exact sv_get hlt | exact get_svx hlt | exact get_extx hd) (most + 1) (by omega)) ?_
  simp only [go_sem, ldS_at hd, stX_at hd, ldS_sv hlt, stX_sv hlt, sv_ext hlt, sv_ext_sv hlt, hk0, hb1, hser, hb2]
  try simp (disch := omega) only [wrapI, wrapU]
  refine hR _ _ (kq6 _ _ ?_); clear hR R; try clear kq6 kz6
  try simp only [go_sem, ldS_at hd, stX_at hd, ldS_sv hlt, stX_sv hlt, sv_ext hlt, sv_ext_sv hlt, hk0, hb1, hser, hb2]
  refine W_seq fun kz7 kq7 => ?_
  refine W_region [0, 4, 7, 8, 9] fun R hR => ?_
  simp only [go_sem, ldS_at hd, stX_at hd, ldS_sv hlt, stX_sv hlt, sv_ext hlt, sv_ext_sv hlt, hk0, hb1, hser, hb2]
  try simp (disch := omega) only [wrapI]
  try simp only [hn3i]
  try simp (disch := omega) only [wrapI, wrapU]
  refine GCall_of (Order_pc Y _ d b1 (by first | exact hd | exact sv_get hlt | exact get_svx hlt | exact get_extx hd) n3 (by omega)) ?_
  simp only [go_sem, ldS_at hd, stX_at hd, ldS_sv hlt, stX_sv hlt, sv_ext hlt, sv_ext_sv hlt, hk0, hb1, hser, hb2]
  try simp (disch := omega) only [wrapI, wrapU]
  refine hR _ _ (kq7 _ _ ?_); clear hR R; try clear kq7 kz7
  try simp only [go_sem, ldS_at hd, stX_at hd, ldS_sv hlt, stX_sv hlt, sv_ext hlt, sv_ext_sv hlt, hk0, hb1, hser, hb2]
  refine W_seq fun kz8 kq8 => ?_
  refine W_seq fun kz9 kq9 => ?_
  refine W_region [0, 4, 7, 8, 9, 10] fun R hR => ?_
  simp only [go_sem, ldS_at hd, stX_at hd, ldS_sv hlt, stX_sv hlt, sv_ext hlt, sv_ext_sv hlt, hk0, hb1, hser, hb2]
  refine hR _ _ (kq9 _ _ ?_); clear hR R; try clear kq9 kz9
  try simp only [go_sem, ldS_at hd, stX_at hd, ldS_sv hlt, stX_sv hlt, sv_ext hlt, sv_ext_sv hlt, hk0, hb1, hser, hb2]
  refine W_block ?_
  refine W_weak (Weak.room (t := 7) (es := 6) rfl (by simp)) ?_
  refine W_weak (Weak.keep [0, 4, 7, 8, 9, 10]) ?_
  simp only [go_sem, ldS_at hd, stX_at hd, ldS_sv hlt, stX_sv hlt, sv_ext hlt, sv_ext_sv hlt, hk0, hb1, hser, hb2]
  refine W_loopT (α := Nat × (List Ballot) × Int) (fun ⟨i, acc, bb⟩ => [(7, .isl (acc.map blPV) (.tok σ.rooms.length acc.length 6)), (10, I i)]) (fun ⟨i, acc, bb⟩ => (σ.setVar d [.int .u64 bb]).ext [some (cnCells c)] [acc.length]) (fun ⟨i, acc, bb⟩ => i ≤ kn ∧ acc.length = i ∧ ballotsC c ser (kn - i) i acc bb = res) (fun ⟨i, acc, bb⟩ => kn - i) ((0, [], b2)) rfl (by first | rfl | (simp only [go_sem]; done) | (simp only [go_sem]; rfl)) (⟨Nat.zero_le _, rfl, hres2⟩) ?_
  rintro ⟨i, acc, bb⟩ ⟨hi, hal, hinv⟩
  refine W_seq fun kz10 kq10 => ?_
  refine W_seq fun kz11 kq11 => ?_
  refine W_region [0, 4, 7, 8, 9, 10, 30] fun R hR => ?_
  simp only [go_sem, ldS_at hd, stX_at hd, ldS_sv hlt, stX_sv hlt, sv_ext hlt, sv_ext_sv hlt, hk0, hb1, hser, hb2]
  refine hR _ _ (kq11 _ _ ?_); clear hR R; try clear kq11 kz11
  try simp only [go_sem, ldS_at hd, stX_at hd, ldS_sv hlt, stX_sv hlt, sv_ext hlt, sv_ext_sv hlt, hk0, hb1, hser, hb2]
  refine W_cond rfl (fun c2 => ?_) (fun c2 => ?_)
  ·try simp only [nrm] at c2
   have hi1 : i < kn := by first | omega | (simp at c2; omega)
   rw [show kn - i = (kn - (i + 1)) + 1 by omega] at hinv
   simp only [ballotsC, dbind] at hinv
   obtain ⟨sx, hsx⟩ : ∃ z, ser[i]? = some z := ⟨ser[i]'(by omega), by simp⟩
   have hil : (i : Int) < (ser.length : Int) := by omega
   have hsxb := hsb sx (List.mem_of_getElem? hsx)
   have hsa : serAt ser i = sx + 1 := by unfold serAt; rw [hsx]; rfl
   have hwx : IntKind.i64.wrap (sx + 1) = sx + 1 := wrapI (by omega) (by omega)
   obtain ⟨rd0, hrd0⟩ : ∃ zz, (roll c.rounds.length bb).1 = zz := ⟨_, rfl⟩
   obtain ⟨b3, hb3⟩ : ∃ zz, (roll c.rounds.length bb).2 = zz := ⟨_, rfl⟩
   have drd0 := roll_bd c.rounds.length bb
   simp only [hrd0] at drd0
   obtain ⟨kd, hkd⟩ : ∃ zz, (anyOf [1, 2] b3).1 = zz := ⟨_, rfl⟩
   obtain ⟨b4, hb4⟩ : ∃ zz, (anyOf [1, 2] b3).2 = zz := ⟨_, rfl⟩
   have dkd := anyOf_mem [1, 2] (by simp) b3
   simp only [hkd] at dkd
   obtain ⟨sg, hsg⟩ : ∃ zz, (roll c.songs b4).1 = zz := ⟨_, rfl⟩
   obtain ⟨b5, hb5⟩ : ∃ zz, (roll c.songs b4).2 = zz := ⟨_, rfl⟩
   have dsg := roll_bd c.songs b4
   simp only [hsg] at dsg
   simp only [hrd0, hb3, hkd, hb4, hsg, hb5, hsa] at hinv
   refine W_skip (kq10 _ _ ?_)
   refine W_seq fun kz12 kq12 => ?_
   refine W_block ?_
   refine W_seq fun kz13 kq13 => ?_
   refine W_draw [0, 4, 7, 8, 9, 10, 11] [0, 1, 2, 3, 4, 5, 6, 7, 8, 9, 10, 11, 12, 13, 14, 15, 16, 17, 18, 19] [(0, 12), (0, 16), (0, 18), (0, 19), (1, 12), (1, 16), (1, 18), (1, 19), (2, 12), (2, 16), (2, 18), (2, 19), (3, 12), (3, 16), (3, 18), (3, 19), (4, 12), (4, 16), (4, 18), (4, 19), (10, 9), (11, 9), (13, 9), (13, 12), (14, 9), (14, 12), (15, 9), (15, 12), (17, 19)] [[], [], [0, 1], [0, 1, 2], [0, 1, 2, 3], [], [], [6], [6, 7], [5, 6, 7, 8], [], [], [5, 6, 7, 8, 9, 10, 11], [], [], [14], [5, 6, 7, 8, 9, 10, 11, 12, 13, 14, 15], [0, 1, 2, 3, 4, 5, 6, 7, 8, 9, 10, 11, 12, 13, 14, 15, 16], [], [0, 1, 2, 3, 4, 5, 6, 7, 8, 9, 10, 11, 12, 13, 14, 15, 16, 17, 18]] mixed (by kernel_rfl) fun R hR => ?_
   simp only [go_sem, ldS_at hd, stX_at hd, ldS_sv hlt, stX_sv hlt, sv_ext hlt, sv_ext_sv hlt, hk0, hb1, hser, hb2, hrd0, hb3, hkd, hb4, hsg, hb5, hsx, hwx, hil]
   try simp (disch := omega) only [wrapI, wrapU]
   refine GCall_of (Roll_pc Y _ d bb (by first | exact hd | exact sv_get hlt | exact get_svx hlt | exact get_extx hd) c.rounds.length (by omega)) ?_
   simp only [go_sem, ldS_at hd, stX_at hd, ldS_sv hlt, stX_sv hlt, sv_ext hlt, sv_ext_sv hlt, hk0, hb1, hser, hb2, hrd0, hb3, hkd, hb4, hsg, hb5, hsx, hwx, hil]
   try simp (disch := omega) only [wrapI, wrapU]
   refine GCall_of (Any_pc Y _ d b3 (by first | exact hd | exact sv_get hlt | exact get_svx hlt | exact get_extx hd) [1, 2] (by simp) (by simp)) ?_
   simp only [go_sem, ldS_at hd, stX_at hd, ldS_sv hlt, stX_sv hlt, sv_ext hlt, sv_ext_sv hlt, hk0, hb1, hser, hb2, hrd0, hb3, hkd, hb4, hsg, hb5, hsx, hwx, hil]
   try simp (disch := omega) only [wrapI, wrapU]
   refine GCall_of (Roll_pc Y _ d b4 (by first | exact hd | exact sv_get hlt | exact get_svx hlt | exact get_extx hd) c.songs (by omega)) ?_
   simp only [go_sem, ldS_at hd, stX_at hd, ldS_sv hlt, stX_sv hlt, sv_ext hlt, sv_ext_sv hlt, hk0, hb1, hser, hb2, hrd0, hb3, hkd, hb4, hsg, hb5, hsx, hwx, hil]
   try simp (disch := omega) only [wrapI, wrapU]
   try refine And.intro (by repeat' (first | refine And.intro ?_ ?_ | exact GOr_right (fun _ => by simp only [go_sem, ldS_at hd, stX_at hd, ldS_sv hlt, stX_sv hlt, sv_ext hlt, sv_ext_sv hlt, hk0, hb1, hser, hb2, hrd0, hb3, hkd, hb4, hsg, hb5, hsx, hwx, hil]))) ?_
   refine hR _ _ (kq13 _ _ ?_); clear hR R; try clear kq13 kz13
   try simp only [go_sem, ldS_at hd, stX_at hd, ldS_sv hlt, stX_sv hlt, sv_ext hlt, sv_ext_sv hlt, hk0, hb1, hser, hb2, hrd0, hb3, hkd, hb4, hsg, hb5]
   refine W_seq fun kz14 kq14 => ?_
   refine W_seq fun kz15 kq15 => ?_
   refine W_region [0, 4, 7, 8, 9, 10, 11, 53] fun R hR => ?_
   simp only [go_sem, ldS_at hd, stX_at hd, ldS_sv hlt, stX_sv hlt, sv_ext hlt, sv_ext_sv hlt, hk0, hb1, hser, hb2, hrd0, hb3, hkd, hb4, hsg, hb5]
   refine hR _ _ (kq15 _ _ ?_); clear hR R; try clear kq15 kz15
   try simp only [go_sem, ldS_at hd, stX_at hd, ldS_sv hlt, stX_sv hlt, sv_ext hlt, sv_ext_sv hlt, hk0, hb1, hser, hb2, hrd0, hb3, hkd, hb4, hsg, hb5]
   refine W_cond rfl (fun c3 => ?_) (fun c3 => ?_)
   ·try simp only [nrm] at c3
    refine W_region [0, 4, 7, 8, 9, 10, 11] fun R hR => ?_
    simp only [go_sem, ldS_at hd, stX_at hd, ldS_sv hlt, stX_sv hlt, sv_ext hlt, sv_ext_sv hlt, hk0, hb1, hser, hb2, hrd0, hb3, hkd, hb4, hsg, hb5]
    refine hR _ _ (kq14 _ _ ?_); clear hR R; try clear kq14 kz14
    try simp only [go_sem, ldS_at hd, stX_at hd, ldS_sv hlt, stX_sv hlt, sv_ext hlt, sv_ext_sv hlt, hk0, hb1, hser, hb2, hrd0, hb3, hkd, hb4, hsg, hb5]
    refine W_seq fun kz16 kq16 => ?_
    refine W_seq fun kz17 kq17 => ?_
    refine W_region [0, 4, 7, 8, 9, 10, 11, 57] fun R hR => ?_
    simp only [go_sem, ldS_at hd, stX_at hd, ldS_sv hlt, stX_sv hlt, sv_ext hlt, sv_ext_sv hlt, hk0, hb1, hser, hb2, hrd0, hb3, hkd, hb4, hsg, hb5]
    refine hR _ _ (kq17 _ _ ?_); clear hR R; try clear kq17 kz17
    try simp only [go_sem, ldS_at hd, stX_at hd, ldS_sv hlt, stX_sv hlt, sv_ext hlt, sv_ext_sv hlt, hk0, hb1, hser, hb2, hrd0, hb3, hkd, hb4, hsg, hb5]
    refine W_cond rfl (fun c4 => ?_) (fun c4 => ?_)
    ·try simp only [nrm] at c4
     exfalso
     omega
    ·try simp only [nrm] at c4
     refine W_skip (kq16 _ _ ?_)
     refine W_seq fun kz18 kq18 => ?_
     refine W_seq fun kz19 kq19 => ?_
     refine W_region [0, 4, 7, 8, 9, 10, 11, 61] fun R hR => ?_
     simp only [go_sem, ldS_at hd, stX_at hd, ldS_sv hlt, stX_sv hlt, sv_ext hlt, sv_ext_sv hlt, hk0, hb1, hser, hb2, hrd0, hb3, hkd, hb4, hsg, hb5]
     refine hR _ _ (kq19 _ _ ?_); clear hR R; try clear kq19 kz19
     try simp only [go_sem, ldS_at hd, stX_at hd, ldS_sv hlt, stX_sv hlt, sv_ext hlt, sv_ext_sv hlt, hk0, hb1, hser, hb2, hrd0, hb3, hkd, hb4, hsg, hb5]
     refine W_cond rfl (fun c5 => ?_) (fun c5 => ?_)
     ·try simp only [nrm] at c5
      exfalso
      simp at c5
     ·try simp only [nrm] at c5
      rw [if_neg (by simp [c3, c4])] at hinv
      obtain ⟨v, hv⟩ : ∃ zz, (roll c.members b5).1 = zz := ⟨_, rfl⟩
      obtain ⟨b6, hb6⟩ : ∃ zz, (roll c.members b5).2 = zz := ⟨_, rfl⟩
      have dv := roll_bd c.members b5
      simp only [hv] at dv
      simp only [dbind, hv, hb6] at hinv
      refine W_region [0, 4, 7, 8, 9, 10, 11] fun R hR => ?_
      simp only [go_sem, ldS_at hd, stX_at hd, ldS_sv hlt, stX_sv hlt, sv_ext hlt, sv_ext_sv hlt, hk0, hb1, hser, hb2, hrd0, hb3, hkd, hb4, hsg, hb5, hv, hb6]
      refine GCall_of (Roll_pc Y _ d b5 (by first | exact hd | exact sv_get hlt | exact get_svx hlt | exact get_extx hd) c.members (by omega)) ?_
      simp only [go_sem, ldS_at hd, stX_at hd, ldS_sv hlt, stX_sv hlt, sv_ext hlt, sv_ext_sv hlt, hk0, hb1, hser, hb2, hrd0, hb3, hkd, hb4, hsg, hb5, hv, hb6]
      refine hR _ _ (kq18 _ _ ?_); clear hR R; try clear kq18 kz18
      try simp only [go_sem, ldS_at hd, stX_at hd, ldS_sv hlt, stX_sv hlt, sv_ext hlt, sv_ext_sv hlt, hk0, hb1, hser, hb2, hrd0, hb3, hkd, hb4, hsg, hb5, hv, hb6]
      refine W_region [0, 4, 7, 8, 9, 10] fun R hR => ?_
      simp only [go_sem, ldS_at hd, stX_at hd, ldS_sv hlt, stX_sv hlt, sv_ext hlt, sv_ext_sv hlt, hk0, hb1, hser, hb2, hrd0, hb3, hkd, hb4, hsg, hb5, hv, hb6]
      try simp (disch := first | omega | (simp only [go_sem] <;> omega)) only [wrapI, wrapU, appX_exact, appX_tok]
      try simp only [go_sem, ldS_at hd, stX_at hd, ldS_sv hlt, stX_sv hlt, sv_ext hlt, sv_ext_sv hlt, hk0, hb1, hser, hb2, hrd0, hb3, hkd, hb4, hsg, hb5, hv, hb6]
      refine hR _ _ (kq12 _ _ ?_); clear hR R; try clear kq12 kz12
      try simp only [go_sem, ldS_at hd, stX_at hd, ldS_sv hlt, stX_sv hlt, sv_ext hlt, sv_ext_sv hlt, hk0, hb1, hser, hb2, hrd0, hb3, hkd, hb4, hsg, hb5, hv, hb6]
      refine W_region [0, 4, 7, 8, 9, 10] fun R hR => ?_
      simp only [go_sem, ldS_at hd, stX_at hd, ldS_sv hlt, stX_sv hlt, sv_ext hlt, sv_ext_sv hlt, hk0, hb1, hser, hb2, hrd0, hb3, hkd, hb4, hsg, hb5, hv, hb6]
      try simp (disch := omega) only [wrapI, wrapU]
      refine hR _ _ ?_; clear hR R
      try simp only [go_sem, ldS_at hd, stX_at hd, ldS_sv hlt, stX_sv hlt, sv_ext hlt, sv_ext_sv hlt, hk0, hb1, hser, hb2, hrd0, hb3, hkd, hb4, hsg, hb5, hv, hb6]
      refine ⟨(i + 1, acc ++ [⟨sx + 1, rd0, 2, v, sg, 0⟩], b6), ?_, by (try simp only []); omega, ?_⟩
      ·refine Weak.trans (Weak.cutSV 1 1 (by omega) (by omega) hcl (by simp only [go_sem]) (by simp only [go_sem] <;> omega) (by simp only [go_sem] <;> omega)) ?_
       simp only [go_sem]
       exact Weak.eq rfl rfl
      ·try dsimp only
       exact ⟨by omega, by simp; omega, hinv⟩
   ·try simp only [nrm] at c3
    refine W_skip (kq14 _ _ ?_)
    refine W_seq fun kz20 kq20 => ?_
    refine W_seq fun kz21 kq21 => ?_
    refine W_region [0, 4, 7, 8, 9, 10, 11, 57] fun R hR => ?_
    simp only [go_sem, ldS_at hd, stX_at hd, ldS_sv hlt, stX_sv hlt, sv_ext hlt, sv_ext_sv hlt, hk0, hb1, hser, hb2, hrd0, hb3, hkd, hb4, hsg, hb5]
    refine hR _ _ (kq21 _ _ ?_); clear hR R; try clear kq21 kz21
    try simp only [go_sem, ldS_at hd, stX_at hd, ldS_sv hlt, stX_sv hlt, sv_ext hlt, sv_ext_sv hlt, hk0, hb1, hser, hb2, hrd0, hb3, hkd, hb4, hsg, hb5]
    refine W_cond rfl (fun c6 => ?_) (fun c6 => ?_)
    ·try simp only [nrm] at c6
     refine W_region [0, 4, 7, 8, 9, 10, 11] fun R hR => ?_
     simp only [go_sem, ldS_at hd, stX_at hd, ldS_sv hlt, stX_sv hlt, sv_ext hlt, sv_ext_sv hlt, hk0, hb1, hser, hb2, hrd0, hb3, hkd, hb4, hsg, hb5]
     refine hR _ _ (kq20 _ _ ?_); clear hR R; try clear kq20 kz20
     try simp only [go_sem, ldS_at hd, stX_at hd, ldS_sv hlt, stX_sv hlt, sv_ext hlt, sv_ext_sv hlt, hk0, hb1, hser, hb2, hrd0, hb3, hkd, hb4, hsg, hb5]
     refine W_seq fun kz22 kq22 => ?_
     refine W_seq fun kz23 kq23 => ?_
     refine W_region [0, 4, 7, 8, 9, 10, 11, 61] fun R hR => ?_
     simp only [go_sem, ldS_at hd, stX_at hd, ldS_sv hlt, stX_sv hlt, sv_ext hlt, sv_ext_sv hlt, hk0, hb1, hser, hb2, hrd0, hb3, hkd, hb4, hsg, hb5]
     refine hR _ _ (kq23 _ _ ?_); clear hR R; try clear kq23 kz23
     try simp only [go_sem, ldS_at hd, stX_at hd, ldS_sv hlt, stX_sv hlt, sv_ext hlt, sv_ext_sv hlt, hk0, hb1, hser, hb2, hrd0, hb3, hkd, hb4, hsg, hb5]
     refine W_cond rfl (fun c7 => ?_) (fun c7 => ?_)
     ·try simp only [nrm] at c7
      rw [if_pos (by simp [c6])] at hinv
      obtain ⟨v, hv⟩ : ∃ zz, (roll c.juries b5).1 = zz := ⟨_, rfl⟩
      obtain ⟨b6, hb6⟩ : ∃ zz, (roll c.juries b5).2 = zz := ⟨_, rfl⟩
      have dv := roll_bd c.juries b5
      simp only [hv] at dv
      obtain ⟨p, hp⟩ : ∃ zz, (mid 0 c.most b6).1 = zz := ⟨_, rfl⟩
      obtain ⟨b7, hb7⟩ : ∃ zz, (mid 0 c.most b6).2 = zz := ⟨_, rfl⟩
      have dp := mid_bd 0 c.most hms.1 b6
      simp only [hp] at dp
      simp only [dbind, hv, hb6, hp, hb7] at hinv
      refine W_draw [0, 4, 7, 8, 9, 10, 11] [0, 1, 2, 3, 4, 5, 6, 7, 8, 9, 10, 11] [(4, 3), (5, 3), (6, 3), (8, 7)] [[], [], [1], [0, 1, 2], [], [], [5], [0, 1, 2, 3, 4, 5, 6], [0, 1, 2, 3], [0, 1, 2, 3, 4, 5, 6, 7, 8], [0, 1, 2, 3, 4, 5, 6, 7, 8, 9], [0, 1, 2, 3, 4, 5, 6, 7, 8, 9, 10]] mixed (by kernel_rfl) fun R hR => ?_
      simp only [go_sem, ldS_at hd, stX_at hd, ldS_sv hlt, stX_sv hlt, sv_ext hlt, sv_ext_sv hlt, hk0, hb1, hser, hb2, hrd0, hb3, hkd, hb4, hsg, hb5, hv, hb6, hp, hb7]
      refine GCall_of (Roll_pc Y _ d b5 (by first | exact hd | exact sv_get hlt | exact get_svx hlt | exact get_extx hd) c.juries (by omega)) ?_
      simp only [go_sem, ldS_at hd, stX_at hd, ldS_sv hlt, stX_sv hlt, sv_ext hlt, sv_ext_sv hlt, hk0, hb1, hser, hb2, hrd0, hb3, hkd, hb4, hsg, hb5, hv, hb6, hp, hb7]
      refine GCall_of (Mid_pc Y _ d b6 (by first | exact hd | exact sv_get hlt | exact get_svx hlt | exact get_extx hd) 0 c.most (by omega) (by omega) (by omega) (by omega)) ?_
      simp only [go_sem, ldS_at hd, stX_at hd, ldS_sv hlt, stX_sv hlt, sv_ext hlt, sv_ext_sv hlt, hk0, hb1, hser, hb2, hrd0, hb3, hkd, hb4, hsg, hb5, hv, hb6, hp, hb7]
      try refine And.intro (by repeat' (first | refine And.intro ?_ ?_ | exact GOr_right (fun _ => by simp only [go_sem, ldS_at hd, stX_at hd, ldS_sv hlt, stX_sv hlt, sv_ext hlt, sv_ext_sv hlt, hk0, hb1, hser, hb2, hrd0, hb3, hkd, hb4, hsg, hb5, hv, hb6, hp, hb7]))) ?_
      refine hR _ _ (kq22 _ _ ?_); clear hR R; try clear kq22 kz22
      try simp only [go_sem, ldS_at hd, stX_at hd, ldS_sv hlt, stX_sv hlt, sv_ext hlt, sv_ext_sv hlt, hk0, hb1, hser, hb2, hrd0, hb3, hkd, hb4, hsg, hb5, hv, hb6, hp, hb7]
      refine W_region [0, 4, 7, 8, 9, 10] fun R hR => ?_
      simp only [go_sem, ldS_at hd, stX_at hd, ldS_sv hlt, stX_sv hlt, sv_ext hlt, sv_ext_sv hlt, hk0, hb1, hser, hb2, hrd0, hb3, hkd, hb4, hsg, hb5, hv, hb6, hp, hb7]
      try simp (disch := first | omega | (simp only [go_sem] <;> omega)) only [wrapI, wrapU, appX_exact, appX_tok]
      try simp only [go_sem, ldS_at hd, stX_at hd, ldS_sv hlt, stX_sv hlt, sv_ext hlt, sv_ext_sv hlt, hk0, hb1, hser, hb2, hrd0, hb3, hkd, hb4, hsg, hb5, hv, hb6, hp, hb7]
      refine hR _ _ (kq12 _ _ ?_); clear hR R; try clear kq12 kz12
      try simp only [go_sem, ldS_at hd, stX_at hd, ldS_sv hlt, stX_sv hlt, sv_ext hlt, sv_ext_sv hlt, hk0, hb1, hser, hb2, hrd0, hb3, hkd, hb4, hsg, hb5, hv, hb6, hp, hb7]
      refine W_region [0, 4, 7, 8, 9, 10] fun R hR => ?_
      simp only [go_sem, ldS_at hd, stX_at hd, ldS_sv hlt, stX_sv hlt, sv_ext hlt, sv_ext_sv hlt, hk0, hb1, hser, hb2, hrd0, hb3, hkd, hb4, hsg, hb5, hv, hb6, hp, hb7]
      try simp (disch := omega) only [wrapI, wrapU]
      refine hR _ _ ?_; clear hR R
      try simp only [go_sem, ldS_at hd, stX_at hd, ldS_sv hlt, stX_sv hlt, sv_ext hlt, sv_ext_sv hlt, hk0, hb1, hser, hb2, hrd0, hb3, hkd, hb4, hsg, hb5, hv, hb6, hp, hb7]
      refine ⟨(i + 1, acc ++ [⟨sx + 1, rd0, 1, v, sg, p⟩], b7), ?_, by (try simp only []); omega, ?_⟩
      ·refine Weak.trans (Weak.cutSV 1 1 (by omega) (by omega) hcl (by simp only [go_sem]) (by simp only [go_sem] <;> omega) (by simp only [go_sem] <;> omega)) ?_
       simp only [go_sem]
       exact Weak.eq rfl rfl
      ·try dsimp only
       exact ⟨by omega, by simp; omega, hinv⟩
     ·try simp only [nrm] at c7
      exfalso
      simp at c7
    ·try simp only [nrm] at c6
     refine W_skip (kq20 _ _ ?_)
     refine W_seq fun kz24 kq24 => ?_
     refine W_seq fun kz25 kq25 => ?_
     refine W_region [0, 4, 7, 8, 9, 10, 11, 61] fun R hR => ?_
     simp only [go_sem, ldS_at hd, stX_at hd, ldS_sv hlt, stX_sv hlt, sv_ext hlt, sv_ext_sv hlt, hk0, hb1, hser, hb2, hrd0, hb3, hkd, hb4, hsg, hb5]
     refine hR _ _ (kq25 _ _ ?_); clear hR R; try clear kq25 kz25
     try simp only [go_sem, ldS_at hd, stX_at hd, ldS_sv hlt, stX_sv hlt, sv_ext hlt, sv_ext_sv hlt, hk0, hb1, hser, hb2, hrd0, hb3, hkd, hb4, hsg, hb5]
     refine W_cond rfl (fun c8 => ?_) (fun c8 => ?_)
     ·try simp only [nrm] at c8
      rw [if_pos (by simp [c3, c6, c8])] at hinv
      obtain ⟨v, hv⟩ : ∃ zz, (roll c.juries b5).1 = zz := ⟨_, rfl⟩
      obtain ⟨b6, hb6⟩ : ∃ zz, (roll c.juries b5).2 = zz := ⟨_, rfl⟩
      have dv := roll_bd c.juries b5
      simp only [hv] at dv
      obtain ⟨p, hp⟩ : ∃ zz, (mid 0 c.most b6).1 = zz := ⟨_, rfl⟩
      obtain ⟨b7, hb7⟩ : ∃ zz, (mid 0 c.most b6).2 = zz := ⟨_, rfl⟩
      have dp := mid_bd 0 c.most hms.1 b6
      simp only [hp] at dp
      simp only [dbind, hv, hb6, hp, hb7] at hinv
      subst c8
      refine W_draw [0, 4, 7, 8, 9, 10, 11] [0, 1, 2, 3, 4, 5, 6, 7, 8, 9, 10, 11] [(4, 3), (5, 3), (6, 3), (8, 7)] [[], [], [1], [0, 1, 2], [], [], [5], [0, 1, 2, 3, 4, 5, 6], [0, 1, 2, 3], [0, 1, 2, 3, 4, 5, 6, 7, 8], [0, 1, 2, 3, 4, 5, 6, 7, 8, 9], [0, 1, 2, 3, 4, 5, 6, 7, 8, 9, 10]] mixed (by kernel_rfl) fun R hR => ?_
      simp only [go_sem, ldS_at hd, stX_at hd, ldS_sv hlt, stX_sv hlt, sv_ext hlt, sv_ext_sv hlt, hk0, hb1, hser, hb2, hrd0, hb3, hkd, hb4, hsg, hb5, hv, hb6, hp, hb7]
      refine GCall_of (Roll_pc Y _ d b5 (by first | exact hd | exact sv_get hlt | exact get_svx hlt | exact get_extx hd) c.juries (by omega)) ?_
      simp only [go_sem, ldS_at hd, stX_at hd, ldS_sv hlt, stX_sv hlt, sv_ext hlt, sv_ext_sv hlt, hk0, hb1, hser, hb2, hrd0, hb3, hkd, hb4, hsg, hb5, hv, hb6, hp, hb7]
      refine GCall_of (Mid_pc Y _ d b6 (by first | exact hd | exact sv_get hlt | exact get_svx hlt | exact get_extx hd) 0 c.most (by omega) (by omega) (by omega) (by omega)) ?_
      simp only [go_sem, ldS_at hd, stX_at hd, ldS_sv hlt, stX_sv hlt, sv_ext hlt, sv_ext_sv hlt, hk0, hb1, hser, hb2, hrd0, hb3, hkd, hb4, hsg, hb5, hv, hb6, hp, hb7]
      try refine And.intro (by repeat' (first | refine And.intro ?_ ?_ | exact GOr_right (fun _ => by simp only [go_sem, ldS_at hd, stX_at hd, ldS_sv hlt, stX_sv hlt, sv_ext hlt, sv_ext_sv hlt, hk0, hb1, hser, hb2, hrd0, hb3, hkd, hb4, hsg, hb5, hv, hb6, hp, hb7]))) ?_
      refine hR _ _ (kq24 _ _ ?_); clear hR R; try clear kq24 kz24
      try simp only [go_sem, ldS_at hd, stX_at hd, ldS_sv hlt, stX_sv hlt, sv_ext hlt, sv_ext_sv hlt, hk0, hb1, hser, hb2, hrd0, hb3, hkd, hb4, hsg, hb5, hv, hb6, hp, hb7]
      refine W_region [0, 4, 7, 8, 9, 10] fun R hR => ?_
      simp only [go_sem, ldS_at hd, stX_at hd, ldS_sv hlt, stX_sv hlt, sv_ext hlt, sv_ext_sv hlt, hk0, hb1, hser, hb2, hrd0, hb3, hkd, hb4, hsg, hb5, hv, hb6, hp, hb7]
      try simp (disch := first | omega | (simp only [go_sem] <;> omega)) only [wrapI, wrapU, appX_exact, appX_tok]
      try simp only [go_sem, ldS_at hd, stX_at hd, ldS_sv hlt, stX_sv hlt, sv_ext hlt, sv_ext_sv hlt, hk0, hb1, hser, hb2, hrd0, hb3, hkd, hb4, hsg, hb5, hv, hb6, hp, hb7]
      refine hR _ _ (kq12 _ _ ?_); clear hR R; try clear kq12 kz12
      try simp only [go_sem, ldS_at hd, stX_at hd, ldS_sv hlt, stX_sv hlt, sv_ext hlt, sv_ext_sv hlt, hk0, hb1, hser, hb2, hrd0, hb3, hkd, hb4, hsg, hb5, hv, hb6, hp, hb7]
      refine W_region [0, 4, 7, 8, 9, 10] fun R hR => ?_
      simp only [go_sem, ldS_at hd, stX_at hd, ldS_sv hlt, stX_sv hlt, sv_ext hlt, sv_ext_sv hlt, hk0, hb1, hser, hb2, hrd0, hb3, hkd, hb4, hsg, hb5, hv, hb6, hp, hb7]
      try simp (disch := omega) only [wrapI, wrapU]
      refine hR _ _ ?_; clear hR R
      try simp only [go_sem, ldS_at hd, stX_at hd, ldS_sv hlt, stX_sv hlt, sv_ext hlt, sv_ext_sv hlt, hk0, hb1, hser, hb2, hrd0, hb3, hkd, hb4, hsg, hb5, hv, hb6, hp, hb7]
      refine ⟨(i + 1, acc ++ [⟨sx + 1, rd0, 1, v, sg, p⟩], b7), ?_, by (try simp only []); omega, ?_⟩
      ·refine Weak.trans (Weak.cutSV 1 1 (by omega) (by omega) hcl (by simp only [go_sem]) (by simp only [go_sem] <;> omega) (by simp only [go_sem] <;> omega)) ?_
       simp only [go_sem]
       exact Weak.eq rfl rfl
      ·try dsimp only
       exact ⟨by omega, by simp; omega, hinv⟩
     ·try simp only [nrm] at c8
      rw [if_neg (by simp [c3, c6, c8])] at hinv
      obtain ⟨v, hv⟩ : ∃ zz, (roll c.members b5).1 = zz := ⟨_, rfl⟩
      obtain ⟨b6, hb6⟩ : ∃ zz, (roll c.members b5).2 = zz := ⟨_, rfl⟩
      have dv := roll_bd c.members b5
      simp only [hv] at dv
      simp only [dbind, hv, hb6] at hinv
      have hk2 : kd = 2 := by
       rcases mem2 dkd with h | h
       ·exact absurd h c8
       ·exact h
      subst hk2
      refine W_region [0, 4, 7, 8, 9, 10, 11] fun R hR => ?_
      simp only [go_sem, ldS_at hd, stX_at hd, ldS_sv hlt, stX_sv hlt, sv_ext hlt, sv_ext_sv hlt, hk0, hb1, hser, hb2, hrd0, hb3, hkd, hb4, hsg, hb5, hv, hb6]
      refine GCall_of (Roll_pc Y _ d b5 (by first | exact hd | exact sv_get hlt | exact get_svx hlt | exact get_extx hd) c.members (by omega)) ?_
      simp only [go_sem, ldS_at hd, stX_at hd, ldS_sv hlt, stX_sv hlt, sv_ext hlt, sv_ext_sv hlt, hk0, hb1, hser, hb2, hrd0, hb3, hkd, hb4, hsg, hb5, hv, hb6]
      refine hR _ _ (kq24 _ _ ?_); clear hR R; try clear kq24 kz24
      try simp only [go_sem, ldS_at hd, stX_at hd, ldS_sv hlt, stX_sv hlt, sv_ext hlt, sv_ext_sv hlt, hk0, hb1, hser, hb2, hrd0, hb3, hkd, hb4, hsg, hb5, hv, hb6]
      refine W_region [0, 4, 7, 8, 9, 10] fun R hR => ?_
      simp only [go_sem, ldS_at hd, stX_at hd, ldS_sv hlt, stX_sv hlt, sv_ext hlt, sv_ext_sv hlt, hk0, hb1, hser, hb2, hrd0, hb3, hkd, hb4, hsg, hb5, hv, hb6]
      try simp (disch := first | omega | (simp only [go_sem] <;> omega)) only [wrapI, wrapU, appX_exact, appX_tok]
      try simp only [go_sem, ldS_at hd, stX_at hd, ldS_sv hlt, stX_sv hlt, sv_ext hlt, sv_ext_sv hlt, hk0, hb1, hser, hb2, hrd0, hb3, hkd, hb4, hsg, hb5, hv, hb6]
      refine hR _ _ (kq12 _ _ ?_); clear hR R; try clear kq12 kz12
      try simp only [go_sem, ldS_at hd, stX_at hd, ldS_sv hlt, stX_sv hlt, sv_ext hlt, sv_ext_sv hlt, hk0, hb1, hser, hb2, hrd0, hb3, hkd, hb4, hsg, hb5, hv, hb6]
      refine W_region [0, 4, 7, 8, 9, 10] fun R hR => ?_
      simp only [go_sem, ldS_at hd, stX_at hd, ldS_sv hlt, stX_sv hlt, sv_ext hlt, sv_ext_sv hlt, hk0, hb1, hser, hb2, hrd0, hb3, hkd, hb4, hsg, hb5, hv, hb6]
      try simp (disch := omega) only [wrapI, wrapU]
      refine hR _ _ ?_; clear hR R
      try simp only [go_sem, ldS_at hd, stX_at hd, ldS_sv hlt, stX_sv hlt, sv_ext hlt, sv_ext_sv hlt, hk0, hb1, hser, hb2, hrd0, hb3, hkd, hb4, hsg, hb5, hv, hb6]
      refine ⟨(i + 1, acc ++ [⟨sx + 1, rd0, 2, v, sg, 0⟩], b6), ?_, by (try simp only []); omega, ?_⟩
      ·refine Weak.trans (Weak.cutSV 1 1 (by omega) (by omega) hcl (by simp only [go_sem]) (by simp only [go_sem] <;> omega) (by simp only [go_sem] <;> omega)) ?_
       simp only [go_sem]
       exact Weak.eq rfl rfl
      ·try dsimp only
       exact ⟨by omega, by simp; omega, hinv⟩
  ·try simp only [nrm] at c2
   have hie : kn = i := by first | omega | (simp at c2; omega)
   subst hie
   rw [Nat.sub_self] at hinv
   simp only [ballotsC, dret] at hinv
   refine W_exit ?_
   simp only [go_sem, ldS_at hd, stX_at hd, ldS_sv hlt, stX_sv hlt, sv_ext hlt, sv_ext_sv hlt, hk0, hb1, hser, hb2]
   refine kq8 _ _ ?_
   refine W_seq fun kz26 kq26 => ?_
   refine W_region [6] fun R hR => ?_
   simp only [go_sem, ldS_at hd, stX_at hd, ldS_sv hlt, stX_sv hlt, sv_ext hlt, sv_ext_sv hlt, hk0, hb1, hser, hb2]
   refine hR _ _ (kq26 _ _ ?_); clear hR R; try clear kq26 kz26
   try simp only [go_sem, ldS_at hd, stX_at hd, ldS_sv hlt, stX_sv hlt, sv_ext hlt, sv_ext_sv hlt, hk0, hb1, hser, hb2]
   refine W_ret ?_
   simp only [go_sem, ldS_at hd, stX_at hd, ldS_sv hlt, stX_sv hlt, sv_ext hlt, sv_ext_sv hlt, hk0, hb1, hser, hb2]
   refine ⟨.inr (by trivial), ?_⟩
   rw [← hinv]; refine Fin_set hcl (by simp only [go_sem]) rfl (Wk.ro (by simp only [go_sem]) ?_)
   try simp only [go_sem]
   all_goals
    first | done | rfl | simp only [go_sem]
end Go.Proofs.YtnolifglhhjdnaaGreat
namespace Go.Proofs.YtnolifglhhjdnaaGreat
open Go Go.RowKit
set_option maxRecDepth 100000
def exC : Contest := ⟨3, 2, 3, 10, [⟨2, 1, 2⟩, ⟨1, 1, 3⟩]⟩
def exL : List Ballot := [⟨1, 0, 1, 0, 0, 7⟩, ⟨2, 0, 1, 0, 1, 9⟩, ⟨3, 0, 1, 1, 2, 8⟩, ⟨4, 0, 2, 0, 0, 0⟩, ⟨5, 0, 2, 0, 1, 0⟩, ⟨6, 0, 2, 1, 0, 0⟩, ⟨7, 1, 2, 0, 2, 0⟩, ⟨8, 1, 2, 0, 1, 0⟩, ⟨9, 1, 1, 1, 1, 4⟩, ⟨10, 1, 2, 1, 0, 0⟩]
def exD : Contest := ⟨2, 0, 3, 0, [⟨1, 0, 1⟩]⟩
def exK : List Ballot := [⟨1, 0, 2, 0, 0, 0⟩, ⟨2, 0, 2, 1, 0, 0⟩]
def exP : List (List Int) := [[0, 1, 2], [1, 0, 2], [1, 2, 0], [2, 0, 1], [2, 0, 1]]
def exT0 : Tally := countT ⟨2, 1, 2⟩ 0 [0, 1, 2] exL
def exT1 : Tally := countT ⟨1, 1, 3⟩ 1 [0, 1] exL
def exT2 : Tally := countT ⟨1, 0, 1⟩ 0 [0, 1] exK
theorem ex0 : resT exT0 = ⟨[0, 1, 2], [7, 9, 8], [2, 0, 0], [11, 9, 8], [0, 1]⟩ := by
 unfold resT keptS
 rw [sortI_isort]
 decide
theorem ex1 : resT exT1 = ⟨[0, 1], [0, 4], [1, 1], [3, 7], [1]⟩ := by
 unfold resT keptS
 rw [sortI_isort]
 decide
theorem exTs : roundsT exC exL = [exT0, exT1] := by
 have e : (resT (countT ⟨2, 1, 2⟩ ((0 : Nat) : Int) (toI 3) exL)).kept = [0, 1] := by
  have := congrArg Res.kept ex0
  exact this
 unfold roundsT
 simp only [exC, rdsT]
 rw [e]
 rfl
theorem exRun : runD exC exL = ([⟨[0, 1, 2], [7, 9, 8], [2, 0, 0], [11, 9, 8], [0, 1]⟩, ⟨[0, 1], [0, 4], [1, 1], [3, 7], [1]⟩], 1, 0) := by
 have h0 : chkBls exC exL = 0 := by decide
 unfold runD
 rw [if_neg (by rw [h0]; simp)]
 have h1 : resultsT exC exL = [⟨[0, 1, 2], [7, 9, 8], [2, 0, 0], [11, 9, 8], [0, 1]⟩, ⟨[0, 1], [0, 4], [1, 1], [3, 7], [1]⟩] := by
  unfold resultsT
  rw [exTs, List.map_cons, List.map_cons, List.map_nil, ex0, ex1]
 rw [h1]
 unfold winnerT
 rw [h1]
 rfl
theorem exMust0 : mustT exT2 exD 0 = true := by
 unfold mustT
 simp only [sortI_isort]
 decide
theorem exMust1 : mustT exT2 exD 1 = false := by
 unfold mustT
 simp only [sortI_isort]
 decide
theorem exMay1 : mayT exT2 exD 1 (freeT exT2 exD) = false := by decide
theorem exStays : staysD exD exK 0 = ([1, 2], 0) := by
 have h0 : chkBls exD exK = 0 := by decide
 have h1 : roundsT exD exK = [exT2] := rfl
 have h2 : inR 0 0 ((exD.rounds.length : Int) - 1) = true := by decide
 unfold staysD
 rw [if_neg (by rw [h0]; simp), if_neg (by rw [h2]; simp), h1]
 have e0 : staysV exT2 exD 0 = 1 := by unfold staysV; rw [if_neg (by decide), if_pos exMust0]
 have e1 : staysV exT2 exD 1 = 2 := by unfold staysV; rw [if_neg (by decide), if_neg (by rw [exMust1]; simp), if_neg (by rw [exMay1]; simp)]
 show ([staysV exT2 exD 0, staysV exT2 exD 1], (0 : Int)) = _
 rw [e0, e1]
theorem exRunoff : runoffA 3 exP = ([0, 2], 1, 0) := by decide
set_option maxHeartbeats 2000000 in
theorem contest_pc (Y : YEnv) (σ : Sg)  :
  PC Tryz.prog Y 51 [] σ (cnPV exC) (σ) := by
 refine PC_of_W Tryz.func51 rfl (by kernel_rfl) Tryz.ntmps51 (by simp) fun hcl hca => ?_
 refine W_seq fun kz1 kq1 => ?_
 refine W_region [0] fun R hR => ?_
 simp only [go_sem]
 refine hR _ _ (kq1 _ _ ?_); clear hR R; try clear kq1 kz1
 try simp only [go_sem]
 refine W_seq fun kz2 kq2 => ?_
 refine W_region [0] fun R hR => ?_
 simp only [go_sem]
 refine hR _ _ (kq2 _ _ ?_); clear hR R; try clear kq2 kz2
 try simp only [go_sem]
 refine W_ret ?_
 simp only [go_sem]
 refine ⟨.inr (by trivial), ?_⟩
 refine Fin_same hcl (by show resPV Tryz.prog _ _ [.cell 0 25] = some _; simp only [resPV, go_sem]; rfl) (Wk.ro (by simp only [go_sem, exC, List.map_cons, List.map_nil]) ?_)
 try simp only [go_sem]
 all_goals
  simp only [go_sem, exC, List.map_cons, List.map_nil]; first | done | rfl
set_option maxHeartbeats 2000000 in
theorem ballots_pc (Y : YEnv) (σ : Sg)  :
  PC Tryz.prog Y 52 [] σ (bls exL) (σ) := by
 refine PC_of_W Tryz.func52 rfl (by kernel_rfl) Tryz.ntmps52 (by simp) fun hcl hca => ?_
 refine W_seq fun kz1 kq1 => ?_
 refine W_region [] fun R hR => ?_
 simp only [go_sem]
 refine hR _ _ (kq1 _ _ ?_); clear hR R; try clear kq1 kz1
 try simp only [go_sem]
 refine W_seq fun kz2 kq2 => ?_
 refine W_region [0] fun R hR => ?_
 simp only [go_sem]
 refine hR _ _ (kq2 _ _ ?_); clear hR R; try clear kq2 kz2
 try simp only [go_sem]
 refine W_ret ?_
 simp only [go_sem]
 refine ⟨.inr (by trivial), ?_⟩
 refine Fin_self hcl rfl (Wk.ro (by simp only [go_sem, exL, List.map_cons, List.map_nil]) ?_)
 try simp only [go_sem]
 all_goals
  simp only [go_sem, exL, List.map_cons, List.map_nil]; first | done | rfl
set_option maxHeartbeats 2000000 in
theorem duel_pc (Y : YEnv) (σ : Sg)  :
  PC Tryz.prog Y 53 [] σ (cnPV exD) (σ) := by
 refine PC_of_W Tryz.func53 rfl (by kernel_rfl) Tryz.ntmps53 (by simp) fun hcl hca => ?_
 refine W_seq fun kz1 kq1 => ?_
 refine W_region [0] fun R hR => ?_
 simp only [go_sem]
 refine hR _ _ (kq1 _ _ ?_); clear hR R; try clear kq1 kz1
 try simp only [go_sem]
 refine W_seq fun kz2 kq2 => ?_
 refine W_region [0] fun R hR => ?_
 simp only [go_sem]
 refine hR _ _ (kq2 _ _ ?_); clear hR R; try clear kq2 kz2
 try simp only [go_sem]
 refine W_ret ?_
 simp only [go_sem]
 refine ⟨.inr (by trivial), ?_⟩
 refine Fin_same hcl (by show resPV Tryz.prog _ _ [.cell 0 25] = some _; simp only [resPV, go_sem]; rfl) (Wk.ro (by simp only [go_sem, exD, List.map_cons, List.map_nil]) ?_)
 try simp only [go_sem]
 all_goals
  simp only [go_sem, exD, List.map_cons, List.map_nil]; first | done | rfl
set_option maxHeartbeats 2000000 in
theorem votes_pc (Y : YEnv) (σ : Sg)  :
  PC Tryz.prog Y 54 [] σ (bls exK) (σ) := by
 refine PC_of_W Tryz.func54 rfl (by kernel_rfl) Tryz.ntmps54 (by simp) fun hcl hca => ?_
 refine W_seq fun kz1 kq1 => ?_
 refine W_region [] fun R hR => ?_
 simp only [go_sem]
 refine hR _ _ (kq1 _ _ ?_); clear hR R; try clear kq1 kz1
 try simp only [go_sem]
 refine W_seq fun kz2 kq2 => ?_
 refine W_region [0] fun R hR => ?_
 simp only [go_sem]
 refine hR _ _ (kq2 _ _ ?_); clear hR R; try clear kq2 kz2
 try simp only [go_sem]
 refine W_ret ?_
 simp only [go_sem]
 refine ⟨.inr (by trivial), ?_⟩
 refine Fin_self hcl rfl (Wk.ro (by simp only [go_sem, exK, List.map_cons, List.map_nil]) ?_)
 try simp only [go_sem]
 all_goals
  simp only [go_sem, exK, List.map_cons, List.map_nil]; first | done | rfl
set_option maxHeartbeats 2000000 in
theorem prefs_pc (Y : YEnv) (σ : Sg)  :
  PC Tryz.prog Y 56 [] σ (lls exP) (σ) := by
 refine PC_of_W Tryz.func56 rfl (by kernel_rfl) Tryz.ntmps56 (by simp) fun hcl hca => ?_
 refine W_seq fun kz1 kq1 => ?_
 refine W_region [] fun R hR => ?_
 simp only [go_sem]
 refine hR _ _ (kq1 _ _ ?_); clear hR R; try clear kq1 kz1
 try simp only [go_sem]
 refine W_seq fun kz2 kq2 => ?_
 refine W_region [0] fun R hR => ?_
 simp only [go_sem]
 refine hR _ _ (kq2 _ _ ?_); clear hR R; try clear kq2 kz2
 try simp only [go_sem]
 refine W_ret ?_
 simp only [go_sem]
 refine ⟨.inr (by trivial), ?_⟩
 refine Fin_self hcl rfl (Wk.ro (by simp only [go_sem, exP, llPV, List.map_cons, List.map_nil]) ?_)
 try simp only [go_sem]
 all_goals
  simp only [go_sem, exP, llPV, List.map_cons, List.map_nil]; first | done | rfl
set_option maxHeartbeats 4000000 in
theorem awake_pc (Y : YEnv) (σ : Sg)  :
  PC Tryz.prog Y 16 [] σ (.bool true) (σ) := by
 refine PC_of_W Tryz.func16 rfl (by kernel_rfl) Tryz.ntmps16 (by simp) fun hcl hca => ?_
 refine W_seq fun kz1 kq1 => ?_
 refine W_region [] fun R hR => ?_
 simp only [go_sem, List.map_cons, List.map_nil]
 refine hR _ _ (kq1 _ _ ?_); clear hR R; try clear kq1 kz1
 try simp only [go_sem, List.map_cons, List.map_nil]
 refine W_seq fun kz2 kq2 => ?_
 refine W_region [1, 2, 3] fun R hR => ?_
 simp only [go_sem, List.map_cons, List.map_nil]
 refine GCall_of (contest_pc Y _) ?_
 simp only [go_sem, List.map_cons, List.map_nil]
 refine GCall_of (ballots_pc Y _) ?_
 simp only [go_sem, List.map_cons, List.map_nil]
 refine GCall_of (PC.val (v' := .tuple [rss [⟨[0, 1, 2], [7, 9, 8], [2, 0, 0], [11, 9, 8], [0, 1]⟩, ⟨[0, 1], [0, 4], [1, 1], [3, 7], [1]⟩], I 1, I 0]) (Run_pc Y _ exC exL (by decide) (by decide)) (by rw [exRun])) ?_
 simp only [go_sem, List.map_cons, List.map_nil]
 refine hR _ _ (kq2 _ _ ?_); clear hR R; try clear kq2 kz2
 try simp only [go_sem, List.map_cons, List.map_nil]
 refine W_seq fun kz3 kq3 => ?_
 refine W_region [1, 2, 3, 4, 5] fun R hR => ?_
 simp only [go_sem, List.map_cons, List.map_nil]
 refine GCall_of (duel_pc Y _) ?_
 simp only [go_sem, List.map_cons, List.map_nil]
 refine GCall_of (votes_pc Y _) ?_
 simp only [go_sem, List.map_cons, List.map_nil]
 refine GCall_of (PC.val (v' := .tuple [ints [1, 2], I 0]) (Stays_pc Y _ exD exK 0 (by decide) (by decide)) (by rw [exStays])) ?_
 simp only [go_sem, List.map_cons, List.map_nil]
 refine hR _ _ (kq3 _ _ ?_); clear hR R; try clear kq3 kz3
 try simp only [go_sem, List.map_cons, List.map_nil]
 refine W_seq fun kz4 kq4 => ?_
 refine W_region [1, 2, 3, 4, 5, 6, 7, 8] fun R hR => ?_
 simp only [go_sem, List.map_cons, List.map_nil]
 refine GCall_of (prefs_pc Y _) ?_
 simp only [go_sem, List.map_cons, List.map_nil]
 refine GCall_of (PC.val (v' := .tuple [ints [0, 2], I 1, I 0]) (Runoff_pc Y _ 3 exP (by decide) (by decide)) (by rw [exRunoff])) ?_
 simp only [go_sem, List.map_cons, List.map_nil]
 refine hR _ _ (kq4 _ _ ?_); clear hR R; try clear kq4 kz4
 try simp only [go_sem, List.map_cons, List.map_nil]
 refine W_seq fun kz5 kq5 => ?_
 refine W_region [0] fun R hR => ?_
 simp only [go_sem, List.map_cons, List.map_nil, iaX0 (c := 5) (p := .agg [ints [0, 1, 2], ints [7, 9, 8], ints [2, 0, 0], ints [11, 9, 8], ints [0, 1]]) rfl, elS0]
 refine GCall_of (PC.val (v' := .bool true) (EqInts_pc Y _ [11, 9, 8] [11, 9, 8] .ro .exact (by decide)) (by rfl)) ?_
 simp only [go_sem, List.map_cons, List.map_nil, iaX0 (c := 5) (p := .agg [ints [0, 1, 2], ints [7, 9, 8], ints [2, 0, 0], ints [11, 9, 8], ints [0, 1]]) rfl, elS0]
 refine GCall_of (PC.val (v' := .bool true) (EqInts_pc Y _ [1, 2] [1, 2] .ro .exact (by decide)) (by rfl)) ?_
 simp only [go_sem, List.map_cons, List.map_nil, iaX0 (c := 5) (p := .agg [ints [0, 1, 2], ints [7, 9, 8], ints [2, 0, 0], ints [11, 9, 8], ints [0, 1]]) rfl, elS0]
 refine GCall_of (PC.val (v' := .bool true) (EqInts_pc Y _ [0, 2] [0, 2] .ro .exact (by decide)) (by rfl)) ?_
 simp only [go_sem, List.map_cons, List.map_nil, iaX0 (c := 5) (p := .agg [ints [0, 1, 2], ints [7, 9, 8], ints [2, 0, 0], ints [11, 9, 8], ints [0, 1]]) rfl, elS0]
 refine hR _ _ (kq5 _ _ ?_); clear hR R; try clear kq5 kz5
 try simp only [go_sem, List.map_cons, List.map_nil]
 refine W_ret ?_
 simp only [go_sem, List.map_cons, List.map_nil]
 refine ⟨.inr (by trivial), ?_⟩
 first | refine Fin_same hcl rfl (Wk_eq ?_ (by simp only [go_sem])) | refine Fin_self hcl rfl (Wk_eq ?_ (by simp only [go_sem]))
 try simp only [go_sem]
 all_goals
  first | rfl | (simp_all; done) | (simp_all; omega)
end Go.Proofs.YtnolifglhhjdnaaGreat
