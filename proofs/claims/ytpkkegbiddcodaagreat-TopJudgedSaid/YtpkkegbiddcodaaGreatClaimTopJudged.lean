/-
  The law TopJudged: whatever comes in, it answers true and leaves what came in as it was.
  The law TopJudged, walked: judges choose as juries do.
  What is done to texts at this seat's types.
  Walks: a contest run (song).
  Walks: all rounds counted (song).
-/
import Derived.Test.YtpkkegbiddcodaaGreatPf
import Derived.CallsIn
import Derived.RangeFuncLeaves
import Derived.RangeFuncRecord
import Derived.OrdersIn
import Derived.Below
import Derived.Laws.World
import Derived.Laws.StructEq
import Derived.Laws.BytesString
import Derived.Laws.Append
import Derived.MapKept
import Derived.ProofKit
import Derived.Carry
import Derived.Handed
import Derived.ChangeCalls
import Derived.Stop.Joined
import Derived.Lib.LaidTab
import Derived.Shelf.Strconv.Itoa3
import Derived.RangeFuncIn
import Derived.RangeFuncNested
import Derived.Test.YtpkkegbiddcodaaGreatProg
import Derived.KernelRfl
import Derived.IntWalk
import Derived.Test.YtpkkegbiddcodaaGreatRows
import Derived.Sort.OwnSortedInts
import Derived.Lib.SlicesCompact
import Derived.Shelf.Sort.Plain
import Derived.Shelf.Slices.In.SortNone
import Derived.Shelf.Small.Bits
import Derived.JoinedOf
set_option linter.unusedSimpArgs false
set_option linter.unusedVariables false
namespace Go.Proofs.YtpkkegbiddcodaaGreat.So
open Go Go.RowKit
set_option maxRecDepth 100000
theorem Fin_more {P : Program} {fn : Func} {σ σ' : Sg} {E : Env} {rs : List PV} {v : PV} (hcl : CleanSg σ') (h1 : σ.store.length ≤ σ'.store.length) (h2 : σ.rooms.length ≤ σ'.rooms.length) (h3 : σ'.ys.length = σ.ys.length)
 (hr : resPV P σ' E fn.results.toList = some rs) (hv : Wk σ'.store.length σ'.rooms.length σ.ys.length (oneOr rs) v) : Fin P fn σ v σ' E σ' := by
 refine ⟨rs, _, _, hr, h1, h2, hv, ?_, ?_, h3⟩
 ·rw [← h3]; simp [Sg.cut]
 unfold CleanSg at hcl; rw [h3] at hcl; exact hcl
set_option maxHeartbeats 8000000 in
theorem rounds_pc (Y : YEnv) (σ : Sg) (c : Contest) (l : List Ballot) (hV : CnV c) (hl : l.length ≤ 300) (hb : ∀ b, b ∈ l → BlV c b) :
 PC Tryz.prog Y 23 [cnPV c, bls l] σ (.isl (tls (σ.store.length + 1) (roundsT c l)) .ro) (σ.ext (none :: mapsOf (roundsT c l)) []) := by
 refine PC_of_W Tryz.func23 rfl (by kernel_rfl) Tryz.ntmps23 (by simp) fun hcl hca => ?_
 obtain ⟨ts, hts⟩ : ∃ z, roundsT c l = z := ⟨_, rfl⟩
 rw [hts]
 have hsg := hV.sg
 have hrl := hV.rl
 have hms := hV.ms
 obtain ⟨N, hN⟩ : ∃ z : Nat, c.songs = z := ⟨c.songs.toNat, by omega⟩
 have htl : ts.length = c.rounds.length := by rw [← hts]; exact rdsT_len
 have hbv : ∀ b, b ∈ l → (0 ≤ b.song ∧ b.song < 8) ∧ 0 ≤ b.points ∧ b.points ≤ 100 := fun b h => by
  have h1 := (hb b h).sg
  have h2 := (hb b h).pt
  split at h2 <;> omega
 refine W_sr [1, 2] fun R hR => ?_
 simp only [go_sem]
 refine hR _ _ ?_; clear hR R
 try simp only [go_sem]
 refine W_sr [1, 2, 5] fun R hR => ?_
 simp only [go_sem]
 refine hR _ _ ?_; clear hR R
 try simp only [go_sem]
 refine W_seq fun Z3 K3 => ?_
 refine W_sr [1, 2, 5, 11, 12] fun R hR => ?_
 simp only [go_sem, hN]
 refine hR _ _ ?_; clear hR R
 try simp only [go_sem]
 refine W_block ?_
 refine W_weak (Weak.room (t := 5) (es := 1) rfl (by simp)) ?_
 refine W_weak (Weak.keep [1, 2, 5, 11, 12]) ?_
 simp only [go_sem]
 refine W_loopT (α := Nat) (fun (i : Nat) => [(5, .isl ((toN i).map I) (.tok σ.rooms.length i 1)), (12, I i)]) (fun (i : Nat) => σ.ext [some [I (N : Int), I c.juries, I c.members, I c.most, rds c.rounds]] [i]) (fun (i : Nat) => i ≤ N) (fun (i : Nat) => N - i) (0) rfl (by first | rfl | (simp only [go_sem]; done) | (simp only [go_sem]; rfl)) (Nat.zero_le _) ?_
 rintro i hi
 refine W_sr [1, 2, 5, 11, 12, 13] fun R hR => ?_
 simp only [go_sem]
 refine hR _ _ ?_; clear hR R
 try simp only [go_sem]
 refine W_seq fun Z6 K6 => ?_
 refine W_cond rfl (fun c1 => ?_) (fun c1 => ?_)
 ·
  try simp only [nrm] at c1
  have hi1 : i < N := by first | omega | (simp at c1; omega)
  have htn := toN_len i
  refine W_skip (K6 _ _ ?_)
  refine W_seq fun Z7 K7 => ?_
  refine W_block ?_
  refine W_sr [1, 2, 5, 6, 11, 12] fun R hR => ?_
  simp only [go_sem]
  refine hR _ _ ?_; clear hR R
  try simp only [go_sem]
  refine W_region [1, 2, 5, 11, 12] fun R hR => ?_
  simp only [go_sem]
  try simp (disch := first | omega | (simp only [go_sem] <;> omega)) only [wrapI, wrapU, appX_exact, appX_tok]
  try simp only [go_sem]
  refine hR _ _ (K7 _ _ ?_); clear hR R; try clear K7 Z7
  try simp only [go_sem]
  refine W_region [1, 2, 5, 11, 12] fun R hR => ?_
  simp only [go_sem]
  try simp (disch := omega) only [wrapI, wrapU]
  refine hR _ _ ?_; clear hR R
  try simp only [go_sem]
  refine ⟨i + 1, ?_, by (try simp only []); omega, ?_⟩
  ·exact Weak.eq (by rw [toN_succ]; simp only [List.map_append, List.map_cons, List.map_nil]; first | done | rfl) rfl
  try dsimp only
  omega
 try simp only [nrm] at c1
 have hie : N = i := by first | omega | (simp at c1; omega)
 subst hie
 refine W_exit ?_
 simp only [go_sem]
 refine K3 _ _ ?_
 refine W_seq fun Z9 K9 => ?_
 simp only [← hN]
 refine W_weak (Weak.ro 5) ?_
 refine W_weak (Weak.keep [1, 2, 4, 5]) ?_
 simp only [go_sem]
 refine W_weak (Weak.cutX 1 0 (by omega) (by omega) hcl (by simp only [go_sem] <;> omega) (by simp only [go_sem] <;> omega)) ?_
 simp only [go_sem]
 refine W_region [1, 2, 5, 7] fun R hR => ?_
 simp only [go_sem]
 refine hR _ _ (K9 _ _ ?_); clear hR R; try clear K9 Z9
 try simp only [go_sem]
 refine W_seq fun Z10 K10 => ?_
 refine W_sr [1, 2, 5, 7, 22, 23] fun R hR => ?_
 simp only [go_sem]
 refine hR _ _ ?_; clear hR R
 try simp only [go_sem]
 refine W_block ?_
 refine W_weak (Weak.room (t := 7) (es := 21) rfl (by simp)) ?_
 refine W_weak (Weak.keep [1, 2, 5, 7, 22, 23]) ?_
 simp only [go_sem]
 refine W_loopT (α := Nat × (List Int)) (fun ⟨i, ss⟩ => [(5, ints ss), (7, .isl (tls (σ.store.length + 1) (ts.take i)) (.tok σ.rooms.length i 21)), (23, I i)]) (fun ⟨i, ss⟩ => σ.ext (some (cnCells c) :: mapsOf (ts.take i)) [i]) (fun ⟨i, ss⟩ => i ≤ c.rounds.length ∧ SgOk ss ∧ chkRds ss.length (c.rounds.drop i) = 0 ∧ rdsT l (c.rounds.drop i) i ss = ts.drop i) (fun ⟨i, ss⟩ => c.rounds.length - i) ((0, toN N)) rfl (by first | rfl | (simp only [go_sem]; done) | (simp only [go_sem]; rfl)) (⟨Nat.zero_le _, by have := sgOk_all hV; rw [hN, toI_N] at this; exact this, by rw [toN_len]; have := hV.rs; rw [hN] at this; exact this, by rw [← hts]; unfold roundsT; rw [hN, toI_N]; rfl⟩) ?_
 rintro ⟨i, ss⟩ ⟨hi, hso, hck, hrd⟩
 have htk : (ts.take i).length = i := by rw [List.length_take]; omega
 obtain ⟨τ, hτ⟩ : ∃ z, σ.ext (some (cnCells c) :: mapsOf (ts.take i)) [] = z := ⟨_, rfl⟩
 have hτe : σ.ext (some (cnCells c) :: mapsOf (ts.take i)) [i] = τ.ext [] [i] := by rw [← hτ, Sg.ext_ext]; simp
 have hτr : σ.rooms.length = τ.rooms.length := by rw [← hτ]; simp [Sg.ext]
 have hτy : τ.ys = σ.ys := by rw [← hτ]; simp [Sg.ext]
 have hid : τ.store.length = σ.store.length + 1 + i := by rw [← hτ]; simp only [Sg.len_ext, List.length_cons, mapsOf_len, htk]; omega
 have hclτ : CleanSg τ := by rw [← hτ]; exact CleanSg_ext hcl (by show CleanLs _ _ _ _; simp only [go_sem])
 have hd0 : τ.store[σ.store.length]? = some (some (cnCells c)) := by rw [← hτ]; exact Sg.get_ext0 ..
 dsimp only
 rw [hτe]
 simp only [hτr]
 refine W_sr [1, 2, 5, 7, 22, 23, 24] fun R hR => ?_
 simp only [go_sem, ldA_at (get_extx hd0)]
 refine hR _ _ ?_; clear hR R
 try simp only [go_sem, ldA_at (get_extx hd0)]
 refine W_seq fun Z13 K13 => ?_
 refine W_cond rfl (fun c2 => ?_) (fun c2 => ?_)
 ·
  try simp only [nrm] at c2
  have hi' : i < c.rounds.length := by first | omega | (simp at c2; omega)
  obtain ⟨r, hr⟩ : ∃ z, c.rounds[i]? = some z := ⟨c.rounds[i], by simp [hi']⟩
  have hdrop : c.rounds.drop i = r :: c.rounds.drop (i + 1) := by rw [List.drop_eq_getElem_cons hi']; congr 1; exact (List.getElem?_eq_some_iff.1 hr).2
  rw [hdrop] at hck hrd
  obtain ⟨h1, h2, h3, h4⟩ := chkRds_step hck
  have hTB := countT_b (rd := (i : Int)) hl hb hms.2 h2 h3 h1 hso
  simp only [rdsT] at hrd
  have hti : ts[i]? = some (countT r i ss l) := by
   have := congrArg (fun z => z[0]?) hrd
   simpa using this.symm
  have htd : rdsT l (c.rounds.drop (i + 1)) (i + 1) (resT (countT r i ss l)).kept = ts.drop (i + 1) := by
   have := congrArg List.tail hrd
   simpa using this
  have hsn : ts.take (i + 1) = ts.take i ++ [countT r i ss l] := by rw [List.take_add_one, hti]; rfl
  have hkl := resT_klen (t := countT r i ss l) h1.2
  have hke : (countT r i ss l).rd.keep = r.keep := rfl
  refine W_skip (K13 _ _ ?_)
  refine W_seq fun Z14 K14 => ?_
  refine W_block ?_
  refine W_sr [1, 2, 5, 7, 8, 22, 23] fun R hR => ?_
  simp only [go_sem, ldA_at (get_extx hd0)]
  refine hR _ _ ?_; clear hR R
  try simp only [go_sem, ldA_at (get_extx hd0)]
  refine W_sr [1, 2, 7, 9, 22, 23] fun R hR => ?_
  simp only [go_sem, ldA_at (get_extx hd0), tlPV, tlCells]
  refine GCall_of (count_pc Y _ c l i r ss hr (by omega) hl (by have := hso.ln; omega) hbv) ?_
  simp only [go_sem, ldA_at (get_extx hd0), tlPV, tlCells]
  refine hR _ _ ?_; clear hR R
  try simp only [go_sem, ldA_at (get_extx hd0)]
  refine W_sr [1, 2, 7, 9, 22, 23] fun R hR => ?_
  simp only [go_sem, ldA_at (get_extx hd0), tlPV, tlCells]
  try simp (disch := first | omega | (simp only [go_sem] <;> omega)) only [wrapI, wrapU, appX_exact, appX_tok]
  try simp only [go_sem, ldA_at (get_extx hd0), tlPV, tlCells]
  refine hR _ _ ?_; clear hR R
  try simp only [go_sem, ldA_at (get_extx hd0)]
  refine W_region [1, 2, 5, 7, 22, 23] fun R hR => ?_
  simp only [go_sem, ldA_at (get_extx hd0), tlPV, tlCells]
  refine GCall_of (result_pc Y _ τ.store.length (countT r i ss l) hTB) ?_
  simp only [go_sem, ldA_at (get_extx hd0), tlPV, tlCells]
  refine hR _ _ (K14 _ _ ?_); clear hR R; try clear K14 Z14
  try simp only [go_sem, ldA_at (get_extx hd0)]
  refine W_region [1, 2, 5, 7, 22, 23] fun R hR => ?_
  simp only [go_sem, ldA_at (get_extx hd0)]
  try simp (disch := omega) only [wrapI, wrapU]
  refine hR _ _ ?_; clear hR R
  try simp only [go_sem, ldA_at (get_extx hd0)]
  refine ⟨(i + 1, (resT (countT r i ss l)).kept), ?_, by (try simp only []); omega, ?_⟩
  ·refine Weak.trans (Weak.cutX (σ := τ) 1 1 (by omega) (by omega) hclτ (by simp only [go_sem] <;> omega) (by simp only [go_sem] <;> omega)) ?_
   simp only [go_sem]
   exact Weak.eq (by rw [hsn, tls_snoc, htk, ← hid]; first | done | rfl) (by rw [hsn, mapsOf_snoc, ← hτ, Sg.ext_ext]; first | done | rfl)
  try dsimp only
  exact ⟨hi', ⟨by rw [hkl, hke]; have := hso.ln; omega, fun s h => hso.bd s (mem_kept h)⟩, by rw [hkl, hke, Int.toNat_of_nonneg (by omega)]; exact h4, htd⟩
 try simp only [nrm] at c2
 have hie : c.rounds.length = i := by first | omega | (simp at c2; omega)
 have hta : ts.take i = ts := by rw [← hie, ← htl]; exact List.take_length
 refine W_exit ?_
 simp only [go_sem, ldA_at (get_extx hd0)]
 refine K10 _ _ ?_
 refine W_sr [4] fun R hR => ?_
 simp only [go_sem, ldA_at (get_extx hd0)]
 refine hR _ _ ?_; clear hR R
 try simp only [go_sem, ldA_at (get_extx hd0)]
 refine W_weak (Weak.ro 4) ?_
 refine W_weak (Weak.keep [4]) ?_
 simp only [go_sem]
 rw [← hτe]
 simp only [hta]
 refine W_weak (Weak.goneX 0) ?_
 simp only [go_sem]
 refine W_weak (Weak.cutX (none :: mapsOf ts).length 0 (by omega) (by omega) hcl (by rw [List.take_length]; simp only [go_sem]) (by simp only [go_sem] <;> omega)) ?_
 simp only [List.take_length, List.take_zero]
 refine W_ret ?_
 simp only [go_sem, ldA_at (get_extx hd0)]
 refine ⟨.inr (by trivial), ?_⟩
 refine Fin_more (CleanSg_ext hcl (by show CleanLs _ _ _ _; simp only [go_sem])) (by simp only [go_sem] <;> omega) (by simp only [go_sem] <;> omega) (by simp only [go_sem]) rfl (Wk_eq rfl ?_)
 try simp only [go_sem]
 all_goals
  first | omega | (simp only [go_sem] <;> omega)
theorem iaX_tls {n i : Nat} {ts : List Tally} {t : Tally} (h : ts[i]? = some t) : iaX 21 (tls n ts) (i : Int) = some (.eptr 21 (tls n ts) i 0) := by
 have : (ts.zipIdx)[i]? = some (t, i) := by rw [List.getElem?_zipIdx, h]; simp
 exact iaX_map this rfl
theorem elA_tls {n i : Nat} {ts : List Tally} {t : Tally} (h : ts[i]? = some t) : elA 21 (tls n ts) i 0 = some (tlPV (n + i) t) := by
 have : (ts.zipIdx)[i]? = some (t, i) := by rw [List.getElem?_zipIdx, h]; simp
 rw [tls, elA_map this]; rfl
theorem iaX0 {c : Nat} {p : PV} {l : List PV} (h : p.cells.length = c) : iaX c (p :: l) 0 = some (.eptr c (p :: l) 0 0) := by subst h; simp [iaX]
theorem elS0 {p : PV} {l : List PV} {off : Nat} : elS (p :: l) 0 off = p.cells[off]? := by simp [elS]
theorem res_last {c : Contest} {l : List Ballot} {ts : List Tally} (hts : roundsT c l = ts) {m : Nat} {t : Tally} (ht : ts[m]? = some t) (hm : ts.length = m + 1) {k : Int} {ks : List Int} (hk : (resT t).kept = k :: ks) : winnerT c l = k := by
 unfold winnerT resultsT
 rw [hts, List.getLast?_eq_getElem?, List.length_map, hm, List.getElem?_map, Nat.add_sub_cancel, ht]
 simp [hk]
set_option maxHeartbeats 8000000 in
theorem Run_pc (Y : YEnv) (σ : Sg) (c : Contest) (l : List Ballot) (hr : c.rounds.length < 2 ^ 40) (hl : l.length < 2 ^ 40) :
 PC Tryz.prog Y 11 [cnPV c, bls l] σ (.tuple [rss (runD c l).1, I (runD c l).2.1, I (runD c l).2.2]) (σ) := by
 refine PC_of_W Tryz.func11 rfl (by kernel_rfl) Tryz.ntmps11 (by simp) fun hcl hca => ?_
 refine W_sr [1, 2, 4] fun R hR => ?_
 simp only [go_sem]
 refine hR _ _ ?_; clear hR R
 try simp only [go_sem]
 refine W_seq fun Z2 K2 => ?_
 refine W_sr [1, 2, 4, 7] fun R hR => ?_
 simp only [go_sem]
 refine GCall_of (chkBls_pc Y _ c l hr hl) ?_
 simp only [go_sem]
 refine hR _ _ ?_; clear hR R
 try simp only [go_sem]
 refine W_sr [1, 2, 4, 7, 14] fun R hR => ?_
 simp only [go_sem]
 refine hR _ _ ?_; clear hR R
 try simp only [go_sem]
 refine W_cond rfl (fun c1 => ?_) (fun c1 => ?_)
 ·
  try simp only [nrm] at c1
  have hres : runD c l = ([], 0, chkBls c l) := by unfold runD; rw [if_pos c1]
  refine W_sr [4, 5, 6] fun R hR => ?_
  simp only [go_sem]
  refine hR _ _ ?_; clear hR R
  try simp only [go_sem]
  refine W_ret ?_
  simp only [go_sem]
  refine ⟨.inr (by trivial), ?_⟩
  rw [hres]
  refine Fin_same hcl rfl (Wk.ro (by simp only [go_sem]) ?_)
  try simp only [go_sem]
  all_goals
   first | rfl | (simp only [go_sem]; done) | (simp only [go_sem, resultsT, hts, hRS, hwin, List.map_map]; first | done | rfl)
 try simp only [nrm] at c1
 obtain ⟨hV, hl3, hb, hnd⟩ := blsV_of c1
 have hTb := roundsT_b hV hl3 hb
 have hrl := hV.rl
 have hres : runD c l = (resultsT c l, winnerT c l, 0) := by unfold runD; rw [if_neg (by simp [c1])]
 obtain ⟨ts, hts⟩ : ∃ z, roundsT c l = z := ⟨_, rfl⟩
 have htl : ts.length = c.rounds.length := by rw [← hts]; exact rdsT_len
 rw [hts] at hTb
 refine W_skip (K2 _ _ ?_)
 refine W_seq fun Z6 K6 => ?_
 refine W_sr [4, 18, 19, 20] fun R hR => ?_
 simp only [go_sem]
 refine GCall_of (rounds_pc Y _ c l hV hl3 hb) ?_
 simp only [go_sem]
 refine hR _ _ ?_; clear hR R
 try simp only [go_sem]
 refine W_block ?_
 simp only [hts]
 obtain ⟨RS, hRS⟩ : ∃ z, ts.map resT = z := ⟨_, rfl⟩
 have hRl : RS.length = ts.length := by rw [← hRS]; simp
 obtain ⟨τ, hτ⟩ : ∃ z, σ.ext (some [I c.songs, I c.juries, I c.members, I c.most, rds c.rounds] :: none :: mapsOf ts) [] = z := ⟨_, rfl⟩
 have hτr : σ.rooms.length = τ.rooms.length := by rw [← hτ]; simp [Sg.ext]
 have hτl : τ.store.length = σ.store.length + 1 + 1 + ts.length := by rw [← hτ]; simp only [Sg.len_ext, List.length_cons, mapsOf_len]; omega
 have hclτ : CleanSg τ := by rw [← hτ]; exact CleanSg_ext hcl (by show CleanLs _ _ _ _; simp only [go_sem])
 have hτe : ∀ rm, σ.ext (some [I c.songs, I c.juries, I c.members, I c.most, rds c.rounds] :: none :: mapsOf ts) rm = τ.ext [] rm := fun rm => by rw [← hτ, Sg.ext_ext]; simp
 rw [hτe]
 simp only [hτr]
 refine W_weak (Weak.room (t := 4) (es := 5) rfl (by simp)) ?_
 refine W_weak (Weak.keep [4, 18, 19, 20]) ?_
 simp only [go_sem]
 refine W_loopT (α := Nat) (fun (i : Nat) => [(4, .isl ((RS.take i).map rsPV) (.tok τ.rooms.length i 5)), (20, I i)]) (fun (i : Nat) => τ.ext [] [i]) (fun (i : Nat) => i ≤ ts.length) (fun (i : Nat) => ts.length - i) (0) rfl (by first | rfl | (simp only [go_sem]; done) | (simp only [go_sem]; rfl)) (Nat.zero_le _) ?_
 rintro i hi
 refine W_sr [4, 18, 19, 20, 21] fun R hR => ?_
 simp only [go_sem]
 refine hR _ _ ?_; clear hR R
 try simp only [go_sem]
 refine W_seq fun Z9 K9 => ?_
 refine W_cond rfl (fun c2 => ?_) (fun c2 => ?_)
 ·
  try simp only [nrm] at c2
  have hi' : i < ts.length := by first | omega | (simp at c2; omega)
  obtain ⟨t, ht⟩ : ∃ z, ts[i]? = some z := ⟨ts[i], by simp [hi']⟩
  have hir : (i : Int) < (ts.length : Int) := by omega
  have hri : RS[i]? = some (resT t) := by rw [← hRS, List.getElem?_map, ht]; rfl
  have hsn : RS.take (i + 1) = RS.take i ++ [resT t] := by rw [List.take_add_one, hri]; rfl
  have htk : (RS.take i).length = i := by rw [List.length_take]; omega
  refine W_skip (K9 _ _ ?_)
  refine W_seq fun Z10 K10 => ?_
  refine W_block ?_
  refine W_sr [4, 9, 18, 19, 20] fun R hR => ?_
  simp only [go_sem, iaX_tls ht, elA_tls ht, tlPV, tlCells, List.length_map, hir]
  refine hR _ _ ?_; clear hR R
  try simp only [go_sem]
  refine W_region [4, 18, 19, 20] fun R hR => ?_
  simp only [go_sem, tlPV, tlCells]
  refine GCall_of (result_pc Y _ _ t (hTb t (List.mem_of_getElem? ht))) ?_
  simp only [go_sem, tlPV, tlCells]
  try simp (disch := first | omega | (simp only [go_sem] <;> omega)) only [wrapI, wrapU, appX_exact, appX_tok]
  try simp only [go_sem, tlPV, tlCells]
  refine hR _ _ (K10 _ _ ?_); clear hR R; try clear K10 Z10
  try simp only [go_sem]
  refine W_region [4, 18, 19, 20] fun R hR => ?_
  simp only [go_sem]
  try simp (disch := omega) only [wrapI, wrapU]
  refine hR _ _ ?_; clear hR R
  try simp only [go_sem]
  refine ⟨i + 1, ?_, by (try simp only []); omega, ?_⟩
  ·refine Weak.trans (Weak.cutX (σ := τ) 0 1 (by omega) (by omega) hclτ (by simp only [go_sem] <;> omega) (by simp only [go_sem] <;> omega)) ?_
   simp only [go_sem]
   exact Weak.eq (by rw [hsn]; simp only [List.map_append, List.map_cons, List.map_nil]; first | done | rfl) rfl
  try dsimp only
  exact hi'
 try simp only [nrm] at c2
 have hie : ts.length = i := by first | omega | (simp at c2; omega)
 subst hie
 rw [← hRl, List.take_length]
 refine W_exit ?_
 simp only [go_sem]
 refine K6 _ _ ?_
 refine W_seq fun Z12 K12 => ?_
 obtain ⟨m, hm⟩ : ∃ z, ts.length = z + 1 := ⟨ts.length - 1, by omega⟩
 obtain ⟨tl, htl2⟩ : ∃ z, ts[m]? = some z := ⟨ts[m]'(by omega), by simp⟩
 have hTl := hTb tl (List.mem_of_getElem? htl2)
 obtain ⟨k0, kt, hk⟩ : ∃ a b, (resT tl).kept = a :: b := by
  have h1 := resT_klen (t := tl) hTl.kp.2
  have h2 := hTl.kp.1
  cases h : (resT tl).kept with
  | nil => rw [h] at h1; simp at h1; omega
  | cons a b => exact ⟨a, b, rfl⟩
 have hwin := res_last hts htl2 hm hk
 have hw9 : IntKind.i64.wrap ((ts.length : Int) - 1) = (m : Int) := by rw [wrapI (by omega) (by omega)]; omega
 have hm9 : (m : Int) < (ts.length : Int) := by omega
 have hm92 : m < ts.length := by omega
 have hLr : RS[m]? = some (resT tl) := by rw [← hRS, List.getElem?_map, htl2]; rfl
 refine W_draw [4, 5, 6] [0, 1, 2, 3, 4, 5, 6, 7, 8, 9, 10, 11, 12] [] [[], [], [], [2], [2, 3], [1, 2, 3, 4], [1, 2, 3, 4, 5], [1, 2, 3, 4, 5, 6], [1, 2, 3, 4, 5, 6, 7], [1, 2, 3, 4, 5, 6, 7, 8], [0, 1, 2], [0, 1, 2, 3, 4, 5, 6, 7, 8, 9, 10], [0, 1, 2, 3, 4, 5, 6, 7, 8, 9, 10, 11]] mixed (by kernel_rfl) fun R hR => ?_
 simp only [go_sem, iaX0 (c := 1) (p := I k0) rfl, List.map_cons, elS0, hRl, hw9, hm9, hm92, hLr, hk, iaX_map hLr rfl, elS_map hLr]
 try simp (disch := omega) only [wrapI, wrapU]
 try refine And.intro (by repeat' (first | refine And.intro ?_ ?_ | exact GOr_right (fun _ => by simp only [go_sem, iaX0 (c := 1) (p := I k0) rfl, List.map_cons, elS0, hRl, hw9, hm9, hm92, hLr, hk, iaX_map hLr rfl, elS_map hLr]))) ?_
 refine hR _ _ (K12 _ _ ?_); clear hR R; try clear K12 Z12
 try simp only [go_sem]
 refine W_ret ?_
 simp only [go_sem]
 refine ⟨.inr (by trivial), ?_⟩
 rw [hres, ← hτ, Sg.ext_ext]
 refine Fin_same hcl rfl (Wk.ro (by simp only [go_sem]) ?_)
 try simp only [go_sem]
 all_goals
  first | rfl | (simp only [go_sem]; done) | (simp only [go_sem, resultsT, hts, hRS, hwin, List.map_map]; first | done | rfl)
end Go.Proofs.YtpkkegbiddcodaaGreat.So
namespace Go.Proofs.YtpkkegbiddcodaaGreat
open Go Go.RowKit
abbrev txt (l : List UInt8) : PV := .str ⟨l.toArray⟩
theorem lens9 {s : ByteArray} : lenPV Tryz.prog 9 (.str s) = some (.int .i64 s.size) := by unfold lenPV; simp only [Tryz.underlying9]
theorem size_txt {l : List UInt8} : (⟨l.toArray⟩ : ByteArray).size = l.length := by simp [ByteArray.size]
theorem extract_txt {l : List UInt8} {a b : Nat} : (⟨l.toArray⟩ : ByteArray).extract a b = ⟨((l.drop a).take (b - a)).toArray⟩ := by
 apply ByteArray.ext
 simp [ByteArray.data_extract, List.extract_toArray]
/-- Parts of a text. -/
theorem slT {l : List UInt8} {a b : Nat} (h1 : a ≤ b) (h2 : b ≤ l.length) : slicePV Tryz.prog 9 (.str ⟨l.toArray⟩) (some (.int .i64 (a : Int))) (some (.int .i64 (b : Int))) none = some (.str ⟨((l.drop a).take (b - a)).toArray⟩) := by
 unfold slicePV
 simp only [Tryz.underlying9, bnd, Int.natCast_nonneg, if_true, Int.toNat_natCast, extract_txt]
 rw [if_pos ⟨h1, by rw [size_txt]; exact h2⟩]
theorem slTa {l : List UInt8} {a : Nat} (h2 : a ≤ l.length) : slicePV Tryz.prog 9 (.str ⟨l.toArray⟩) (some (.int .i64 (a : Int))) none none = some (.str ⟨(l.drop a).toArray⟩) := by
 unfold slicePV
 simp only [Tryz.underlying9, bnd, Int.natCast_nonneg, if_true, Int.toNat_natCast, extract_txt, size_txt]
 rw [if_pos ⟨h2, Nat.le_refl _⟩, List.take_of_length_le (by simp)]
theorem slTb {l : List UInt8} {b : Nat} (h2 : b ≤ l.length) : slicePV Tryz.prog 9 (.str ⟨l.toArray⟩) none (some (.int .i64 (b : Int))) none = some (.str ⟨(l.take b).toArray⟩) := by
 unfold slicePV
 simp only [Tryz.underlying9, bnd, Int.natCast_nonneg, if_true, Int.toNat_natCast, extract_txt, size_txt]
 rw [if_pos ⟨Nat.zero_le _, h2⟩]
 simp
theorem cvs9 {s : ByteArray} : convPV Tryz.prog 9 9 (.str s) = some (.str s) := by unfold convPV; simp only [Tryz.underlying9]
theorem strAdd {a b : List UInt8} (h : a.length + b.length ≤ 2 ^ 62) : strBin .add ⟨a.toArray⟩ ⟨b.toArray⟩ = some (.str ⟨(a ++ b).toArray⟩) := by
 unfold strBin
 simp only
 rw [if_pos (by rw [size_txt, size_txt]; exact h)]
 congr 2
 try (apply ByteArray.ext; simp [ByteArray.data_append])
theorem txt_eq {a b : List UInt8} : ((⟨a.toArray⟩ : ByteArray) == ⟨b.toArray⟩) = decide (a = b) := by
 have e : ((⟨a.toArray⟩ : ByteArray) == ⟨b.toArray⟩) = (a.toArray == b.toArray) := rfl
 rw [e, Bool.eq_iff_iff, beq_iff_eq, decide_eq_true_eq]
 simp
theorem strEql {a b : List UInt8} : strBin .eql ⟨a.toArray⟩ ⟨b.toArray⟩ = some (.bool (decide (a = b))) := by unfold strBin; simp only [txt_eq]
theorem strNeq {a b : List UInt8} : strBin .neq ⟨a.toArray⟩ ⟨b.toArray⟩ = some (.bool (!decide (a = b))) := by unfold strBin; simp only [bne, txt_eq]
theorem okC_txt {xs : List (List UInt8)} : okC 1 (xs.map txt) = True := okC_map fun x => by simp [okC, PV.cells, PV.scalar]
theorem cA_txt {a b c : Nat} {xs : List (List UInt8)} : CleanAll a b c (xs.map txt) = True := CleanAll_map fun x => by simp only [go_sem]
theorem roL_txt {xs : List (List UInt8)} : PV.roL (xs.map txt) = xs.map txt := roL_enc fun x => by simp only [ro_str]
attribute [go_sem] lens9 size_txt List.size_toArray cvs9 extract_txt strEql strNeq okC_txt cA_txt roL_txt
set_option maxRecDepth 100000
theorem mixed : Tryz.prog.follows .mixedOrders = true := by kernel_rfl
def exS : Mk.Scale := ⟨3, 2, 3, 1, 50, 100, [1, 0]⟩
def exP : List (List Int) := [[0, 1, 2], [1, 0, 2], [1, 2, 0], [2, 0, 1], [2, 0, 1]]
theorem exSeal : Mk.sealAns exS (0, 0) [100, 90, 80] = (633, 0) := by decide
theorem exRunoff : So.runoffA 3 exP = ([0, 2], 1, 0) := by decide
def evsJ (s : Mk.Scale) (ps : List (Int × List Int)) : List PV := (ps.map fun p => Mk.sealedE s 0 p.1 p.2).map Mk.evPV
theorem evsJ_len (s : Mk.Scale) (ps : List (Int × List Int)) : (evsJ s ps).length = ps.length := by simp [evsJ]
theorem evsJ_snoc (s : Mk.Scale) (ps : List (Int × List Int)) (j : Int) (m : List Int) : evsJ s (ps ++ [(j, m)]) = evsJ s ps ++ [Mk.evPV (Mk.sealedE s 0 j m)] := by simp [evsJ]
def blG (R : List So.Giv) : List PV := (So.mkG R).map So.blPV
theorem blG_len (R : List So.Giv) : (blG R).length = R.length := by simp [blG, So.mkG_len]
theorem blG_snoc (R : List So.Giv) (j : Int) (k : Nat) (m : Int) : blG (R ++ [(j, k, m)]) = blG R ++ [.agg [I ((R.length : Int) + 1), I 0, I 1, I j, I k, I m]] := by
 unfold blG
 rw [So.mkG_snoc, List.map_append]
 rfl
theorem evsJ_ok {s : Mk.Scale} {ps : List (Int × List Int)} : okC 4 (evsJ s ps) = True := okC_map fun x => by simp [okC, Mk.evPV, Mk.evCells, PV.cells, PV.scalar]
theorem blG_ok {R : List So.Giv} : okC 6 (blG R) = True := okC_map fun x => by simp [okC, So.blPV, So.blCells, PV.cells, PV.scalar]
theorem evsJ_ro {s : Mk.Scale} {ps : List (Int × List Int)} : PV.roL (evsJ s ps) = evsJ s ps := roL_enc fun x => by simp only [Mk.evPV, Mk.evCells, ro_agg, roL_cons, roL_nil, ro_int, ro_isl, roL_ints]
theorem blG_ro {R : List So.Giv} : PV.roL (blG R) = blG R := roL_enc fun x => by simp only [So.blPV, So.blCells, ro_agg, roL_cons, roL_nil, ro_int]
theorem evsJ_cl {a b c : Nat} {s : Mk.Scale} {ps : List (Int × List Int)} : CleanAll a b c (evsJ s ps) = True := CleanAll_map Mk.clean_ev
theorem blG_cl {a b c : Nat} {R : List So.Giv} : CleanAll a b c (blG R) = True := CleanAll_map So.clean_bl
theorem okEv {a b d : Int} {l : List Int} : okC 4 [PV.agg [I a, I b, ints l, I d]] = True := by simp [okC, PV.cells, PV.scalar]
attribute [go_sem] okEv evsJ_len blG_len evsJ_ok blG_ok evsJ_ro blG_ro evsJ_cl blG_cl
set_option maxHeartbeats 2000000 in
theorem awake_pc (Y : YEnv) (σ : Sg)  :
 PC Tryz.prog Y 12 [] σ (.bool true) (σ) := by
 refine PC_of_W Tryz.func12 rfl (by kernel_rfl) Tryz.ntmps12 (by simp) fun hcl hca => ?_
 refine W_sr [] fun R hR => ?_
 simp only [go_sem, List.map_cons, List.map_nil]
 refine hR _ _ ?_; clear hR R
 try simp only [go_sem, List.map_cons, List.map_nil]
 refine W_sr [1] fun R hR => ?_
 simp only [go_sem, List.map_cons, List.map_nil]
 refine hR _ _ ?_; clear hR R
 try simp only [go_sem, List.map_cons, List.map_nil]
 refine W_sr [2, 3] fun R hR => ?_
 simp only [go_sem, List.map_cons, List.map_nil]
 refine GCall_of (PC.ofRo ((PC.val (v' := .tuple [I 633, I 0]) (Mk.Seal_pc Y _ exS 0 0 [100, 90, 80] .ro (by decide) ⟨by decide⟩) (by rw [exSeal]))) (by simp only [go_sem] <;> rfl)) ?_
 simp only [go_sem, List.map_cons, List.map_nil]
 refine hR _ _ ?_; clear hR R
 try simp only [go_sem, List.map_cons, List.map_nil]
 refine W_sr [2, 3, 4, 5, 6] fun R hR => ?_
 simp only [go_sem, List.map_cons, List.map_nil]
 refine GCall_of (PC.ofRo ((PC.val (v' := .tuple [ints [0, 2], I 1, I 0]) (So.Runoff_pc Y _ 3 exP (by decide) (by decide)) (by rw [exRunoff]))) (by simp only [go_sem] <;> rfl)) ?_
 simp only [go_sem, List.map_cons, List.map_nil]
 refine hR _ _ ?_; clear hR R
 try simp only [go_sem, List.map_cons, List.map_nil]
 refine W_sr [0] fun R hR => ?_
 simp only [go_sem, List.map_cons, List.map_nil]
 refine GCall_of (PC.val (v' := .bool true) (Mk.EqInts_pc Y _ [0, 2] [0, 2] .ro .exact (by decide)) (by rfl)) ?_
 simp only [go_sem, List.map_cons, List.map_nil]
 refine hR _ _ ?_; clear hR R
 try simp only [go_sem, List.map_cons, List.map_nil]
 refine W_ret ?_
 simp only [go_sem, List.map_cons, List.map_nil]
 refine ⟨.inr (by trivial), ?_⟩
 first | refine Fsa hcl rfl ?_ | refine Fse hcl rfl ?_
 try simp only [go_sem]
 all_goals
  first | rfl | (simp_all; done) | (simp_all; omega)
set_option maxHeartbeats 16000000 in
theorem TopJudged_pc (Y : YEnv) (σ : Sg) (nums : List Int) (hn : nums.length < 2 ^ 60) :
 PC Tryz.prog Y 3 [ints nums] σ (.bool true) (σ) := by
 refine PC_of_W Tryz.func3 rfl (by kernel_rfl) Tryz.ntmps3 (by simp) fun hcl hca => ?_
 obtain ⟨b0, hb0⟩ : ∃ z, Mk.drumB nums 2685821657736338717 = z := ⟨_, rfl⟩
 obtain ⟨s0, hs0⟩ : ∃ zz, (Mk.scaleD 8 b0).1 = zz := ⟨_, rfl⟩
 obtain ⟨b1, hb1⟩ : ∃ zz, (Mk.scaleD 8 b0).2 = zz := ⟨_, rfl⟩
 have ds0 := Mk.scaleD_ok 8 (by omega) (by omega) b0
 simp only [hs0] at ds0
 obtain ⟨w, hw⟩ : ∃ zz, (Mk.mid 1 9 b1).1 = zz := ⟨_, rfl⟩
 obtain ⟨b2, hb2⟩ : ∃ zz, (Mk.mid 1 9 b1).2 = zz := ⟨_, rfl⟩
 have dw := Mk.mid_bd 1 9 (by omega) b1
 simp only [hw] at dw
 have hv0 := Mk.Scale.v ds0.1
 have q1 := hv0.sc
 have q2 := hv0.jd
 have q3 := hv0.lo
 have q4 := hv0.hi
 have q5 := hv0.lh
 obtain ⟨J, hJ⟩ : ∃ z : Nat, s0.judges = z := ⟨s0.judges.toNat, by omega⟩
 obtain ⟨ord, hord⟩ : ∃ zz, (Mk.orderD J b2).1 = zz := ⟨_, rfl⟩
 obtain ⟨b3, hb3⟩ : ∃ zz, (Mk.orderD J b2).2 = zz := ⟨_, rfl⟩
 have dord := Mk.orderD_perm J b2
 simp only [hord] at dord
 obtain ⟨s, hs⟩ : ∃ z : Mk.Scale, z = ⟨s0.schools, 1, s0.judges, 0, s0.low, s0.high, [0]⟩ := ⟨_, rfl⟩
 obtain ⟨c, hc⟩ : ∃ z : So.Contest, z = So.cnJ s0.schools s0.judges s0.high w := ⟨_, rfl⟩
 have e1 : s.schools = s0.schools := by rw [hs]
 have e2 : s.judges = s0.judges := by rw [hs]
 have e3 : s.low = s0.low := by rw [hs]
 have e4 : s.high = s0.high := by rw [hs]
 have hone : Mk.OneS s := by
  rw [hs]
  refine ⟨?_, rfl, rfl, rfl⟩
  have hr : Mk.scRange ⟨s0.schools, 1, s0.judges, 0, s0.low, s0.high, [0]⟩ = true := by
   simp only [Mk.scRange, Bool.and_eq_true, Mk.inR_true]
   omega
  unfold Mk.chkSc
  rw [if_neg (by rw [hr]; simp), if_neg (by simp only; omega), if_neg (by simp)]
  show Mk.chkOrd 1 [] [0] = 0
  decide
 have hv := Mk.Scale.v hone.c
 have hsO : s.Ok := ⟨by rw [hone.od]; simp⟩
 have hol : ord.length = J := by rw [dord.length_eq]; simp
 have hc2 : c.rounds.length < 2 ^ 40 := by rw [hc]; simp [So.cnJ]
 refine W_sr [0] fun R hR => ?_
 simp only [go_sem, hb0, hs0, hb1, hw, hb2, hord, hb3]
 refine hR _ _ ?_; clear hR R
 try simp only [go_sem, hb0, hs0, hb1, hw, hb2, hord, hb3]
 refine W_sr [3] fun R hR => ?_
 simp only [go_sem, hb0, hs0, hb1, hw, hb2, hord, hb3]
 refine GCall_of (Mk.DrumOf_pc Y _ nums hn) ?_
 simp only [go_sem, hb0, hs0, hb1, hw, hb2, hord, hb3]
 refine hR _ _ ?_; clear hR R
 try simp only [go_sem, hb0, hs0, hb1, hw, hb2, hord, hb3]
 refine W_sr [3, 4] fun R hR => ?_
 simp only [go_sem, hb0, hs0, hb1, hw, hb2, hord, hb3]
 refine GCall_of (Mk.ScaleOf_pc Y _ _ b0 (Sg.get_ext0 ..) 8 (by omega) (by omega)) ?_
 simp only [go_sem, hb0, hs0, hb1, hw, hb2, hord, hb3]
 refine hR _ _ ?_; clear hR R
 try simp only [go_sem, hb0, hs0, hb1, hw, hb2, hord, hb3]
 refine W_sr [3, 4] fun R hR => ?_
 simp only [go_sem, hb0, hs0, hb1, hw, hb2, hord, hb3]
 refine hR _ _ ?_; clear hR R
 try simp only [go_sem, hb0, hs0, hb1, hw, hb2, hord, hb3]
 refine W_seq fun Z5 K5 => ?_
 refine W_draw [3, 4, 5] [0, 1, 2, 3, 4, 5, 6, 7, 8, 9, 10, 11, 12] [(0, 11), (0, 12), (1, 11), (1, 12), (2, 11), (2, 12), (3, 11), (3, 12), (4, 11), (4, 12), (5, 11), (5, 12), (8, 12), (9, 12), (10, 12)] [[], [0], [], [2], [], [4], [], [6], [6, 7], [6, 7, 8], [0, 1, 2, 3, 4, 5, 6, 7, 8, 9], [], [0, 1, 2, 3, 4, 5, 6, 7, 8, 9, 10, 11]] mixed (by kernel_rfl) fun R hR => ?_
 simp only [go_sem, hb0, hs0, hb1, hw, hb2, hord, hb3]
 refine GCall_of (Mk.Mid_pc Y _ _ b1 (Sg.get_ext0 ..) 1 9 (by omega) (by omega) (by omega) (by omega)) ?_
 simp only [go_sem, hb0, hs0, hb1, hw, hb2, hord, hb3]
 try refine And.intro (by repeat' (first | refine And.intro ?_ ?_ | exact trivial | exact GOr_right (fun _ => by simp only [go_sem, hb0, hs0, hb1, hw, hb2, hord, hb3]))) ?_
 refine hR _ _ (K5 _ _ ?_); clear hR R; try clear K5 Z5
 try simp only [go_sem, hb0, hs0, hb1, hw, hb2, hord, hb3]
 refine W_sr [3, 4, 5, 6] fun R hR => ?_
 simp only [go_sem, hb0, hs0, hb1, hw, hb2, hord, hb3]
 refine hR _ _ ?_; clear hR R
 try simp only [go_sem, hb0, hs0, hb1, hw, hb2, hord, hb3]
 refine W_sr [3, 4, 5, 6, 7] fun R hR => ?_
 simp only [go_sem, hb0, hs0, hb1, hw, hb2, hord, hb3]
 refine hR _ _ ?_; clear hR R
 try simp only [go_sem, hb0, hs0, hb1, hw, hb2, hord, hb3]
 refine W_sr [3, 4, 5, 6, 7, 8] fun R hR => ?_
 simp only [go_sem, hb0, hs0, hb1, hw, hb2, hord, hb3, hJ]
 refine GCall_of (Mk.Order_pc Y _ _ b2 (Sg.get_ext0 ..) J (by omega)) ?_
 simp only [go_sem, hb0, hs0, hb1, hw, hb2, hord, hb3, hJ]
 refine hR _ _ ?_; clear hR R
 try simp only [go_sem, hb0, hs0, hb1, hw, hb2, hord, hb3]
 refine W_seq fun Z9 K9 => ?_
 refine W_sr [3, 4, 5, 6, 7, 8, 9] fun R hR => ?_
 simp only [go_sem, hb0, hs0, hb1, hw, hb2, hord, hb3]
 refine hR _ _ ?_; clear hR R
 try simp only [go_sem, hb0, hs0, hb1, hw, hb2, hord, hb3]
 refine W_block ?_
 refine W_weak (Weak.roX (j := 1) (off := 6) rfl rfl) ?_
 simp only [go_sem]
 refine W_weak (Weak.roX (j := 2) (off := 4) rfl rfl) ?_
 simp only [go_sem]
 refine W_weak (Weak.roomX (j := 3) (off := 0) (es := 4) rfl rfl (by simp)) ?_
 simp only [go_sem, hb0, hs0, hb1, hw, hb2, hord, hb3]
 refine W_weak (Weak.room (t := 7) (es := 6) rfl (by simp)) ?_
 refine W_weak (Weak.keep [3, 4, 5, 6, 7, 8, 9]) ?_
 simp only [go_sem, hb0, hs0, hb1, hw, hb2, hord, hb3]
 refine W_loopT (α := Nat × (List (Int × List Int)) × (List So.Giv) × Int) (fun ⟨i, ps, R, b⟩ => [(7, .isl (blG R) (.tok (σ.rooms.length + 1) R.length 6)), (9, I i)]) (fun ⟨i, ps, R, b⟩ => σ.ext [some [.int .u64 b], some (Mk.scCells s), some (So.cnCells c), some [.isl (evsJ s ps) (.tok σ.rooms.length ps.length 4), .isl [] .exact, .isl [] .exact]] [ps.length, R.length]) (fun ⟨i, ps, R, b⟩ => i ≤ J ∧ ps.length = i ∧ ps.map (·.1) = ord.take i ∧ (∀ p, p ∈ ps → (p.2.length : Int) = s.schools ∧ ∀ x, x ∈ p.2 → s.low ≤ x ∧ x ≤ s.high) ∧ R = So.allG ps) (fun ⟨i, ps, R, b⟩ => J - i) ((0, [], [], b3)) rfl (by rw [hs, hc]; simp only [So.cnJ, hJ]; rfl) (⟨Nat.zero_le _, rfl, by simp, fun p hp => (by cases hp), rfl⟩) ?_
 rintro ⟨i, ps, R, b⟩ ⟨hi, hpl, hpo, hpm, hR0⟩
 have hal : R.length = i * s.schools.toNat := by rw [hR0, So.allG_len (S := s.schools.toNat) fun p hp => by have := (hpm p hp).1; omega, hpl]
 have hab : R.length ≤ 40 := by
  rw [hal]
  exact Nat.mul_le_mul (show i ≤ 5 by omega) (show s.schools.toNat ≤ 8 by omega)
 refine W_seq fun Z11 K11 => ?_
 refine W_sr [3, 4, 5, 6, 7, 8, 9, 45] fun R hR => ?_
 simp only [go_sem, hb0, hs0, hb1, hw, hb2, hord, hb3, hol]
 refine hR _ _ ?_; clear hR R
 try simp only [go_sem, hb0, hs0, hb1, hw, hb2, hord, hb3, hol]
 refine W_cond rfl (fun c1 => ?_) (fun c1 => ?_)
 ·
  try simp only [nrm] at c1
  have hi' : i < J := by first | omega | (simp at c1; omega)
  obtain ⟨j, hj⟩ : ∃ z, ord[i]? = some z := ⟨ord[i]'(by rw [hol]; exact hi'), by simp⟩
  obtain ⟨ml, hml⟩ : ∃ zz, (Mk.marksD s b).1 = zz := ⟨_, rfl⟩
  obtain ⟨bn, hbn⟩ : ∃ zz, (Mk.marksD s b).2 = zz := ⟨_, rfl⟩
  have dml := Mk.marksD_ok hv b
  simp only [hml] at dml
  obtain ⟨x, hx⟩ : ∃ z, Mk.sealedE s 0 j ml = z := ⟨_, rfl⟩
  have hxm : x.marks = ml := by rw [← hx]; rfl
  have hml8 : ml.length ≤ 8 := by have := dml.1; omega
  clear hal
  refine W_skip (K11 _ _ ?_)
  refine W_seq fun Z13 K13 => ?_
  refine W_block ?_
  refine W_seq fun Z14 K14 => ?_
  refine W_draw [3, 4, 5, 6, 7, 8, 9, 10] [0, 1, 2, 3, 4, 5, 6, 7, 8, 9, 10] [(0, 8), (1, 8), (2, 8), (3, 8), (4, 8)] [[], [], [], [1, 2], [1, 2, 3], [], [], [5, 6], [0, 1, 2, 3, 4, 5, 6, 7], [], [0, 1, 2, 3, 4, 5, 6, 7, 8, 9]] mixed (by kernel_rfl) fun R hR => ?_
  simp only [go_sem, hb0, hs0, hb1, hw, hb2, hord, hb3, hol, hj, hxm, hml, hbn]
  refine GCall_of (Mk.MarksOf_pc Y _ _ b (Sg.get_ext0 ..) s hv) ?_
  simp only [go_sem, hb0, hs0, hb1, hw, hb2, hord, hb3, hol, hj, hxm, hml, hbn]
  refine GCall_of (PC.val (v' := Mk.evPV x) (Mk.Sealed_pc Y _ s 0 j ml (by omega) hsO) (by rw [hx])) ?_
  simp only [go_sem, hb0, hs0, hb1, hw, hb2, hord, hb3, hol, hj, hxm, hml, hbn]
  try refine And.intro (by repeat' (first | refine And.intro ?_ ?_ | exact trivial | exact GOr_right (fun _ => by simp only [go_sem, hb0, hs0, hb1, hw, hb2, hord, hb3, hol, hj, hxm, hml, hbn]))) ?_
  refine hR _ _ (K14 _ _ ?_); clear hR R; try clear K14 Z14
  try simp only [go_sem, hb0, hs0, hb1, hw, hb2, hord, hb3, hol, hj, hxm, hml, hbn]
  refine W_sr [3, 4, 5, 6, 7, 8, 9, 10] fun R hR => ?_
  simp only [go_sem, hb0, hs0, hb1, hw, hb2, hord, hb3, hol, hj, hxm, hml, hbn]
  try simp (disch := (first | omega | (simp only [go_sem, List.length_append] <;> omega))) only [wrapI, wrapU, appX_exact, appX_tok, strAdd, slT, slTa, slTb]
  try simp only [go_sem, hb0, hs0, hb1, hw, hb2, hord, hb3, hol, hj, hxm, hml, hbn]
  refine hR _ _ ?_; clear hR R
  try simp only [go_sem, hb0, hs0, hb1, hw, hb2, hord, hb3, hol, hj, hxm, hml, hbn]
  refine W_sr [3, 4, 5, 6, 7, 8, 9, 10, 11] fun R hR => ?_
  simp only [go_sem, hb0, hs0, hb1, hw, hb2, hord, hb3, hol, hj, hxm, hml, hbn]
  refine hR _ _ ?_; clear hR R
  try simp only [go_sem, hb0, hs0, hb1, hw, hb2, hord, hb3, hol, hj, hxm, hml, hbn]
  refine W_block ?_
  refine W_loopT (α := Nat × (List So.Giv)) (fun ⟨k, Q⟩ => [(7, .isl (blG Q) (.tok (σ.rooms.length + 1) Q.length 6)), (11, I k)]) (fun ⟨k, Q⟩ => σ.ext [some [.int .u64 bn], some (Mk.scCells s), some (So.cnCells c), some [.isl (evsJ s ps ++ [.agg [I x.matter, I x.judge, ints ml, I x.sl]]) (.tok σ.rooms.length (ps.length + 1) 4), .isl [] .exact, .isl [] .exact], some [I x.matter, I x.judge, ints ml, I x.sl]] [ps.length + 1, Q.length]) (fun ⟨k, Q⟩ => k ≤ ml.length ∧ Q = R ++ So.rowG j (ml.take k)) (fun ⟨k, Q⟩ => ml.length - k) ((0, R)) rfl (by first | rfl | (simp only [go_sem]; done) | (simp only [go_sem]; rfl)) (⟨Nat.zero_le _, by simp [So.rowG]⟩) ?_
  rintro ⟨k, Q⟩ ⟨hk, hQ⟩
  have hkl : Q.length ≤ 60 := by rw [hQ, List.length_append, So.rowG_len, List.length_take]; omega
  refine W_seq fun Z17 K17 => ?_
  refine W_sr [3, 4, 5, 6, 7, 8, 9, 10, 11, 67] fun R hR => ?_
  simp only [go_sem, hb0, hs0, hb1, hw, hb2, hord, hb3, hol, hj, hxm, hml, hbn]
  refine hR _ _ ?_; clear hR R
  try simp only [go_sem, hb0, hs0, hb1, hw, hb2, hord, hb3, hol, hj, hxm, hml, hbn]
  refine W_cond rfl (fun c2 => ?_) (fun c2 => ?_)
  ·
   try simp only [nrm] at c2
   have hk' : k < ml.length := by first | omega | (simp at c2; omega)
   obtain ⟨m, hm⟩ : ∃ z, ml[k]? = some z := ⟨ml[k], by simp⟩
   refine W_skip (K17 _ _ ?_)
   refine W_seq fun Z19 K19 => ?_
   refine W_block ?_
   refine W_draw [3, 4, 5, 6, 7, 8, 9, 10, 11] [0, 1, 2, 3, 4, 5, 6, 7, 8, 9, 10, 11, 12, 13, 14, 15, 16, 17] [] [[], [], [1], [1, 2], [], [], [4, 5], [4, 5, 6], [], [], [9], [], [9, 10, 11], [9, 10, 11, 12], [1, 2, 3, 4, 5, 6, 7, 8, 9, 10, 11, 12, 13], [1, 2, 3, 4, 5, 6, 7, 8, 9, 10, 11, 12, 13, 14], [0, 1, 2, 3, 4, 5, 6, 7, 8, 9, 10, 11, 12, 13, 14, 15], [0, 1, 2, 3, 4, 5, 6, 7, 8, 9, 10, 11, 12, 13, 14, 15, 16]] mixed (by kernel_rfl) fun R hR => ?_
   simp only [go_sem, hb0, hs0, hb1, hw, hb2, hord, hb3, hol, hj, hxm, hml, hbn, hm]
   try simp (disch := (first | omega | (simp only [go_sem, List.length_append] <;> omega))) only [wrapI, wrapU, appX_exact, appX_tok, strAdd, slT, slTa, slTb]
   try simp only [go_sem, hb0, hs0, hb1, hw, hb2, hord, hb3, hol, hj, hxm, hml, hbn, hm]
   try refine And.intro (by repeat' (first | refine And.intro ?_ ?_ | exact trivial | exact GOr_right (fun _ => by simp only [go_sem, hb0, hs0, hb1, hw, hb2, hord, hb3, hol, hj, hxm, hml, hbn, hm]))) ?_
   refine hR _ _ (K19 _ _ ?_); clear hR R; try clear K19 Z19
   try simp only [go_sem, hb0, hs0, hb1, hw, hb2, hord, hb3, hol, hj, hxm, hml, hbn, hm]
   refine W_region [3, 4, 5, 6, 7, 8, 9, 10, 11] fun R hR => ?_
   simp only [go_sem, hb0, hs0, hb1, hw, hb2, hord, hb3, hol, hj, hxm, hml, hbn, hm]
   try simp (disch := (first | omega | (simp only [go_sem, List.length_append] <;> omega))) only [wrapI, wrapU, strAdd, slT, slTa, slTb]
   refine hR _ _ ?_; clear hR R
   try simp only [go_sem, hb0, hs0, hb1, hw, hb2, hord, hb3, hol, hj, hxm, hml, hbn, hm]
   refine ⟨(k + 1, Q ++ [(j, k, m)]), ?_, by (try simp only []); omega, ?_⟩
   ·refine Weak.eq (by rw [blG_snoc, List.length_append]; first | rfl | (simp only [go_sem]; done)) (by simp only [List.length_append, List.length_cons, List.length_nil]; first | done | rfl)
   try dsimp only
   exact ⟨by omega, by rw [hQ, So.rowG_take hm, List.append_assoc]⟩
  try simp only [nrm] at c2
  have hke : k = ml.length := by first | omega | (simp at c2; omega)
  rw [hke, List.take_length] at hQ
  refine W_exit ?_
  simp only [go_sem, hb0, hs0, hb1, hw, hb2, hord, hb3, hol, hj, hxm, hml, hbn]
  refine K13 _ _ ?_
  refine W_region [3, 4, 5, 6, 7, 8, 9] fun R hR => ?_
  simp only [go_sem, hb0, hs0, hb1, hw, hb2, hord, hb3, hol, hj, hxm, hml, hbn]
  try simp (disch := (first | omega | (simp only [go_sem, List.length_append] <;> omega))) only [wrapI, wrapU, strAdd, slT, slTa, slTb]
  refine hR _ _ ?_; clear hR R
  try simp only [go_sem, hb0, hs0, hb1, hw, hb2, hord, hb3, hol, hj, hxm, hml, hbn]
  refine ⟨(i + 1, ps ++ [(j, ml)], Q, bn), ?_, by (try simp only []); omega, ?_⟩
  ·refine Weak.trans (Weak.cutX 4 2 (by omega) (by omega) hcl (by simp only [go_sem] <;> omega) (by simp only [go_sem] <;> omega)) ?_
   simp only [go_sem]
   refine Weak.eq rfl (by simp only [evsJ_snoc, hx, Mk.evPV, Mk.evCells, hxm, List.length_append, List.length_cons, List.length_nil]; first | done | rfl | (simp only [go_sem]; done))
  try dsimp only
  refine ⟨by omega, by simp; omega, by rw [List.map_append, hpo, List.take_add_one, hj]; rfl, fun p hp => ?_, by rw [hQ, hR0, So.allG_snoc]⟩
  rcases List.mem_append.1 hp with hp | hp
  ·exact hpm p hp
  simp only [List.mem_singleton] at hp
  subst hp
  exact dml
 try simp only [nrm] at c1
 have hie : i = J := by first | omega | (simp at c1; omega)
 subst hR0
 have hall : Mk.AllC s ps := ⟨by rw [hpo, hie, ← hol, List.take_length, e2]; unfold Mk.toI; rw [hJ, Int.toNat_natCast]; exact dord, hpm⟩
 obtain ⟨T, r, win, t1, t2, r1, r2, ⟨x0, t30, t31⟩, t4⟩ := judgesJ hone hall (w := w) (by omega)
 rw [e1, e2, e4, ← hc] at r1
 have hgO : (Mk.nightT s ps).Ok := (Mk.nightT_v hone hall).ok
 obtain ⟨N, hN⟩ : ∃ z : Nat, s.schools = (z : Int) := ⟨s.schools.toNat, by omega⟩
 have t2n : T.length = N := by omega
 have r2n : r.points.length = N := by omega
 refine W_exit ?_
 simp only [go_sem, hb0, hs0, hb1, hw, hb2, hord, hb3, hol, t30, t31, So.iaX0 (c := 5) (p := .agg [ints r.songs, ints r.points, ints r.votes, ints r.scores, ints r.kept]) rfl, So.elS0, Int.toNat_zero, Int.le_refl]
 refine K9 _ _ ?_
 refine W_sr [4, 5, 7, 12, 13] fun R hR => ?_
 simp only [go_sem, hb0, hs0, hb1, hw, hb2, hord, hb3, hol, t30, t31, So.iaX0 (c := 5) (p := .agg [ints r.songs, ints r.points, ints r.votes, ints r.scores, ints r.kept]) rfl, So.elS0, Int.toNat_zero, Int.le_refl]
 refine GCall_of (PC.ofRo ((PC.val (v' := .tuple [Mk.sds T, I 0]) (Mk.Table_pc Y _ s (Mk.nightT s ps) hsO hgO) (by rw [t1]))) (by simp only [go_sem] <;> rfl)) ?_
 simp only [go_sem, hb0, hs0, hb1, hw, hb2, hord, hb3, hol, t30, t31, So.iaX0 (c := 5) (p := .agg [ints r.songs, ints r.points, ints r.votes, ints r.scores, ints r.kept]) rfl, So.elS0, Int.toNat_zero, Int.le_refl]
 refine hR _ _ ?_; clear hR R
 try simp only [go_sem, hb0, hs0, hb1, hw, hb2, hord, hb3, hol, t30, t31, So.iaX0 (c := 5) (p := .agg [ints r.songs, ints r.points, ints r.votes, ints r.scores, ints r.kept]) rfl, So.elS0, Int.toNat_zero, Int.le_refl]
 refine W_sr [4, 12, 13, 14, 15, 16] fun R hR => ?_
 simp only [go_sem, hb0, hs0, hb1, hw, hb2, hord, hb3, hol, t30, t31, So.iaX0 (c := 5) (p := .agg [ints r.songs, ints r.points, ints r.votes, ints r.scores, ints r.kept]) rfl, So.elS0, Int.toNat_zero, Int.le_refl]
 refine GCall_of (PC.ofRo ((PC.val (v' := .tuple [So.rss [r], I win, I 0]) (So.Run_pc Y _ c (So.mkG (So.allG ps)) hc2 (by rw [So.mkG_len]; omega)) (by rw [r1]))) (by simp only [go_sem] <;> rfl)) ?_
 simp only [go_sem, hb0, hs0, hb1, hw, hb2, hord, hb3, hol, t30, t31, So.iaX0 (c := 5) (p := .agg [ints r.songs, ints r.points, ints r.votes, ints r.scores, ints r.kept]) rfl, So.elS0, Int.toNat_zero, Int.le_refl]
 refine hR _ _ ?_; clear hR R
 try simp only [go_sem, hb0, hs0, hb1, hw, hb2, hord, hb3, hol, t30, t31, So.iaX0 (c := 5) (p := .agg [ints r.songs, ints r.points, ints r.votes, ints r.scores, ints r.kept]) rfl, So.elS0, Int.toNat_zero, Int.le_refl]
 refine W_seq fun Z22 K22 => ?_
 refine W_seq fun Z23 K23 => ?_
 refine W_draw [4, 12, 14, 135] [0, 1, 2, 3, 4, 5, 6, 7, 8, 9, 10, 11, 12, 13, 14, 15, 16, 17, 18, 19, 20, 21, 22, 23, 24, 25, 26, 27, 28, 29, 30, 31, 32, 33, 34, 35] [] [[], [0], [0, 1], [0, 1, 2], [0, 1, 2, 3], [0, 1, 2, 3, 4], [0, 1, 2, 3, 4, 5], [0, 1, 2, 3, 4, 5, 6], [0, 1, 2, 3, 4, 5, 6, 7], [0, 1, 2, 3, 4, 5, 6], [0, 1, 2, 3, 4, 5, 6, 9], [0, 1, 2, 3, 4, 5, 6, 7, 8, 9, 10], [0, 1, 2, 3, 4, 5, 6, 7, 8, 9, 10, 11], [0, 1, 2, 3, 4, 5, 6, 7, 8, 9, 10, 11, 12], [0, 1, 2, 3, 4, 5, 6, 7, 8, 9, 10, 11, 12, 13], [0, 1, 2, 3, 4, 5, 6, 7, 8, 9, 10, 11, 12, 13, 14], [0, 1, 2, 3, 4, 5, 6, 7, 8, 9, 10, 11, 12, 13, 14, 15], [0, 1, 2, 3, 4, 5, 6, 7, 8, 9, 10, 11, 12, 13, 14, 15, 16], [0, 1, 2, 3, 4, 5, 6, 7, 8, 9, 10, 11, 12, 13, 14, 15, 16, 17], [0, 1, 2, 3, 4, 5, 6, 7, 8, 9, 10, 11, 12, 13, 14, 15, 16, 17, 18], [0, 1, 2, 3, 4, 5, 6, 7, 8, 9, 10, 11, 12, 13, 14, 15, 16, 17, 18, 19], [0, 1, 2, 3, 4, 5, 6, 7, 8, 9, 10, 11, 12, 13, 14, 15, 16, 17, 18, 19, 20], [0, 1, 2, 3, 4, 5, 6, 7, 8, 9, 10, 11, 12, 13, 14, 15, 16, 17, 18, 19, 20, 21], [0, 1, 2, 3, 4, 5, 6, 7, 8, 9, 10, 11, 12, 13, 14, 15, 16, 17, 18, 19, 20, 21, 22], [0, 1, 2, 3, 4, 5, 6, 7, 8, 9, 10, 11, 12, 13, 14, 15, 16, 17, 18], [0, 1, 2, 3, 4, 5, 6, 7, 8, 9, 10, 11, 12, 13, 14, 15, 16, 17, 18, 24], [0, 1, 2, 3, 4, 5, 6, 7, 8, 9, 10, 11, 12, 13, 14, 15, 16, 17, 18, 19, 20, 21, 22, 23, 24, 25], [0, 1, 2, 3, 4, 5, 6, 7, 8, 9, 10, 11, 12, 13, 14, 15, 16, 17, 18, 19, 20, 21, 22, 23, 24, 25, 26], [0, 1, 2, 3, 4, 5, 6, 7, 8, 9, 10, 11, 12, 13, 14, 15, 16, 17, 18, 19, 20, 21, 22, 23, 24, 25, 26, 27], [0, 1, 2, 3, 4, 5, 6, 7, 8, 9, 10, 11, 12, 13, 14, 15, 16, 17, 18, 19, 20, 21, 22, 23, 24, 25, 26, 27, 28], [0, 1, 2, 3, 4, 5, 6, 7, 8, 9, 10, 11, 12, 13, 14, 15, 16, 17, 18, 19, 20, 21, 22, 23, 24, 25, 26, 27, 28, 29], [0, 1, 2, 3, 4, 5, 6, 7, 8, 9, 10, 11, 12, 13, 14, 15, 16, 17, 18, 19, 20, 21, 22, 23, 24, 25, 26, 27, 28, 29, 30], [0, 1, 2, 3, 4, 5, 6, 7, 8, 9, 10, 11, 12, 13, 14, 15, 16, 17, 18, 19, 20, 21, 22, 23, 24, 25, 26, 27, 28, 29, 30, 31], [0, 1, 2, 3, 4, 5, 6, 7, 8, 9, 10, 11, 12, 13, 14, 15, 16, 17, 18, 19, 20, 21, 22, 23, 24, 25, 26, 27, 28], [0, 1, 2, 3, 4, 5, 6, 7, 8, 9, 10, 11, 12, 13, 14, 15, 16, 17, 18, 19, 20, 21, 22, 23, 24, 25, 26, 27, 28, 29, 30, 31, 32, 33], [0, 1, 2, 3, 4, 5, 6, 7, 8, 9, 10, 11, 12, 13, 14, 15, 16, 17, 18, 19, 20, 21, 22, 23, 24, 25, 26, 27, 28, 29, 30, 31, 32, 33, 34]] mixed (by kernel_rfl) fun R hR => ?_
 simp only [go_sem, hb0, hs0, hb1, hw, hb2, hord, hb3, hol, t30, t31, So.iaX0 (c := 5) (p := .agg [ints r.songs, ints r.points, ints r.votes, ints r.scores, ints r.kept]) rfl, So.elS0, Int.toNat_zero, Int.le_refl]
 try refine And.intro (by repeat' (first | refine And.intro ?_ ?_ | exact trivial | exact GOr_right (fun _ => by simp only [go_sem, hb0, hs0, hb1, hw, hb2, hord, hb3, hol, t30, t31, So.iaX0 (c := 5) (p := .agg [ints r.songs, ints r.points, ints r.votes, ints r.scores, ints r.kept]) rfl, So.elS0, Int.toNat_zero, Int.le_refl]))) ?_
 simp only [go_sem, t30, t31, t2n, r2n, hN, So.iaX0 (c := 5) (p := .agg [ints r.songs, ints r.points, ints r.votes, ints r.scores, ints r.kept]) rfl, So.elS0, Int.toNat_zero, Int.le_refl]
 refine hR _ _ (K23 _ _ ?_); clear hR R; try clear K23 Z23
 try simp only [go_sem, hb0, hs0, hb1, hw, hb2, hord, hb3, hol, t30, t31, So.iaX0 (c := 5) (p := .agg [ints r.songs, ints r.points, ints r.votes, ints r.scores, ints r.kept]) rfl, So.elS0, Int.toNat_zero, Int.le_refl]
 refine W_cond rfl (fun c3 => ?_) (fun c3 => ?_)
 ·
  try simp only [nrm] at c3
  refine W_sr [2] fun R hR => ?_
  simp only [go_sem, hb0, hs0, hb1, hw, hb2, hord, hb3, hol, t30, t31, So.iaX0 (c := 5) (p := .agg [ints r.songs, ints r.points, ints r.votes, ints r.scores, ints r.kept]) rfl, So.elS0, Int.toNat_zero, Int.le_refl]
  refine hR _ _ ?_; clear hR R
  try simp only [go_sem, hb0, hs0, hb1, hw, hb2, hord, hb3, hol, t30, t31, So.iaX0 (c := 5) (p := .agg [ints r.songs, ints r.points, ints r.votes, ints r.scores, ints r.kept]) rfl, So.elS0, Int.toNat_zero, Int.le_refl]
  refine W_ret ?_
  simp only [go_sem, hb0, hs0, hb1, hw, hb2, hord, hb3, hol, t30, t31, So.iaX0 (c := 5) (p := .agg [ints r.songs, ints r.points, ints r.votes, ints r.scores, ints r.kept]) rfl, So.elS0, Int.toNat_zero, Int.le_refl]
  refine ⟨.inr (by trivial), ?_⟩
  first | refine Fsa hcl rfl ?_ | refine Fse hcl rfl ?_
  try simp only [go_sem]
  all_goals
   first | rfl | (simp_all; done)
 try simp only [nrm] at c3
 refine W_skip (K22 _ _ ?_)
 refine W_seq fun Z25 K25 => ?_
 refine W_sr [4, 12, 14, 17] fun R hR => ?_
 simp only [go_sem, hb0, hs0, hb1, hw, hb2, hord, hb3, hol, t30, t31, So.iaX0 (c := 5) (p := .agg [ints r.songs, ints r.points, ints r.votes, ints r.scores, ints r.kept]) rfl, So.elS0, Int.toNat_zero, Int.le_refl]
 refine hR _ _ ?_; clear hR R
 try simp only [go_sem, hb0, hs0, hb1, hw, hb2, hord, hb3, hol, t30, t31, So.iaX0 (c := 5) (p := .agg [ints r.songs, ints r.points, ints r.votes, ints r.scores, ints r.kept]) rfl, So.elS0, Int.toNat_zero, Int.le_refl]
 refine W_block ?_
 refine W_loopS (α := Nat) (fun (q : Nat) => [(17, I q)]) (fun (q : Nat) => q ≤ T.length) (fun (q : Nat) => T.length - q) (0) rfl (Nat.zero_le _) ?_
 rintro q hq
 refine W_seq fun Z27 K27 => ?_
 refine W_sr [4, 12, 14, 17, 139] fun R hR => ?_
 simp only [go_sem, hb0, hs0, hb1, hw, hb2, hord, hb3, hol, t30, t31, So.iaX0 (c := 5) (p := .agg [ints r.songs, ints r.points, ints r.votes, ints r.scores, ints r.kept]) rfl, So.elS0, Int.toNat_zero, Int.le_refl]
 refine hR _ _ ?_; clear hR R
 try simp only [go_sem, hb0, hs0, hb1, hw, hb2, hord, hb3, hol, t30, t31, So.iaX0 (c := 5) (p := .agg [ints r.songs, ints r.points, ints r.votes, ints r.scores, ints r.kept]) rfl, So.elS0, Int.toNat_zero, Int.le_refl]
 refine W_cond rfl (fun c4 => ?_) (fun c4 => ?_)
 ·
  try simp only [nrm] at c4
  have hq' : q < T.length := by first | omega | (simp at c4; omega)
  obtain ⟨y, hy⟩ : ∃ z, T[q]? = some z := ⟨T[q], by simp⟩
  obtain ⟨cc, u1, u2, u3⟩ := t4 q y hy
  have u4 : ¬ ((cc : Int) < 0) := by omega
  have u5 : ¬ ((N : Int) ≤ (cc : Int)) := by omega
  refine W_skip (K27 _ _ ?_)
  refine W_seq fun Z29 K29 => ?_
  refine W_block ?_
  refine W_sr [4, 12, 14, 17, 18] fun R hR => ?_
  simp only [go_sem, hb0, hs0, hb1, hw, hb2, hord, hb3, hol, t30, t31, So.iaX0 (c := 5) (p := .agg [ints r.songs, ints r.points, ints r.votes, ints r.scores, ints r.kept]) rfl, So.elS0, Int.toNat_zero, Int.le_refl, hy, u2, u3, u4, u5, decide_false, Bool.not_false]
  refine hR _ _ ?_; clear hR R
  try simp only [go_sem, hb0, hs0, hb1, hw, hb2, hord, hb3, hol, t30, t31, So.iaX0 (c := 5) (p := .agg [ints r.songs, ints r.points, ints r.votes, ints r.scores, ints r.kept]) rfl, So.elS0, Int.toNat_zero, Int.le_refl, hy, u2, u3, u4, u5, decide_false, Bool.not_false]
  refine W_seq fun Z31 K31 => ?_
  refine W_draw [4, 12, 14, 17, 169] [0, 1, 2, 3, 4, 5, 6, 7, 8, 9, 10, 11, 12, 13, 14, 15, 16, 17, 18, 19, 20, 21, 22] [] [[], [0], [0, 1], [0, 1, 2], [0, 1, 2], [0, 1, 2, 4], [0, 1, 2, 3, 4, 5], [0, 1, 2, 3, 4, 5, 6], [0, 1, 2, 3, 4, 5, 6, 7], [0, 1, 2, 3, 4, 5, 6, 7, 8], [0, 1, 2, 3, 4, 5, 6, 7, 8, 9], [0, 1, 2, 3, 4, 5, 6, 7, 8, 9, 10], [0, 1, 2, 3, 4, 5, 6, 7, 8, 9, 10, 11], [0, 1, 2, 3, 4, 5, 6, 7, 8], [0, 1, 2, 3, 4, 5, 6, 7, 8, 9, 10, 11, 12, 13], [0, 1, 2, 3, 4, 5, 6, 7, 8, 9, 10, 11, 12, 13, 14], [0, 1, 2, 3, 4, 5, 6, 7, 8], [0, 1, 2, 3, 4, 5, 6, 7, 8], [0, 1, 2, 3, 4, 5, 6, 7, 8, 16, 17], [0, 1, 2, 3, 4, 5, 6, 7, 8, 16, 17, 18], [0, 1, 2, 3, 4, 5, 6, 7, 8, 16, 17, 18, 19], [0, 1, 2, 3, 4, 5, 6, 7, 8, 9, 10, 11, 12, 13, 14, 15, 16, 17, 18, 19, 20], [0, 1, 2, 3, 4, 5, 6, 7, 8, 9, 10, 11, 12, 13, 14, 15, 16, 17, 18, 19, 20, 21]] mixed (by kernel_rfl) fun R hR => ?_
  simp only [go_sem, hb0, hs0, hb1, hw, hb2, hord, hb3, hol, t30, t31, So.iaX0 (c := 5) (p := .agg [ints r.songs, ints r.points, ints r.votes, ints r.scores, ints r.kept]) rfl, So.elS0, Int.toNat_zero, Int.le_refl, hy, u2, u3, u4, u5, decide_false, Bool.not_false]
  try refine And.intro (by repeat' (first | refine And.intro ?_ ?_ | exact trivial | exact GOr_right (fun _ => by simp only [go_sem, hb0, hs0, hb1, hw, hb2, hord, hb3, hol, t30, t31, So.iaX0 (c := 5) (p := .agg [ints r.songs, ints r.points, ints r.votes, ints r.scores, ints r.kept]) rfl, So.elS0, Int.toNat_zero, Int.le_refl, hy, u2, u3, u4, u5, decide_false, Bool.not_false]))) ?_
  refine hR _ _ (K31 _ _ ?_); clear hR R; try clear K31 Z31
  try simp only [go_sem, hb0, hs0, hb1, hw, hb2, hord, hb3, hol, t30, t31, So.iaX0 (c := 5) (p := .agg [ints r.songs, ints r.points, ints r.votes, ints r.scores, ints r.kept]) rfl, So.elS0, Int.toNat_zero, Int.le_refl, hy, u2, u3, u4, u5, decide_false, Bool.not_false]
  refine W_cond rfl (fun c5 => ?_) (fun c5 => ?_)
  ·
   try simp only [nrm] at c5
   refine W_sr [2] fun R hR => ?_
   simp only [go_sem, hb0, hs0, hb1, hw, hb2, hord, hb3, hol, t30, t31, So.iaX0 (c := 5) (p := .agg [ints r.songs, ints r.points, ints r.votes, ints r.scores, ints r.kept]) rfl, So.elS0, Int.toNat_zero, Int.le_refl, hy, u2, u3, u4, u5, decide_false, Bool.not_false]
   refine hR _ _ ?_; clear hR R
   try simp only [go_sem, hb0, hs0, hb1, hw, hb2, hord, hb3, hol, t30, t31, So.iaX0 (c := 5) (p := .agg [ints r.songs, ints r.points, ints r.votes, ints r.scores, ints r.kept]) rfl, So.elS0, Int.toNat_zero, Int.le_refl, hy, u2, u3, u4, u5, decide_false, Bool.not_false]
   refine W_ret ?_
   simp only [go_sem, hb0, hs0, hb1, hw, hb2, hord, hb3, hol, t30, t31, So.iaX0 (c := 5) (p := .agg [ints r.songs, ints r.points, ints r.votes, ints r.scores, ints r.kept]) rfl, So.elS0, Int.toNat_zero, Int.le_refl, hy, u2, u3, u4, u5, decide_false, Bool.not_false]
   refine ⟨.inr (by trivial), ?_⟩
   first | refine Fsa hcl rfl ?_ | refine Fse hcl rfl ?_
   try simp only [go_sem]
   all_goals
    first | rfl | (simp_all; done)
  try simp only [nrm] at c5
  refine W_skip (K29 _ _ ?_)
  refine W_region [4, 12, 14, 17] fun R hR => ?_
  simp only [go_sem, hb0, hs0, hb1, hw, hb2, hord, hb3, hol, t30, t31, So.iaX0 (c := 5) (p := .agg [ints r.songs, ints r.points, ints r.votes, ints r.scores, ints r.kept]) rfl, So.elS0, Int.toNat_zero, Int.le_refl, hy, u2, u3, u4, u5, decide_false, Bool.not_false]
  try simp (disch := (first | omega | (simp only [go_sem, List.length_append] <;> omega))) only [wrapI, wrapU, strAdd, slT, slTa, slTb]
  refine hR _ _ ?_; clear hR R
  try simp only [go_sem, hb0, hs0, hb1, hw, hb2, hord, hb3, hol, t30, t31, So.iaX0 (c := 5) (p := .agg [ints r.songs, ints r.points, ints r.votes, ints r.scores, ints r.kept]) rfl, So.elS0, Int.toNat_zero, Int.le_refl, hy, u2, u3, u4, u5, decide_false, Bool.not_false]
  refine ⟨q + 1, ?_, by (try simp only []); omega, ?_⟩
  ·first | exact Weak.refl | exact Wqq
  try dsimp only
  omega
 try simp only [nrm] at c4
 skip
 refine W_exit ?_
 simp only [go_sem, hb0, hs0, hb1, hw, hb2, hord, hb3, hol, t30, t31, So.iaX0 (c := 5) (p := .agg [ints r.songs, ints r.points, ints r.votes, ints r.scores, ints r.kept]) rfl, So.elS0, Int.toNat_zero, Int.le_refl]
 refine K25 _ _ ?_
 refine W_sr [2] fun R hR => ?_
 simp only [go_sem, hb0, hs0, hb1, hw, hb2, hord, hb3, hol, t30, t31, So.iaX0 (c := 5) (p := .agg [ints r.songs, ints r.points, ints r.votes, ints r.scores, ints r.kept]) rfl, So.elS0, Int.toNat_zero, Int.le_refl]
 refine GCall_of (awake_pc Y _) ?_
 simp only [go_sem, hb0, hs0, hb1, hw, hb2, hord, hb3, hol, t30, t31, So.iaX0 (c := 5) (p := .agg [ints r.songs, ints r.points, ints r.votes, ints r.scores, ints r.kept]) rfl, So.elS0, Int.toNat_zero, Int.le_refl]
 refine hR _ _ ?_; clear hR R
 try simp only [go_sem, hb0, hs0, hb1, hw, hb2, hord, hb3, hol, t30, t31, So.iaX0 (c := 5) (p := .agg [ints r.songs, ints r.points, ints r.votes, ints r.scores, ints r.kept]) rfl, So.elS0, Int.toNat_zero, Int.le_refl]
 refine W_ret ?_
 simp only [go_sem, hb0, hs0, hb1, hw, hb2, hord, hb3, hol, t30, t31, So.iaX0 (c := 5) (p := .agg [ints r.songs, ints r.points, ints r.votes, ints r.scores, ints r.kept]) rfl, So.elS0, Int.toNat_zero, Int.le_refl]
 refine ⟨.inr (by trivial), ?_⟩
 first | refine Fsa hcl rfl ?_ | refine Fse hcl rfl ?_
 try simp only [go_sem]
 all_goals
  first | rfl | (simp_all; done)
/-- No variable of the library is reached. -/
theorem known0 (W : World) : Known Tryz.prog W := by
 refine ⟨[], fun b s h => (by cases h), fun g h => ?_, fun g h => ?_, fun _ n hn g h => ?_⟩
 ·exact absurd ((show Tryz.prog.globalNamed "internal/strconv.uint64pow10" = none by kernel_rfl).symm.trans h) (by simp)
 ·exact absurd ((show Tryz.prog.globalNamed "internal/bytealg.MaxLen" = none by kernel_rfl).symm.trans h) (by simp)
 simp only [List.mem_cons, List.not_mem_nil, or_false] at hn
 rcases hn with rfl | rfl
 ·exact absurd ((show Tryz.prog.globalNamed "strconv.ErrSyntax" = none by kernel_rfl).symm.trans h) (by simp)
 exact absurd ((show Tryz.prog.globalNamed "strconv.ErrRange" = none by kernel_rfl).symm.trans h) (by simp)
theorem rdTopJudgedArgs : All2 (fun t R => Rd Tryz.prog t R) Tryz.f3.params.toList [fun p => ∃ xs : List Int, p = ints xs ∧ Mk.intsSz xs] :=
 .cons Mk.rdInts .nil
set_option maxHeartbeats 4000000 in
theorem TopJudged_walk : ∀ qs, AllR [fun p => ∃ xs : List Int, p = ints xs ∧ Mk.intsSz xs] qs → ∃ σ', PC Tryz.prog noY 3 qs Sg.zero (.bool true) σ' := by
 intro qs hq
 obtain ⟨px0, qs, rfl, ⟨x0, hx0, sx0⟩, hq⟩ := allR_cons hq
 obtain rfl := allR_nil hq
 subst hx0
 exact ⟨_, TopJudged_pc noY _ x0 (by unfold Mk.intsSz at sx0; omega)⟩
theorem TopJudged_lifted (os : Os) (started : os.Started) (H : Type) (enc : TypeId × Value → H) :
 ReturnsInHanded {} Tryz.checked os 3 .any (Rows.topJudgedSpec.pre6 enc Tryz.prog Tryz.f3 Rows.topJudgedRow.domain false) (Rows.topJudgedSpec.post enc Tryz.prog Tryz.f3 false true false false) :=
 law_lifted (C := Tryz.checked) Mk.own started (by kernel_rfl) Tryz.func3 rfl Mk.laidOut (by kernel_rfl) rdTopJudgedArgs rfl Tryz.underlying4
  (fun ds h => match ds, h with | [_], _ => rfl)
  (ChangeSpec.witness6 (enc := enc) (C := Tryz.checked) false ⟨#[], #[.slice none 0 0], []⟩ 8 (by kernel_rfl) (by kernel_rfl) (by kernel_rfl) (by kernel_rfl))
  known0 TopJudged_walk
theorem TopJudged_holds : Rows.TopJudgedSaid :=
 OpenClaim.holds_of_wide 3 Tryz.f3 rfl rfl rfl rfl rfl rfl rfl ⟨rfl, rfl, rfl, rfl, rfl⟩ rfl rfl rfl rfl rfl (by kernel_rfl) Tryz.func3 (by kernel_rfl)
  (of_decide_eq_true (by kernel_rfl)) (by unfold Func.isWrapper; first | (rw [if_pos (by decide +kernel)]; kernel_rfl) | (rw [if_neg (by decide +kernel)]; exact ⟨rfl, rfl⟩))
  (fun os started H enc _ => TopJudged_lifted os started H enc)
end Go.Proofs.YtpkkegbiddcodaaGreat
