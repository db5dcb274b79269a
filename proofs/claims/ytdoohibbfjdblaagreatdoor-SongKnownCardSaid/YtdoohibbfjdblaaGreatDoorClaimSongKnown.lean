/-
  The law SongKnown: whatever comes in, it answers true and leaves what came in as it was.
  SongKnown, run.
  What a run of SongKnown takes from contracts: the examples, and what is made of them.
  The pure reading, run: calls of closed arguments that hand back plain values, run from nothing, are as they were in every state; such calls remembered.
  Walk: urns are written (the program's).
  Walk: a row is written into a builder (the program's closure).
  Walk: a builder is written a byte.
  Builders among a walk's variables: written to, read.
  Walks: a builder is written to; what it holds becomes a string.
  Walks: numbers behind a word (the document's); lengths.
  Urns, plainly: what is written of a contest and ballots, what is read of a text; both ways.
  Walks: rows, parts of texts, numbers (the document's).
  Rows of a word and numbers, plainly: written and read back.
  Parts of texts, and numbers out of texts, as the library makes them.
  Texts, plainly: parts between separators; numerals.
  Builders and decimal numerals, as the library makes them.
  What is done to texts at this seat's types.
  Walks: how many votes a song needs (song).
  Walks: what could still be, and how many votes a song needs (song, bateriaref04).
  Walks: may a song be kept, is it kept whatever happens (song, bateriaref04).
  Walks: who has not voted yet, and a standing with more (song, bateriaref04).
  Rows of numbers, by place (song).
  Walks: the document's results of rounds, and their songs (song).
  Walks: the document's standings and results (song).
  Walks: the document's ballots that count, who is ahead, who is kept (song).
  Walks: the document's check of contests and ballots (song).
  A contest with a vote more (song, plain).
  A vote more: what it does to a round (song, plain).
  Who can be kept, and who must be: the smallest sums (song, plain).
  Ballots that do not count, left out; one more of somebody who has voted (song, plain).
  What the results of a contest hang on: the ballots that count, in any order (song, plain).
  Contests and ballots made of numbers may be (song, plain).
  Walks: preferences made of numbers (bateriakit).
  Walks: an order made of numbers (bateriakit).
  Walks: drums made of numbers, spans (bateriakit).
  Numbers that follow from numbers (bateriakit): the drum.
  Which ballots count: those of the map are those that are first of their voice (song, plain).
  Walks: which ballots count (song).
  Walks: the chapter's examples checked (song).
-/
import Derived.Test.YtdoohibbfjdblaaGreatDoorPe
import Derived.CallsIn
import Derived.RangeFuncLeaves
import Derived.RangeFuncRecord
import Derived.OrdersIn
import Derived.Below
import Derived.Laws.World
import Derived.Laws.StructEq
import Derived.Laws.BytesString
import Derived.Laws.Append
import Derived.MapKept
import Derived.ProofKit
import Derived.Carry
import Derived.Handed
import Derived.ChangeCalls
import Derived.Stop.Joined
import Derived.Lib.LaidTab
import Derived.Shelf.Strconv.Itoa3
import Derived.RangeFuncIn
import Derived.RangeFuncNested
import Derived.Sort.OwnSortedInts
import Derived.Lib.SlicesCompact
import Derived.Test.YtdoohibbfjdblaaGreatDoorProg
import Derived.KernelRfl
import Derived.IntWalk
import Derived.Shelf.Sort.Plain
import Derived.Shelf.Slices.In.SortNone
import Derived.Shelf.Small.Bits
import Derived.Shelf.Strings.Builder1
import Derived.Lib.SplitLaws
import Derived.Lib.AtoiAll
import Derived.Lib.ItoaNum
import Derived.Lib.IndexBytes
import Derived.Shelf.Strings.Split
import Derived.Shelf.Strconv.AtoiAll
import Derived.Lib.AtoiErrMem
import Derived.Lib.ItoaLen
import Derived.Test.YtdoohibbfjdblaaGreatDoorCards
import Derived.Test.YtdoohibbfjdblaaGreatDoorTie
import Derived.JoinedOf
import Derived.LaidMore
import Derived.LaidSub
import Derived.Lay
import Derived.SevenTiedAt
import Derived.Lib.LaidU8
import Derived.Shelf.Vars
set_option linter.unusedSimpArgs false
set_option linter.unusedVariables false
namespace Go.Proofs.YtdoohibbfjdblaaGreatDoor
open Go Go.RowKit
set_option maxRecDepth 100000
def exC : Contest := ⟨3, 2, 3, 10, [⟨2, 1, 2⟩, ⟨1, 1, 3⟩]⟩
def exL : List Ballot := [⟨1, 0, 1, 0, 0, 7⟩, ⟨2, 0, 1, 0, 1, 9⟩, ⟨3, 0, 1, 1, 2, 8⟩, ⟨4, 0, 2, 0, 0, 0⟩, ⟨5, 0, 2, 0, 1, 0⟩, ⟨6, 0, 2, 1, 0, 0⟩, ⟨7, 1, 2, 0, 2, 0⟩, ⟨8, 1, 2, 0, 1, 0⟩, ⟨9, 1, 1, 1, 1, 4⟩, ⟨10, 1, 2, 1, 0, 0⟩]
def exD : Contest := ⟨2, 0, 3, 0, [⟨1, 0, 1⟩]⟩
def exK : List Ballot := [⟨1, 0, 2, 0, 0, 0⟩, ⟨2, 0, 2, 1, 0, 0⟩]
def exP : List (List Int) := [[0, 1, 2], [1, 0, 2], [1, 2, 0], [2, 0, 1], [2, 0, 1]]
def exT0 : Tally := countT ⟨2, 1, 2⟩ 0 [0, 1, 2] exL
def exT1 : Tally := countT ⟨1, 1, 3⟩ 1 [0, 1] exL
def exT2 : Tally := countT ⟨1, 0, 1⟩ 0 [0, 1] exK
theorem ex0 : resT exT0 = ⟨[0, 1, 2], [7, 9, 8], [2, 0, 0], [11, 9, 8], [0, 1]⟩ := by
 unfold resT keptS
 rw [sortI_isort]
 decide
theorem ex1 : resT exT1 = ⟨[0, 1], [0, 4], [1, 1], [3, 7], [1]⟩ := by
 unfold resT keptS
 rw [sortI_isort]
 decide
theorem exTs : roundsT exC exL = [exT0, exT1] := by
 have e : (resT (countT ⟨2, 1, 2⟩ ((0 : Nat) : Int) (toI 3) exL)).kept = [0, 1] := by
  have := congrArg Res.kept ex0
  exact this
 unfold roundsT
 simp only [exC, rdsT]
 rw [e]
 rfl
theorem exRun : runD exC exL = ([⟨[0, 1, 2], [7, 9, 8], [2, 0, 0], [11, 9, 8], [0, 1]⟩, ⟨[0, 1], [0, 4], [1, 1], [3, 7], [1]⟩], 1, 0) := by
 have h0 : chkBls exC exL = 0 := by decide
 unfold runD
 rw [if_neg (by rw [h0]; simp)]
 have h1 : resultsT exC exL = [⟨[0, 1, 2], [7, 9, 8], [2, 0, 0], [11, 9, 8], [0, 1]⟩, ⟨[0, 1], [0, 4], [1, 1], [3, 7], [1]⟩] := by
  unfold resultsT
  rw [exTs, List.map_cons, List.map_cons, List.map_nil, ex0, ex1]
 rw [h1]
 unfold winnerT
 rw [h1]
 rfl
theorem exMust0 : mustT exT2 exD 0 = true := by
 unfold mustT
 simp only [sortI_isort]
 decide
theorem exMust1 : mustT exT2 exD 1 = false := by
 unfold mustT
 simp only [sortI_isort]
 decide
theorem exMay1 : mayT exT2 exD 1 (freeT exT2 exD) = false := by decide
theorem exStays : staysD exD exK 0 = ([1, 2], 0) := by
 have h0 : chkBls exD exK = 0 := by decide
 have h1 : roundsT exD exK = [exT2] := rfl
 have h2 : inR 0 0 ((exD.rounds.length : Int) - 1) = true := by decide
 unfold staysD
 rw [if_neg (by rw [h0]; simp), if_neg (by rw [h2]; simp), h1]
 have e0 : staysV exT2 exD 0 = 1 := by unfold staysV; rw [if_neg (by decide), if_pos exMust0]
 have e1 : staysV exT2 exD 1 = 2 := by unfold staysV; rw [if_neg (by decide), if_neg (by rw [exMust1]; simp), if_neg (by rw [exMay1]; simp)]
 show ([staysV exT2 exD 0, staysV exT2 exD 1], (0 : Int)) = _
 rw [e0, e1]
theorem exRunoff : runoffA 3 exP = ([0, 2], 1, 0) := by decide
set_option maxHeartbeats 2000000 in
theorem contest_pc (Y : YEnv) (σ : Sg)  :
 PC Tryz.prog Y 6 [] σ (cnPV exC) (σ) := by
 refine PC_of_W Tryz.func6 rfl (by kernel_rfl) Tryz.ntmps6 (by simp) fun hcl hca => ?_
 refine W_sr [0] fun R hR => ?_
 simp only [go_sem]
 refine hR _ _ ?_; clear hR R
 try simp only [go_sem]
 refine W_sr [0] fun R hR => ?_
 simp only [go_sem]
 refine hR _ _ ?_; clear hR R
 try simp only [go_sem]
 refine W_ret ?_
 simp only [go_sem]
 refine ⟨.inr (by trivial), ?_⟩
 refine Fin_same hcl (by show resPV Tryz.prog _ _ [.cell 0 24] = some _; simp only [resPV, go_sem]; rfl) (Wk.ro (by simp only [go_sem, exC, List.map_cons, List.map_nil]) ?_)
 try simp only [go_sem]
 all_goals
  simp only [go_sem, exC, List.map_cons, List.map_nil]; first | done | rfl
set_option maxHeartbeats 2000000 in
theorem ballots_pc (Y : YEnv) (σ : Sg)  :
 PC Tryz.prog Y 7 [] σ (bls exL) (σ) := by
 refine PC_of_W Tryz.func7 rfl (by kernel_rfl) Tryz.ntmps7 (by simp) fun hcl hca => ?_
 refine W_sr [] fun R hR => ?_
 simp only [go_sem]
 refine hR _ _ ?_; clear hR R
 try simp only [go_sem]
 refine W_sr [0] fun R hR => ?_
 simp only [go_sem]
 refine hR _ _ ?_; clear hR R
 try simp only [go_sem]
 refine W_ret ?_
 simp only [go_sem]
 refine ⟨.inr (by trivial), ?_⟩
 refine Fin_self hcl rfl (Wk.ro (by simp only [go_sem, exL, List.map_cons, List.map_nil]) ?_)
 try simp only [go_sem]
 all_goals
  simp only [go_sem, exL, List.map_cons, List.map_nil]; first | done | rfl
set_option maxHeartbeats 2000000 in
theorem duel_pc (Y : YEnv) (σ : Sg)  :
 PC Tryz.prog Y 16 [] σ (cnPV exD) (σ) := by
 refine PC_of_W Tryz.func16 rfl (by kernel_rfl) Tryz.ntmps16 (by simp) fun hcl hca => ?_
 refine W_sr [0] fun R hR => ?_
 simp only [go_sem]
 refine hR _ _ ?_; clear hR R
 try simp only [go_sem]
 refine W_sr [0] fun R hR => ?_
 simp only [go_sem]
 refine hR _ _ ?_; clear hR R
 try simp only [go_sem]
 refine W_ret ?_
 simp only [go_sem]
 refine ⟨.inr (by trivial), ?_⟩
 refine Fin_same hcl (by show resPV Tryz.prog _ _ [.cell 0 24] = some _; simp only [resPV, go_sem]; rfl) (Wk.ro (by simp only [go_sem, exD, List.map_cons, List.map_nil]) ?_)
 try simp only [go_sem]
 all_goals
  simp only [go_sem, exD, List.map_cons, List.map_nil]; first | done | rfl
set_option maxHeartbeats 2000000 in
theorem votes_pc (Y : YEnv) (σ : Sg)  :
 PC Tryz.prog Y 17 [] σ (bls exK) (σ) := by
 refine PC_of_W Tryz.func17 rfl (by kernel_rfl) Tryz.ntmps17 (by simp) fun hcl hca => ?_
 refine W_sr [] fun R hR => ?_
 simp only [go_sem]
 refine hR _ _ ?_; clear hR R
 try simp only [go_sem]
 refine W_sr [0] fun R hR => ?_
 simp only [go_sem]
 refine hR _ _ ?_; clear hR R
 try simp only [go_sem]
 refine W_ret ?_
 simp only [go_sem]
 refine ⟨.inr (by trivial), ?_⟩
 refine Fin_self hcl rfl (Wk.ro (by simp only [go_sem, exK, List.map_cons, List.map_nil]) ?_)
 try simp only [go_sem]
 all_goals
  simp only [go_sem, exK, List.map_cons, List.map_nil]; first | done | rfl
set_option maxHeartbeats 2000000 in
theorem prefs_pc (Y : YEnv) (σ : Sg)  :
 PC Tryz.prog Y 21 [] σ (lls exP) (σ) := by
 refine PC_of_W Tryz.func21 rfl (by kernel_rfl) Tryz.ntmps21 (by simp) fun hcl hca => ?_
 refine W_sr [] fun R hR => ?_
 simp only [go_sem]
 refine hR _ _ ?_; clear hR R
 try simp only [go_sem]
 refine W_sr [0] fun R hR => ?_
 simp only [go_sem]
 refine hR _ _ ?_; clear hR R
 try simp only [go_sem]
 refine W_ret ?_
 simp only [go_sem]
 refine ⟨.inr (by trivial), ?_⟩
 refine Fin_self hcl rfl (Wk.ro (by simp only [go_sem, exP, llPV, List.map_cons, List.map_nil]) ?_)
 try simp only [go_sem]
 all_goals
  simp only [go_sem, exP, llPV, List.map_cons, List.map_nil]; first | done | rfl
set_option maxHeartbeats 4000000 in
theorem awake_pc (Y : YEnv) (σ : Sg)  :
 PC Tryz.prog Y 8 [] σ (.bool true) (σ) := by
 refine PC_of_W Tryz.func8 rfl (by kernel_rfl) Tryz.ntmps8 (by simp) fun hcl hca => ?_
 refine W_sr [] fun R hR => ?_
 simp only [go_sem, List.map_cons, List.map_nil]
 refine hR _ _ ?_; clear hR R
 try simp only [go_sem, List.map_cons, List.map_nil]
 refine W_sr [1, 2, 3] fun R hR => ?_
 simp only [go_sem, List.map_cons, List.map_nil]
 refine GCall_of (contest_pc Y _) ?_
 simp only [go_sem, List.map_cons, List.map_nil]
 refine GCall_of (ballots_pc Y _) ?_
 simp only [go_sem, List.map_cons, List.map_nil]
 refine GCall_of (PC.val (v' := .tuple [rss [⟨[0, 1, 2], [7, 9, 8], [2, 0, 0], [11, 9, 8], [0, 1]⟩, ⟨[0, 1], [0, 4], [1, 1], [3, 7], [1]⟩], I 1, I 0]) (Run_pc Y _ exC exL (by decide) (by decide)) (by rw [exRun])) ?_
 simp only [go_sem, List.map_cons, List.map_nil]
 refine hR _ _ ?_; clear hR R
 try simp only [go_sem, List.map_cons, List.map_nil]
 refine W_sr [1, 2, 3, 4, 5] fun R hR => ?_
 simp only [go_sem, List.map_cons, List.map_nil]
 refine GCall_of (duel_pc Y _) ?_
 simp only [go_sem, List.map_cons, List.map_nil]
 refine GCall_of (votes_pc Y _) ?_
 simp only [go_sem, List.map_cons, List.map_nil]
 refine GCall_of (PC.val (v' := .tuple [ints [1, 2], I 0]) (Stays_pc Y _ exD exK 0 (by decide) (by decide)) (by rw [exStays])) ?_
 simp only [go_sem, List.map_cons, List.map_nil]
 refine hR _ _ ?_; clear hR R
 try simp only [go_sem, List.map_cons, List.map_nil]
 refine W_sr [1, 2, 3, 4, 5, 6, 7, 8] fun R hR => ?_
 simp only [go_sem, List.map_cons, List.map_nil]
 refine GCall_of (prefs_pc Y _) ?_
 simp only [go_sem, List.map_cons, List.map_nil]
 refine GCall_of (PC.val (v' := .tuple [ints [0, 2], I 1, I 0]) (Runoff_pc Y _ 3 exP (by decide) (by decide)) (by rw [exRunoff])) ?_
 simp only [go_sem, List.map_cons, List.map_nil]
 refine hR _ _ ?_; clear hR R
 try simp only [go_sem, List.map_cons, List.map_nil]
 refine W_sr [0] fun R hR => ?_
 simp only [go_sem, List.map_cons, List.map_nil, iaX0 (c := 5) (p := .agg [ints [0, 1, 2], ints [7, 9, 8], ints [2, 0, 0], ints [11, 9, 8], ints [0, 1]]) rfl, elS0]
 refine GCall_of (PC.val (v' := .bool true) (EqInts_pc Y _ [11, 9, 8] [11, 9, 8] .ro .exact (by decide)) (by rfl)) ?_
 simp only [go_sem, List.map_cons, List.map_nil, iaX0 (c := 5) (p := .agg [ints [0, 1, 2], ints [7, 9, 8], ints [2, 0, 0], ints [11, 9, 8], ints [0, 1]]) rfl, elS0]
 refine GCall_of (PC.val (v' := .bool true) (EqInts_pc Y _ [1, 2] [1, 2] .ro .exact (by decide)) (by rfl)) ?_
 simp only [go_sem, List.map_cons, List.map_nil, iaX0 (c := 5) (p := .agg [ints [0, 1, 2], ints [7, 9, 8], ints [2, 0, 0], ints [11, 9, 8], ints [0, 1]]) rfl, elS0]
 refine GCall_of (PC.val (v' := .bool true) (EqInts_pc Y _ [0, 2] [0, 2] .ro .exact (by decide)) (by rfl)) ?_
 simp only [go_sem, List.map_cons, List.map_nil, iaX0 (c := 5) (p := .agg [ints [0, 1, 2], ints [7, 9, 8], ints [2, 0, 0], ints [11, 9, 8], ints [0, 1]]) rfl, elS0]
 refine hR _ _ ?_; clear hR R
 try simp only [go_sem, List.map_cons, List.map_nil]
 refine W_ret ?_
 simp only [go_sem, List.map_cons, List.map_nil]
 refine ⟨.inr (by trivial), ?_⟩
 first | refine Fsa hcl rfl ?_ | refine Fse hcl rfl ?_
 try simp only [go_sem]
 all_goals
  first | rfl | (simp_all; done) | (simp_all; omega)
/-- Flags: those of some places are set. -/
def mkO (n : Nat) (vis : List Int) : List Bool := (List.range n).map fun (i : Nat) => has vis i
theorem mkO_len (n : Nat) (vis : List Int) : (mkO n vis).length = n := by simp [mkO]
theorem mkO_nil (n : Nat) : mkO n [] = List.replicate n false := by
 apply List.ext_getElem?
 intro i
 by_cases hi : i < n
 ·simp [mkO, hi, has]
 simp [mkO, hi, Nat.not_lt.1 hi]
theorem mkO_set {n k : Nat} (hk : k < n) (vis : List Int) : (mkO n vis).set k true = mkO n (vis ++ [(k : Int)]) := by
 apply List.ext_getElem?
 intro i
 rw [List.getElem?_set]
 by_cases hi : i < n
 ·by_cases e : k = i
  ·subst e
   rw [if_pos rfl, if_pos (by rw [mkO_len]; exact hi)]
   simp [mkO, hi, has]
  rw [if_neg e]
  have : ¬ (k : Int) = (i : Int) := by omega
  simp [mkO, hi, has, this]
 rw [List.getElem?_eq_none (l := mkO n (vis ++ [(k : Int)])) (by rw [mkO_len]; omega)]
 split
 ·rw [if_neg (by rw [mkO_len]; omega)]
 rw [List.getElem?_eq_none (by rw [mkO_len]; omega)]
theorem mkO_cong {n : Nat} {a b : List Int} (h : ∀ x, x ∈ a ↔ x ∈ b) : mkO n a = mkO n b := by
 unfold mkO
 congr 1
 funext i
 rw [Bool.eq_iff_iff, has_iff, has_iff]
 exact h _
/-- The places of all ballots that count. -/
def cntPl (ts : List Tally) : List Int := ts.flatMap fun t => t.m.map (·.2)
theorem cntPl_snoc (ts : List Tally) (t : Tally) : cntPl (ts ++ [t]) = cntPl ts ++ t.m.map (·.2) := by simp [cntPl]
def countsD (c : Contest) (l : List Ballot) : List Bool × Int := if chkBls c l ≠ 0 then ([], chkBls c l) else (mkO l.length (cntPl (roundsT c l)), 0)
theorem rdsT_pl {l : List Ballot} : ∀ {rs : List Rnd} {i : Nat} {ss : List Int}, ∀ t, t ∈ rdsT l rs i ss → ∀ e, e ∈ t.m → ∃ k : Nat, e.2 = k ∧ k < l.length := by
 intro rs
 induction rs with
 | nil => intro i ss t h; cases h
 | cons r rs ih =>
  intro i ss t h e he
  simp only [rdsT, List.mem_cons] at h
  rcases h with rfl | h
  ·obtain ⟨k, b, h1, h2, _⟩ := voices_ok i ss l l.length e he
   exact ⟨k, h1, h2⟩
  exact ih t h e he
theorem CleanAll_bools {a b c : Nat} {xs : List Bool} : CleanAll a b c (xs.map PV.bool) = True := eq_true fun p hp => by
 obtain ⟨x, _, rfl⟩ := List.mem_map.1 hp
 exact .bool _
attribute [go_sem] CleanAll_bools
section
variable {τ : Sg} {d : Nat} {cs : List PV} {l : List (Option (List PV))} {rm : List Nat} {ys : List LState}
theorem get_sv_ext {j : Nat} : ((τ.setVar d cs).ext l rm ys).store[τ.store.length + j]? = l[j]? := by
 have := Sg.get_ext (τ.setVar d cs) l rm ys j
 rw [sv_len] at this
 exact this
theorem get_sv_old {m : Nat} {x : Option (List PV)} (hne : m ≠ d) (hm : τ.store[m]? = some x) : ((τ.setVar d cs).ext l rm ys).store[m]? = some x := by
 have hlt := (List.getElem?_eq_some_iff.1 hm).1
 rw [ext_get (by rw [sv_len]; exact hlt)]
 simp only [Sg.setVar]
 rw [List.getElem?_set_ne (fun e => hne e.symm)]
 exact hm
theorem set_sv_ext {j : Nat} {c : List PV} : ((τ.setVar d cs).ext l rm ys).setVar (τ.store.length + j) c = (τ.setVar d cs).ext (l.set j (some c)) rm ys := by
 have := Sg.set_ext (τ.setVar d cs) l rm ys j c
 rw [sv_len] at this
 exact this
end
set_option maxHeartbeats 8000000 in
theorem Counts_pc (Y : YEnv) (σ : Sg) (c : Contest) (l : List Ballot) (hr : c.rounds.length < 2 ^ 40) (hl : l.length < 2 ^ 40) :
 PC Tryz.prog Y 12 [cnPV c, bls l] σ (.tuple [.isl ((countsD c l).1.map PV.bool) .ro, I (countsD c l).2]) (σ) := by
 refine PC_of_W Tryz.func12 rfl (by kernel_rfl) Tryz.ntmps12 (by simp) fun hcl hca => ?_
 refine W_sr [1, 2] fun R hR => ?_
 simp only [go_sem, repB]
 refine hR _ _ ?_; clear hR R
 try simp only [go_sem, repB]
 refine W_seq fun Z2 K2 => ?_
 refine W_sr [1, 2, 6] fun R hR => ?_
 simp only [go_sem, repB]
 refine GCall_of (chkBls_pc Y _ c l hr hl) ?_
 simp only [go_sem, repB]
 refine hR _ _ ?_; clear hR R
 try simp only [go_sem, repB]
 refine W_sr [1, 2, 6, 16] fun R hR => ?_
 simp only [go_sem, repB]
 refine hR _ _ ?_; clear hR R
 try simp only [go_sem, repB]
 refine W_cond rfl (fun c1 => ?_) (fun c1 => ?_)
 ·
  try simp only [nrm] at c1
  have hres : countsD c l = ([], chkBls c l) := by unfold countsD; rw [if_pos c1]
  refine W_sr [4, 5] fun R hR => ?_
  simp only [go_sem, repB]
  refine hR _ _ ?_; clear hR R
  try simp only [go_sem, repB]
  refine W_ret ?_
  simp only [go_sem, repB]
  refine ⟨.inr (by trivial), ?_⟩
  rw [hres]
  refine Fin_same hcl rfl (Wk.ro (by simp only [go_sem]) ?_)
  try simp only [go_sem]
  all_goals
   first | rfl | (simp only [go_sem]; done)
 try simp only [nrm] at c1
 obtain ⟨hV, hl3, hb, hnd⟩ := blsV_of c1
 have hres : countsD c l = (mkO l.length (cntPl (roundsT c l)), 0) := by unfold countsD; rw [if_neg (by simp [c1])]
 have hl44 : l.length < 2 ^ 44 := by omega
 obtain ⟨ts, hts⟩ : ∃ z, roundsT c l = z := ⟨_, rfl⟩
 have hpl : ∀ t, t ∈ ts → ∀ e, e ∈ t.m → ∃ k : Nat, e.2 = k ∧ k < l.length := by rw [← hts]; exact rdsT_pl
 have hrl := hV.rl
 have htl : ts.length = c.rounds.length := by rw [← hts]; exact rdsT_len
 rw [hts] at hres
 refine W_skip (K2 _ _ ?_)
 refine W_sr [1, 2, 7] fun R hR => ?_
 simp only [go_sem, repB, mkB hl44]
 refine hR _ _ ?_; clear hR R
 try simp only [go_sem, repB]
 refine W_seq fun Z7 K7 => ?_
 refine W_sr [7, 23, 24, 25] fun R hR => ?_
 simp only [go_sem, repB]
 refine GCall_of (rounds_pc Y _ c l hV hl3 hb) ?_
 simp only [go_sem, repB]
 refine hR _ _ ?_; clear hR R
 try simp only [go_sem, repB]
 refine W_block ?_
 simp only [hts]
 obtain ⟨τ, hτ⟩ : ∃ z, σ.ext (some [I c.songs, I c.juries, I c.members, I c.most, rds c.rounds] :: some ((mkO l.length []).map PV.bool) :: none :: mapsOf ts) [] = z := ⟨_, rfl⟩
 have hτr : σ.rooms.length = τ.rooms.length := by rw [← hτ]; simp [Sg.ext]
 have hτl : τ.store.length = σ.store.length + 1 + 1 + 1 + ts.length := by rw [← hτ]; simp only [Sg.len_ext, List.length_cons, mapsOf_len]; omega
 have hclτ : CleanSg τ := by rw [← hτ]; exact CleanSg_ext hcl (by show CleanLs _ _ _ _; simp only [go_sem])
 have hdo : τ.store[σ.store.length + 1]? = some (some ((mkO l.length []).map PV.bool)) := by rw [← hτ]; exact Sg.get_ext ..
 have hlt : σ.store.length + 1 < τ.store.length := by omega
 have hlt2 : ∀ cs, σ.store.length + 1 < (τ.setVar (σ.store.length + 1) cs).store.length := fun cs => by rw [sv_len]; exact hlt
 have hmp0 : ∀ (r : Nat) (t : Tally), ts[r]? = some t → τ.store[σ.store.length + 1 + 1 + 1 + r]? = some (some (.mark :: mapE vcPV I t.m)) := fun r t h => by
  rw [← hτ, show σ.store.length + 1 + 1 + 1 + r = σ.store.length + (r + 1 + 1 + 1) by omega, Sg.get_ext]
  simp only [List.getElem?_cons_succ]
  exact mapsOf_get h
 have hτe : σ.ext (some [I c.songs, I c.juries, I c.members, I c.most, rds c.rounds] :: some ((List.replicate l.length false).map PV.bool) :: none :: mapsOf ts) [] = (τ.setVar (σ.store.length + 1) ((mkO l.length []).map PV.bool)).ext [] [] := by
  rw [sv_self hdo, ← hτ, mkO_nil]; simp [Sg.ext]
 rw [hτe]
 simp only [hτr]
 refine W_loopT (α := Nat × (List Int)) (fun ⟨i, vis⟩ => [(25, I i)]) (fun ⟨i, vis⟩ => (τ.setVar (σ.store.length + 1) ((mkO l.length vis).map PV.bool)).ext [] []) (fun ⟨i, vis⟩ => i ≤ ts.length ∧ ∀ x, x ∈ vis ↔ x ∈ cntPl (ts.take i)) (fun ⟨i, vis⟩ => ts.length - i) ((0, [])) rfl (by first | rfl | (simp only [go_sem]; done) | (simp only [go_sem]; rfl)) (⟨Nat.zero_le _, fun x => by simp [cntPl]⟩) ?_
 rintro ⟨i, vis⟩ ⟨hi, hvis⟩
 refine W_sr [7, 23, 24, 25, 26] fun R hR => ?_
 simp only [go_sem, repB]
 refine hR _ _ ?_; clear hR R
 try simp only [go_sem, repB]
 refine W_seq fun Z10 K10 => ?_
 refine W_cond rfl (fun c2 => ?_) (fun c2 => ?_)
 ·
  try simp only [nrm] at c2
  have hi' : i < ts.length := by first | omega | (simp at c2; omega)
  obtain ⟨t, ht⟩ : ∃ z, ts[i]? = some z := ⟨ts[i], by simp [hi']⟩
  have hir : (i : Int) < (ts.length : Int) := by omega
  have hmp := hmp0 i t ht
  have hmpS : ∀ {cs l rm ys}, ((τ.setVar (σ.store.length + 1) cs).ext l rm ys).store[σ.store.length + 1 + 1 + 1 + i]? = some (some (.mark :: mapE vcPV I t.m)) := fun {cs l rm ys} => get_sv_old (by omega) hmp
  have hsn : ts.take (i + 1) = ts.take i ++ [t] := by rw [List.take_add_one, ht]; rfl
  have hplt := hpl t (List.mem_of_getElem? ht)
  refine W_skip (K10 _ _ ?_)
  refine W_seq fun Z11 K11 => ?_
  refine W_block ?_
  refine W_sr [7, 9, 23, 24, 25] fun R hR => ?_
  simp only [go_sem, repB, iaX_tls ht, elA_tls ht, tlPV, tlCells, hir]
  refine hR _ _ ?_; clear hR R
  try simp only [go_sem, repB]
  refine W_sr [7, 23, 24, 25, 31] fun R hR => ?_
  simp only [go_sem, repB, tl_map, hmpS]
  refine hR _ _ ?_; clear hR R
  try simp only [go_sem, repB]
  refine W_block ?_
  refine W_loopT (α := (List Nat) × (List Int)) (fun ⟨seen, vis2⟩ => []) (fun ⟨seen, vis2⟩ => (τ.setVar (σ.store.length + 1) ((mkO l.length vis2).map PV.bool)).ext [some (tlCells (σ.store.length + 1 + 1 + 1 + i) t), some [.itst (σ.store.length + 1 + 1 + 1 + i) t.m.length seen]] []) (fun ⟨seen, vis2⟩ => (seen.Nodup ∧ ∀ j, j ∈ seen → j < t.m.length) ∧ ∀ x, x ∈ vis2 ↔ x ∈ vis ∨ ∃ j, j ∈ seen ∧ ∃ e, t.m[j]? = some e ∧ e.2 = x) (fun ⟨seen, vis2⟩ => t.m.length - seen.length) (([], vis)) rfl (by first | rfl | (simp only [go_sem]; done) | (simp only [go_sem]; rfl)) (⟨⟨List.nodup_nil, fun j h => absurd h (by simp)⟩, fun x => by simp⟩) ?_
  rintro ⟨seen, vis2⟩ ⟨⟨hsn1, hsl2⟩, hv2⟩
  refine W_seq fun Z14 K14 => ?_
  refine W_next [7, 23, 24, 25, 31, 33] (os := _) rfl rfl rfl (by decide) (it_at get_sv_ext hmpS mapE_len) (fun K hR hall => ?_) (fun K hR j0 k0 u0 hj0 hns => ?_)
  · -- next: no more
   simp only [go_sem, repB]
   refine hR _ _ (K14 _ _ ?_); clear hR K
   try simp only [go_sem, repB]
   refine W_seq fun Z15 K15 => ?_
   refine W_cond_false rfl ?_
   refine W_exit ?_
   simp only [go_sem, repB]
   refine K11 _ _ ?_
   refine W_region [7, 23, 24, 25] fun R hR => ?_
   simp only [go_sem, repB]
   try simp (disch := omega) only [wrapI, wrapU]
   refine hR _ _ ?_; clear hR R
   try simp only [go_sem, repB]
   refine ⟨(i + 1, vis2), ?_, by (try simp only []); omega, ?_⟩
   ·refine Weak.trans (Weak.keep [7, 23, 24, 25]) ?_
    simp only [go_sem]
    refine Weak.trans (Weak.cutSV (σ := τ) 0 0 (by omega) (by omega) hclτ (by simp only [go_sem]) (by simp only [go_sem] <;> omega) (by simp only [go_sem] <;> omega)) ?_
    simp only [go_sem]
    exact Weak.eq rfl rfl
   try dsimp only
   refine ⟨hi', fun x => ?_⟩
   rw [hsn, cntPl_snoc, List.mem_append, hv2, hvis]
   have hall2 : ∀ j, j < t.m.length → j ∈ seen := by simpa [mapE_len] using hall
   constructor
   ·rintro (h | ⟨j, _, e, he, rfl⟩)
    ·exact .inl h
    exact .inr (List.mem_map.2 ⟨e, List.mem_of_getElem? he, rfl⟩)
   rintro (h | h)
   ·exact .inl h
   obtain ⟨e, he, rfl⟩ := List.mem_map.1 h
   obtain ⟨j, hj⟩ := List.mem_iff_getElem?.1 he
   exact .inr ⟨j, hall2 j (List.getElem?_eq_some_iff.1 hj).1, e, hj, rfl⟩
  -- next: one more
  obtain ⟨e, he, rfl, rfl⟩ := mapE_get hj0
  have hjl0 := (List.getElem?_eq_some_iff.1 he).1
  have hsn' := snoc_nodup hsn1 hns
  have hsl' := snoc_lt hsl2 hjl0
  have hln : (seen ++ [j0]).length = seen.length + 1 := by simp
  have hjl' := nodup_len hsn' hsl'
  obtain ⟨kk, e1, e2⟩ := hplt e (List.mem_of_getElem? he)
  obtain ⟨ky, kz⟩ := e
  simp only at e1
  subst e1
  have hkl : (kk : Int) < (l.length : Int) := by omega
  have hkn : kk < l.length := e2
  have hkO : decide (kk + 1 ≤ (mkO l.length vis2).length) = true := decide_eq_true (by rw [mkO_len]; omega)
  have hkset : ((mkO l.length vis2).map PV.bool).set kk (.bool true) = (mkO l.length (vis2 ++ [(kk : Int)])).map PV.bool := by rw [← mkO_set hkn, List.map_set]
  simp only [go_sem, repB, set_sv_ext]
  refine hR _ _ (K14 _ _ ?_); clear hR K
  try simp only [go_sem, repB, set_sv_ext]
  refine W_seq fun Z16 K16 => ?_
  refine W_cond_true rfl ?_
  refine W_skip (K16 _ _ ?_)
  refine W_block ?_
  refine W_sr [7, 11, 23, 24, 25, 31] fun R hR => ?_
  simp only [go_sem, repB, set_sv_ext, entryPV, iterAt, hmpS, get_sv_ext, mapE_len, List.getLast?_concat, mapE_at he, List.getElem?_cons_succ, List.getElem?_cons_zero]
  refine hR _ _ ?_; clear hR R
  try simp only [go_sem, repB, set_sv_ext]
  refine W_region [7, 23, 24, 25, 31] fun R hR => ?_
  simp only [go_sem, repB, set_sv_ext, stX_old (hlt2 _), stX_sv hlt, sv_sv, hkl, iaM_nat hkn, Nat.mul_one, Nat.zero_add, hkO, hkset]
  refine hR _ _ ?_; clear hR R
  try simp only [go_sem, repB, set_sv_ext]
  refine ⟨(seen ++ [j0], vis2 ++ [(kk : Int)]), ?_, by (try simp only []); omega, ?_⟩
  ·first | exact Weak.refl | exact Wqq
  try dsimp only
  refine ⟨⟨hsn', hsl'⟩, fun x => ?_⟩
  rw [List.mem_append, hv2, List.mem_singleton]
  constructor
  ·rintro ((h | ⟨j, h1, h2⟩) | rfl)
   ·exact .inl h
   ·exact .inr ⟨j, List.mem_append_left _ h1, h2⟩
   exact .inr ⟨j0, by simp, _, he, rfl⟩
  rintro (h | ⟨j, h1, e, h2, h3⟩)
  ·exact .inl (.inl h)
  rcases List.mem_append.1 h1 with h1 | h1
  ·exact .inl (.inr ⟨j, h1, e, h2, h3⟩)
  simp only [List.mem_singleton] at h1
  subst h1
  rw [he] at h2
  injection h2 with h2
  subst h2
  exact .inr h3.symm
 try simp only [nrm] at c2
 have hie : ts.length = i := by first | omega | (simp at c2; omega)
 rw [← hie, List.take_length] at hvis
 have hfin := mkO_cong (n := l.length) hvis
 refine W_exit ?_
 simp only [go_sem, repB]
 refine K7 _ _ ?_
 refine W_sr [4, 5] fun R hR => ?_
 simp only [go_sem, repB]
 refine hR _ _ ?_; clear hR R
 try simp only [go_sem, repB]
 rw [hfin, ← hτ, Sg.set_ext]
 try rw [Sg.ext_ext]
 simp only [List.set_cons_succ, List.set_cons_zero, List.append_nil]
 refine W_weak (Weak.freezeB (t := 4) (j := 1) (xs := mkO l.length (cntPl ts)) (by rw [mkO_len]; rfl) rfl) ?_
 simp only [go_sem]
 refine W_ret ?_
 simp only [go_sem, repB]
 refine ⟨.inr (by trivial), ?_⟩
 rw [hres]
 refine Fin_same hcl rfl (Wk_eq ?_ (by simp only [go_sem]))
 try simp only [go_sem]
 all_goals
  first | rfl | (simp only [go_sem]; done)
theorem aput_keys {k : Voice} {v : Int} : ∀ {m : List (Voice × Int)}, (aput k v m).map (·.1) = if aget k m = none then m.map (·.1) ++ [k] else m.map (·.1) := by
 intro m
 induction m with
 | nil => rfl
 | cons e m ih =>
  by_cases h : k = e.1
  ·have h1 : aget k (e :: m) = some e.2 := by simp only [aget]; rw [if_pos h]
   have h2 : aput k v (e :: m) = (k, v) :: m := by simp only [aput]; rw [if_pos h]
   rw [h1, h2, if_neg (by simp)]
   simp [h]
  have h1 : aget k (e :: m) = aget k m := by simp only [aget]; rw [if_neg h]
  have h2 : aput k v (e :: m) = e :: aput k v m := by simp only [aput]; rw [if_neg h]
  rw [h1, h2, List.map_cons, ih]
  split <;> simp
theorem aput_nodup {k : Voice} {v : Int} {m : List (Voice × Int)} (h : (m.map (·.1)).Nodup) : ((aput k v m).map (·.1)).Nodup := by
 rw [aput_keys]
 split
 ·rename_i hn
  rw [List.nodup_append]
  refine ⟨h, by simp, fun x hx y hy => ?_⟩
  simp only [List.mem_singleton] at hy
  subst hy
  obtain ⟨e, he, rfl⟩ := List.mem_map.1 hx
  exact aget_none.1 hn e he
 exact h
theorem aget_of_mem {e : Voice × Int} : ∀ {m : List (Voice × Int)}, (m.map (·.1)).Nodup → e ∈ m → aget e.1 m = some e.2 := by
 intro m
 induction m with
 | nil => intro _ h; cases h
 | cons q m ih =>
  intro hn h
  simp only [List.map_cons, List.nodup_cons] at hn
  simp only [aget]
  rcases List.mem_cons.1 h with rfl | h
  ·rw [if_pos rfl]
  rw [if_neg, ih hn.2 h]
  intro hk
  exact hn.1 (hk ▸ List.mem_map.2 ⟨e, h, rfl⟩)
theorem mem_aput2 {k : Voice} {v : Int} {m : List (Voice × Int)} {e : Voice × Int} (hn : (m.map (·.1)).Nodup) (h : e ∈ aput k v m) : e = (k, v) ∨ (e ∈ m ∧ e.1 ≠ k) := by
 have h1 := aget_of_mem (aput_nodup hn) h
 rw [aget_put] at h1
 split at h1
 ·rename_i hk
  injection h1 with h1
  left
  obtain ⟨a, b⟩ := e
  simp only at hk h1
  rw [hk, h1]
 rename_i hk
 exact .inr ⟨aget_mem h1, hk⟩
structure VSpec (rd : Int) (songs : List Int) (l : List Ballot) (i : Nat) (m : List (Voice × Int)) : Prop where
 nd : (m.map (·.1)).Nodup
 en : ∀ e, e ∈ m → ∃ (k : Nat) (b : Ballot), e.2 = k ∧ k < i ∧ l[k]? = some b ∧ e.1 = keyOf b ∧ isIn rd songs b = true ∧ ∀ (k' : Nat) (b' : Ballot), k' < i → l[k']? = some b' → isIn rd songs b' = true → keyOf b' = keyOf b → b.serial ≤ b'.serial
 al : ∀ (k : Nat) (b : Ballot), k < i → l[k]? = some b → isIn rd songs b = true → aget (keyOf b) m ≠ none
theorem voices_spec (rd : Int) (songs : List Int) (l : List Ballot) : ∀ i, VSpec rd songs l i (voices rd songs l i) := by
 intro i
 induction i with
 | zero => exact ⟨by simp [voices], fun e h => absurd h (by simp [voices]), fun k b h => absurd h (by omega)⟩
 | succ i ih =>
  simp only [voices]
  split
  ·rename_i b hb
   unfold vstep
   split
   ·rename_i hc
    simp only [Bool.and_eq_true] at hc
    obtain ⟨hin, hf⟩ := hc
    refine ⟨aput_nodup ih.nd, fun e he => ?_, fun k x hk hx hxi => ?_⟩
    ·rcases mem_aput2 ih.nd he with rfl | ⟨he, hne⟩
     ·refine ⟨i, b, rfl, by omega, hb, rfl, hin, fun k' b' hk' hb' hi' hkey => ?_⟩
      by_cases e : k' = i
      ·subst e; rw [hb] at hb'; injection hb' with hb'; subst hb'; exact Int.le_refl _
      have hk2 : k' < i := by omega
      have hsome := ih.al k' b' hk2 hb' hi'
      rw [hkey] at hsome
      cases hg : aget (keyOf b) (voices rd songs l i) with
      | none => exact absurd hg hsome
      | some v =>
       obtain ⟨k, o, h1, h2, h3, h4, h5, h6⟩ := ih.en _ (aget_mem hg)
       simp only at h1 h4
       subst h1
       have hs : b.serial < o.serial := by
        unfold first at hf
        rw [hg] at hf
        simp only [Int.toNat_natCast, h3, decide_eq_true_eq] at hf
        exact hf
       have := h6 k' b' hk2 hb' hi' (by rw [hkey]; exact h4)
       omega
     obtain ⟨k, o, h1, h2, h3, h4, h5, h6⟩ := ih.en _ he
     refine ⟨k, o, h1, by omega, h3, h4, h5, fun k' b' hk' hb' hi' hkey => ?_⟩
     by_cases e : k' = i
     ·subst e; rw [hb] at hb'; injection hb' with hb'; subst hb'
      exact absurd (h4.trans hkey.symm) hne
     exact h6 k' b' (by omega) hb' hi' hkey
    rw [aget_put]
    split
    ·simp
    rename_i hne
    by_cases e : k = i
    ·subst e; rw [hb] at hx; injection hx with hx; subst hx; exact absurd rfl hne
    exact ih.al k x (by omega) hx hxi
   rename_i hc
   refine ⟨ih.nd, fun e he => ?_, fun k x hk hx hxi => ?_⟩
   ·obtain ⟨k, o, h1, h2, h3, h4, h5, h6⟩ := ih.en _ he
    refine ⟨k, o, h1, by omega, h3, h4, h5, fun k' b' hk' hb' hi' hkey => ?_⟩
    by_cases q : k' = i
    ·subst q; rw [hb] at hb'; injection hb' with hb'; subst hb'
     have hg := aget_of_mem ih.nd he
     rw [h4, ← hkey] at hg
     have hf : first l (voices rd songs l k') b = false := by
      cases h : first l (voices rd songs l k') b with
      | false => rfl
      | true => exact absurd (by rw [hi', h]; rfl) hc
     unfold first at hf
     rw [hg] at hf
     simp only [h1, Int.toNat_natCast, h3, decide_eq_false_iff_not] at hf
     omega
    exact h6 k' b' (by omega) hb' hi' hkey
   by_cases e : k = i
   ·subst e; rw [hb] at hx; injection hx with hx; subst hx
    intro hg
    refine hc ?_
    rw [hxi]
    unfold first
    rw [hg]; rfl
   exact ih.al k x (by omega) hx hxi
  rename_i hb
  refine ⟨ih.nd, fun e he => ?_, fun k x hk hx hxi => ?_⟩
  ·obtain ⟨k, o, h1, h2, h3, h4, h5, h6⟩ := ih.en _ he
   refine ⟨k, o, h1, by omega, h3, h4, h5, fun k' b' hk' hb' hi' hkey => ?_⟩
   by_cases q : k' = i
   ·subst q; rw [hb] at hb'; cases hb'
   exact h6 k' b' (by omega) hb' hi' hkey
  by_cases e : k = i
  ·subst e; rw [hb] at hx; cases hx
  exact ih.al k x (by omega) hx hxi
theorem nodup_of_map {α β : Type} {f : α → β} {l : List α} (h : (l.map f).Nodup) : l.Nodup := by
 rw [List.nodup_iff_pairwise_ne, List.pairwise_map] at h
 rw [List.nodup_iff_pairwise_ne]
 exact h.imp fun hn e => hn (by rw [e])
/-- What depends on the drum's beat, and the beat behind it. -/
abbrev D (α : Type) := Int → α × Int
def xorU (a b : Int) : Int := match arith .xor .u64 a b with | some (.int _ n) => n | _ => 0
def hitB (b : Int) : Int := IntKind.u64.wrap (IntKind.u64.wrap (b * 15074714826142052245) + 11400714819323198485)
def hitM (x : Int) : Int := IntKind.u64.wrap (xorU x (x.fdiv 4294967296) * 15760922415973212899)
def hitX (b : Int) : Int := xorU (hitM (hitM (hitB b))) ((hitM (hitM (hitB b))).fdiv 4294967296)
def roll0 (n : Int) : D Int := fun b => if n < 2 then (0, b) else ((hitX b / 2) % n, hitB b)
/-- A number drawn: sealed, so that nobody computes with it. -/
noncomputable def roll : Int → D Int := Classical.choose (⟨roll0, rfl⟩ : ∃ f, f = roll0)
noncomputable def mid (lo hi : Int) : D Int := fun b => (lo + (roll (hi - lo + 1) b).1, (roll (hi - lo + 1) b).2)
theorem rdsT_get {l : List Ballot} : ∀ {rs : List Rnd} {i : Nat} {ss : List Int} {k : Nat} {t : Tally}, (rdsT l rs i ss)[k]? = some t → ∃ r, rs[k]? = some r ∧ t = countT r ((i + k : Nat) : Int) t.songs l := by
 intro rs
 induction rs with
 | nil => intro i ss k t h; simp [rdsT] at h
 | cons r rs ih =>
  intro i ss k t h
  cases k with
  | zero =>
   simp only [rdsT, List.getElem?_cons_zero, Option.some.injEq] at h
   subst h
   exact ⟨r, rfl, rfl⟩
  | succ k =>
   simp only [rdsT, List.getElem?_cons_succ] at h
   obtain ⟨r', h1, h2⟩ := ih h
   exact ⟨r', h1, by rw [show i + (k + 1) = i + 1 + k by omega]; exact h2⟩
theorem nodup_of_map2 {α β : Type} {f : α → β} {l : List α} (h : (l.map f).Nodup) : l.Nodup := nodup_of_map h
def prs (t : Tally) (c : Contest) (own : Std) (s fr : Int) (l : List Int) : List (Int × Int) := l.flatMap fun x => (needOne t c own s fr x).map fun v => (x, v)
section
variable {c : Contest} {b : Ballot} {t t' : Tally}
end
theorem voters_le {n : Int} (hn : 0 ≤ n) {p : Voice → Bool} : ∀ {m : List (Voice × Int)}, (m.map (·.1)).Nodup → (∀ e, e ∈ m → p e.1 = true → 0 ≤ e.1.2.1 ∧ e.1.2.1 < n) → (∀ e e', e ∈ m → e' ∈ m → p e.1 = true → p e'.1 = true → e.1.2.1 = e'.1.2.1 → e.1 = e'.1) → ((m.map fun e => if p e.1 then (1 : Int) else 0).sum : Int) ≤ n := by
 intro m h1 h2 h3
 have e1 : ((m.map fun e => if p e.1 then (1 : Int) else 0).sum : Int) = ((m.filter fun e => p e.1).length : Int) := by
  clear h1 h2 h3
  induction m with
  | nil => rfl
  | cons e m ih =>
   simp only [List.map_cons, List.sum_cons, List.filter_cons, ih]
   split
   ·simp only [List.length_cons]; omega
   omega
 rw [e1]
 have hnd : ((m.filter fun e => p e.1).map fun e => e.1.2.1.toNat).Nodup := by
  have hm : (m.filter fun e => p e.1).Nodup := (nodup_of_map2 h1).sublist List.filter_sublist
  rw [List.nodup_iff_pairwise_ne, List.pairwise_map]
  rw [List.nodup_iff_pairwise_ne] at hm
  have hm1 : ((m.filter fun e => p e.1).map (·.1)).Nodup := h1.sublist (List.filter_sublist.map _)
  rw [List.nodup_iff_pairwise_ne, List.pairwise_map] at hm1
  refine List.Pairwise.imp_of_mem ?_ hm1
  intro a b ha hb hne e
  obtain ⟨a1, a2⟩ := List.mem_filter.1 ha
  obtain ⟨b1, b2⟩ := List.mem_filter.1 hb
  have q1 := h2 a a1 a2
  have q2 := h2 b b1 b2
  exact hne (h3 a b a1 b1 a2 b2 (by omega))
 have := nodup_len hnd (n := n.toNat) fun j hj => by
  obtain ⟨e, he, rfl⟩ := List.mem_map.1 hj
  obtain ⟨q1, q2⟩ := List.mem_filter.1 he
  have := h2 e q1 q2
  omega
 rw [List.length_map] at this
 omega
theorem free_nn {c : Contest} {l : List Ballot} {r : Rnd} {rd : Int} {ss : List Int} (hmb : 0 ≤ c.members) (hb : ∀ b, b ∈ l → BlV c b) : 0 ≤ freeT (countT r rd ss l) c := by
 have sp := voices_spec rd ss l l.length
 have he : ∀ e, e ∈ voices rd ss l l.length → ∃ b, b ∈ l ∧ e.1 = keyOf b := fun e h => by
  obtain ⟨k, b, _, _, h3, h4, _⟩ := sp.en e h
  exact ⟨b, List.mem_of_getElem? h3, h4⟩
 have := voters_le hmb (p := fun v => decide (v.1 = 2)) sp.nd (fun e h hp => by
  obtain ⟨b, h1, h2⟩ := he e h
  simp only [decide_eq_true_eq] at hp
  rw [h2] at hp ⊢
  have hk : b.kind = 2 := hp
  have := (hb b h1).vt
  rw [if_pos hk] at this
  exact this) (fun e e' h h' hp hp' heq => by
  obtain ⟨b, _, h2⟩ := he e h
  obtain ⟨b', _, h2'⟩ := he e' h'
  simp only [decide_eq_true_eq] at hp hp'
  rw [h2] at hp heq ⊢
  rw [h2'] at hp' heq ⊢
  have hk : b.kind = 2 := hp
  have hk' : b'.kind = 2 := hp'
  have hv : b.voter = b'.voter := heq
  unfold keyOf
  rw [if_pos hk, if_pos hk', hk, hk', hv])
 have e : (voices rd ss l l.length).map (fun e => gM e.1) = (voices rd ss l l.length).map fun e => if (fun v : Voice => decide (v.1 = 2)) e.1 then (1 : Int) else 0 := by
  refine List.map_congr_left fun e _ => ?_
  unfold gM
  by_cases h : e.1.1 = 2
  ·simp [h]
  simp [h]
 show 0 ≤ c.members - ((voices rd ss l l.length).map fun e => gM e.1).sum
 rw [e]
 exact Int.sub_nonneg.2 this
theorem toN_up (n : Nat) : Up (toN n) := by
 unfold Up toN
 rw [List.pairwise_map]
 exact List.pairwise_lt_range.imp fun h => by omega
theorem rdsT_up {l : List Ballot} : ∀ {rs : List Rnd} {i : Nat} {ss : List Int}, Up ss → ∀ t, t ∈ rdsT l rs i ss → Up t.songs := by
 intro rs
 induction rs with
 | nil => intro i ss _ t h; cases h
 | cons r rs ih =>
  intro i ss hu t h
  simp only [rdsT, List.mem_cons] at h
  rcases h with rfl | h
  ·exact hu
  refine ih ?_ t h
  exact kept_up (by rw [allT_song]; exact hu) _
theorem roundsT_up {c : Contest} {l : List Ballot} {t : Tally} (h : t ∈ roundsT c l) : Up t.songs := by
 refine rdsT_up ?_ t h
 exact toN_up _
/-- The error of ballots and a round. -/
def chkRnd (c : Contest) (l : List Ballot) (rd : Int) : Int := if chkBls c l ≠ 0 then chkBls c l else if inR rd 0 ((c.rounds.length : Int) - 1) = false then 2 else 0
theorem rdsT_sub {l : List Ballot} : ∀ {rs : List Rnd} {i : Nat} {ss : List Int}, ∀ t, t ∈ rdsT l rs i ss → ∀ s, s ∈ t.songs → s ∈ ss := by
 intro rs
 induction rs with
 | nil => intro i ss t h; cases h
 | cons r rs ih =>
  intro i ss t h s hs
  simp only [rdsT, List.mem_cons] at h
  rcases h with rfl | h
  ·exact hs
  exact mem_kept (ih t h s hs)
theorem chkRnd_in {c : Contest} {l : List Ballot} {rd : Int} (h : chkRnd c l rd = 0) : chkBls c l = 0 ∧ inR rd 0 ((c.rounds.length : Int) - 1) = true := by
 unfold chkRnd at h
 by_cases h1 : chkBls c l = 0
 ·rw [if_neg (by simp [h1])] at h
  refine ⟨h1, ?_⟩
  cases h2 : inR rd 0 ((c.rounds.length : Int) - 1) with
  | true => rfl
  | false => rw [h2] at h; simp at h
 rw [if_pos h1] at h
 exact absurd h h1
/-- How many votes a song needs, or which error there is. -/
def needsD (c : Contest) (l : List Ballot) (rd s : Int) : Int × Int := if chkRnd c l rd ≠ 0 then (0, chkRnd c l rd) else match (roundsT c l)[rd.toNat]? with
 | some t => if has t.songs s = false then (0, 7) else match findV (fun v => mayT t c s v) (freeT t c + 1).toNat 0 with
  | some v => ((v : Int), 0)
  | none => (0, 7)
 | none => (0, 7)
/-- A round of a contest that may be. -/
structure RndOk (c : Contest) (l : List Ballot) (rn : Nat) (t : Tally) (fr : Nat) : Prop where
 V : CnV c
 ll : l.length ≤ 300
 hb : ∀ b, b ∈ l → BlV c b
 sn : (l.map (·.serial)).Nodup
 tt : (roundsT c l)[rn]? = some t
 rr : c.rounds[rn]? = some t.rd
 te : t = countT t.rd rn t.songs l
 T : TlB t
 nd : t.songs.Nodup
 ff : freeT t c = fr
 f2 : fr ≤ 1000
 op : ∀ s, -2 ^ 20 ≤ openT t c s ∧ openT t c s ≤ 2 ^ 20
 sb : ∀ s, s ∈ t.songs → 0 ≤ s ∧ s < c.songs
theorem rnd_ok {c : Contest} {l : List Ballot} {rd : Int} (h : chkRnd c l rd = 0) : ∃ (rn : Nat) (t : Tally) (fr : Nat), rd = rn ∧ RndOk c l rn t fr := by
 obtain ⟨h1, h2⟩ := chkRnd_in h
 obtain ⟨hV, hl, hb, hn⟩ := blsV_of h1
 have hrb := inR_true.1 h2
 obtain ⟨rn, rfl⟩ : ∃ z : Nat, rd = z := ⟨rd.toNat, by omega⟩
 have htl : (roundsT c l).length = c.rounds.length := rdsT_len
 obtain ⟨t, ht⟩ : ∃ z, (roundsT c l)[rn]? = some z := ⟨(roundsT c l)[rn]'(by omega), by simp⟩
 obtain ⟨r, hr, hte⟩ := rdsT_get ht
 rw [Nat.zero_add] at hte
 have hm := List.mem_of_getElem? ht
 have hrd : t.rd = r := by rw [hte]; rfl
 have hml : t.m.length ≤ 300 := Nat.le_trans (rdsT_m t hm) hl
 have hf := freeT_bd hV hml
 have hnn : 0 ≤ freeT t c := by rw [hte]; exact free_nn hV.mb.1 hb
 refine ⟨rn, t, (freeT t c).toNat, rfl, hV, hl, hb, hn, ht, by rw [hrd]; exact hr, by rw [hrd]; exact hte, roundsT_b hV hl hb t hm, (roundsT_up hm).nodup, by omega, by omega, openT_bd hV hml, fun s hs => ?_⟩
 have := rdsT_sub t hm s hs
 unfold toI at this
 obtain ⟨i, hi, rfl⟩ := List.mem_map.1 this
 have := List.mem_range.1 hi
 omega
theorem needsD_err {c : Contest} {l : List Ballot} {rd s : Int} (h : chkRnd c l rd ≠ 0) : needsD c l rd s = (0, chkRnd c l rd) := by unfold needsD; rw [if_pos h]
set_option maxHeartbeats 8000000 in
theorem Needs_pc (Y : YEnv) (σ : Sg) (c : Contest) (l : List Ballot) (rd s : Int) (hr : c.rounds.length < 2 ^ 40) (hl : l.length < 2 ^ 40) :
 PC Tryz.prog Y 18 [cnPV c, bls l, I rd, I s] σ (.tuple [I (needsD c l rd s).1, I (needsD c l rd s).2]) (σ) := by
 refine PC_of_W Tryz.func18 rfl (by kernel_rfl) Tryz.ntmps18 (by simp) fun hcl hca => ?_
 refine W_sr [1, 2, 3, 4] fun R hR => ?_
 simp only [go_sem, allIn1]
 refine hR _ _ ?_; clear hR R
 try simp only [go_sem, allIn1]
 refine W_seq fun Z2 K2 => ?_
 refine W_sr [1, 2, 3, 4, 10] fun R hR => ?_
 simp only [go_sem, allIn1]
 refine GCall_of (chkBls_pc Y _ c l hr hl) ?_
 simp only [go_sem, allIn1]
 refine hR _ _ ?_; clear hR R
 try simp only [go_sem, allIn1]
 refine W_sr [1, 2, 3, 4, 10, 17] fun R hR => ?_
 simp only [go_sem, allIn1]
 refine hR _ _ ?_; clear hR R
 try simp only [go_sem, allIn1]
 refine W_cond rfl (fun c1 => ?_) (fun c1 => ?_)
 ·
  try simp only [nrm] at c1
  have hck : chkRnd c l rd = chkBls c l := by unfold chkRnd; rw [if_pos c1]
  have hres := needsD_err (s := s) (rd := rd) (show chkRnd c l rd ≠ 0 by rw [hck]; exact c1)
  rw [hck] at hres
  refine W_sr [8, 9] fun R hR => ?_
  simp only [go_sem, allIn1]
  refine hR _ _ ?_; clear hR R
  try simp only [go_sem, allIn1]
  refine W_ret ?_
  simp only [go_sem, allIn1]
  refine ⟨.inr (by trivial), ?_⟩
  rw [hres]
  refine Fin_same hcl rfl (Wk.ro (by simp only [go_sem]) ?_)
  try simp only [go_sem]
  all_goals
   first | rfl | (simp only [go_sem]; done)
 try simp only [nrm] at c1
 refine W_skip (K2 _ _ ?_)
 refine W_seq fun Z6 K6 => ?_
 refine W_sr [1, 2, 3, 4, 26] fun R hR => ?_
 simp only [go_sem, allIn1]
 try simp (disch := omega) only [wrapI, wrapU]
 refine GCall_of (in_pc Y _ 0 ((c.rounds.length : Int) - 1) [rd] .exact (by simp)) ?_
 simp only [go_sem, allIn1]
 try simp (disch := omega) only [wrapI, wrapU]
 refine hR _ _ ?_; clear hR R
 try simp only [go_sem, allIn1]
 refine W_cond rfl (fun c2 => ?_) (fun c2 => ?_)
 ·
  try simp only [nrm] at c2
  have hck : chkRnd c l rd = 2 := by unfold chkRnd; rw [if_neg (by simp [c1]), if_pos (by simpa using c2)]
  have hres := needsD_err (s := s) (rd := rd) (show chkRnd c l rd ≠ 0 by rw [hck]; decide)
  rw [hck] at hres
  refine W_sr [8, 9] fun R hR => ?_
  simp only [go_sem, allIn1]
  refine hR _ _ ?_; clear hR R
  try simp only [go_sem, allIn1]
  refine W_ret ?_
  simp only [go_sem, allIn1]
  refine ⟨.inr (by trivial), ?_⟩
  rw [hres]
  refine Fin_same hcl rfl (Wk.ro (by simp only [go_sem]) ?_)
  try simp only [go_sem]
  all_goals
   first | rfl | (simp only [go_sem]; done)
 try simp only [nrm] at c2
 have hck : chkRnd c l rd = 0 := by unfold chkRnd; rw [if_neg (by simp [c1]), if_neg (by simpa using c2)]
 obtain ⟨rn, t, fr, rfl, hO⟩ := rnd_ok hck
 obtain ⟨hV, hl3, hb, hnd, ht, hrr, hte, hT, hsn, hff, hf2, hop, hsb⟩ := hO
 have hsl := hT.sl
 have hml := rdsT_m t (List.mem_of_getElem? ht)
 have hrn0 : rn < c.rounds.length := (List.getElem?_eq_some_iff.1 hrr).1
 obtain ⟨ts, hts⟩ : ∃ z, roundsT c l = z := ⟨_, rfl⟩
 have htl : ts.length = c.rounds.length := by rw [← hts]; exact rdsT_len
 have htt : ts[rn]? = some t := by rw [← hts]; exact ht
 have hrn : (rn : Int) < (ts.length : Int) := by omega
 have hfn : (freeT t c + 1).toNat = fr + 1 := by omega
 have hfw : IntKind.i64.wrap ((fr : Int) + 1) = (fr : Int) + 1 := wrapI (by omega) (by omega)
 have hres : needsD c l rn s = if has t.songs s = false then ((0, 7) : Int × Int) else match findV (fun v => mayT t c s v) (fr + 1) 0 with | some v => ((v : Int), (0 : Int)) | none => ((0, 7) : Int × Int) := by unfold needsD; rw [if_neg (by simp [hck]), Int.toNat_natCast, ht]; simp only [hfn]; first | done | rfl
 refine W_skip (K6 _ _ ?_)
 refine W_seq fun Z9 K9 => ?_
 obtain ⟨τ, hτ⟩ : ∃ z, σ.ext (some [I c.songs, I c.juries, I c.members, I c.most, rds c.rounds] :: none :: mapsOf ts) [] = z := ⟨_, rfl⟩
 have hτr : τ.rooms.length = σ.rooms.length := by rw [← hτ]; simp [Sg.ext]
 have hτl : τ.store.length = σ.store.length + 1 + 1 + ts.length := by rw [← hτ]; simp only [Sg.len_ext, List.length_cons, mapsOf_len]; omega
 have hclτ : CleanSg τ := by rw [← hτ]; exact CleanSg_ext hcl (by show CleanLs _ _ _ _; simp only [go_sem])
 have hd0 : τ.store[σ.store.length]? = some (some [I c.songs, I c.juries, I c.members, I c.most, rds c.rounds]) := by rw [← hτ]; exact Sg.get_ext0 ..
 have hmp : τ.store[σ.store.length + 1 + 1 + rn]? = some (some (.mark :: mapE vcPV I t.m)) := by
  rw [← hτ, show σ.store.length + 1 + 1 + rn = σ.store.length + (rn + 1 + 1) by omega, Sg.get_ext]
  simp only [List.getElem?_cons_succ]
  exact mapsOf_get htt
 have hτe : σ.ext (some [I c.songs, I c.juries, I c.members, I c.most, rds c.rounds] :: none :: mapsOf ts) [] = τ.ext [] [] := by rw [hτ]; simp [Sg.ext]
 refine W_regionN [3, 4, 11] 3 fun R hR => ?_
 simp only [go_sem, allIn1, iaX_tls htt, elA_tls htt, tlPV, tlCells, hrn, GLw]
 refine GCall_of (rounds_pc Y _ c l hV hl3 hb) ?_
 simp only [go_sem, allIn1, iaX_tls htt, elA_tls htt, tlPV, tlCells, hrn, GLw]
 simp only [hts]
 refine ⟨_, _, Weak.eq rfl hτe, ?_⟩
 simp only [go_sem, allIn1, iaX_tls htt, elA_tls htt, tlPV, tlCells, hrn, GLw]
 refine hR _ _ (K9 _ _ ?_); clear hR R; try clear K9 Z9
 try simp only [go_sem, allIn1]
 refine W_seq fun Z10 K10 => ?_
 refine W_sr [3, 4, 11, 37] fun R hR => ?_
 simp only [go_sem, allIn1, tl_songs]
 refine GCall_of (contains_pc Y _ t.songs .ro s (by omega)) ?_
 simp only [go_sem, allIn1, tl_songs]
 refine hR _ _ ?_; clear hR R
 try simp only [go_sem, allIn1]
 refine W_cond rfl (fun c3 => ?_) (fun c3 => ?_)
 ·
  try simp only [nrm] at c3
  have hres2 : needsD c l rn s = (0, 7) := by rw [hres, if_pos (by simpa using c3)]
  refine W_sr [8, 9] fun R hR => ?_
  simp only [go_sem, allIn1]
  refine hR _ _ ?_; clear hR R
  try simp only [go_sem, allIn1]
  refine W_ret ?_
  simp only [go_sem, allIn1]
  refine ⟨.inr (by trivial), ?_⟩
  rw [hres2, ← hτ, Sg.ext_ext]
  refine Fin_same hcl rfl (Wk.ro (by simp only [go_sem]) ?_)
  try simp only [go_sem]
  all_goals
   first | rfl | (simp only [go_sem]; done)
 try simp only [nrm] at c3
 have hhas : has t.songs s = true := by simpa using c3
 rw [if_neg (by simp [hhas])] at hres
 have hsb2 := hT.sg s (has_iff.1 hhas)
 obtain ⟨sn, hsnx⟩ : ∃ z : Nat, s = z := ⟨s.toNat, by omega⟩
 subst hsnx
 refine W_skip (K10 _ _ ?_)
 refine W_seq fun Z13 K13 => ?_
 refine W_sr [3, 4, 11, 41, 42] fun R hR => ?_
 simp only [go_sem, allIn1, tlPV, tl_len, tl_take21, ldA_at (get_extx hd0), hfw]
 refine GCall_of (PC.val (v' := I fr) (free_pc Y _ (σ.store.length + 1 + 1 + rn) t c (get_extx hmp) (by omega) hV) (by rw [hff])) ?_
 simp only [go_sem, allIn1, tlPV, tl_len, tl_take21, ldA_at (get_extx hd0), hfw]
 try simp (disch := omega) only [wrapI, wrapU]
 refine hR _ _ ?_; clear hR R
 try simp only [go_sem, allIn1]
 refine W_block ?_
 refine W_loopT (α := Nat) (fun (v : Nat) => [(42, I v)]) (fun (v : Nat) => τ.ext [some (tlCells (σ.store.length + 1 + 1 + rn) t)] []) (fun (v : Nat) => v ≤ fr + 1 ∧ findV (fun v => mayT t c sn v) (fr + 1) 0 = findV (fun v => mayT t c sn v) (fr + 1 - v) v) (fun (v : Nat) => fr + 1 - v) (0) rfl (by first | rfl | (simp only [go_sem]; done) | (simp only [go_sem]; rfl)) (⟨Nat.zero_le _, rfl⟩) ?_
 rintro v ⟨hv, hfv⟩
 refine W_sr [3, 4, 11, 41, 42, 43] fun R hR => ?_
 simp only [go_sem, allIn1]
 refine hR _ _ ?_; clear hR R
 try simp only [go_sem, allIn1]
 refine W_seq fun Z16 K16 => ?_
 refine W_cond rfl (fun c4 => ?_) (fun c4 => ?_)
 ·
  try simp only [nrm] at c4
  have hv1 : v < fr + 1 := by first | omega | (simp at c4; omega)
  refine W_skip (K16 _ _ ?_)
  refine W_seq fun Z17 K17 => ?_
  refine W_block ?_
  refine W_sr [3, 4, 11, 12, 41, 42] fun R hR => ?_
  simp only [go_sem, allIn1]
  refine hR _ _ ?_; clear hR R
  try simp only [go_sem, allIn1]
  refine W_sr [3, 4, 11, 12, 41, 42, 49] fun R hR => ?_
  simp only [go_sem, allIn1, tlPV, tl_len, tl_take21, ldA_at (get_extx hd0)]
  refine GCall_of (may_pc Y _ (σ.store.length + 1 + 1 + rn) t c (get_extx hmp) (by omega) hV hT sn (by omega) v (by omega)) ?_
  simp only [go_sem, allIn1, tlPV, tl_len, tl_take21, ldA_at (get_extx hd0)]
  refine hR _ _ ?_; clear hR R
  try simp only [go_sem, allIn1]
  refine W_cond rfl (fun c5 => ?_) (fun c5 => ?_)
  ·
   try simp only [nrm] at c5
   have hres2 : needsD c l rn sn = ((v : Int), 0) := by
    rw [hres, hfv, show fr + 1 - v = (fr - v) + 1 by omega]
    simp only [findV]
    rw [if_pos c5]
   refine W_sr [8, 9] fun R hR => ?_
   simp only [go_sem, allIn1]
   refine hR _ _ ?_; clear hR R
   try simp only [go_sem, allIn1]
   refine W_ret ?_
   simp only [go_sem, allIn1]
   refine ⟨.inr (by trivial), ?_⟩
   rw [hres2, ← hτ, Sg.ext_ext]
   refine Fin_same hcl rfl (Wk.ro (by simp only [go_sem]) ?_)
   try simp only [go_sem]
   all_goals
    first | rfl | (simp only [go_sem]; done)
  try simp only [nrm] at c5
  have hfv2 : findV (fun v => mayT t c sn v) (fr + 1) 0 = findV (fun v => mayT t c sn v) (fr + 1 - (v + 1)) (v + 1) := by
   rw [hfv, show fr + 1 - v = (fr + 1 - (v + 1)) + 1 by omega]
   simp only [findV]
   rw [if_neg (by simp [c5])]
  refine W_skip (K17 _ _ ?_)
  refine W_region [3, 4, 11, 41, 42] fun R hR => ?_
  simp only [go_sem, allIn1]
  try simp (disch := omega) only [wrapI, wrapU]
  refine hR _ _ ?_; clear hR R
  try simp only [go_sem, allIn1]
  refine ⟨v + 1, ?_, by (try simp only []); omega, ?_⟩
  ·first | exact Weak.refl | exact Wqq
  try dsimp only
  exact ⟨by omega, hfv2⟩
 try simp only [nrm] at c4
 have hve : fr + 1 = v := by first | omega | (simp at c4; omega)
 have hres2 : needsD c l rn sn = (0, 7) := by
  rw [hres, hfv, show fr + 1 - v = 0 by omega]
  rfl
 refine W_exit ?_
 simp only [go_sem, allIn1]
 refine K13 _ _ ?_
 refine W_sr [8, 9] fun R hR => ?_
 simp only [go_sem, allIn1]
 refine hR _ _ ?_; clear hR R
 try simp only [go_sem, allIn1]
 refine W_ret ?_
 simp only [go_sem, allIn1]
 refine ⟨.inr (by trivial), ?_⟩
 rw [hres2, ← hτ, Sg.ext_ext]
 refine Fin_same hcl rfl (Wk.ro (by simp only [go_sem]) ?_)
 try simp only [go_sem]
 all_goals
  first | rfl | (simp only [go_sem]; done)
abbrev txt (l : List UInt8) : PV := .str ⟨l.toArray⟩
theorem lens9 {s : ByteArray} : lenPV Tryz.prog 9 (.str s) = some (.int .i64 s.size) := by unfold lenPV; simp only [Tryz.underlying9]
theorem size_txt {l : List UInt8} : (⟨l.toArray⟩ : ByteArray).size = l.length := by simp [ByteArray.size]
theorem extract_txt {l : List UInt8} {a b : Nat} : (⟨l.toArray⟩ : ByteArray).extract a b = ⟨((l.drop a).take (b - a)).toArray⟩ := by
 apply ByteArray.ext
 simp [ByteArray.data_extract, List.extract_toArray]
/-- Parts of a text. -/
theorem slT {l : List UInt8} {a b : Nat} (h1 : a ≤ b) (h2 : b ≤ l.length) : slicePV Tryz.prog 9 (.str ⟨l.toArray⟩) (some (.int .i64 (a : Int))) (some (.int .i64 (b : Int))) none = some (.str ⟨((l.drop a).take (b - a)).toArray⟩) := by
 unfold slicePV
 simp only [Tryz.underlying9, bnd, Int.natCast_nonneg, if_true, Int.toNat_natCast, extract_txt]
 rw [if_pos ⟨h1, by rw [size_txt]; exact h2⟩]
theorem slTa {l : List UInt8} {a : Nat} (h2 : a ≤ l.length) : slicePV Tryz.prog 9 (.str ⟨l.toArray⟩) (some (.int .i64 (a : Int))) none none = some (.str ⟨(l.drop a).toArray⟩) := by
 unfold slicePV
 simp only [Tryz.underlying9, bnd, Int.natCast_nonneg, if_true, Int.toNat_natCast, extract_txt, size_txt]
 rw [if_pos ⟨h2, Nat.le_refl _⟩, List.take_of_length_le (by simp)]
theorem slTb {l : List UInt8} {b : Nat} (h2 : b ≤ l.length) : slicePV Tryz.prog 9 (.str ⟨l.toArray⟩) none (some (.int .i64 (b : Int))) none = some (.str ⟨(l.take b).toArray⟩) := by
 unfold slicePV
 simp only [Tryz.underlying9, bnd, Int.natCast_nonneg, if_true, Int.toNat_natCast, extract_txt, size_txt]
 rw [if_pos ⟨Nat.zero_le _, h2⟩]
 simp
theorem cvs9 {s : ByteArray} : convPV Tryz.prog 9 9 (.str s) = some (.str s) := by unfold convPV; simp only [Tryz.underlying9]
theorem strAdd {a b : List UInt8} (h : a.length + b.length ≤ 2 ^ 62) : strBin .add ⟨a.toArray⟩ ⟨b.toArray⟩ = some (.str ⟨(a ++ b).toArray⟩) := by
 unfold strBin
 simp only
 rw [if_pos (by rw [size_txt, size_txt]; exact h)]
 congr 2
 try (apply ByteArray.ext; simp [ByteArray.data_append])
theorem txt_eq {a b : List UInt8} : ((⟨a.toArray⟩ : ByteArray) == ⟨b.toArray⟩) = decide (a = b) := by
 have e : ((⟨a.toArray⟩ : ByteArray) == ⟨b.toArray⟩) = (a.toArray == b.toArray) := rfl
 rw [e, Bool.eq_iff_iff, beq_iff_eq, decide_eq_true_eq]
 simp
theorem strEql {a b : List UInt8} : strBin .eql ⟨a.toArray⟩ ⟨b.toArray⟩ = some (.bool (decide (a = b))) := by unfold strBin; simp only [txt_eq]
theorem strNeq {a b : List UInt8} : strBin .neq ⟨a.toArray⟩ ⟨b.toArray⟩ = some (.bool (!decide (a = b))) := by unfold strBin; simp only [bne, txt_eq]
theorem okC_txt {xs : List (List UInt8)} : okC 1 (xs.map txt) = True := okC_map fun x => by simp [okC, PV.cells, PV.scalar]
theorem cA_txt {a b c : Nat} {xs : List (List UInt8)} : CleanAll a b c (xs.map txt) = True := CleanAll_map fun x => by simp only [go_sem]
theorem roL_txt {xs : List (List UInt8)} : PV.roL (xs.map txt) = xs.map txt := roL_enc fun x => by simp only [ro_str]
attribute [go_sem] lens9 size_txt List.size_toArray cvs9 extract_txt strEql strNeq okC_txt cA_txt roL_txt
theorem cvb {l : List PV} {o : Own} : convPV Tryz.prog 99 9 (.isl l o) = (bytesOfPV l).map fun ns => .str (bytesStr ns) := by unfold convPV; simp only [Tryz.underlying99, Tryz.underlying9, Tryz.underlying5]
attribute [go_sem] cvb
theorem sllT {xs : List (List UInt8)} {own : Own} {k : IntKind} {n : Int} : slicePV Tryz.prog 66 (.isl (xs.map txt) own) (some (.int k n)) none none = if 0 ≤ n then if n.toNat ≤ xs.length then some (.isl ((xs.drop n.toNat).map txt) own) else none else none := slLo_of Tryz.underlying66 Tryz.underlying9 cells9 (fun _ => rfl) xs own k n
attribute [go_sem] sllT
open Go Go.RowKit Go.Shelf
def bld_ren : Go.Shelf.Ren := ⟨fun | 240 => 78 | 276 => 93 | 169 => 51 | 166 => 48 | 167 => 50 | n => n, fun | 37 => 99 | 70 => 98 | 72 => 101 | 164 => 151 | 127 => 140 | n => n, fun n => n⟩
theorem lays240 : Lays.n240 Tryz.prog bld_ren where
 mixed := by kernel_rfl
 f240 := Tryz.func78.trans (congrArg some (by kernel_rfl))
 f276 := Tryz.func93.trans (congrArg some (by kernel_rfl))
 t0 := Tryz.underlying0
 a0 := Tryz.isAgg0
 z0 := Tryz.sizeOf0
 v0 := Tryz.zeroValue0
 t4 := Tryz.underlying4
 a4 := Tryz.isAgg4
 z4 := Tryz.sizeOf4
 v4 := Tryz.zeroValue4
 t9 := Tryz.underlying9
 a9 := Tryz.isAgg9
 z9 := Tryz.sizeOf9
 v9 := Tryz.zeroValue9
 t20 := Tryz.underlying20
 a20 := Tryz.isAgg20
 z20 := Tryz.sizeOf20
 v20 := Tryz.zeroValue20
 t70 := Tryz.underlying98
 a70 := Tryz.isAgg98
 z70 := Tryz.sizeOf98
 v70 := Tryz.zeroValue98
 t72 := Tryz.underlying101
 a72 := Tryz.isAgg101
 z72 := Tryz.sizeOf101
 v72 := Tryz.zeroValue101
 t164 := Tryz.underlying151
 a164 := Tryz.isAgg151
 z164 := Tryz.sizeOf151
 v164 := Tryz.zeroValue151
theorem lays169 : Lays.n169 Tryz.prog bld_ren where
 mixed := by kernel_rfl
 f169 := Tryz.func51.trans (congrArg some (by kernel_rfl))
 t0 := Tryz.underlying0
 a0 := Tryz.isAgg0
 z0 := Tryz.sizeOf0
 v0 := Tryz.zeroValue0
 t3 := Tryz.underlying3
 a3 := Tryz.isAgg3
 z3 := Tryz.sizeOf3
 v3 := Tryz.zeroValue3
 t9 := Tryz.underlying9
 a9 := Tryz.isAgg9
 z9 := Tryz.sizeOf9
 v9 := Tryz.zeroValue9
 t37 := Tryz.underlying99
 a37 := Tryz.isAgg99
 z37 := Tryz.sizeOf99
 v37 := Tryz.zeroValue99
 t70 := Tryz.underlying98
 a70 := Tryz.isAgg98
 z70 := Tryz.sizeOf98
 v70 := Tryz.zeroValue98
 t72 := Tryz.underlying101
 a72 := Tryz.isAgg101
 z72 := Tryz.sizeOf101
 v72 := Tryz.zeroValue101
 t127 := Tryz.underlying140
 a127 := Tryz.isAgg140
 z127 := Tryz.sizeOf140
 v127 := Tryz.zeroValue140
def lays171_ren : Go.Shelf.Ren := ⟨fun | 171 => 49 | 243 => 79 | 246 => 94 | 283 => 114 | 284 => 115 | 285 => 116 | 286 => 117 | 129 => 113 | 317 => 140 | 318 => 141 | 319 => 142 | 320 => 143 | 337 => 156 | 338 => 157 | n => n, fun | 3 => 3 | 9 => 9 | 2 => 2 | 4 => 4 | 171 => 170 | 0 => 0 | 53 => 110 | 37 => 99 | 5 => 5 | 173 => 172 | 212 => 195 | 51 => 168 | 20 => 20 | 213 => 196 | 46 => 141 | 232 => 220 | 233 => 221 | n => n, fun | 17 => 0 | 18 => 6 | 19 => 7 | n => n⟩
theorem lays171_p : Lays.n171 Tryz.prog lays171_ren where
 mixed := by kernel_rfl
 f129 := Tryz.func113.trans (congrArg some (by kernel_rfl))
 f171 := Tryz.func49.trans (congrArg some (by kernel_rfl))
 f243 := Tryz.func79.trans (congrArg some (by kernel_rfl))
 f246 := Tryz.func94.trans (congrArg some (by kernel_rfl))
 f283 := Tryz.func114.trans (congrArg some (by kernel_rfl))
 f284 := Tryz.func115.trans (congrArg some (by kernel_rfl))
 f285 := Tryz.func116.trans (congrArg some (by kernel_rfl))
 f286 := Tryz.func117.trans (congrArg some (by kernel_rfl))
 f317 := Tryz.func140.trans (congrArg some (by kernel_rfl))
 f318 := Tryz.func141.trans (congrArg some (by kernel_rfl))
 f319 := Tryz.func142.trans (congrArg some (by kernel_rfl))
 f320 := Tryz.func143.trans (congrArg some (by kernel_rfl))
 f337 := Tryz.func156.trans (congrArg some (by kernel_rfl))
 f338 := Tryz.func157.trans (congrArg some (by kernel_rfl))
 t0 := Tryz.underlying0
 a0 := Tryz.isAgg0
 z0 := Tryz.sizeOf0
 v0 := Tryz.zeroValue0
 t2 := Tryz.underlying2
 a2 := Tryz.isAgg2
 z2 := Tryz.sizeOf2
 v2 := Tryz.zeroValue2
 t3 := Tryz.underlying3
 a3 := Tryz.isAgg3
 z3 := Tryz.sizeOf3
 v3 := Tryz.zeroValue3
 t4 := Tryz.underlying4
 a4 := Tryz.isAgg4
 z4 := Tryz.sizeOf4
 v4 := Tryz.zeroValue4
 t5 := Tryz.underlying5
 a5 := Tryz.isAgg5
 z5 := Tryz.sizeOf5
 v5 := Tryz.zeroValue5
 t9 := Tryz.underlying9
 a9 := Tryz.isAgg9
 z9 := Tryz.sizeOf9
 v9 := Tryz.zeroValue9
 t20 := Tryz.underlying20
 a20 := Tryz.isAgg20
 z20 := Tryz.sizeOf20
 v20 := Tryz.zeroValue20
 t37 := Tryz.underlying99
 a37 := Tryz.isAgg99
 z37 := Tryz.sizeOf99
 v37 := Tryz.zeroValue99
 t46 := Tryz.underlying141
 a46 := Tryz.isAgg141
 z46 := Tryz.sizeOf141
 v46 := Tryz.zeroValue141
 t51 := Tryz.underlying168
 a51 := Tryz.isAgg168
 z51 := Tryz.sizeOf168
 v51 := Tryz.zeroValue168
 t53 := Tryz.underlying110
 a53 := Tryz.isAgg110
 z53 := Tryz.sizeOf110
 v53 := Tryz.zeroValue110
 t171 := Tryz.underlying170
 a171 := Tryz.isAgg170
 z171 := Tryz.sizeOf170
 v171 := Tryz.zeroValue170
 t173 := Tryz.underlying172
 a173 := Tryz.isAgg172
 z173 := Tryz.sizeOf172
 v173 := Tryz.zeroValue172
 t212 := Tryz.underlying195
 a212 := Tryz.isAgg195
 z212 := Tryz.sizeOf195
 v212 := Tryz.zeroValue195
 t213 := Tryz.underlying196
 a213 := Tryz.isAgg196
 z213 := Tryz.sizeOf196
 t232 := Tryz.underlying220
 a232 := Tryz.isAgg220
 z232 := Tryz.sizeOf220
 v232 := Tryz.zeroValue220
 t233 := Tryz.underlying221
 a233 := Tryz.isAgg221
 z233 := Tryz.sizeOf221
 v233 := Tryz.zeroValue221
 g17 := by kernel_rfl
 g18 := by kernel_rfl
 g19 := by kernel_rfl
theorem lays171 : LaysM.n171 Tryz.prog lays171_ren := { lays171_p with
 i0 := by kernel_rfl,
 i2 := by kernel_rfl,
 i3 := by kernel_rfl,
 i4 := by kernel_rfl,
 i5 := by kernel_rfl,
 i9 := by kernel_rfl,
 i20 := by kernel_rfl,
 i37 := by kernel_rfl,
 i46 := by kernel_rfl,
 i51 := by kernel_rfl,
 i53 := by kernel_rfl,
 i171 := by kernel_rfl,
 i173 := by kernel_rfl,
 i212 := by kernel_rfl,
 i232 := by kernel_rfl,
 i233 := by kernel_rfl,
 m17 := by kernel_rfl,
 m18 := by kernel_rfl,
 m19 := by kernel_rfl }
theorem PC_of_callsG {P : Program} {Y : YEnv} {f : FuncId} {args : List PV} {σ σ' : Sg} {v : PV} (hg : goFn P f = true)
 (h : ∀ Ψ vals w, SR Ψ σ w → VRs Ψ args vals → GOK P Ψ → Calls P f vals w (fun e w' => ∃ x Ψ', e = .returned x ∧ Ψ.le Ψ' ∧ SR Ψ' σ' w' ∧ VR Ψ' v x ∧ Below Ψ.base w w')) : PC P Y f args σ v σ' :=
 ⟨hg, fun Ψ vals w hs ha hy => callsIn_wide.2 (h Ψ vals w hs ha hy.1)⟩
theorem one_arg {Ψ : Ty} {p : PV} {vals : Array Value} (ha : VRs Ψ [p] vals) : ∃ x, vals = #[x] ∧ VR Ψ p x := by
 have := ha.1
 match vals, this with
 | ⟨[x]⟩, _ => exact ⟨x, rfl, ha.2 0 _ _ rfl rfl⟩
theorem x72 : Builder.X72 Tryz.prog bld_ren := ⟨by kernel_rfl, by kernel_rfl⟩
/-- A builder in a variable. -/
theorem bld_at {Ψ : Ty} {σ : Sg} {w : World} (hs : SR Ψ σ w) {id T r te : Nat} {l : List PV} {b : Nat} (hst : σ.store[id]? = some (some [.bself id T, .bbuf l r te])) (hβ : Ψ.β[id]? = some b) :
 ∃ x v, Ψ.base ≤ b ∧ w.heap[b]? = some (.cells #[x, v] T (0, 0)) ∧ (x = .pointer none ∨ x = .pointer (some ⟨b, 0, none⟩)) ∧ VR Ψ (.bbuf l r te) v := by
 obtain ⟨a1, _, hk⟩ := hs.block id _ b hst hβ
 rcases hk with ⟨c, hb, h1, h2⟩ | ⟨arr, es, h0, _⟩ | ⟨mid, r', n, seen, h0, _⟩
 ·simp only [List.length_cons, List.length_nil] at h1
  have v0 := h2 0 _ c[0] rfl (by simp)
  have v1 := h2 1 _ c[1] rfl (by simp)
  cases v0 with
  | bself _ _ b' _ hβ' hz hx =>
  rw [hβ] at hβ'
  injection hβ' with hβ'
  subst hβ'
  obtain ⟨_, c', f, hc', hsz⟩ := hs.szok _ _ hz
  obtain ⟨e, hbe⟩ := hb
  rw [hbe] at hc'
  injection hc' with hc'
  injection hc' with e1 e2 e3
  subst e1 e2
  refine ⟨c[0], c[1], a1, ?_, hx, v1⟩
  rw [hbe]
  congr 2
  apply Array.ext
  ·simp [hsz]
  intro i h1 h2
  match i, h2 with
  | 0, _ => rfl
  | 1, _ => rfl
 ·cases h0
 cases h0
theorem copyCheck_pc (Y : YEnv) (σ : Sg) {id r te : Nat} {l : List PV} (hst : σ.store[id]? = some (some [.bself id 101, .bbuf l r te])) : PC Tryz.prog Y 78 [.ptr id 0] σ (.tuple []) σ := by
 refine PC_of_calls (by kernel_rfl) fun Ψ vals w hs ha => ?_
 obtain ⟨x, rfl, hx⟩ := one_arg ha
 obtain ⟨b, hβ, hz, rfl⟩ := hx.ptr_inv
 obtain ⟨y, v, a1, hb, hy, hv⟩ := bld_at hs hst hβ
 have hc0 : w.cell? ⟨b, 0, none⟩ = some y := by rw [cell_eq, hb]; rfl
 rcases hy with rfl | rfl
 ·refine (Any.Builder_copyCheck_fresh lays240 x72 b w hc0 (by simp [World.shape?, hb]; rfl) (by simp [World.frozen?, hb])).mono ?_
  rintro e w' ⟨rfl, rfl⟩
  have hself : VR Ψ (.bself id 101) (.pointer (some ⟨b, 0, none⟩)) := by
   obtain ⟨_, _, hk⟩ := hs.block id _ b hst hβ
   obtain ⟨_, h2⟩ := hk.cells ⟨_, hb⟩
   have v0 := h2 0 _ _ rfl rfl
   cases v0 with
   | bself _ _ b' _ hβ' hz' _ =>
   rw [hβ] at hβ'
   injection hβ' with hβ'
   subst hβ'
   exact .bself _ _ b _ hβ hz' (.inr rfl)
  have h2 : SR Ψ (σ.setVar id [.bself id 101, .bbuf l r te]) (w.setCell ⟨b, 0, none⟩ (.pointer (some ⟨b, 0, none⟩))) := hs.setVar hst hβ hz hself (off := 0)
  rw [setVar_same σ id _ hst] at h2
  exact ⟨_, Ψ, rfl, Ty.le.refl _, h2, skipped_ok _, (Below.refl _ _).setCell (p := ⟨b, 0, none⟩) a1 _⟩
 refine (Any.Builder_copyCheck_used lays240 x72 b w hc0).mono ?_
 rintro e w' ⟨rfl, rfl⟩
 exact ⟨_, Ψ, rfl, Ty.le.refl _, hs, skipped_ok _, Below.refl _ _⟩
/-- What a builder holds, as a string: its row is marked. -/
theorem bldString (b g : Nat) (p : Value) (cap : Nat) (l : List UInt8) (w : World) (h0 : l ≠ []) (hbk : w.heap[b]? = some (.cells #[p, .slice (some ⟨g, 0, none⟩) l.length cap] 101 (0, 0))) {cur : Array Value} {fz : Nat × Nat} (hg : w.heap[g]? = some (.cells cur 5 fz)) (hn : l.length ≤ cur.size) (hcap : l.length ≤ cap) (h63 : l.length ≤ 9223372036854775807)
 (hcell : ∀ j x, l[j]? = some x → w.cell? ⟨g, j, none⟩ = some (.int .u8 x.toNat)) :
 Calls Tryz.prog 51 #[.pointer (some ⟨b, 0, none⟩)] w fun e w' => e = .returned (.string ⟨l.toArray⟩) ∧ w' = w.drew.freeze ⟨g, 0, none⟩ l.length := by
 have hl0 : l.length ≠ 0 := by simpa using h0
 have hb1 : w.drew.heap[b]? = some (.cells #[p, .slice (some ⟨g, 0, none⟩) l.length cap] 101 (0, 0)) := hbk
 have c1 : w.drew.cell? ⟨b, 1, none⟩ = some (.slice (some ⟨g, 0, none⟩) l.length cap) := by rw [Lib.cell_of_heap hb1]; rfl
 have hg' : w.drew.heap[g]? = some (.cells cur 5 fz) := hg
 have hSD : (Builtin.unsafeSliceData_ #[bld_ren.t 37] (bld_ren.t 127) #[.slice (some ⟨g, 0, none⟩) l.length cap]).run Tryz.prog w.drew = .ok (.pointer (some ⟨g, 0, none⟩)) w.drew :=
  Lib.run_unsafeSliceData_row _ _ _ _ _ _ (by omega)
 have hUS : (Builtin.unsafeString_ #[bld_ren.t 127, bld_ren.t 3] (bld_ren.t 9) #[.pointer (some ⟨g, 0, none⟩), .int .i64 l.length]).run Tryz.prog w.drew = .ok (.string ⟨l.toArray⟩) (w.drew.freeze ⟨g, 0, none⟩ l.length) :=
  Lib.run_unsafeString_row w.drew (bld_ren.t 127) (bld_ren.t 3) (bld_ren.t 9) 5 Tryz.underlying140 cells5 g cur.size (by simp [World.shape?, hg']) l h0 hn h63 fun j x hx => by
   have := hcell j x hx
   simpa using this
 have L := lays169
 have mixed := L.mixed
 have t72 := L.t72; have a72 := L.a72; have z72 := L.z72; have v72 := L.v72; have u72 := run_underlying L.t72
 have t70 := L.t70; have a70 := L.a70; have z70 := L.z70; have v70 := L.v70; have u70 := run_underlying L.t70
 have t37 := L.t37; have a37 := L.a37; have z37 := L.z37; have v37 := L.v37; have u37 := run_underlying L.t37
 have t127 := L.t127; have a127 := L.a127; have z127 := L.z127; have v127 := L.v127; have u127 := run_underlying L.t127
 have t3 := L.t3; have a3 := L.a3; have z3 := L.z3; have v3 := L.v3; have u3 := run_underlying L.t3
 have t9 := L.t9; have a9 := L.a9; have z9 := L.z9; have v9 := L.v9; have u9 := run_underlying L.t9
 go_enter L.f169, Body.n169_ntmps bld_ren
 go_wp2
 go_region_o
 all_goals (go_wp2; go_ret; exact ⟨rfl, rfl⟩)
theorem Itoa_pc (Y : YEnv) (σ : Sg) (n : Int) (h0 : -9223372036854775808 ≤ n) (h1 : n ≤ 9223372036854775807) : PC Tryz.prog Y 49 [I n] σ (.str ⟨(Lib.itoa n).toArray⟩) σ := by
 refine PC_of_callsG (by kernel_rfl) fun Ψ vals w hs ha hG => ?_
 obtain ⟨x, rfl, hx⟩ := one_arg ha
 obtain rfl := hx.int_inv
 have hgn : Tryz.prog.globalNamed "internal/strconv.uint64pow10" = some 0 := by kernel_rfl
 obtain ⟨_, e, f, hh⟩ := hs.szok _ _ (hG.tab 0 hgn)
 have htab : Lib.TabIs Tryz.prog w "internal/strconv.uint64pow10" .u64 Lib.pow10Tab := by
  unfold Lib.TabIs World.var?
  rw [hgn]
  simp only [Option.bind_some, hh]
  rfl
 refine (Any.strconv_Itoa lays171 n h0 h1 w htab).mono ?_
 rintro e2 w2 ⟨rfl, k, os, rfl⟩
 have ho : ∀ g, g < w.heap.size → (Sort.grow (w.drewN k) os).heap[g]? = w.heap[g]? := fun g hg => Sort.heap_grow_old (w.drewN k) os hg
 have hz : w.heap.size ≤ (Sort.grow (w.drewN k) os).heap.size := by simp [Sort.grow, World.drewN]
 exact ⟨_, Ψ, rfl, Ty.le.refl _, hs.more ho hz, .str _, ⟨rfl, rfl, rfl, hz, fun g hg => ho g (by have := hs.base; omega)⟩⟩
theorem dec_ne (u : Nat) : Lib.decDigits u ≠ [] := by
 rw [Lib.decDigits]
 split <;> simp
theorem dec_one : Lib.decDigits 0 = [48] := by rw [Lib.decDigits]; rfl
theorem pow_dec (u : Nat) : 10 ^ ((Lib.decDigits u).length - 1) ≤ u ∨ u = 0 := by
 induction u using Nat.strongRecOn with
 | _ u ih =>
  rw [Lib.decDigits]
  split
  ·rcases Nat.eq_zero_or_pos u with h | h
   ·exact .inr h
   left; simp; omega
  rename_i h
  left
  have hne := List.length_pos_iff.2 (dec_ne (u / 10))
  rcases ih (u / 10) (by omega) with h1 | h1
  ·simp only [List.length_append, List.length_cons, List.length_nil, Nat.zero_add, Nat.add_sub_cancel]
   obtain ⟨m, hm⟩ : ∃ m, (Lib.decDigits (u / 10)).length = m + 1 := ⟨(Lib.decDigits (u / 10)).length - 1, by omega⟩
   rw [hm] at h1 ⊢
   rw [Nat.add_sub_cancel] at h1
   rw [Nat.pow_succ]
   omega
  omega
open Go Go.RowKit Go.Shelf
def rowT (w : List UInt8) (l : List Int) : List UInt8 := w ++ l.flatMap fun n => 32 :: Lib.itoa n
theorem rowT_nil (w : List UInt8) : rowT w [] = w := by simp [rowT]
theorem rowT_cons (w : List UInt8) (n : Int) (l : List Int) : rowT w (n :: l) = rowT (w ++ 32 :: Lib.itoa n) l := by simp [rowT]
theorem rowT_take {w : List UInt8} {l : List Int} {i : Nat} {n : Int} (h : l[i]? = some n) : rowT w (l.take (i + 1)) = rowT w (l.take i) ++ 32 :: Lib.itoa n := by
 unfold rowT
 rw [List.take_add_one, h, List.flatMap_append]
 simp
/-- A number as it is written: not negative, of at most k digits. -/
def Short (k : Nat) (n : Int) : Prop := 0 ≤ n ∧ (Lib.itoa n).length ≤ k
theorem itoa_nat {n : Int} (h : 0 ≤ n) : Lib.itoa n = Lib.decDigits n.toNat := by unfold Lib.itoa; rw [if_neg (by omega)]
theorem short_lt {k : Nat} {n : Int} (h : 0 ≤ n) (h2 : n < ((10 ^ k : Nat) : Int)) (hk : 1 ≤ k) : Short k n := by
 refine ⟨h, ?_⟩
 rw [itoa_nat h]
 have hs := pow_dec n.toNat
 rcases Nat.lt_or_ge k (Lib.decDigits n.toNat).length with hl | hl
 ·exfalso
  rcases hs with hs | hs
  ·have := Nat.pow_le_pow_right (n := 10) (by omega) (show k ≤ (Lib.decDigits n.toNat).length - 1 by omega)
   omega
  rw [hs, dec_one] at hl
  simp at hl
  omega
 exact hl
def Fits (l : List Int) : Prop := ∀ n, n ∈ l → -9223372036854775808 ≤ n ∧ n ≤ 9223372036854775807
def contestW : List UInt8 := [99, 111, 110, 116, 101, 115, 116]
def roundW : List UInt8 := [114, 111, 117, 110, 100]
def ballotW : List UInt8 := [98, 97, 108, 108, 111, 116]
def endW : List UInt8 := [101, 110, 100]
def cnNums (c : Contest) : List Int := [c.songs, c.juries, c.members, c.most]
def rdNums (r : Rnd) : List Int := [r.keep, r.jury, r.member]
def blNums (b : Ballot) : List Int := [b.serial, b.round, b.kind, b.voter, b.song, b.points]
def lineT (w : List UInt8) (l : List Int) : List UInt8 := rowT w l ++ [10]
def rdT (l : List Rnd) : List UInt8 := l.flatMap fun r => lineT roundW (rdNums r)
def blT (l : List Ballot) : List UInt8 := l.flatMap fun b => lineT ballotW (blNums b)
def urnT (c : Contest) (l : List Ballot) : List UInt8 := lineT contestW (cnNums c) ++ rdT c.rounds ++ blT l ++ lineT endW [(l.length : Int)]
def urnA (c : Contest) (l : List Ballot) : List UInt8 × Int := if chkBls c l ≠ 0 then ([], chkBls c l) else (urnT c l, 0)
theorem rdT_take {l : List Rnd} {i : Nat} {b : Rnd} (h : l[i]? = some b) : rdT (l.take (i + 1)) = rdT (l.take i) ++ lineT roundW (rdNums b) := by
 unfold rdT
 rw [List.take_add_one, h, List.flatMap_append]
 simp
theorem blT_take {l : List Ballot} {i : Nat} {b : Ballot} (h : l[i]? = some b) : blT (l.take (i + 1)) = blT (l.take i) ++ lineT ballotW (blNums b) := by
 unfold blT
 rw [List.take_add_one, h, List.flatMap_append]
 simp
def Lim (b : Int) (l : List Int) : Prop := ∀ n, n ∈ l → 0 ≤ n ∧ n ≤ b
structure UrnK (c : Contest) (l : List Ballot) : Prop where
 v : CnV c
 cn : Lim 1000 (cnNums c)
 rl : c.rounds.length ≤ 4
 rd : ∀ r, r ∈ c.rounds → Lim 1000 (rdNums r)
 bl : l.length ≤ 300
 bn : ∀ b, b ∈ l → Lim 1000000000 (blNums b)
theorem urn_k {c : Contest} {l : List Ballot} (h : chkBls c l = 0) : UrnK c l := by
 obtain ⟨h1, h2, h3, _⟩ := blsV_of h
 have k1 := h1.sg; have k2 := h1.jr; have k3 := h1.mb; have k4 := h1.ms
 refine ⟨h1, fun n hn => ?_, h1.rl.2, fun r hr n hn => ?_, h2, fun b hb n hn => ?_⟩
 ·simp only [cnNums, List.mem_cons, List.not_mem_nil, or_false] at hn
  rcases hn with rfl | rfl | rfl | rfl <;> omega
 ·have := h1.rnd hr
  simp only [rdNums, List.mem_cons, List.not_mem_nil, or_false] at hn
  rcases hn with rfl | rfl | rfl <;> omega
 have q := h3 b hb
 have q1 := q.sr; have q2 := q.rd; have q3 := q.kd; have q4 := q.vt; have q5 := q.sg; have q6 := q.pt; have q7 := h1.rl
 have q8 : b.voter < 1001 := by have := q4.2; split at this <;> omega
 have q9 : b.points ≤ 100 := by have := q6.2; split at this <;> omega
 simp only [blNums, List.mem_cons, List.not_mem_nil, or_false] at hn
 rcases hn with rfl | rfl | rfl | rfl | rfl | rfl <;> omega
theorem Lim.short {b : Int} {l : List Int} {k : Nat} (h : Lim b l) (hb : b < ((10 ^ k : Nat) : Int)) (hk : 1 ≤ k) : ∀ n, n ∈ l → Short k n := fun n hn => short_lt (h n hn).1 (Int.lt_of_le_of_lt (h n hn).2 hb) hk
theorem short_len {k : Nat} : ∀ {l : List Int}, (∀ n, n ∈ l → Short k n) → ∀ w, (rowT w l).length ≤ w.length + (k + 1) * l.length := by
 intro l
 induction l with
 | nil => intro _ w; simp [rowT]
 | cons n l ih =>
  intro h w
  rw [rowT_cons]
  have h1 := ih (fun m hm => h m (List.mem_cons_of_mem _ hm)) (w ++ 32 :: Lib.itoa n)
  have h2 := (h n (List.mem_cons_self ..)).2
  simp only [List.length_append, List.length_cons, Nat.mul_add, Nat.mul_one] at h1 ⊢
  omega
theorem short_line {k : Nat} {w : List UInt8} {l : List Int} (h : ∀ n, n ∈ l → Short k n) : (lineT w l).length ≤ w.length + (k + 1) * l.length + 1 := by
 have := short_len h w
 simp only [lineT, List.length_append, List.length_cons, List.length_nil]
 omega
theorem rdT_21 : ∀ {l : List Rnd}, (∀ r, r ∈ l → Lim 1000 (rdNums r)) → (rdT l).length ≤ 21 * l.length := by
 intro l
 induction l with
 | nil => intro _; simp [rdT]
 | cons b l ih =>
  intro h
  have h1 := ih fun x hx => h x (List.mem_cons_of_mem _ hx)
  have h2 := short_line (w := roundW) ((h b (List.mem_cons_self ..)).short (k := 4) (by decide) (by decide))
  have e1 : (rdNums b).length = 3 := rfl
  have e2 : roundW.length = 5 := rfl
  simp only [rdT, List.flatMap_cons, List.length_append, List.length_cons] at h1 ⊢
  omega
theorem blT_73 : ∀ {l : List Ballot}, (∀ r, r ∈ l → Lim 1000000000 (blNums r)) → (blT l).length ≤ 73 * l.length := by
 intro l
 induction l with
 | nil => intro _; simp [blT]
 | cons b l ih =>
  intro h
  have h1 := ih fun x hx => h x (List.mem_cons_of_mem _ hx)
  have h2 := short_line (w := ballotW) ((h b (List.mem_cons_self ..)).short (k := 10) (by decide) (by decide))
  have e1 : (blNums b).length = 6 := rfl
  have e2 : ballotW.length = 6 := rfl
  simp only [blT, List.flatMap_cons, List.length_append, List.length_cons] at h1 ⊢
  omega
section
variable {c : Contest} {l : List Ballot} {i : Nat}
end
theorem rowT_len : ∀ (l : List Int) (w : List UInt8), Fits l → (rowT w l).length ≤ w.length + 22 * l.length := by
 intro l
 induction l with
 | nil => intro w _; simp [rowT]
 | cons n l ih =>
  intro w h
  rw [rowT_cons]
  have h1 := ih (w ++ 32 :: Lib.itoa n) fun m hm => h m (List.mem_cons_of_mem _ hm)
  have h2 := h n (List.mem_cons_self ..)
  have h3 := Lib.itoa_length_le n h2.1 h2.2
  simp only [List.length_append, List.length_cons] at h1 ⊢
  omega
theorem lineT_len {w : List UInt8} {l : List Int} (h : Fits l) : (lineT w l).length ≤ w.length + 22 * l.length + 1 := by
 have := rowT_len l w h
 simp only [lineT, List.length_append, List.length_cons, List.length_nil]
 omega
theorem Lim.fits {b : Int} {l : List Int} (h : Lim b l) (hb : b ≤ 1000000000) : Fits l := fun n hn => by have := h n hn; omega
theorem rdT_len : ∀ {l : List Rnd}, (∀ a, a ∈ l → Lim 1000 (rdNums a)) → (rdT l).length ≤ 100 * l.length := by
 intro l h
 have := rdT_21 h
 omega
theorem blT_len : ∀ {l : List Ballot}, (∀ a, a ∈ l → Lim 1000000000 (blNums a)) → (blT l).length ≤ 100 * l.length := by
 intro l h
 have := blT_73 h
 omega
theorem Fits.one {n : Nat} (h : n ≤ 2 ^ 60) : Fits [(n : Int)] := fun m hm => by simp at hm; subst hm; omega
theorem endT_len {n : Nat} (h : n ≤ 2 ^ 60) : (lineT endW [(n : Int)]).length ≤ 30 := by
 have := lineT_len (w := endW) (Fits.one h)
 have e2 : endW.length = 3 := rfl
 simp only [List.length_cons, List.length_nil] at this
 omega
theorem strPV_app (a b : ByteArray) : strPV (a ++ b) = strPV a ++ strPV b := by simp [strPV]
theorem strPV_ok (s : ByteArray) : okC 1 (strPV s) := by
 unfold okC
 rw [List.all_eq_true]
 intro q hq
 obtain ⟨x, _, rfl⟩ := List.mem_map.1 hq
 rfl
theorem appB (σ : Sg) {r : Nat} (B s : ByteArray) (hr : σ.rooms[r]? = some B.size) (hl : B.size + s.size ≤ 2 ^ 46) :
 appendAny Tryz.prog σ 99 9 (.bbuf (strPV B) r 5) (.str s) = some (.bbuf (strPV (B ++ s)) r 5, σ.setRoom r (B.size + s.size)) := by
 rw [appendAny_bbuf]
 unfold appendB bytesArg
 simp only [Tryz.underlying99, Tryz.underlying9]
 rw [if_pos ⟨trivial, cells5⟩, app99, strPV_len, appX_tok (strPV_ok s) hr (by rw [strPV_len, strPV_len]; omega)]
 simp only [Option.map_some, strPV_app, strPV_len]
theorem String_pc (Y : YEnv) (σ : Sg) {id r : Nat} (B : ByteArray) (hst : σ.store[id]? = some (some [.bself id 101, .bbuf (strPV B) r 5])) (hr : σ.rooms[r]? = some B.size) (h0 : 0 < B.size) (hl : B.size ≤ 2 ^ 46) :
 PC Tryz.prog Y 51 [.ptr id 0] σ (.str B) (σ.setRoom r (B.size + 1)) := by
 refine PC_of_calls (by kernel_rfl) fun Ψ vals w hs ha => ?_
 obtain ⟨x, rfl, hx⟩ := one_arg ha
 obtain ⟨b, hβ, hz, rfl⟩ := hx.ptr_inv
 obtain ⟨y, v, a1, hb, hy, hv⟩ := bld_at hs hst hβ
 have hBl : B.data.toList.length = B.size := by simp
 have hget : ∀ (j : Nat) (x : UInt8), B.data.toList[j]? = some x → (strPV B)[j]? = some (.int .u8 x.toNat) := fun j x h => by
  unfold strPV; rw [List.getElem?_map, h]; rfl
 have hpl := strPV_len B
 generalize hL : strPV B = L at *
 cases hv with
 | bbuf _ _ _ _ h ht =>
 cases h with
 | islnil _ _ _ => simp at hpl; omega
 | isl es _ _ g o cap vals hes k1 k2 hc ho =>
 obtain ⟨hes1, hh⟩ := ho
 subst hes1
 obtain ⟨rfl, hty⟩ := ht g o _ cap rfl (by omega)
 obtain ⟨_, cur, f, hcur, hcs⟩ := hs.szok _ _ hty
 rw [Nat.zero_add, Nat.zero_add, Nat.mul_one, Nat.mul_one, hpl] at hh
 have hat : ∀ (j : Nat) (x : UInt8), B.data.toList[j]? = some x → Ψ.imm g j = some (.int .u8 x.toNat) := fun j x hj => by
  have e1 := k1 j _ 0 (.int .u8 x.toNat) (hget j x hj) rfl
  have e2 := k2 j _ 0 (.int .u8 x.toNat) (hget j x hj) rfl
  rw [e2.int_inv] at e1
  rw [← e1]
  congr 1
  omega
 have hbb : w.heap[b]? = some (.cells #[y, .slice (some ⟨g, 0, none⟩) B.data.toList.length cap] 101 (0, 0)) := by rw [hb, hBl, hpl]
 refine (bldString b g y cap B.data.toList w (fun e => by rw [e] at hBl; simp at hBl; omega) hbb hcur (by rw [hBl]; omega) (by rw [hBl]; omega) (by rw [hBl]; omega) fun j x hj => hs.imm _ _ _ (hat j x hj)).mono ?_
 rintro e2 w2 ⟨rfl, rfl⟩
 rw [hBl]
 obtain ⟨Ψ', le, hs', hbel⟩ := hs.stringed hr hh hty (fun o ho => by
  have hlt : o < B.data.toList.length := by rw [hBl]; exact ho
  rw [hat o _ (List.getElem?_eq_getElem hlt)]
  simp) h0
 have e : (⟨B.data.toList.toArray⟩ : ByteArray) = B := by simp
 exact ⟨_, Ψ', rfl, le, hs', by rw [e]; exact .str B, hbel⟩
set_option maxHeartbeats 2000000 in
theorem WriteString_pc (Y : YEnv) (σ : Sg) {id r : Nat} (B s : ByteArray) (hst : σ.store[id]? = some (some [.bself id 101, .bbuf (strPV B) r 5])) (hr : σ.rooms[r]? = some B.size) (hl : B.size + s.size ≤ 2 ^ 46) :
 PC Tryz.prog Y 48 [.ptr id 0, .str s] σ (.tuple [I s.size, .niliface]) ((σ.setRoom r (B.size + s.size)).setVar id [.bself id 101, .bbuf (strPV (B ++ s)) r 5]) := by
 refine PC_of_W Tryz.func48 rfl (by kernel_rfl) Tryz.ntmps48 (by simp) fun hcl hca => ?_
 have hld : ldS σ id 1 = some (.bbuf (strPV B) r 5) := by simp [ldS, hst]
 have happ := appB σ B s hr hl
 have hsto : stX 1 (σ.setRoom r (B.size + s.size)) id 1 (.bbuf (strPV (B ++ s)) r 5) = some ((σ.setRoom r (B.size + s.size)).setVar id [.bself id 101, .bbuf (strPV (B ++ s)) r 5]) := by
  have : (σ.setRoom r (B.size + s.size)).store[id]? = some (some [.bself id 101, .bbuf (strPV B) r 5]) := hst
  unfold stX
  rw [this]
  rfl
 refine W_sr [0, 1] fun R hR => ?_
 simp only [go_sem, hld, happ, hsto, Nat.zero_add]
 refine hR _ _ ?_; clear hR R
 try simp only [go_sem, hld, happ, hsto, Nat.zero_add]
 refine W_sr [0, 1] fun R hR => ?_
 simp only [go_sem, hld, happ, hsto, Nat.zero_add]
 refine GCall_of (copyCheck_pc Y _ hst) ?_
 simp only [go_sem, hld, happ, hsto, Nat.zero_add]
 refine hR _ _ ?_; clear hR R
 try simp only [go_sem, hld, happ, hsto, Nat.zero_add]
 refine W_sr [1] fun R hR => ?_
 simp only [go_sem, hld, happ, hsto, Nat.zero_add]
 try simp (disch := (first | omega | (simp only [go_sem, List.length_append] <;> omega))) only [wrapI, wrapU, appX_exact, appX_tok, strAdd, slT, slTa, slTb]
 try simp only [go_sem, hld, happ, hsto, Nat.zero_add]
 refine hR _ _ ?_; clear hR R
 try simp only [go_sem, hld, happ, hsto, Nat.zero_add]
 refine W_sr [4, 5] fun R hR => ?_
 simp only [go_sem, hld, happ, hsto, Nat.zero_add]
 refine hR _ _ ?_; clear hR R
 try simp only [go_sem, hld, happ, hsto, Nat.zero_add]
 refine W_ret ?_
 simp only [go_sem, hld, happ, hsto, Nat.zero_add]
 refine ⟨.inr (by trivial), ?_⟩
 have hrl := (List.getElem?_eq_some_iff.1 hr).1
 have hcl2 := CleanSg_bld (n := B.size + s.size) (m := strPV s) hcl hst hrl strPV_clean
 rw [← strPV_app] at hcl2
 have e1 : ((σ.setRoom r (B.size + s.size)).setVar id [.bself id 101, .bbuf (strPV (B ++ s)) r 5]).store.length = σ.store.length := by simp [Sg.setVar, Sg.setRoom]
 have e2 : ((σ.setRoom r (B.size + s.size)).setVar id [.bself id 101, .bbuf (strPV (B ++ s)) r 5]).rooms.length = σ.rooms.length := by simp [Sg.setVar, Sg.setRoom]
 refine ⟨_, σ.store.length, σ.rooms.length, rfl, Nat.le_refl _, Nat.le_refl _, Wk_eq ?_ (by simp only [go_sem]), ?_, ?_, rfl⟩
 rotate_left
 ·simp only [Sg.cut, Sg.setVar, Sg.setRoom]
  rw [List.take_of_length_le (l := σ.store.set _ _) (by simp), List.take_of_length_le (l := σ.rooms.set _ _) (by simp), List.take_of_length_le (l := σ.ys) (Nat.le_refl _)]
 ·have := hcl2; unfold CleanSg at this; rw [e1, e2] at this; exact this
 try simp only [go_sem]
 all_goals
  first | rfl | simp
/-- A builder's cells. -/
def bldC (id r : Nat) (b : List UInt8) : List PV := [.bself id 101, .bbuf (strPV ⟨b.toArray⟩) r 5]
theorem app_txt (a b : List UInt8) : (⟨a.toArray⟩ : ByteArray) ++ ⟨b.toArray⟩ = ⟨(a ++ b).toArray⟩ := by
 try (apply ByteArray.ext)
 simp [ByteArray.data_append]
theorem zeroB : zeroPV Tryz.prog 101 = some [.nilptr, .isl [] .exact] := by kernel_rfl
section
variable {σ : Sg} {L : List (Option (List PV))} {rm : List Nat} {ys : List LState} {j k : Nat} {b s : List UInt8}
theorem rooms_at (k : Nat) : (σ.ext L rm ys).rooms[σ.rooms.length + k]? = rm[k]? := by
 show (σ.rooms ++ rm)[σ.rooms.length + k]? = _
 rw [List.getElem?_append_right (by omega)]
 congr 1; omega
theorem StringT_pc (Y : YEnv) (h : L[j]? = some (some (bldC (σ.store.length + j) (σ.rooms.length + k) b))) (hr : rm[k]? = some b.length) (h0 : 0 < b.length) (hl : b.length ≤ 2 ^ 46) :
 PC Tryz.prog Y 51 [.ptr (σ.store.length + j) 0] (σ.ext L rm ys) (txt b) (σ.ext L (rm.set k (b.length + 1)) ys) := by
 have h1 := String_pc Y (σ.ext L rm ys) (id := σ.store.length + j) (r := σ.rooms.length + k) ⟨b.toArray⟩ (by rw [Sg.get_ext]; exact h) (by rw [rooms_at, hr, size_txt]) (by rw [size_txt]; exact h0) (by rw [size_txt]; exact hl)
 rw [size_txt, Sg.setRoom_ext] at h1
 exact h1
end
theorem Cl_bself {a b c id t : Nat} : Clean a b c (.bself id t) = (id < a) := propext ⟨fun h => by cases h; assumption, fun h => .bself _ _ h⟩
theorem Cl_bbufS {a b c r t : Nat} {s : ByteArray} : Clean a b c (.bbuf (strPV s) r t) = (r < b) := propext ⟨fun h => by
 cases h with
 | bbuf _ _ _ hh =>
 cases hh with
 | isl _ _ _ hlt => exact hlt r _ 1 rfl, fun h => .bbuf _ _ _ (.isl _ _ (fun e he => strPV_clean e he) fun r' n es e => by injection e with e _ _; omega)⟩
attribute [go_sem] Cl_bself Cl_bbufS
theorem strPV_one (c : UInt8) : strPV ⟨#[c]⟩ = [.int .u8 c.toNat] := by simp [strPV]
theorem size_one (c : UInt8) : (⟨#[c]⟩ : ByteArray).size = 1 := rfl
theorem appByte (σ : Sg) {r : Nat} (B : ByteArray) (c : UInt8) (hr : σ.rooms[r]? = some B.size) (hl : B.size + 1 ≤ 2 ^ 46) :
 appendAny Tryz.prog σ 99 99 (.bbuf (strPV B) r 5) (.isl [.int .u8 c.toNat] .exact) = some (.bbuf (strPV (B ++ ⟨#[c]⟩)) r 5, σ.setRoom r (B.size + 1)) := by
 rw [appendAny_bbuf, ← strPV_one]
 unfold appendB bytesArg
 simp only [Tryz.underlying99]
 rw [if_pos ⟨trivial, cells5⟩, app99, strPV_len, appX_tok (strPV_ok _) hr (by rw [strPV_len, strPV_len, size_one]; omega)]
 simp only [Option.map_some, strPV_app, strPV_len, size_one]
set_option maxHeartbeats 2000000 in
theorem WriteByte_pc (Y : YEnv) (σ : Sg) {id r : Nat} (B : ByteArray) (c : UInt8) (hst : σ.store[id]? = some (some [.bself id 101, .bbuf (strPV B) r 5])) (hr : σ.rooms[r]? = some B.size) (hl : B.size + 1 ≤ 2 ^ 46) :
 PC Tryz.prog Y 50 [.ptr id 0, .int .u8 c.toNat] σ (.niliface) ((σ.setRoom r (B.size + 1)).setVar id [.bself id 101, .bbuf (strPV (B ++ ⟨#[c]⟩)) r 5]) := by
 refine PC_of_W Tryz.func50 rfl (by kernel_rfl) Tryz.ntmps50 (by simp) fun hcl hca => ?_
 have hld : ldS σ id 1 = some (.bbuf (strPV B) r 5) := by simp [ldS, hst]
 have happ := appByte σ B c hr hl
 have hsto : stX 1 (σ.setRoom r (B.size + 1)) id 1 (.bbuf (strPV (B ++ ⟨#[c]⟩)) r 5) = some ((σ.setRoom r (B.size + 1)).setVar id [.bself id 101, .bbuf (strPV (B ++ ⟨#[c]⟩)) r 5]) := by
  have : (σ.setRoom r (B.size + 1)).store[id]? = some (some [.bself id 101, .bbuf (strPV B) r 5]) := hst
  unfold stX
  rw [this]
  rfl
 refine W_sr [0, 1] fun R hR => ?_
 simp only [go_sem, hld, happ, hsto, Nat.zero_add]
 refine hR _ _ ?_; clear hR R
 try simp only [go_sem, hld, happ, hsto, Nat.zero_add]
 refine W_sr [0, 1] fun R hR => ?_
 simp only [go_sem, hld, happ, hsto, Nat.zero_add]
 refine GCall_of (copyCheck_pc Y _ hst) ?_
 simp only [go_sem, hld, happ, hsto, Nat.zero_add]
 refine hR _ _ ?_; clear hR R
 try simp only [go_sem, hld, happ, hsto, Nat.zero_add]
 refine W_sr [] fun R hR => ?_
 simp only [go_sem, hld, happ, hsto, Nat.zero_add]
 try simp (disch := (first | omega | (simp only [go_sem, List.length_append] <;> omega))) only [wrapI, wrapU, appX_exact, appX_tok, strAdd, slT, slTa, slTb]
 try simp only [go_sem, hld, happ, hsto, Nat.zero_add]
 refine hR _ _ ?_; clear hR R
 try simp only [go_sem, hld, happ, hsto, Nat.zero_add]
 refine W_sr [4] fun R hR => ?_
 simp only [go_sem, hld, happ, hsto, Nat.zero_add]
 refine hR _ _ ?_; clear hR R
 try simp only [go_sem, hld, happ, hsto, Nat.zero_add]
 refine W_ret ?_
 simp only [go_sem, hld, happ, hsto, Nat.zero_add]
 refine ⟨.inr (by trivial), ?_⟩
 have hrl := (List.getElem?_eq_some_iff.1 hr).1
 have hcl2 := CleanSg_bld (n := B.size + 1) (m := strPV ⟨#[c]⟩) hcl hst hrl strPV_clean
 rw [← strPV_app] at hcl2
 have e1 : ((σ.setRoom r (B.size + 1)).setVar id [.bself id 101, .bbuf (strPV (B ++ ⟨#[c]⟩)) r 5]).store.length = σ.store.length := by simp [Sg.setVar, Sg.setRoom]
 have e2 : ((σ.setRoom r (B.size + 1)).setVar id [.bself id 101, .bbuf (strPV (B ++ ⟨#[c]⟩)) r 5]).rooms.length = σ.rooms.length := by simp [Sg.setVar, Sg.setRoom]
 refine ⟨_, σ.store.length, σ.rooms.length, rfl, Nat.le_refl _, Nat.le_refl _, Wk_eq ?_ (by simp only [go_sem]), ?_, ?_, rfl⟩
 rotate_left
 ·simp only [Sg.cut, Sg.setVar, Sg.setRoom]
  rw [List.take_of_length_le (l := σ.store.set _ _) (by simp), List.take_of_length_le (l := σ.rooms.set _ _) (by simp), List.take_of_length_le (l := σ.ys) (Nat.le_refl _)]
 ·have := hcl2; unfold CleanSg at this; rw [e1, e2] at this; exact this
 try simp only [go_sem]
 all_goals
  first | rfl | simp
/-- A state in which a builder holds some text. -/
def bldS (σ : Sg) (id r : Nat) (b : List UInt8) : Sg := (σ.setRoom r b.length).setVar id (bldC id r b)
theorem bldS_len {σ : Sg} {id r : Nat} {b : List UInt8} : (bldS σ id r b).store.length = σ.store.length := by simp [bldS, Sg.setVar, Sg.setRoom]
theorem bldS_rooms {σ : Sg} {id r : Nat} {b : List UInt8} : (bldS σ id r b).rooms.length = σ.rooms.length := by simp [bldS, Sg.setVar, Sg.setRoom]
theorem bldS_ys {σ : Sg} {id r : Nat} {b : List UInt8} : (bldS σ id r b).ys = σ.ys := rfl
theorem bldS_set {σ : Sg} {id r : Nat} {a b : List UInt8} : bldS (bldS σ id r a) id r b = bldS σ id r b := by simp [bldS, Sg.setVar, Sg.setRoom, List.set_set]
theorem bldS_get {σ : Sg} {id r : Nat} {b : List UInt8} (h : id < σ.store.length) : (bldS σ id r b).store[id]? = some (some (bldC id r b)) := by simp [bldS, Sg.setVar, Sg.setRoom, h]
theorem bldS_room {σ : Sg} {id r : Nat} {b : List UInt8} (h : r < σ.rooms.length) : (bldS σ id r b).rooms[r]? = some b.length := by simp [bldS, Sg.setVar, Sg.setRoom, h]
theorem bldS_self {σ : Sg} {id r : Nat} {b : List UInt8} (h : σ.store[id]? = some (some (bldC id r b))) (hr : σ.rooms[r]? = some b.length) : bldS σ id r b = σ := by
 obtain ⟨h1, h2⟩ := List.getElem?_eq_some_iff.1 h
 obtain ⟨h3, h4⟩ := List.getElem?_eq_some_iff.1 hr
 have e1 : σ.store.set id (some (bldC id r b)) = σ.store := by rw [← h2]; exact List.set_getElem_self _
 have e2 : σ.rooms.set r b.length = σ.rooms := by rw [← h4]; exact List.set_getElem_self _
 show (⟨σ.store.set id (some (bldC id r b)), σ.rooms.set r b.length, σ.ys⟩ : Sg) = σ
 rw [e1, e2]
theorem bldS_clean {σ : Sg} {id r : Nat} {a b : List UInt8} (hcl : CleanSg (bldS σ id r a)) (h : id < σ.store.length) (hr : r < σ.rooms.length) : CleanSg (bldS σ id r b) := by
 have hcl' : CleanCut (bldS σ id r a) σ.store.length σ.rooms.length σ.ys.length := by
  have := hcl
  unfold CleanSg at this
  rw [bldS_len, bldS_rooms] at this
  exact this
 show CleanCut (bldS σ id r b) _ _ _
 rw [bldS_len, bldS_rooms]
 intro i cs hi hcs p hp
 have h0 : (σ.store.set id (some (bldC id r b)))[i]? = some (some cs) := hcs
 rw [List.getElem?_set] at h0
 by_cases e : id = i
 ·subst e
  rw [if_pos rfl, if_pos h] at h0
  injection h0 with h0
  injection h0 with h0
  subst h0
  simp only [bldC, List.mem_cons, List.not_mem_nil, or_false] at hp
  rcases hp with rfl | rfl
  ·exact .bself _ _ h
  exact .bbuf _ _ _ (.isl _ _ (fun e he => strPV_clean e he) fun r' n es e => by injection e with e _ _; omega)
 rw [if_neg e] at h0
 refine hcl' i cs hi ?_ p hp
 show (σ.store.set id _)[i]? = _
 rw [List.getElem?_set, if_neg e]
 exact h0
theorem WriteB_pc (Y : YEnv) (σ : Sg) {id r : Nat} (h : id < σ.store.length) (hr : r < σ.rooms.length) (b s : List UInt8) (hl : b.length + s.length ≤ 2 ^ 46) :
 PC Tryz.prog Y 48 [.ptr id 0, txt s] (bldS σ id r b) (.tuple [I s.length, .niliface]) (bldS σ id r (b ++ s)) := by
 have h1 := WriteString_pc Y (bldS σ id r b) (id := id) (r := r) ⟨b.toArray⟩ ⟨s.toArray⟩ (bldS_get h) (by rw [bldS_room hr, size_txt]) (by rw [size_txt, size_txt]; exact hl)
 rw [size_txt, size_txt, app_txt] at h1
 have e : (((bldS σ id r b).setRoom r (b.length + s.length)).setVar id [.bself id 101, .bbuf (strPV ⟨(b ++ s).toArray⟩) r 5]) = bldS σ id r (b ++ s) := by
  rw [← List.length_append]
  exact bldS_set
 rw [e] at h1
 exact h1
theorem WriteByteB_pc (Y : YEnv) (σ : Sg) {id r : Nat} (h : id < σ.store.length) (hr : r < σ.rooms.length) (b : List UInt8) (c : UInt8) (hl : b.length + 1 ≤ 2 ^ 46) :
 PC Tryz.prog Y 50 [.ptr id 0, .int .u8 c.toNat] (bldS σ id r b) .niliface (bldS σ id r (b ++ [c])) := by
 have h1 := WriteByte_pc Y (bldS σ id r b) (id := id) (r := r) ⟨b.toArray⟩ c (bldS_get h) (by rw [bldS_room hr, size_txt]) (by rw [size_txt]; exact hl)
 rw [size_txt, show (⟨b.toArray⟩ ++ ⟨#[c]⟩ : ByteArray) = ⟨(b ++ [c]).toArray⟩ from app_txt b [c]] at h1
 have e : (((bldS σ id r b).setRoom r (b.length + 1)).setVar id [.bself id 101, .bbuf (strPV ⟨(b ++ [c]).toArray⟩) r 5]) = bldS σ id r (b ++ [c]) := by
  rw [show b.length + 1 = (b ++ [c]).length by simp]
  exact bldS_set
 rw [e] at h1
 exact h1
theorem WriteNl_pc (Y : YEnv) (σ : Sg) {id r : Nat} (h : id < σ.store.length) (hr : r < σ.rooms.length) (b : List UInt8) (hl : b.length + 1 ≤ 2 ^ 46) :
 PC Tryz.prog Y 50 [.ptr id 0, .int .u8 10] (bldS σ id r b) .niliface (bldS σ id r (b ++ [10])) := WriteByteB_pc Y σ h hr b 10 hl
theorem Fin_bld {P : Program} {fn : Func} {σ : Sg} {id r : Nat} {a b : List UInt8} {E : Env} {rs : List PV} {v : PV} (hcl : CleanSg (bldS σ id r a)) (h : id < σ.store.length) (hr : r < σ.rooms.length)
 (hres : resPV P (bldS σ id r b) E fn.results.toList = some rs) (hv : Wk σ.store.length σ.rooms.length σ.ys.length (oneOr rs) v) : Fin P fn (bldS σ id r a) v (bldS σ id r b) E (bldS σ id r b) := by
 have hc := bldS_clean (b := b) hcl h hr
 have := Fin_self (fn := fn) hc hres (v := v) (by rw [bldS_len, bldS_rooms]; exact hv)
 obtain ⟨l0, n1, n2, k1, k2, k3, k4, k5, k6, k7⟩ := this
 rw [bldS_len] at k2
 rw [bldS_rooms] at k3
 exact ⟨l0, n1, n2, k1, by rw [bldS_len]; exact k2, by rw [bldS_rooms]; exact k3, k4, k5, k6, k7⟩
attribute [go_sem] bldS_len bldS_rooms bldS_ys
set_option maxHeartbeats 2000000 in
theorem Wrow_pc (Y : YEnv) (σ : Sg) (w : List UInt8) (l : List Int) (o : Own) (b : List UInt8) (id r : Nat) (hid : id < σ.store.length) (hr : r < σ.rooms.length) (hv : Fits l) (hw : w.length ≤ 2 ^ 20) (hl : l.length ≤ 2 ^ 20) (hb : b.length ≤ 2 ^ 40) :
 PC Tryz.prog Y 47 [txt w, .isl (l.map I) o, .ptr id 0] (bldS σ id r b) (.tuple []) (bldS σ id r (b ++ lineT w l)) := by
 refine PC_of_W Tryz.func47 rfl (by kernel_rfl) Tryz.ntmps47 (by simp) fun hcl hca => ?_
 refine W_sr [1, 2] fun R hR => ?_
 simp only [go_sem]
 refine GCall_of (WriteB_pc Y σ hid hr b w (by omega)) ?_
 simp only [go_sem]
 refine hR _ _ ?_; clear hR R
 try simp only [go_sem]
 refine W_seq fun Z2 K2 => ?_
 refine W_sr [2, 9, 10, 11] fun R hR => ?_
 simp only [go_sem]
 refine hR _ _ ?_; clear hR R
 try simp only [go_sem]
 refine W_block ?_
 refine W_loopT (α := Nat) (fun (i : Nat) => [(11, I i)]) (fun (i : Nat) => bldS σ id r (b ++ rowT w (l.take i))) (fun (i : Nat) => i ≤ l.length) (fun (i : Nat) => l.length - i) (0) rfl (by simp [rowT_nil]) (Nat.zero_le _) ?_
 rintro i hi
 have hrt : (rowT w (l.take i)).length ≤ w.length + 22 * l.length := by
  have h1 := rowT_len (l.take i) w (fun n hn => hv n (List.mem_of_mem_take hn))
  rw [List.length_take] at h1
  omega
 refine W_sr [2, 9, 10, 11, 12] fun R hR => ?_
 simp only [go_sem]
 refine hR _ _ ?_; clear hR R
 try simp only [go_sem]
 refine W_seq fun Z5 K5 => ?_
 refine W_cond rfl (fun c1 => ?_) (fun c1 => ?_)
 ·
  try simp only [nrm] at c1
  have hi' : i < l.length := by first | assumption | omega
  obtain ⟨x, hx⟩ : ∃ x, l[i]? = some x := ⟨l[i], by simp [hi']⟩
  have hdrop : l.drop i = x :: l.drop (i + 1) := by
   rw [List.drop_eq_getElem_cons hi']; congr 1; exact (List.getElem?_eq_some_iff.1 hx).2
  have hxv := hv x (List.mem_of_getElem? hx)
  have hxl := Lib.itoa_length_le x hxv.1 hxv.2
  refine W_skip (K5 _ _ ?_)
  refine W_seq fun Z6 K6 => ?_
  refine W_block ?_
  refine W_sr [2, 6, 9, 10, 11] fun R hR => ?_
  simp only [go_sem, hx]
  refine hR _ _ ?_; clear hR R
  try simp only [go_sem, hx]
  refine W_region [2, 9, 10, 11] fun R hR => ?_
  simp only [go_sem, hx]
  refine GCall_of (Itoa_pc Y _ x hxv.1 hxv.2) ?_
  simp only [go_sem, hx]
  try simp (disch := (first | omega | (simp only [go_sem, List.length_append] <;> omega))) only [wrapI, wrapU, appX_exact, appX_tok, strAdd, slT, slTa, slTb]
  try simp only [go_sem, hx]
  try simp (disch := (first | omega | (simp only [go_sem, List.length_append] <;> omega))) only [wrapI, wrapU, strAdd, slT, slTa, slTb]
  refine GCall_of (WriteB_pc Y σ hid hr (b ++ rowT w (l.take i)) (32 :: Lib.itoa x) (by simp only [List.length_append, List.length_cons]; omega)) ?_
  simp only [go_sem, hx]
  try simp (disch := (first | omega | (simp only [go_sem, List.length_append] <;> omega))) only [wrapI, wrapU, strAdd, slT, slTa, slTb]
  refine hR _ _ (K6 _ _ ?_); clear hR R; try clear K6 Z6
  try simp only [go_sem, hx]
  refine W_region [2, 9, 10, 11] fun R hR => ?_
  simp only [go_sem, hx]
  try simp (disch := (first | omega | (simp only [go_sem, List.length_append] <;> omega))) only [wrapI, wrapU, strAdd, slT, slTa, slTb]
  refine hR _ _ ?_; clear hR R
  try simp only [go_sem, hx]
  refine ⟨i + 1, ?_, by (try simp only []); omega, ?_⟩
  ·exact Weak.eq rfl (by rw [rowT_take hx, ← List.append_assoc])
  try dsimp only
  omega
 try simp only [nrm] at c1
 have hie : i = l.length := by first | omega | (simp at c1; omega)
 subst hie
 rw [List.take_length] at hrt ⊢
 refine W_exit ?_
 simp only [go_sem]
 refine K2 _ _ ?_
 refine W_region [] fun R hR => ?_
 simp only [go_sem]
 refine GCall_of (WriteNl_pc Y σ hid hr (b ++ rowT w l) (by simp only [List.length_append]; omega)) ?_
 simp only [go_sem]
 refine hR _ _ ?_; clear hR R
 try simp only [go_sem]
 try simp only [go_sem]
 refine ⟨.inl (by trivial), ?_⟩
 rw [show b ++ lineT w l = b ++ rowT w l ++ [10] by simp [lineT]]
 refine Fin_bld hcl hid hr rfl (Wk_eq ?_ (by simp only [go_sem]))
 try simp only [go_sem]
 all_goals
  first | rfl | (simp_all; done) | (simp_all; omega)
section
variable {σ : Sg} {L : List (Option (List PV))} {rm : List Nat} {ys : List LState} {j k : Nat} {b w : List UInt8} {l : List Int} {o : Own}
theorem RowT_pc (Y : YEnv) (h : L[j]? = some (some (bldC (σ.store.length + j) (σ.rooms.length + k) b))) (hr : rm[k]? = some b.length) (hv : Fits l) (hw : w.length ≤ 2 ^ 20) (hl : l.length ≤ 2 ^ 20) (hb : b.length ≤ 2 ^ 40) :
 PC Tryz.prog Y 47 [txt w, .isl (l.map I) o, .ptr (σ.store.length + j) 0] (σ.ext L rm ys) (.tuple []) (σ.ext (L.set j (some (bldC (σ.store.length + j) (σ.rooms.length + k) (b ++ lineT w l)))) (rm.set k (b ++ lineT w l).length) ys) := by
 have h1 : (σ.ext L rm ys).store[σ.store.length + j]? = some (some (bldC (σ.store.length + j) (σ.rooms.length + k) b)) := by rw [Sg.get_ext]; exact h
 have h2 : (σ.ext L rm ys).rooms[σ.rooms.length + k]? = some b.length := by rw [rooms_at]; exact hr
 have h3 := Wrow_pc Y (σ.ext L rm ys) w l o b (σ.store.length + j) (σ.rooms.length + k) (List.getElem?_eq_some_iff.1 h1).1 (List.getElem?_eq_some_iff.1 h2).1 hv hw hl hb
 rw [bldS_self h1 h2] at h3
 unfold bldS at h3
 rw [Sg.setRoom_ext, setVar_ext] at h3
 exact h3
end
attribute [go_sem] bldC
set_option maxHeartbeats 8000000 in
theorem Write_pc (Y : YEnv) (σ : Sg) (c : Contest) (l : List Ballot) (hr : c.rounds.length < 2 ^ 40) (hl : l.length < 2 ^ 40) :
 PC Tryz.prog Y 22 [cnPV c, bls l] σ (.tuple [txt (urnA c l).1, I (urnA c l).2]) (σ) := by
 refine PC_of_W Tryz.func22 rfl (by kernel_rfl) Tryz.ntmps22 (by simp) fun hcl hca => ?_
 refine W_sr [1, 2] fun R hR => ?_
 simp only [go_sem]
 refine hR _ _ ?_; clear hR R
 try simp only [go_sem]
 refine W_seq fun Z2 K2 => ?_
 refine W_sr [1, 2, 6] fun R hR => ?_
 simp only [go_sem]
 refine GCall_of (chkBls_pc Y _ c l hr hl) ?_
 simp only [go_sem]
 refine hR _ _ ?_; clear hR R
 try simp only [go_sem]
 refine W_sr [1, 2, 6, 17] fun R hR => ?_
 simp only [go_sem]
 refine hR _ _ ?_; clear hR R
 try simp only [go_sem]
 refine W_cond rfl (fun c1 => ?_) (fun c1 => ?_)
 ·
  try simp only [nrm] at c1
  have hwr : urnA c l = ([], chkBls c l) := by unfold urnA; rw [if_pos (by simpa using c1)]
  refine W_sr [4, 5] fun R hR => ?_
  simp only [go_sem]
  refine hR _ _ ?_; clear hR R
  try simp only [go_sem]
  refine W_ret ?_
  simp only [go_sem]
  refine ⟨.inr (by trivial), ?_⟩
  first | refine Fsa hcl rfl ?_ | refine Fse hcl rfl ?_
  try simp only [go_sem]
  all_goals
   rw [hwr]
 try simp only [nrm] at c1
 have hck : chkBls c l = 0 := by simpa using c1
 have hnk := urn_k hck
 have hcl1 := lineT_len (w := contestW) (hnk.cn.fits (by omega))
 have e1 : (cnNums c).length = 4 := rfl
 have e2 : contestW.length = 7 := rfl
 have hrl := hnk.rl
 have hbl := hnk.bl
 have hrt0 := rdT_len hnk.rd
 have hbt0 := blT_len hnk.bn
 have hl4 := endT_len (n := l.length) (by omega)
 have hwr : urnA c l = (urnT c l, 0) := by unfold urnA; rw [if_neg (by omega)]
 refine W_skip (K2 _ _ ?_)
 refine W_seq fun Z6 K6 => ?_
 refine W_newB [1, 2, 7] (T := 101) 5 rfl rfl rfl rfl (by decide) zeroB ?_
 refine K6 _ _ ?_
 try simp only [go_sem]
 refine W_sr [1, 2, 7, 8] fun R hR => ?_
 simp only [go_sem]
 refine hR _ _ ?_; clear hR R
 try simp only [go_sem]
 refine W_sr [1, 2, 7, 8] fun R hR => ?_
 simp only [go_sem]
 refine GCall_of (RowT_pc (j := 1) (k := 0) (b := []) (w := contestW) (l := cnNums c) Y rfl (by simp [Nat.add_assoc]) (hnk.cn.fits (by omega)) (by decide) (by simp [cnNums]) (by first | omega | (simp only [List.length_append, List.length_nil]; omega))) ?_
 simp only [go_sem]
 refine hR _ _ ?_; clear hR R
 try simp only [go_sem]
 refine W_seq fun Z9 K9 => ?_
 refine W_sr [1, 7, 8, 32, 33, 34] fun R hR => ?_
 simp only [go_sem]
 refine hR _ _ ?_; clear hR R
 try simp only [go_sem]
 refine W_block ?_
 refine W_loopT (α := Nat) (fun (i : Nat) => [(34, I i)]) (fun (i : Nat) => σ.ext [some (cnCells c), some (bldC (σ.store.length + 1) σ.rooms.length (lineT contestW (cnNums c) ++ rdT (c.rounds.take i)))] [(lineT contestW (cnNums c) ++ rdT (c.rounds.take i)).length]) (fun (i : Nat) => i ≤ c.rounds.length) (fun (i : Nat) => c.rounds.length - i) (0) rfl (by rw [show lineT contestW (cnNums c) ++ rdT (List.take 0 c.rounds) = lineT contestW (cnNums c) by simp [rdT, blT]]; first | rfl | (simp only [go_sem, List.length_append]; done) | (simp only [go_sem, List.length_append]; rfl) | (simp [go_sem, List.length_append, Nat.add_assoc]; done)) (Nat.zero_le _) ?_
 rintro i hi
 have hbt : (rdT (c.rounds.take i)).length ≤ 400 := by
  have := rdT_len (l := c.rounds.take i) (fun b hb => hnk.rd b (List.mem_of_mem_take hb))
  rw [List.length_take] at this
  omega
 refine W_sr [1, 7, 8, 32, 33, 34, 35] fun R hR => ?_
 simp only [go_sem]
 refine hR _ _ ?_; clear hR R
 try simp only [go_sem]
 refine W_seq fun Z12 K12 => ?_
 refine W_cond rfl (fun c2 => ?_) (fun c2 => ?_)
 ·
  try simp only [nrm] at c2
  have hi' : i < c.rounds.length := by first | assumption | omega
  obtain ⟨b, hx⟩ : ∃ b, c.rounds[i]? = some b := ⟨c.rounds[i], by simp [hi']⟩
  have hdrop : c.rounds.drop i = b :: c.rounds.drop (i + 1) := by
   rw [List.drop_eq_getElem_cons hi']; congr 1; exact (List.getElem?_eq_some_iff.1 hx).2
  have hbk := hnk.rd b (List.mem_of_getElem? hx)
  refine W_skip (K12 _ _ ?_)
  refine W_seq fun Z13 K13 => ?_
  refine W_block ?_
  refine W_sr [1, 7, 8, 10, 32, 33, 34] fun R hR => ?_
  simp only [go_sem, hx]
  refine hR _ _ ?_; clear hR R
  try simp only [go_sem, hx]
  refine W_region [1, 7, 8, 32, 33, 34] fun R hR => ?_
  simp only [go_sem, hx]
  refine GCall_of (RowT_pc (j := 1) (k := 0) (b := lineT contestW (cnNums c) ++ rdT (c.rounds.take i)) (w := roundW) (l := rdNums b) Y rfl (by simp [Nat.add_assoc]) (hbk.fits (by omega)) (by decide) (by simp [rdNums]) (by first | omega | (simp only [List.length_append, List.length_nil]; omega))) ?_
  simp only [go_sem, hx]
  refine hR _ _ (K13 _ _ ?_); clear hR R; try clear K13 Z13
  try simp only [go_sem, hx]
  refine W_region [1, 7, 8, 32, 33, 34] fun R hR => ?_
  simp only [go_sem, hx]
  try simp (disch := (first | omega | (simp only [go_sem, List.length_append] <;> omega))) only [wrapI, wrapU, strAdd, slT, slTa, slTb]
  refine hR _ _ ?_; clear hR R
  try simp only [go_sem, hx]
  refine ⟨i + 1, ?_, by (try simp only []); omega, ?_⟩
  ·refine Weak.trans (Weak.cutX 2 1 (by omega) (by omega) hcl (by simp only [go_sem] <;> omega) (by simp only [go_sem] <;> omega)) ?_
   simp only [go_sem]
   refine Weak.eq (by first | rfl | (simp only [go_sem]; done) | (simp only [go_sem]; rfl)) ?_
   rw [rdT_take hx]
   simp only [go_sem, List.append_assoc, List.length_append, Nat.add_assoc]
  try dsimp only
  omega
 try simp only [nrm] at c2
 have hdrop : c.rounds.drop i = [] := List.drop_eq_nil_of_le (by omega)
 have hie : i = c.rounds.length := by omega
 subst hie
 rw [List.take_length] at hbt ⊢
 refine W_exit ?_
 simp only [go_sem]
 refine K9 _ _ ?_
 refine W_seq fun Z15 K15 => ?_
 refine W_sr [1, 7, 8, 48, 49, 50] fun R hR => ?_
 simp only [go_sem]
 refine hR _ _ ?_; clear hR R
 try simp only [go_sem]
 refine W_block ?_
 refine W_loopT (α := Nat) (fun (i : Nat) => [(50, I i)]) (fun (i : Nat) => σ.ext [some (cnCells c), some (bldC (σ.store.length + 1) σ.rooms.length (lineT contestW (cnNums c) ++ rdT c.rounds ++ blT (l.take i)))] [(lineT contestW (cnNums c) ++ rdT c.rounds ++ blT (l.take i)).length]) (fun (i : Nat) => i ≤ l.length) (fun (i : Nat) => l.length - i) (0) rfl (by rw [show lineT contestW (cnNums c) ++ rdT c.rounds ++ blT (List.take 0 l) = lineT contestW (cnNums c) ++ rdT c.rounds by simp [rdT, blT]]; first | rfl | (simp only [go_sem, List.length_append]; done) | (simp only [go_sem, List.length_append]; rfl) | (simp [go_sem, List.length_append, Nat.add_assoc]; done)) (Nat.zero_le _) ?_
 rintro i hi
 have hbt2 : (blT (l.take i)).length ≤ 100 * 300 := by
  have := blT_len (l := l.take i) (fun b hb => hnk.bn b (List.mem_of_mem_take hb))
  rw [List.length_take] at this
  omega
 refine W_sr [1, 7, 8, 48, 49, 50, 51] fun R hR => ?_
 simp only [go_sem]
 refine hR _ _ ?_; clear hR R
 try simp only [go_sem]
 refine W_seq fun Z18 K18 => ?_
 refine W_cond rfl (fun c3 => ?_) (fun c3 => ?_)
 ·
  try simp only [nrm] at c3
  have hi' : i < l.length := by first | assumption | omega
  obtain ⟨b, hx⟩ : ∃ b, l[i]? = some b := ⟨l[i], by simp [hi']⟩
  have hdrop : l.drop i = b :: l.drop (i + 1) := by
   rw [List.drop_eq_getElem_cons hi']; congr 1; exact (List.getElem?_eq_some_iff.1 hx).2
  have hbk := hnk.bn b (List.mem_of_getElem? hx)
  refine W_skip (K18 _ _ ?_)
  refine W_seq fun Z19 K19 => ?_
  refine W_block ?_
  refine W_sr [1, 7, 8, 12, 48, 49, 50] fun R hR => ?_
  simp only [go_sem, hx]
  refine hR _ _ ?_; clear hR R
  try simp only [go_sem, hx]
  refine W_region [1, 7, 8, 48, 49, 50] fun R hR => ?_
  simp only [go_sem, hx]
  refine GCall_of (RowT_pc (j := 1) (k := 0) (b := lineT contestW (cnNums c) ++ rdT c.rounds ++ blT (l.take i)) (w := ballotW) (l := blNums b) Y rfl (by simp [Nat.add_assoc]) (hbk.fits (by omega)) (by decide) (by simp [blNums]) (by first | omega | (simp only [List.length_append, List.length_nil]; omega))) ?_
  simp only [go_sem, hx]
  refine hR _ _ (K19 _ _ ?_); clear hR R; try clear K19 Z19
  try simp only [go_sem, hx]
  refine W_region [1, 7, 8, 48, 49, 50] fun R hR => ?_
  simp only [go_sem, hx]
  try simp (disch := (first | omega | (simp only [go_sem, List.length_append] <;> omega))) only [wrapI, wrapU, strAdd, slT, slTa, slTb]
  refine hR _ _ ?_; clear hR R
  try simp only [go_sem, hx]
  refine ⟨i + 1, ?_, by (try simp only []); omega, ?_⟩
  ·refine Weak.trans (Weak.cutX 2 1 (by omega) (by omega) hcl (by simp only [go_sem] <;> omega) (by simp only [go_sem] <;> omega)) ?_
   simp only [go_sem]
   refine Weak.eq (by first | rfl | (simp only [go_sem]; done) | (simp only [go_sem]; rfl)) ?_
   rw [blT_take hx]
   simp only [go_sem, List.append_assoc, List.length_append, Nat.add_assoc]
  try dsimp only
  omega
 try simp only [nrm] at c3
 have hdrop : l.drop i = [] := List.drop_eq_nil_of_le (by omega)
 have hie : i = l.length := by omega
 subst hie
 rw [List.take_length] at hbt2 ⊢
 refine W_exit ?_
 simp only [go_sem]
 refine K15 _ _ ?_
 refine W_sr [7] fun R hR => ?_
 simp only [go_sem]
 refine GCall_of (RowT_pc (j := 1) (k := 0) (b := lineT contestW (cnNums c) ++ rdT c.rounds ++ blT l) (w := endW) (l := [(l.length : Int)]) Y rfl (by simp [Nat.add_assoc]) (Fits.one (by omega)) (by decide) (by simp) (by first | omega | (simp only [List.length_append, List.length_nil]; omega))) ?_
 simp only [go_sem]
 refine hR _ _ ?_; clear hR R
 try simp only [go_sem]
 refine W_sr [4, 5] fun R hR => ?_
 simp only [go_sem]
 refine GCall_of (StringT_pc (j := 1) (k := 0) (b := urnT c l) Y rfl (by simp [urnT]; try omega) (by simp only [urnT, List.length_append, lineT, List.length_cons]; omega) (by simp only [urnT, List.length_append]; omega)) ?_
 simp only [go_sem]
 refine hR _ _ ?_; clear hR R
 try simp only [go_sem]
 refine W_ret ?_
 simp only [go_sem]
 refine ⟨.inr (by trivial), ?_⟩
 first | refine Fsa hcl rfl ?_ | refine Fse hcl rfl ?_
 try simp only [go_sem]
 all_goals
  rw [hwr]
/-- Remembered: a function, its arguments (no owners named), what it hands back. -/
structure Memo where
 f : FuncId
 args : List PV
 v : PV
def MemoOK (P : Program) (m : Memo) : Prop := ∀ Y σ, PC P Y m.f m.args σ m.v σ
def memoAt (f : FuncId) (args : List PV) : List Memo → Option PV
 | [] => none
 | m :: r => match Nat.beq m.f f && samePV 10000 args m.args with
  | true => some m.v
  | false => memoAt f args r
def orcMemo (ms : List Memo) (o : Orc) : Orc := fun f args σ => match o f args σ with
 | some r => some r
 | none => match memoAt f (PV.roL args) ms with
  | some v => some (v, σ)
  | none => none
theorem memoAt_ok {P : Program} {f : FuncId} {args : List PV} : ∀ (ms : List Memo) (v : PV), (∀ m, m ∈ ms → MemoOK P m) → memoAt f args ms = some v → ∀ Y σ, PC P Y f args σ v σ := by
 intro ms
 induction ms with
 | nil => intro v _ h; cases h
 | cons m ms ih =>
  intro v hm h Y σ
  simp only [memoAt] at h
  split at h
  ·rename_i hb
   simp only [Bool.and_eq_true, beq_eq] at hb
   obtain ⟨rfl, hb⟩ := hb
   injection h with h
   subst h
   have e := samePV_eq _ _ _ hb
   subst e
   exact hm m (List.mem_cons_self ..) Y σ
  exact ih v (fun m' h' => hm m' (List.mem_cons_of_mem _ h')) h Y σ
theorem orcMemo_ok {P : Program} {ms : List Memo} {o : Orc} (hm : ∀ m, m ∈ ms → MemoOK P m) (ho : ∀ f args σ v σ', o f args σ = some (v, σ') → ∀ Y, PC P Y f args σ v σ') : ∀ f args σ v σ', orcMemo ms o f args σ = some (v, σ') → ∀ Y, PC P Y f args σ v σ' := by
 intro f args σ v σ' h Y
 unfold orcMemo at h
 split at h
 ·rename_i r hr
  injection h with h
  subst h
  exact ho f args σ _ _ hr Y
 split at h
 ·rename_i v0 hv
  injection h with h
  injection h with h1 h2
  subst h1 h2
  exact (memoAt_ok ms v0 hm hv Y σ).ofRo (PV.roL_map args).symm
 cases h
theorem memos_nil {P : Program} : ∀ m : Memo, m ∈ ([] : List Memo) → MemoOK P m := fun _ h => by cases h
theorem memos_cons {P : Program} {m : Memo} {ms : List Memo} (h : MemoOK P m) (k : ∀ m, m ∈ ms → MemoOK P m) : ∀ m', m' ∈ m :: ms → MemoOK P m' := fun m' h' => by
 rcases List.mem_cons.1 h' with rfl | h'
 ·exact h
 exact k m' h'
def exK1 : List Ballot := [⟨1, 0, 2, 0, 0, 0⟩]
def exT3 : Tally := countT ⟨1, 0, 1⟩ 0 [0, 1] exK1
theorem exTs3 : roundsT exD exK1 = [exT3] := rfl
theorem exCounts : countsD exC exL = ([true, true, true, true, false, true, false, true, true, true], 0) := by
 have h0 : chkBls exC exL = 0 := by decide
 unfold countsD
 rw [if_neg (by rw [h0]; simp), exTs]
 decide
theorem exStays1 : staysD exC exL 1 = ([3, 3, 2], 0) := by
 have h0 : chkBls exC exL = 0 := by decide
 have h2 : inR 1 0 ((exC.rounds.length : Int) - 1) = true := by decide
 unfold staysD
 rw [if_neg (by rw [h0]; simp), if_neg (by rw [h2]; simp), exTs]
 have m0 : mustT exT1 exC 0 = false := by unfold mustT; simp only [sortI_isort]; decide
 have m1 : mustT exT1 exC 1 = false := by unfold mustT; simp only [sortI_isort]; decide
 have y0 : mayT exT1 exC 0 (freeT exT1 exC) = true := by decide
 have y1 : mayT exT1 exC 1 (freeT exT1 exC) = true := by decide
 have e0 : staysV exT1 exC 0 = 3 := by unfold staysV; rw [if_neg (by decide), if_neg (by rw [m0]; simp), if_pos y0]
 have e1 : staysV exT1 exC 1 = 3 := by unfold staysV; rw [if_neg (by decide), if_neg (by rw [m1]; simp), if_pos y1]
 have e2 : staysV exT1 exC 2 = 2 := by unfold staysV; rw [if_pos (by decide)]
 show ([staysV exT1 exC 0, staysV exT1 exC 1, staysV exT1 exC 2], (0 : Int)) = _
 rw [e0, e1, e2]
theorem exStays2 : staysD exD exK1 0 = ([3, 3], 0) := by
 have h0 : chkBls exD exK1 = 0 := by decide
 have h2 : inR 0 0 ((exD.rounds.length : Int) - 1) = true := by decide
 unfold staysD
 rw [if_neg (by rw [h0]; simp), if_neg (by rw [h2]; simp), exTs3]
 have m0 : mustT exT3 exD 0 = false := by unfold mustT; simp only [sortI_isort]; decide
 have m1 : mustT exT3 exD 1 = false := by unfold mustT; simp only [sortI_isort]; decide
 have y0 : mayT exT3 exD 0 (freeT exT3 exD) = true := by decide
 have y1 : mayT exT3 exD 1 (freeT exT3 exD) = true := by decide
 have e0 : staysV exT3 exD 0 = 3 := by unfold staysV; rw [if_neg (by decide), if_neg (by rw [m0]; simp), if_pos y0]
 have e1 : staysV exT3 exD 1 = 3 := by unfold staysV; rw [if_neg (by decide), if_neg (by rw [m1]; simp), if_pos y1]
 show ([staysV exT3 exD 0, staysV exT3 exD 1], (0 : Int)) = _
 rw [e0, e1]
theorem exTs2 : roundsT exD exK = [exT2] := rfl
theorem exNeeds1 : needsD exC exL 1 0 = (0, 0) := by
 have h0 : chkRnd exC exL 1 = 0 := by decide
 unfold needsD
 rw [if_neg (by rw [h0]; simp), exTs]
 decide
theorem exNeeds2 : needsD exD exK 0 1 = (0, 7) := by
 have h0 : chkRnd exD exK 0 = 0 := by decide
 unfold needsD
 rw [if_neg (by rw [h0]; simp), exTs2]
 decide
theorem exNeeds3 : needsD exD exK1 0 1 = (2, 0) := by
 have h0 : chkRnd exD exK1 0 = 0 := by decide
 unfold needsD
 rw [if_neg (by rw [h0]; simp), exTs3]
 decide
theorem itoa0 : Lib.itoa 0 = [48] := by rw [itoa_nat (by decide), show Int.toNat 0 = 0 from rfl, Lib.decDigits]; rfl
theorem itoa1 : Lib.itoa 1 = [49] := by rw [itoa_nat (by decide), show Int.toNat 1 = 1 from rfl, Lib.decDigits]; rfl
theorem itoa2 : Lib.itoa 2 = [50] := by rw [itoa_nat (by decide), show Int.toNat 2 = 2 from rfl, Lib.decDigits]; rfl
theorem itoa3 : Lib.itoa 3 = [51] := by rw [itoa_nat (by decide), show Int.toNat 3 = 3 from rfl, Lib.decDigits]; rfl
theorem exWrite : urnA exD exK1 = ([99, 111, 110, 116, 101, 115, 116, 32, 50, 32, 48, 32, 51, 32, 48, 10, 114, 111, 117, 110, 100, 32, 49, 32, 48, 32, 49, 10, 98, 97, 108, 108, 111, 116, 32, 49, 32, 48, 32, 50, 32, 48, 32, 48, 32, 48, 10, 101, 110, 100, 32, 49, 10], 0) := by
 have h0 : chkBls exD exK1 = 0 := by decide
 unfold urnA
 rw [if_neg (by rw [h0]; simp)]
 simp [urnT, rdT, blT, lineT, rowT, exD, exK1, cnNums, rdNums, blNums, contestW, roundW, ballotW, endW, itoa0, itoa1, itoa2, itoa3]
def cC : PV := .agg [.int .i64 (3), .int .i64 (2), .int .i64 (3), .int .i64 (10), .isl [.agg [.int .i64 (2), .int .i64 (1), .int .i64 (2)], .agg [.int .i64 (1), .int .i64 (1), .int .i64 (3)]] .ro]
def lL : PV := .isl [.agg [.int .i64 (1), .int .i64 (0), .int .i64 (1), .int .i64 (0), .int .i64 (0), .int .i64 (7)], .agg [.int .i64 (2), .int .i64 (0), .int .i64 (1), .int .i64 (0), .int .i64 (1), .int .i64 (9)], .agg [.int .i64 (3), .int .i64 (0), .int .i64 (1), .int .i64 (1), .int .i64 (2), .int .i64 (8)], .agg [.int .i64 (4), .int .i64 (0), .int .i64 (2), .int .i64 (0), .int .i64 (0), .int .i64 (0)], .agg [.int .i64 (5), .int .i64 (0), .int .i64 (2), .int .i64 (0), .int .i64 (1), .int .i64 (0)], .agg [.int .i64 (6), .int .i64 (0), .int .i64 (2), .int .i64 (1), .int .i64 (0), .int .i64 (0)], .agg [.int .i64 (7), .int .i64 (1), .int .i64 (2), .int .i64 (0), .int .i64 (2), .int .i64 (0)], .agg [.int .i64 (8), .int .i64 (1), .int .i64 (2), .int .i64 (0), .int .i64 (1), .int .i64 (0)], .agg [.int .i64 (9), .int .i64 (1), .int .i64 (1), .int .i64 (1), .int .i64 (1), .int .i64 (4)], .agg [.int .i64 (10), .int .i64 (1), .int .i64 (2), .int .i64 (1), .int .i64 (0), .int .i64 (0)]] .ro
def cD : PV := .agg [.int .i64 (2), .int .i64 (0), .int .i64 (3), .int .i64 (0), .isl [.agg [.int .i64 (1), .int .i64 (0), .int .i64 (1)]] .ro]
def lK : PV := .isl [.agg [.int .i64 (1), .int .i64 (0), .int .i64 (2), .int .i64 (0), .int .i64 (0), .int .i64 (0)], .agg [.int .i64 (2), .int .i64 (0), .int .i64 (2), .int .i64 (1), .int .i64 (0), .int .i64 (0)]] .ro
def lK1 : PV := .isl [.agg [.int .i64 (1), .int .i64 (0), .int .i64 (2), .int .i64 (0), .int .i64 (0), .int .i64 (0)]] .ro
def mRun : Memo := ⟨11, [cC, lL], .tuple [.isl [.agg [.isl [.int .i64 (0), .int .i64 (1), .int .i64 (2)] .ro, .isl [.int .i64 (7), .int .i64 (9), .int .i64 (8)] .ro, .isl [.int .i64 (2), .int .i64 (0), .int .i64 (0)] .ro, .isl [.int .i64 (11), .int .i64 (9), .int .i64 (8)] .ro, .isl [.int .i64 (0), .int .i64 (1)] .ro], .agg [.isl [.int .i64 (0), .int .i64 (1)] .ro, .isl [.int .i64 (0), .int .i64 (4)] .ro, .isl [.int .i64 (1), .int .i64 (1)] .ro, .isl [.int .i64 (3), .int .i64 (7)] .ro, .isl [.int .i64 (1)] .ro]] .ro, .int .i64 (1), .int .i64 (0)]⟩
def mCounts : Memo := ⟨12, [cC, lL], .tuple [.isl [.bool true, .bool true, .bool true, .bool true, .bool false, .bool true, .bool false, .bool true, .bool true, .bool true] .ro, .int .i64 (0)]⟩
def mStays : Memo := ⟨15, [cC, lL, .int .i64 (1)], .tuple [.isl [.int .i64 (3), .int .i64 (3), .int .i64 (2)] .ro, .int .i64 (0)]⟩
def mStays2 : Memo := ⟨15, [cD, lK1, .int .i64 (0)], .tuple [.isl [.int .i64 (3), .int .i64 (3)] .ro, .int .i64 (0)]⟩
def mNeeds : Memo := ⟨18, [cC, lL, .int .i64 (1), .int .i64 (0)], .tuple [.int .i64 (0), .int .i64 (0)]⟩
def mNeeds2 : Memo := ⟨18, [cD, lK, .int .i64 (0), .int .i64 (1)], .tuple [.int .i64 (0), .int .i64 (7)]⟩
def mNeeds3 : Memo := ⟨18, [cD, lK1, .int .i64 (0), .int .i64 (1)], .tuple [.int .i64 (2), .int .i64 (0)]⟩
def mWrite : Memo := ⟨22, [cD, lK1], .tuple [.str ⟨#[99, 111, 110, 116, 101, 115, 116, 32, 50, 32, 48, 32, 51, 32, 48, 10, 114, 111, 117, 110, 100, 32, 49, 32, 48, 32, 49, 10, 98, 97, 108, 108, 111, 116, 32, 49, 32, 48, 32, 50, 32, 48, 32, 48, 32, 48, 10, 101, 110, 100, 32, 49, 10]⟩, .int .i64 (0)]⟩
def memosK : List Memo := [mRun, mCounts, mStays, mStays2, mNeeds, mNeeds2, mNeeds3, mWrite]
theorem mRun_ok : MemoOK Tryz.prog mRun := fun Y σ => by have := Run_pc Y σ exC exL (by decide) (by decide); rw [exRun] at this; exact this
theorem mCounts_ok : MemoOK Tryz.prog mCounts := fun Y σ => by have := Counts_pc Y σ exC exL (by decide) (by decide); rw [exCounts] at this; exact this
theorem mStays_ok : MemoOK Tryz.prog mStays := fun Y σ => by have := Stays_pc Y σ exC exL 1 (by decide) (by decide); rw [exStays1] at this; exact this
theorem mStays2_ok : MemoOK Tryz.prog mStays2 := fun Y σ => by have := Stays_pc Y σ exD exK1 0 (by decide) (by decide); rw [exStays2] at this; exact this
theorem mNeeds_ok : MemoOK Tryz.prog mNeeds := fun Y σ => by have := Needs_pc Y σ exC exL 1 0 (by decide) (by decide); rw [exNeeds1] at this; exact this
theorem mNeeds2_ok : MemoOK Tryz.prog mNeeds2 := fun Y σ => by have := Needs_pc Y σ exD exK 0 1 (by decide) (by decide); rw [exNeeds2] at this; exact this
theorem mNeeds3_ok : MemoOK Tryz.prog mNeeds3 := fun Y σ => by have := Needs_pc Y σ exD exK1 0 1 (by decide) (by decide); rw [exNeeds3] at this; exact this
theorem mWrite_ok : MemoOK Tryz.prog mWrite := fun Y σ => by have := Write_pc Y σ exD exK1 (by decide) (by decide); rw [exWrite] at this; exact this
theorem memosK_ok : ∀ m, m ∈ memosK → MemoOK Tryz.prog m := memos_cons mRun_ok (memos_cons mCounts_ok (memos_cons mStays_ok (memos_cons mStays2_ok (memos_cons mNeeds_ok (memos_cons mNeeds2_ok (memos_cons mNeeds3_ok (memos_cons mWrite_ok memos_nil)))))))
noncomputable section
def orcK : Orc := fun f args σ => match args with
 | [] => match Nat.beq f 8 with
  | true => some (.bool true, σ)
  | false => match Nat.beq f 16 with
   | true => some (cD, σ)
   | false => match Nat.beq f 17 with
    | true => some (lK, σ)
    | false => match Nat.ble 12 (lenF σ.store) with
     | true => match Nat.beq f 6 with
      | true => some (cC, σ)
      | false => match Nat.beq f 7 with
       | true => some (lL, σ)
       | false => none
     | false => none
 | _ => none
end
theorem orcK_ok : ∀ f args σ v σ', orcK f args σ = some (v, σ') → ∀ Y, PC Tryz.prog Y f args σ v σ' := by
 intro f args σ v σ' h Y
 unfold orcK at h
 split at h
 ·split at h
  ·rename_i e; rw [beq_eq.1 e]; injection h with h; injection h with h1 h2; subst h1 h2; exact awake_pc Y _
  split at h
  ·rename_i e; rw [beq_eq.1 e]; injection h with h; injection h with h1 h2; subst h1 h2; exact duel_pc Y _
  split at h
  ·rename_i e; rw [beq_eq.1 e]; injection h with h; injection h with h1 h2; subst h1 h2; exact votes_pc Y _
  split at h
  ·split at h
   ·rename_i e; rw [beq_eq.1 e]; injection h with h; injection h with h1 h2; subst h1 h2; exact contest_pc Y _
   split at h
   ·rename_i e; rw [beq_eq.1 e]; injection h with h; injection h with h1 h2; subst h1 h2; exact ballots_pc Y _
   cases h
  cases h
 cases h
noncomputable def orcS : Orc := orcMemo memosK orcK
theorem orcS_ok : ∀ f args σ v σ', orcS f args σ = some (v, σ') → ∀ Y, PC Tryz.prog Y f args σ v σ' := orcMemo_ok memosK_ok orcK_ok
set_option maxRecDepth 1000000
def modesS : List (Nat × Nat) := [(6003, 2), (7011, 2)]
theorem known_says : saysTrue (callK Tryz.prog (aidOf planT orcS modesS) 100000 noYF 3 [] ⟨[], [], []⟩) = true := by kernel_rfl
theorem SongKnown_pc (Y : YEnv) (σ : Sg) : PC Tryz.prog Y 3 [] σ (.bool true) σ := PC_run mixedV orcS_ok known_says Y σ
theorem own : ownKnob Tryz.prog.godebug = none := by kernel_rfl
theorem laidOut : laidOutB Tryz.prog = true := by kernel_rfl
theorem knownMax {W : World} (hsh : W.ShapedOpen Tryz.prog) : ∃ m, W.cell? ⟨1, 0, none⟩ = some (.int .i64 m) :=
 cell_of_shapedOpen_int (P := Tryz.prog) (g := 1) (t := 3) (zero := #[.int .i64 0]) hsh (of_decide_eq_true (by kernel_rfl)) (by kernel_rfl) rfl (by kernel_rfl) (by kernel_rfl) Tryz.underlying3
/-- What the listed variables give. -/
theorem known (W : World) (hsh : W.ShapedOpen Tryz.prog) (h : laidMetH Tryz.prog Rows.songKnownRow.laid W) : Known Tryz.prog W := by
 rw [MakeChecks.laidMetH_plain _ _ _ (by kernel_rfl)] at h
 have hg : Tryz.prog.globalNamed "internal/strconv.uint64pow10" = some 0 := by kernel_rfl
 have h2 := h.filter (fun x => x.1 == "internal/strconv.uint64pow10")
 rw [show (Rows.songKnownRow.laid.filter fun x => x.1 == "internal/strconv.uint64pow10") = [("internal/strconv.uint64pow10", Lib.tabData .u64 Lib.pow10Tab)] by kernel_rfl] at h2
 obtain ⟨t, f, hh⟩ := known_tab (Lib.tabIs_of_head (t := 195) (e := 110) (n := 20) hg (by kernel_rfl) (by kernel_rfl) (by kernel_rfl) (by kernel_rfl) (by kernel_rfl) h2) hg
 have _ := hsh
 refine ⟨[(0, .whole pow10A)], fun b s hb => ?_, fun k hk => ?_, fun k hk => ?_, fun q n hn k hk => ?_⟩
 ·simp only [List.mem_singleton, Prod.mk.injEq] at hb
  obtain ⟨rfl, rfl⟩ := hb
  exact ⟨(Array.getElem?_eq_some_iff.1 hh).1, t, f, hh⟩
 ·obtain rfl := Option.some.inj (hg.symm.trans hk)
  exact List.mem_singleton.2 rfl
 ·obtain rfl := Option.some.inj ((show Tryz.prog.globalNamed "internal/bytealg.MaxLen" = some 1 by kernel_rfl).symm.trans hk)
  exact knownMax hsh
 cases q
theorem rdSongKnownArgs : All2 (fun t R => Rd Tryz.prog t R) Tryz.f3.params.toList [] :=
 .nil
set_option maxHeartbeats 4000000 in
theorem SongKnown_walk : ∀ qs, AllR [] qs → ∃ σ', PC Tryz.prog noY 3 qs Sg.zero (.bool true) σ' := by
 intro qs hq
 obtain rfl := allR_nil hq
 exact ⟨_, SongKnown_pc noY _ ⟩
theorem SongKnown_lifted (os : Os) (started : os.Started) (H : Type) (enc : TypeId × Value → H) :
 ReturnsInHanded {} Tryz.checked os 3 .any (fun w args => (Rows.songKnownSpec.pre enc Tryz.prog Tryz.f3 Rows.songKnownRow.domain false w args ∧ laidMetH Tryz.prog Rows.songKnownRow.laid w) ∧ sizedMet enc Tryz.prog Tryz.f3 (OpenSpec.ofChange Rows.songKnownSpec) false w args)
  (Rows.songKnownSpec.post enc Tryz.prog Tryz.f3 false true false false) :=
 law_laid (C := Tryz.checked) own started (by kernel_rfl) Tryz.func3 rfl laidOut (by kernel_rfl) rdSongKnownArgs rfl Tryz.underlying4
  (fun ds h => match ds, h with | [], _ => rfl)
  (ChangeSpec.witness_shaped (enc := enc) (C := Tryz.checked) (os := os) (X := fun w _ => laidMetH Tryz.prog Rows.songKnownRow.laid w) false (World.laidAll Tryz.prog os Rows.songKnownRow.laid) #[] 8 (World.laidAll_os _ _ _)
   (World.shaped_of_ZipB (by kernel_rfl) (by kernel_rfl)) (by kernel_rfl) (by kernel_rfl) (by kernel_rfl)
   (by rw [MakeChecks.laidMetH_plain _ _ _ (by kernel_rfl)]; exact laidMet_laidAll _ (by kernel_rfl) (by kernel_rfl)))
  known SongKnown_walk
theorem SongKnown_row : Rows.SongKnownSaid :=
 OpenClaim.holds_of_wide 3 Tryz.f3 rfl rfl rfl rfl rfl rfl rfl ⟨rfl, rfl, rfl, rfl, rfl⟩ rfl rfl rfl rfl rfl (by kernel_rfl) Tryz.func3 (by kernel_rfl)
  (of_decide_eq_true (by kernel_rfl)) (by unfold Func.isWrapper; first | (rw [if_pos (by decide +kernel)]; kernel_rfl) | (rw [if_neg (by decide +kernel)]; exact ⟨rfl, rfl⟩))
  (fun os started H enc _ => SongKnown_lifted os started H enc)
theorem SongKnown_holds : Rows.SongKnownCardSaid :=
 Claim7.holds_tied_plain_at .later [] [.data, .data, .data] true (true, "bb6d2d635ccbf7f5fdd5ae32709b77c78406249e2e4078a571a44bebd5b279fa") true
  SongKnown_row (fun _ h => by cases h) (by kernel_rfl) (fun _ h => by cases h) songKnown_row_tie rfl ⟨rfl, rfl⟩ (by kernel_rfl) rfl
  (fun f fn hf hfn => by
   obtain rfl : f = 3 := Option.some.inj (hf.symm.trans (by kernel_rfl))
   obtain rfl : fn = Tryz.f3 := (Option.some.inj (Tryz.func3.symm.trans hfn)).symm
   refine ⟨by kernel_rfl, fun j t ht => ?_⟩
   have hall : (Tryz.f3.params.toList.all fun t => !(Tryz.prog.wantsStandIn t)) = true := by kernel_rfl
   have hm : t ∈ Tryz.f3.params.toList := Array.mem_toList_iff.2 (Array.mem_of_getElem? ht)
   show Tryz.prog.wantsStandIn t = false
   simpa using List.all_eq_true.1 hall t hm)
  (by kernel_rfl)
end Go.Proofs.YtdoohibbfjdblaaGreatDoor
