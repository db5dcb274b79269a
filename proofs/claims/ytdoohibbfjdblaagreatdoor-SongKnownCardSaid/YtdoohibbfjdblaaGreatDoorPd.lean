/-
  The pure reading, run: regions.
  The pure reading, run: regions that draw their order.
  The pure reading, run: code, calls.
  The pure reading, run: a call of no arguments, run from nothing, is as it was in every state.
  The regions of this seat that draw their order: one order for each, and what is to be seen to.
  The types of this seat's program, as the pure reading asks of them.
  What the operations do at this seat's types.
  The rules by which a walk is worked out.
  A slice of numbers that grows in place in a variable's cell, is sorted, compacted, and read at last.
  Regions in which what is known may be weakened after some operations.
  A variable to which a pointer points, and that is never written again.
  A variable that nobody asks for any more.
  A region that steps an iterator over a map: whichever entry comes next.
  The data of the laws, read: contests, ballots, results, standings; rows of things.
  What the functions of song compute, in plain Lean.
  Facts of this seat's types for slices that grow in place.
  Conversions at this seat's types; shifts; pointers that are not nil.
  Parts of slices at this seat's types.
  Facts of this seat's types for maps and made slices.
  Walks: numbers in bounds, numbers in lists, lists compared (song, bateriaref04, bateriakit, slices).
  Walks: lists copied and compared (bateriakit).
  Walks: contests checked (song).
  Walks: the rules of a ballot (song).
  Walks: a ballot checked (song).
  Walks: ballots checked (song).
  Walks: a standing weighed, standings compared (song, cmp).
  Tallies: the cells of a round counted (song).
  Which ballots count in a round, in plain Lean (song).
  What the voices of a round give to its songs, and ballots that may be, in plain Lean (song).
  Results of rounds, in plain Lean (song).
-/
import Derived.Test.YtdoohibbfjdblaaGreatDoorPc
import Derived.CallsIn
import Derived.RangeFuncLeaves
import Derived.RangeFuncRecord
import Derived.OrdersIn
import Derived.Below
import Derived.Laws.World
import Derived.Laws.StructEq
import Derived.Laws.BytesString
import Derived.Laws.Append
import Derived.MapKept
import Derived.ProofKit
import Derived.Carry
import Derived.Handed
import Derived.ChangeCalls
import Derived.Stop.Joined
import Derived.Lib.LaidTab
import Derived.Shelf.Strconv.Itoa3
import Derived.RangeFuncIn
import Derived.RangeFuncNested
import Derived.Sort.OwnSortedInts
import Derived.Lib.SlicesCompact
import Derived.Test.YtdoohibbfjdblaaGreatDoorProg
import Derived.KernelRfl
import Derived.IntWalk
import Derived.Shelf.Sort.Plain
import Derived.Shelf.Slices.In.SortNone
import Derived.Shelf.Small.Bits
import Derived.Shelf.Strings.Builder1
import Derived.Lib.SplitLaws
import Derived.Lib.AtoiAll
import Derived.Lib.ItoaNum
import Derived.Lib.IndexBytes
import Derived.Shelf.Strings.Split
import Derived.Shelf.Strconv.AtoiAll
import Derived.Lib.AtoiErrMem
import Derived.Lib.ItoaLen
import Derived.Test.YtdoohibbfjdblaaGreatDoorCards
import Derived.Test.YtdoohibbfjdblaaGreatDoorTie
import Derived.JoinedOf
import Derived.LaidMore
import Derived.LaidSub
import Derived.Lay
import Derived.SevenTiedAt
import Derived.Lib.LaidU8
import Derived.Shelf.Vars
set_option linter.unusedSimpArgs false
set_option linter.unusedVariables false
namespace Go.Proofs.YtdoohibbfjdblaaGreatDoor
open Go Go.RowKit
/-- What a run takes for known of calls, of the yields at work. -/
def CallOK (P : Program) (Yr : YEnv) (call : CallT) : Prop := ∀ f args σ v σ', call f args σ = some (v, σ') → PC P Yr f args σ v σ'
def YFOK (Yf : YF) (Yr : YEnv) : Prop := ∀ y args σ v σ', Yf y args σ = some (v, σ') → ∃ b, v = .bool b ∧ Yr y args σ b σ'
def cstI (v : Value) : PV := if isNilV v then .nilsl else constPV v
theorem cstI_ok (Ψ : Ty) (v : Value) : VR Ψ (cstI v) v := by
 unfold cstI
 split
 ·rename_i h
  have := isNilC_inv (x := .const v) h
  injection this with this
  subst this
  exact .nilsl
 exact constPV_ok Ψ v
theorem dn_ok {Ψ : Ty} {p : PV} {x : Value} (h : VR Ψ p x) : VR Ψ (dn p) x := by
 unfold dn
 split
 ·cases h; exact .islnil _ _ trivial
 exact h
theorem ER.denil {Ψ : Ty} {E : Env} {tmps : Array Value} (h : ER Ψ E tmps) : ER Ψ (denil E) tmps := by
 intro t
 have := h t
 clear h
 induction E with
 | nil => exact this
 | cons a E ih =>
  obtain ⟨k, v⟩ := a
  simp only [YtdoohibbfjdblaaGreatDoor.denil, List.map_cons, Env.get] at this ⊢
  split
  ·rename_i e
   rw [if_pos e] at this
   exact dn_ok this
  rename_i e
  rw [if_neg e] at this
  exact ih this
theorem ER.mini {Ψ : Ty} {E : Env} {T : TE} {tmps : Array Value} (h : ER Ψ E tmps) (hs : Same E T) (op : Op) : ER Ψ (TE.mini T op) tmps := by
 intro t
 rcases mini_or T (opT op) t with e | e
 ·rw [show (TE.mini T op).get t = TE.get T t from e, ← hs t]; exact h t
 rw [show (TE.mini T op).get t = .undef from e]; exact .undef _
/-- How an operation came to its result. -/
inductive OpRes (P : Program) (call : CallT) (Y : YF) (σ : Sg) (T : TE) (op : Op) (r : PV × Sg) : Prop
 | did (h : opD P call Y σ (TE.mini T op) op = some r)
 | cst (v : Value) (h : op = .assign (.const v)) (hr : r = (cstI v, σ))
 | md (m : Nat) (h : modeI P m σ (TE.mini T op) op = some r)
 | dnil (hw : whom (TE.mini T op) op = .nobody) (h : effOp P σ (denil (TE.mini T op)) op = some r)
theorem opI_res {P : Program} {call : CallT} {Y : YF} {σ : Sg} {T : TE} {op : Op} {r : PV × Sg} (h : opI P call Y σ (TE.mini T op) op = some r) : OpRes P call Y σ T op r := by
 unfold opI at h
 cases hw : whom (TE.mini T op) op with
 | nobody =>
  rw [hw] at h
  simp only at h
  unfold effI at h
  split at h
  ·rename_i v
   refine .cst v rfl ?_
   unfold cstI
   split at h <;> (injection h with h; simp_all)
  split at h
  ·rename_i r' hr
   injection h with h
   subst h
   exact .did (opD_eff hw hr)
  exact .dnil hw h
 | fn f args =>
  rw [hw] at h
  refine .did ?_
  unfold opD
  rw [hw]
  exact h
 | yield y args =>
  rw [hw] at h
  refine .did ?_
  unfold opD
  rw [hw]
  exact h
theorem opF_res {P : Program} {call : CallT} {Y : YF} {σ : Sg} {T : TE} {op : Op} {r : PV × Sg} (h : (opF P op).run call Y σ T = some r) : OpRes P call Y σ T op r := by
 unfold opF at h
 split at h
 ·rename_i v hv
  injection h with h
  unfold constF at hv
  split at hv
  ·rename_i v'
   injection hv with hv
   exact .cst v' rfl (by rw [← h, ← hv]; rfl)
  cases hv
 split at h
 ·rename_i f hf
  simp only at h
  split at h
  ·rename_i r' hr
   injection h with h
   subst h
   exact .did (fast_ok hf hr)
  exact opI_res h
 exact opI_res h
theorem opM_res {P : Program} {m : Nat} {call : CallT} {Y : YF} {σ : Sg} {T : TE} {op : Op} {r : PV × Sg} (h : (opM P m op).run call Y σ T = some r) : OpRes P call Y σ T op r := by
 cases m with
 | zero => exact opF_res h
 | succ m => exact .md (m + 1) h
theorem wantF_none {ops : Array Oper} {o : Oper} (h : wantF ops o = none) (E : Env) : wantedPV ops E o = some true := by
 unfold wantF at h
 unfold wantedPV
 cases hg : o.guard with
 | none => rfl
 | some g =>
  obtain ⟨j, want⟩ := g
  rw [hg] at h
  simp only at h
  split at h <;> cases h
theorem wantF_some {ops : Array Oper} {o : Oper} {w : WF} (h : wantF ops o = some w) {E : Env} {T : TE} (hs : Same E T) : w.want T = wantedPV ops E o := by
 unfold wantF at h
 unfold wantedPV
 cases hg : o.guard with
 | none => rw [hg] at h; cases h
 | some g =>
  obtain ⟨j, want⟩ := g
  rw [hg] at h
  simp only at h ⊢
  split at h
  ·rename_i hn
   injection h with h
   subst h
   rw [hn]
  rename_i t ht
  injection h with h
  subst h
  rw [ht]
  simp only
  rw [hs t]
  rfl
theorem opsF_ok {D : List Nat} {P : Program} {Yr : YEnv} {call : CallT} {Y : YF} {mo : Nat → Nat} {N : Nat} {rd : Option Nat} {ops : Array Oper} {Ψ0 : Ty} {Q : Exit → Act → World → Prop} {T' : TE} {σ' : Sg} (hc : CallOK P Yr call) (hyf : YFOK Y Yr) :
 ∀ (os : List Oper) (is : List Nat), (∀ n : Nat, os[n]? = (is[n]?).bind fun i => ops[i]?) → os.length = is.length → ∀ (E : Env) (T : TE) (σ : Sg) (Ψ : Ty) (a : Act) (w : World), Same E T → Ψ0.le Ψ → Rel N D Ψ E σ a w → YOK P Yr Ψ0 →
 (opsF P mo N ops os).run call Y T σ = some (T', σ') → (∀ E' Ψ' a' w', Same E' T' → Ψ0.le Ψ' → Rel N D Ψ' E' σ' a' w' → Below Ψ0.base w w' → Q .normal a' w') → wpOpsIn (FnOf Ψ0 rd) 0 P ops Q is a w := by
 intro os
 induction os with
 | nil =>
  intro is _ hl E T σ Ψ a w hsame le hr _ hg hk
  cases is with
  | nil =>
   injection hg with hg
   injection hg with h1 h2
   subst h1 h2
   exact hk E Ψ a w hsame le hr (Below.refl _ _)
  | cons => simp at hl
 | cons o os ih =>
  intro is his hl E T σ Ψ a w hsame le hr hy hg hk
  cases is with
  | nil => simp at hl
  | cons i is =>
   have h0 := his 0
   simp only [List.getElem?_cons_zero, Option.bind_some] at h0
   have his' : ∀ n : Nat, os[n]? = (is[n]?).bind fun i => ops[i]? := fun n => by simpa using his (n + 1)
   have hl' : os.length = is.length := by simpa using hl
   simp only [opsF] at hg
   cases hd : dstOK N o && dst12 o with
   | false => rw [hd] at hg; cases hg
   | true =>
    rw [hd] at hg
    simp only [Bool.and_eq_true] at hd
    obtain ⟨hd, hd2⟩ := hd
    simp only at hg
    simp only [wpOpsIn, ← h0]
    have fin : ∀ {v : PV} {σ1 : Sg} {x : Value} {w' : World} {Ψ' : Ty}, Ψ.le Ψ' → SR Ψ' σ1 w' → VR Ψ' v x → Below Ψ.base w w' → (opsF P mo N ops os).run call Y ((putOF o.dst).put v T) σ1 = some (T', σ') → wpOpsIn (FnOf Ψ0 rd) 0 P ops Q is (a.put o.dst x) w' := by
     intro v σ1 x w' Ψ' le' hs' hv hb hg'
     exact ih is his' hl' _ _ σ1 Ψ' _ w' (hsame.put (dst12_le hd2) v) (le.trans le') (hr.put le' hs' hd hv) hy hg' fun E2 Ψ2 a2 w2 s2 l2 r2 b2 => hk E2 Ψ2 a2 w2 s2 l2 r2 (Below.trans (by rw [← le.base]; exact hb) b2)
    have doit : ∀ {r : PV × Sg}, wantedPV ops E o = some true → (opM P (modeOf mo o.dst) o.op).run call Y σ T = some r → (opsF P mo N ops os).run call Y ((putOF o.dst).put r.1 T) r.2 = some (T', σ') →
     wpOpsIn (FnOf Ψ0 rd) 0 P ops Q (i :: is) a w := by
     intro r hw hop hg'
     simp only [wpOpsIn, ← h0]
     rw [wanted_ok hw hr.env]
     simp only [if_true]
     refine ⟨fun f _ => FnOf_fn _ _ _, ?_⟩
     have hmini := hr.env.mini hsame o.op
     have eff : ∀ {E1 : Env}, ER Ψ E1 a.tmps → effOp P σ E1 o.op = some r → _ := fun he heff => effOp_ok (o := o) heff hr.sg he
     rcases opM_res hop with hdid | ⟨v, hv, hr'⟩ | ⟨m, hmd⟩ | ⟨hwh, heff⟩
     ·unfold opD at hdid
      cases hwh : whom (TE.mini T o.op) o.op with
      | nobody =>
       rw [hwh] at hdid
       simp only at hdid
       obtain ⟨nx, x, w', Ψ', k1, k2, k3, k4, k5, k6⟩ := effOp_ok hdid hr.sg hmini
       rw [Oper.semAt_eq _ _ _ (effOp_not_defer hdid), k1]
       rcases k2 with rfl | ⟨rfl, rfl⟩
       ·exact fin k3 k4 k5 k6 hg'
       exact fin k3 k4 k5 k6 hg'
      | fn f args =>
       rw [hwh] at hdid
       simp only at hdid
       have hpc := hc f args σ r.1 r.2 hdid
       obtain ⟨hnd, vals, k1, k2⟩ := whom_fn hwh hmini hpc.1 w
       rw [Oper.semAt_eq _ _ _ hnd, k1]
       refine ⟨fun h => (by rw [FnOf_depth] at h; cases h), ?_⟩
       refine CallsIn.mono (callsIn_FnOf (hpc.2 Ψ vals w hr.sg k2 (hy.mono le))) fun e w' hh => ?_
       obtain ⟨x, Ψ', rfl, l1, l2, l3, l4⟩ := hh
       exact fin l1 l2 l3 l4 hg'
      | yield y args =>
       rw [hwh] at hdid
       simp only at hdid
       obtain ⟨b, hb, hargs⟩ := hyf y args σ r.1 r.2 hdid
       obtain ⟨hnd, vals, l, d, hl1, k2, hrun⟩ := whom_yield hwh hmini
       obtain ⟨l', r0, hl2, hround⟩ := (hy.mono le).2 y args σ b r.2 hargs
       rw [hl1] at hl2
       injection hl2 with hl2
       injection hl2 with hl2 _
       subst hl2
       obtain ⟨rr, q1, q2, q3⟩ := hround Ψ vals w (Ty.le.refl _) hr.sg k2
       rw [Oper.semAt_eq _ _ _ hnd, hrun P w rr q1 q2]
       refine ⟨fun h => (by rw [FnOf_depth] at h; cases h), ?_⟩
       refine RoundIn.mono (roundIn_FnOf q3) fun e w' hh => ?_
       obtain ⟨Ψ', rfl, l1, l2, l4⟩ := hh
       rw [hb] at hg'
       exact fin l1 l2 (.bool b) l4 hg'
     ·have hnd : ∀ c, o.op ≠ .defer c := fun c e => by rw [hv] at e; cases e
      have hx : (execOp a.eval o).run P w = .ok (.value v) w := by
       obtain ⟨dst, op, type, pos, after, guard⟩ := o
       simp only at hv
       subst hv
       rfl
      rw [Oper.semAt_eq _ _ _ hnd, hx]
      subst hr'
      exact fin (Ty.le.refl _) hr.sg (cstI_ok _ _) (Below.refl _ _) hg'
     ·obtain ⟨hnd, x, w', Ψ', k1, k3, k4, k5, k6⟩ := modeI_ok hmd hr.sg hmini
      rw [Oper.semAt_eq _ _ _ hnd, k1]
      exact fin k3 k4 k5 k6 hg'
     obtain ⟨nx, x, w', Ψ', k1, k2, k3, k4, k5, k6⟩ := effOp_ok heff hr.sg hmini.denil
     rw [Oper.semAt_eq _ _ _ (effOp_not_defer heff), k1]
     rcases k2 with rfl | ⟨rfl, rfl⟩
     ·exact fin k3 k4 k5 k6 hg'
     exact fin k3 k4 k5 k6 hg'
    have doit' : ∀ {r : PV × Sg}, wantedPV ops E o = some true → (opM P (modeOf mo o.dst) o.op).run call Y σ T = some r → (opsF P mo N ops os).run call Y ((putOF o.dst).put r.1 T) r.2 = some (T', σ') → _ := fun h1 h2 h3 => by
     have := doit h1 h2 h3
     simp only [wpOpsIn, ← h0] at this
     exact this
    cases hwf : wantF ops o with
    | none =>
     rw [hwf] at hg
     simp only at hg
     split at hg
     ·cases hg
     rename_i v σ1 hop
     exact doit' (wantF_none hwf E) hop hg
    | some wf =>
     rw [hwf] at hg
     simp only at hg
     have hw := wantF_some hwf hsame
     split at hg
     ·cases hg
     ·rename_i hwn
      rw [hw] at hwn
      rw [wanted_ok hwn hr.env]
      simp only [Bool.false_eq_true, if_false]
      exact ⟨fun f _ => FnOf_fn _ _ _, fin (Ty.le.refl _) hr.sg (skipped_ok _) (Below.refl _ _) hg⟩
     rename_i hwn
     rw [hw] at hwn
     split at hg
     ·cases hg
     rename_i v σ1 hop
     exact doit' hwn hop hg
/-- A region's code, run. -/
theorem W_ops {P : Program} {Yr : YEnv} {call : CallT} {Y : YF} {mo : Nat → Nat} {N : Nat} {rd : Option Nat} {lo : Nat × Nat} {id : Nat} {ops : Array Oper} {E : Env} {T T' : TE} {σ σ' : Sg} (hc : CallOK P Yr call) (hyf : YFOK Y Yr) (hs : Same E T)
 (h : (opsF P mo N ops ops.toList).run call Y T σ = some (T', σ')) : W P Yr N rd lo (.region id ops false) E σ (fun ex E1 σ1 => ex = .normal ∧ Same E1 T' ∧ σ1 = σ') := by
 intro Ψ0 D _ hy _ Ψ a w le hr
 refine wpIn_region ?_
 refine opsF_ok hc hyf ops.toList (List.range ops.size) ?_ (by simp) E T σ Ψ a w hs le hr hy h ?_
 ·intro n
  simp only [Array.getElem?_toList]
  by_cases hn : n < ops.size
  ·simp [hn]
  simp [hn]
 intro E' Ψ' a' w' hs' le' hr' hb
 exact ⟨E', σ', Ψ', le', hr', hb, rfl, hs', rfl⟩
theorem tmM_mem {x : Option Operand} {y : Operand} {t : Nat} {l : List Nat} (hx : x = some y) (h : y = .tmp t) : t ∈ tmM x l := by
 subst hx h; exact List.mem_cons_self ..
theorem tmM_sub {x : Option Operand} {l : List Nat} {t : Nat} (h : t ∈ l) : t ∈ tmM x l := by
 cases x with
 | none => exact h
 | some x => exact tmO_sub h
theorem tmP_mem {xs : List (Nat × Operand)} {t n : Nat} (h : (n, Operand.tmp t) ∈ xs) : t ∈ tmP xs := by
 induction xs with
 | nil => cases h
 | cons x r ih =>
  rcases List.mem_cons.1 h with rfl | h
  ·exact List.mem_cons_self ..
  exact tmO_sub (ih h)
section
variable {P : Program} {σ : Sg} {E : Env} {T : TE}
/-- An operation sees no more than its own temporaries. -/
theorem effOp_mini (hs : Same E T) (op : Op) : effOp P σ E op = effOp P σ (TE.mini T op) op := by
 have e : ∀ x : Operand, (∀ t, x = .tmp t → t ∈ opT op) → ev E x = ev (TE.mini T op) x := fun x hx => by
  cases x with
  | tmp t => exact (hs t).trans (mini_get (hx t rfl)).symm
  | const v => rfl
  | global g => rfl
  | func f => rfl
 have en : ∀ x : Operand, (∀ t, x = .tmp t → t ∈ opT op) → evN E x = evN (TE.mini T op) x := fun x hx => by
  cases x with
  | tmp t => exact e _ hx
  | const v => rfl
  | global g => rfl
  | func f => rfl
 have m : ∀ x t l, x = Operand.tmp t → t ∈ tmO x l := fun x t l h => by subst h; exact List.mem_cons_self ..
 have el : ∀ xs : List Operand, (∀ t, Operand.tmp t ∈ xs → t ∈ opT op) → xs.map (ev E) = xs.map (ev (TE.mini T op)) := fun xs hx => List.map_congr_left fun x h => e x fun t ht => hx t (ht ▸ h)
 have ep : ∀ xs : List (Nat × Operand), (∀ n t, (n, Operand.tmp t) ∈ xs → t ∈ opT op) → xs.map (fun p => (p.1, ev E p.2)) = xs.map (fun p => (p.1, ev (TE.mini T op) p.2)) := fun xs hx =>
  List.map_congr_left fun x h => by rw [e x.2 fun t ht => hx x.1 t (by obtain ⟨a, b⟩ := x; simp only at ht; subst ht; exact h)]
 have eo : ∀ x : Option Operand, (∀ y t, x = some y → y = Operand.tmp t → t ∈ opT op) → x.map (ev E) = x.map (ev (TE.mini T op)) := fun x hx => by
  cases x with
  | none => rfl
  | some x => exact congrArg some (e x fun t ht => hx x t rfl ht)
 cases op with
 | move x => simp only [effOp, pureOp]; rw [e x fun t h => m x t _ h]
 | assign x => simp only [effOp, pureOp]; rw [e x fun t h => m x t _ h]
 | box t x => simp only [effOp]; rw [e x fun t h => m x t _ h]
 | load t x => simp only [effOp, pureOp]; rw [e x fun t h => m x t _ h]
 | nilCheck x => simp only [effOp, pureOp]; rw [e x fun t h => m x t _ h]
 | unOp o t x => simp only [effOp, pureOp]; rw [e x fun t h => m x t _ h]
 | convert s d x => simp only [effOp, pureOp]; rw [e x fun t h => m x t _ h]
 | fieldAddr s x f => simp only [effOp, pureOp]; rw [e x fun t h => m x t _ h]
 | field s x f => simp only [effOp, pureOp]; rw [e x fun t h => m x t _ h]
 | range t x => simp only [effOp]; rw [e x fun t h => m x t _ h]
 | entry x => simp only [effOp]; rw [e x fun t h => m x t _ h]
 | extract x i => simp only [effOp, pureOp]; rw [e x fun t h => m x t _ h]
 | pick c a b => simp only [effOp, pureOp]; rw [e c fun t h => m c t _ h, e a fun t h => tmO_sub (m a t _ h), e b fun t h => tmO_sub (tmO_sub (m b t _ h))]
 | build t ps => simp only [effOp, pureOp]; rw [ep ps.toList fun n t h => tmP_mem h]
 | buildSlice t n ps => simp only [effOp]; rw [ep ps.toList fun n t h => tmP_mem h]
 | store t a x => simp only [effOp]; rw [e a fun t h => m a t _ h, e x fun t h => tmO_sub (m x t _ h)]
 | binOp o t x y sh => simp only [effOp]; rw [e x fun t h => m x t _ h, e y fun t h => tmO_sub (m y t _ h)]
 | makeSlice t a x => simp only [effOp]; rw [e a fun t h => m a t _ h, e x fun t h => tmO_sub (m x t _ h)]
 | indexAddr t a x => simp only [effOp, pureOp]; rw [e a fun t h => m a t _ h, e x fun t h => tmO_sub (m x t _ h)]
 | index t a x => simp only [effOp, pureOp]; rw [e a fun t h => m a t _ h, e x fun t h => tmO_sub (m x t _ h)]
 | lookup t a x ok => simp only [effOp]; rw [e a fun t h => m a t _ h, e x fun t h => tmO_sub (m x t _ h)]
 | makeFunc f a b => simp only [effOp, pureOp]; rw [el a.toList fun t h => List.mem_append_left _ (tmL_mem h), el b.toList fun t h => List.mem_append_right _ (tmL_mem h)]
 | slice t x l h mx =>
  simp only [effOp, pureOp]
  rw [e x fun t h => m x t _ h, eo l fun y t h1 h2 => tmO_sub (tmM_mem h1 h2), eo h fun y t h1 h2 => tmO_sub (tmM_sub (tmM_mem h1 h2)), eo mx fun y t h1 h2 => tmO_sub (tmM_sub (tmM_sub (tmM_mem h1 h2)))]
 | mapUpdate t mm k v => simp only [effOp]; rw [e mm fun t h => m mm t _ h, e k fun t h => tmO_sub (m k t _ h), en v fun t h => tmO_sub (tmO_sub (m v t _ h))]
 | insert t mm k v => simp only [effOp]; rw [e mm fun t h => m mm t _ h, e k fun t h => tmO_sub (m k t _ h), en v fun t h => tmO_sub (tmO_sub (m v t _ h))]
 | call c =>
  obtain ⟨callee, args, ts⟩ := c
  cases callee with
  | value f => rfl
  | invoke r i => rfl
  | builtin b =>
   have h1 := el args.toList fun t h => tmL_mem h
   cases b with
   | append =>
    simp only [effOp]
    split
    ·rename_i x y t t' hx ht
     rw [e x fun t h => tmL_mem (by rw [hx, ← h]; simp), e y fun t h => tmL_mem (by rw [hx, ← h]; simp)]
    rfl
   | _ => simp only [effOp, pureOp]; rw [h1]
 | makeMap t r => cases r <;> rfl
 | _ => rfl
theorem whom_mini (hs : Same E T) (op : Op) : whom E op = whom (TE.mini T op) op := by
 cases op with
 | call c =>
  obtain ⟨callee, args, ts⟩ := c
  cases callee with
  | value f =>
   have h1 : ev E f = ev (TE.mini T (.call ⟨.value f, args, ts⟩)) f := by
    cases f with
    | tmp t => exact (hs t).trans (mini_get (List.mem_cons_self ..)).symm
    | const v => rfl
    | global g => rfl
    | func f => rfl
   have h2 : args.toList.map (ev E) = args.toList.map (ev (TE.mini T (.call ⟨.value f, args, ts⟩))) := List.map_congr_left fun x h => by
    cases x with
    | tmp t => exact (hs t).trans (mini_get (tmO_sub (tmL_mem h))).symm
    | const v => rfl
    | global g => rfl
    | func f => rfl
   simp only [whom]
   rw [h1, h2]
  | _ => rfl
 | _ => rfl
end
theorem samePV_eq : ∀ (n : Nat) (r q : List PV), samePV n r q = true → r = q := by
  intro n
  induction n with
  | zero => intro r q h; cases h
  | succ n ih =>
    intro r q h
    rcases r with _ | ⟨a, r⟩
    · rcases q with _ | ⟨b, q⟩
      · rfl
      · cases h
    · rcases q with _ | ⟨b, q⟩
      · cases h
      · simp only [samePV] at h
        split at h
        all_goals first
          | (cases h; done)
          | (rw [ih _ _ h]; done)
          | skip
        all_goals simp only [Bool.and_eq_true, decide_eq_true_eq, beq_eq, beq_iff_eq] at h
        all_goals first
          | (obtain ⟨⟨⟨rfl, h⟩, h1⟩, h2⟩ := h
             obtain ⟨rfl, e⟩ := List.append_inj (ih _ _ h) h1
             obtain ⟨rfl, rfl⟩ := List.append_inj e h2
             rfl)
          | (obtain ⟨rfl, h⟩ := h
             rw [ih _ _ h]
             done)
          | (obtain ⟨⟨rfl, rfl⟩, h⟩ := h
             rw [ih _ _ h]
             done)
          | (obtain ⟨⟨⟨rfl, rfl⟩, rfl⟩, h⟩ := h
             rw [ih _ _ h]
             done)
          | (obtain ⟨hl, h⟩ := h
             obtain ⟨rfl, rfl⟩ := List.append_inj (ih _ _ h) hl
             rfl)
          | (obtain ⟨⟨rfl, hl⟩, h⟩ := h
             obtain ⟨rfl, rfl⟩ := List.append_inj (ih _ _ h) hl
             rfl)
          | (obtain ⟨⟨⟨⟨rfl, rfl⟩, rfl⟩, h⟩, hl⟩ := h
             obtain ⟨rfl, rfl⟩ := List.append_inj (ih _ _ h) hl
             rfl)
/-- Two accounts of what was done. -/
def TrR : List TSt → List St → Prop
 | [], [] => True
 | s :: r, g :: q => (g.i = s.i ∧ Same g.E s.T ∧ g.σ = s.σ ∧ g.b = s.b ∧ g.v = s.v) ∧ TrR r q
 | _, _ => False
theorem TrR.at : ∀ {r : List TSt} {q : List St}, TrR r q → ∀ n : Nat, (r[n]? = none ∧ q[n]? = none) ∨ ∃ s g, r[n]? = some s ∧ q[n]? = some g ∧ g.i = s.i ∧ Same g.E s.T ∧ g.σ = s.σ ∧ g.b = s.b ∧ g.v = s.v := by
 intro r
 induction r with
 | nil => intro q h n; cases q with
  | nil => exact .inl ⟨rfl, rfl⟩
  | cons => exact h.elim
 | cons s r ih =>
  intro q h n
  cases q with
  | nil => exact h.elim
  | cons g q =>
   cases n with
   | zero => exact .inr ⟨s, g, rfl, rfl, h.1⟩
   | succ n => exact ih h.2 n
theorem TrR.app : ∀ {r : List TSt} {q : List St}, TrR r q → ∀ {r' : List TSt} {q' : List St}, TrR r' q' → TrR (r ++ r') (q ++ q') := by
 intro r
 induction r with
 | nil => intro q h r' q' k; cases q with
  | nil => exact k
  | cons => exact h.elim
 | cons s r ih =>
  intro q h r' q' k
  cases q with
  | nil => exact h.elim
  | cons g q => exact ⟨h.1, ih h.2 k⟩
theorem TrR.rev : ∀ {r : List TSt} {q : List St}, TrR r q → TrR r.reverse q.reverse := by
 intro r
 induction r with
 | nil => intro q h; cases q with
  | nil => trivial
  | cons => exact h.elim
 | cons s r ih =>
  intro q h
  cases q with
  | nil => exact h.elim
  | cons g q =>
   rw [List.reverse_cons, List.reverse_cons]
   exact (ih h.2).app ⟨h.1, trivial⟩
theorem opDF_res {P : Program} {call : CallT} {Y : YF} {σ : Sg} {T : TE} {op : Op} {r : PV × Sg} (h : (opDF P op).run call Y σ T = some r) : opD P call Y σ (TE.mini T op) op = some r := by
 unfold opDF at h
 split at h
 ·rename_i f hf
  simp only at h
  split at h
  ·rename_i r' hr
   injection h with h
   subst h
   exact fast_ok hf hr
  exact h
 exact h
theorem drawF_ok {P : Program} {Yr : YEnv} {call : CallT} {Y : YF} {N : Nat} {ops : Array Oper} {T' : TE} {σ' : Sg} {tr' : List TSt} {K : List St → Env → Sg → Prop} (hc : CallOK P Yr call) (hyf : YFOK Y Yr)
 (hK : ∀ E' tg, Same E' T' → TrR tr' tg → K tg E' σ') : ∀ (is : List Nat) (E : Env) (T : TE) (σ : Sg) (tr : List TSt) (tg : List St), Same E T → TrR tr tg →
 (drawF P N ops is).run call Y T σ tr = some (tr', T', σ') → GD P Yr N ops is E σ tg K := by
 intro is
 induction is with
 | nil =>
  intro E T σ tr tg hs ht h
  injection h with h
  injection h with h1 h2
  injection h2 with h2 h3
  subst h1 h2 h3
  exact hK E tg hs ht
 | cons i is ih =>
  intro E T σ tr tg hs ht h
  simp only [drawF] at h
  simp only [GD]
  cases ho : ops[i]? with
  | none => rw [ho] at h; cases h
  | some o =>
   rw [ho] at h
   simp only at h ⊢
   cases hd : dstOK N o && dst12 o with
   | false => rw [hd] at h; cases h
   | true =>
    rw [hd] at h
    simp only [Bool.and_eq_true] at hd
    obtain ⟨hd, hd2⟩ := hd
    simp only at h
    refine ⟨hd, ?_⟩
    have doit : ∀ {r : PV × Sg}, wantedPV ops E o = some true → (opDF P o.op).run call Y σ T = some r → (drawF P N ops is).run call Y ((putOF o.dst).put r.1 T) r.2 (⟨i, T, σ, true, r.1⟩ :: tr) = some (tr', T', σ') →
     @GWant (wantedPV ops E o) ⟨GD P Yr N ops is (E.put o.dst (.tuple [])) σ (⟨i, E, σ, false, .tuple []⟩ :: tg) K⟩
      ⟨@GWho (whom E o.op) ⟨fun f args => @GCall P Yr f args σ ⟨fun v σ' => GD P Yr N ops is (E.put o.dst v) σ' (⟨i, E, σ, true, v⟩ :: tg) K⟩⟩
       ⟨fun y args => @GYield Yr y args σ ⟨fun v σ' => GD P Yr N ops is (E.put o.dst v) σ' (⟨i, E, σ, true, v⟩ :: tg) K⟩⟩
       ⟨@GOpt (effOp P σ E o.op) ⟨fun v σ' => GD P Yr N ops is (E.put o.dst v) σ' (⟨i, E, σ, true, v⟩ :: tg) K⟩⟩⟩ := by
     intro r hw hop hrest
     rw [hw, GWant_true]
     have hgo : GD P Yr N ops is (E.put o.dst r.1) r.2 (⟨i, E, σ, true, r.1⟩ :: tg) K := ih _ _ _ _ _ (hs.put (dst12_le hd2) r.1) (show TrR (⟨i, T, σ, true, r.1⟩ :: tr) (⟨i, E, σ, true, r.1⟩ :: tg) from ⟨⟨rfl, hs, rfl, rfl, rfl⟩, ht⟩) hrest
     have hr := opDF_res hop
     unfold opD at hr
     rw [← whom_mini hs o.op, ← effOp_mini hs o.op] at hr
     cases hwh : whom E o.op with
     | nobody =>
      rw [hwh] at hr
      simp only at hr
      rw [GWho_nobody, hr]
      exact hgo
     | fn f args =>
      rw [hwh] at hr
      rw [GWho_fn]
      exact ⟨r.1, r.2, hc f args σ r.1 r.2 hr, hgo⟩
     | yield y args =>
      rw [hwh] at hr
      rw [GWho_yield]
      obtain ⟨b, hb, hargs⟩ := hyf y args σ r.1 r.2 hr
      refine ⟨b, r.2, hargs, ?_⟩
      rw [hb] at hgo
      exact hgo
    cases hwf : wantF ops o with
    | none =>
     rw [hwf] at h
     simp only at h
     split at h
     ·cases h
     rename_i v σ1 hop
     exact doit (wantF_none hwf E) hop h
    | some wf =>
     rw [hwf] at h
     simp only at h
     have hw := wantF_some hwf hs
     split at h
     ·cases h
     ·rename_i hwn
      rw [hw] at hwn
      rw [hwn, GWant_false]
      exact ih _ _ _ _ _ (hs.put (dst12_le hd2) _) (show TrR (⟨i, T, σ, false, .tuple []⟩ :: tr) (⟨i, E, σ, false, .tuple []⟩ :: tg) from ⟨⟨rfl, hs, rfl, rfl, rfl⟩, ht⟩) h
     rename_i hwn
     rw [hw] at hwn
     split at h
     ·cases h
     rename_i v σ1 hop
     exact doit hwn hop h
theorem undefsF_ok : ∀ (os : List Oper) (E : Env) (T : TE), os.all dst12 = true → Same E T → Same (undefs os E) ((undefsF os).run T) := by
  intro os
  induction os with
  | nil => intro E T _ h; exact h
  | cons o os ih =>
    intro E T hd h
    simp only [List.all_cons, Bool.and_eq_true] at hd
    simp only [undefs, undefsF]
    split
    · rename_i t he
      try rw [he]
      exact ih _ _ hd.2 (h.put (dst12_le hd.1) _)
    · rename_i he
      first
        | exact ih _ _ hd.2 h
        | (split
           · rename_i t he'
             exact absurd he' (he t)
           · exact ih _ _ hd.2 h)
theorem demT_ok {P : Program} {ops : Array Oper} {tr : List TSt} {tg : List St} {σf : Sg} (ht : TrR tr tg) : ∀ (plan : List (Nat × Nat)), demT P ops tr σf plan = true → Dem P ops tg σf plan := by
 have hst : ∀ p, st tg σf p = stT tr σf p := fun p => by
  unfold st stT
  rcases ht.at p with ⟨h1, h2⟩ | ⟨s, g, h1, h2, _, _, h3, _⟩
  ·rw [h1, h2]
  rw [h1, h2]; exact h3
 intro plan
 induction plan with
 | nil => intro _; trivial
 | cons x plan ih =>
  obtain ⟨q, p⟩ := x
  intro h
  simp only [demT, Bool.and_eq_true] at h
  refine ⟨?_, ih h.2⟩
  have h := h.1
  rcases ht.at q with ⟨h1, h2⟩ | ⟨s, g, h1, h2, e1, e2, e3, e4, e5⟩
  ·rw [h2]; trivial
  rw [h2]
  rw [h1] at h
  simp only at h ⊢
  rw [e1]
  cases ho : ops[s.i]? with
  | none => trivial
  | some o =>
   refine .inr fun hb => ?_
   rw [e4] at hb
   rw [hb] at h
   simp only [ho] at h
   simp only [Bool.and_eq_true, Bool.not_eq_true'] at h
   obtain ⟨⟨hw, ha⟩, h⟩ := h
   rw [hst, effOp_mini e2 o.op]
   split at h
   ·rename_i v σx hv
    have := samePV_eq _ _ _ h
    injection this with this
    subst this
    rw [hv, e5, quiet hw ha hv]
   cases h
/-- A region that draws its order, run. -/
theorem W_drawn {P : Program} {Yr : YEnv} {call : CallT} {Y : YF} {N : Nat} {rd : Option Nat} {lo : Nat × Nat} {id : Nat} {ops : Array Oper} {E : Env} {T T' : TE} {σ σ' : Sg} {pl : List Nat × List (Nat × Nat) × List (List Nat)} (hm : P.follows .mixedOrders = true) (hc : CallOK P Yr call) (hyf : YFOK Y Yr) (hs : Same E T)
 (h : (regionF P pl N ops).run call Y T σ = some (T', σ')) : W P Yr N rd lo (.region id ops true) E σ (fun ex E1 σ1 => ex = .normal ∧ Same E1 T' ∧ σ1 = σ') := by
 unfold regionF at h
 split at h
 ·cases h
 rename_i hd
 simp only [Bool.and_eq_true] at hd
 simp only at h
 split at h
 ·cases h
 rename_i tr T1 σ1 hrun
 split at h
 ·rename_i hdem
  injection h with h
  injection h with h1 h2
  subst h1 h2
  intro Ψ0 D hb hy hrd Ψ a w le hr
  refine wpIn_region_any hm (draw_any (K := fun E' σ2 => Same E' T1 ∧ σ2 = σ1) pl.1 pl.2.1 pl.2.2 hd.1 ?_ hy le hr fun Ψ' E' σ2 a' w' l1 l2 l3 k => ⟨E', σ2, Ψ', l1, l2, l3, rfl, k.1, k.2⟩)
  refine drawF_ok hc hyf (fun E' tg hs' ht => ?_) pl.1 (undefs ops.toList E) _ σ [] [] (undefsF_ok _ _ _ hd.2 hs) trivial hrun
  exact ⟨demT_ok ht.rev _ hdem, hs', rfl⟩
 cases h
theorem cleanL_ok {nb nr ny : Nat} : ∀ (n : Nat) (l : List PV), cleanL nb nr ny n l = true → ∀ p, p ∈ l → Clean nb nr ny p := by
 intro n
 induction n with
 | zero => intro l h; cases h
 | succ n ih =>
  intro l h p hp
  rcases l with _ | ⟨v, q⟩
  ·cases hp
  have key : Clean nb nr ny v ∧ ∀ p, p ∈ q → Clean nb nr ny p := by
   cases v <;> simp only [cleanL, Bool.and_eq_true, ble_iff] at h
   case undef => exact ⟨.undef, ih _ h⟩
   case bool => exact ⟨.bool _, ih _ h⟩
   case int => exact ⟨.int _ _, ih _ h⟩
   case str => exact ⟨.str _, ih _ h⟩
   case nilptr => exact ⟨.nilptr, ih _ h⟩
   case ptr => exact ⟨.ptr _ _ h.1, ih _ h.2⟩
   case eptr => exact ⟨.eptr _ _ _ _ fun e he => ih _ h e (List.mem_append_left _ he), fun p hp => ih _ h p (List.mem_append_right _ hp)⟩
   case nilsl => exact ⟨.nilsl, ih _ h⟩
   case isl =>
    refine ⟨.isl _ _ (fun e he => ih _ h.2 e (List.mem_append_left _ he)) fun r n es e => ?_, fun p hp => ih _ h.2 p (List.mem_append_right _ hp)⟩
    have := h.1
    rw [e] at this
    exact ble_iff.1 this
   case msl => exact ⟨.msl _ _ _ h.1, ih _ h.2⟩
   case agg => exact ⟨.agg _ fun e he => ih _ h e (List.mem_append_left _ he), fun p hp => ih _ h p (List.mem_append_right _ hp)⟩
   case tuple => exact ⟨.tuple _ fun e he => ih _ h e (List.mem_append_left _ he), fun p hp => ih _ h p (List.mem_append_right _ hp)⟩
   case func => exact ⟨.func _ _ _ (fun e he => ih _ h e (List.mem_append_left _ (List.mem_append_left _ he))) fun e he => ih _ h e (List.mem_append_left _ (List.mem_append_right _ he)), fun p hp => ih _ h p (List.mem_append_right _ hp)⟩
   case yield => exact ⟨.yield _ h.1, ih _ h.2⟩
   case nilfunc => exact ⟨.nilfunc, ih _ h⟩
   case niliface => exact ⟨.niliface, ih _ h⟩
   case iface => exact ⟨.iface _ _ (ih _ h _ (List.mem_cons_self ..)), fun p hp => ih _ h p (List.mem_cons_of_mem _ hp)⟩
   case map => exact ⟨.mapv _ h.1, ih _ h.2⟩
   case nilmap => exact ⟨.nilmap, ih _ h⟩
   case gsl => exact ⟨.gsl _ _ _ h.1, ih _ h.2⟩
   case gnil => exact ⟨.gnil, ih _ h⟩
   case bself => exact ⟨.bself _ _ h.1, ih _ h.2⟩
   case bbuf =>
    exact ⟨.bbuf _ _ _ (.isl _ _ (fun e he => ih _ h.2 e (List.mem_append_left _ he)) fun r n es e => by injection e with e1; subst e1; exact h.1), fun p hp => ih _ h.2 p (List.mem_append_right _ hp)⟩
   case mark => exact ⟨.mark, ih _ h⟩
   case iter => exact ⟨.iter _ h.1, ih _ h.2⟩
   case itst => exact ⟨.itst _ _ _ h.1, ih _ h.2⟩
  rcases List.mem_cons.1 hp with rfl | hp
  ·exact key.1
  exact key.2 p hp
theorem cleanS_ok {nb nr ny : Nat} : ∀ (l : List (Option (List PV))), cleanS nb nr ny l = true → ∀ cs, some cs ∈ l → ∀ p, p ∈ cs → Clean nb nr ny p := by
 intro l
 induction l with
 | nil => intro _ cs h; cases h
 | cons x l ih =>
  intro h cs hc
  cases x with
  | none =>
   rcases List.mem_cons.1 hc with hc | hc
   ·cases hc
   exact ih h cs hc
  | some x =>
   simp only [cleanS, Bool.and_eq_true] at h
   rcases List.mem_cons.1 hc with hc | hc
   ·injection hc with hc
    subst hc
    exact cleanL_ok _ _ h.1
   exact ih h.2 cs hc
theorem cleanS_cut {σ : Sg} {nb nr ny : Nat} {l : List (Option (List PV))} (h : cleanS nb nr ny l = true) (hl : ∀ id cs, id < nb → σ.store[id]? = some (some cs) → some cs ∈ l) : CleanCut σ nb nr ny :=
 fun id cs hid hc p hp => cleanS_ok l h cs (hl id cs hid hc) p hp
theorem roS_ok {m : Nat} {Ψ : Ty} {p : PV} {x : Value} (h : VR Ψ p x) : VR Ψ (roS m p) x := by
 cases m with
 | zero => exact dn_ok h
 | succ m =>
  cases h with
  | nilsl => exact .islnil _ _ trivial
  | islnil own a ho => exact .islnil _ a trivial
  | isl es elems own b o cap vals hs h1 h2 hc ho => exact .isl es elems .ro b o cap vals hs h1 h2 hc trivial
  | undef x => exact .undef x
  | bool b => exact .bool b
  | int k n => exact .int k n
  | str s => exact .str s
  | nilptr => exact .nilptr
  | ptr id off b hb hz => exact .ptr id off b hb hz
  | eptr es elems i off b o vals hs h1 h2 => exact .eptr es elems i off b o vals hs h1 h2
  | msl id off len b cap hb hz hc => exact .msl id off len b cap hb hz hc
  | agg cs vs hl h => exact .agg cs vs hl h
  | tuple cs vs hl h => exact .tuple cs vs hl h
  | func fn fs cs xs ys hl hl' h h' => exact .func fn fs cs xs ys hl hl' h h'
  | yield y l d hy => exact .yield y l d hy
  | nilfunc => exact .nilfunc
  | niliface => exact .niliface
  | iface t p x h => exact .iface t p x h
  | map id b hb => exact .map id b hb
  | nilmap => exact .nilmap
  | iter id b hb => exact .iter id b hb
  | gsl id len es b cap hb hz h0 hc => exact .gsl id len es b cap hb hz h0 hc
  | gnil a => exact .gnil a
  | bself id t b x hb hz hx => exact .bself id t b _ hb hz hx
  | bbuf l r t x h ht => exact .bbuf l r t _ h ht
theorem roC_ok {m : Nat} {Ψ : Ty} {p : PV} {x : Value} (h : VR Ψ p x) : VR Ψ (roC m p) x := by
 cases m with
 | zero => exact h
 | succ m => exact roS_ok (m := m + 1) h
/-- Results, nil slices said to be empty. -/
theorem resF_ok {P : Program} {m : Nat} {σ : Sg} {E : Env} {T : TE} (hs : Same E T) : ∀ (rs : List ResultVar) (l : List PV), (resF P m rs).get σ T = some l →
 ∃ l0, resPV P σ E rs = some l0 ∧ l0.length = l.length ∧ ∀ (j : Nat) (p q : PV), l0[j]? = some p → l[j]? = some q → ∀ Ψ x, VR Ψ p x → VR Ψ q x := by
 intro rs
 induction rs with
 | nil => intro l h; injection h with h; subst h; exact ⟨[], rfl, rfl, fun j p q h => by simp at h⟩
 | cons r rs ih =>
  intro l h
  have key : ∀ (p q : PV) (l1 : List PV), (resF P m rs).get σ T = some l1 → (∀ Ψ x, VR Ψ p x → VR Ψ q x) → l = q :: l1 → ∃ l0, resPV P σ E rs = some l0 ∧ (p :: l0).length = l.length ∧ ∀ (j : Nat) (p' q' : PV), (p :: l0)[j]? = some p' → l[j]? = some q' → ∀ Ψ x, VR Ψ p' x → VR Ψ q' x := by
   intro p q l1 h1 h2 h3
   obtain ⟨l0, k1, k2, k3⟩ := ih l1 h1
   subst h3
   refine ⟨l0, k1, by simp [k2], fun j p' q' a b => ?_⟩
   cases j with
   | zero => simp at a b; subst a b; exact h2
   | succ j => exact k3 j p' q' (by simpa using a) (by simpa using b)
  cases r with
  | tmp t =>
   simp only [resF] at h
   split at h
   ·rename_i l1 h1
    injection h with h
    obtain ⟨l0, k1, k2, k3⟩ := key (E.get t) (roS m ((getF t).get T)) l1 h1 (fun Ψ x k => by rw [hs t] at k; exact roS_ok k) h.symm
    exact ⟨_, by simp only [resPV, k1], k2, k3⟩
   cases h
  | cell a t =>
   simp only [resF] at h
   split at h
   ·rename_i v hv
    split at h
    ·rename_i l1 h1
     injection h with h
     obtain ⟨l0, k1, k2, k3⟩ := key v (roC m v) l1 h1 (fun Ψ x k => roC_ok k) h.symm
     refine ⟨_, ?_, k2, k3⟩
     simp only [resPV, k1]
     rw [hs a]
     have hv' : loadPV P σ t (TE.get T a) = some v := loadF_ok hv
     rw [hv']
    cases h
   cases h
theorem oneOr_weak {l0 l : List PV} (h : l0.length = l.length) (k : ∀ (j : Nat) (p q : PV), l0[j]? = some p → l[j]? = some q → ∀ Ψ x, VR Ψ p x → VR Ψ q x) {Ψ : Ty} {x : Value} (hx : VR Ψ (oneOr l0) x) : VR Ψ (oneOr l) x := by
 have tup : ∀ {a b : List PV} {x : Value}, a.length = b.length → (∀ (j : Nat) (p q : PV), a[j]? = some p → b[j]? = some q → ∀ Ψ x, VR Ψ p x → VR Ψ q x) → VR Ψ (.tuple a) x → VR Ψ (.tuple b) x := by
  intro a b x h k hx
  cases hx with
  | tuple _ vs hl hh =>
   refine .tuple _ vs (by omega) fun j p v h1 h2 => ?_
   have hj : j < a.length := by rw [h]; exact (List.getElem?_eq_some_iff.1 h1).1
   exact k j a[j] p (by simp [hj]) h1 Ψ v (hh j a[j] v (by simp [hj]) h2)
 rcases l0 with _ | ⟨p, _ | ⟨p', l0⟩⟩
 ·rcases l with _ | ⟨q, l⟩
  ·exact hx
  simp at h
 ·rcases l with _ | ⟨q, _ | ⟨q', l⟩⟩
  ·simp at h
  ·exact k 0 p q rfl rfl Ψ x hx
  simp at h
 rcases l with _ | ⟨q, _ | ⟨q', l⟩⟩
 ·simp at h
 ·simp at h
 exact tup h k hx
theorem W_clean {P : Program} {Y : YEnv} {N : Nat} {rd : Option Nat} {lo : Nat × Nat} {c : Code} {E : Env} {σ : Sg} {Q : Exit → Env → Sg → Prop} (fn : Func) (h : W P Y N rd lo c E σ Q) :
 W P Y N rd lo c E σ (fun ex E1 σ1 => Q ex E1 σ1 ∧ CleanSg σ1 ∧ ∀ l, resPV P σ1 E1 fn.results.toList = some l → Clean σ1.store.length σ1.rooms.length σ1.ys.length (oneOr l)) :=
 fun Ψ0 D h1 h2 h4 Ψ a w h5 h6 => wpIn_mono (h Ψ0 D h1 h2 h4 Ψ a w h5 h6) fun _ _ _ ⟨E1, σ1, Ψ1, a1, a2, a3, a4⟩ =>
  ⟨E1, σ1, Ψ1, a1, a2, a3, a4, a2.sg.cleanSg, fun l hl => by
   obtain ⟨x, _, k⟩ := results_ok (P := P) a2.sg a2.env (fn := fn) hl
   exact k.clean a2.sg⟩
theorem finT_ok {P : Program} {m : Nat} {fn : Func} {σ0 σ σ' : Sg} {E : Env} {T : TE} {v : PV} (hs : Same E T) (h : finT P m fn σ0 T σ = some (v, σ')) (hcl : CleanSg σ) (hcr : ∀ l, resPV P σ E fn.results.toList = some l → Clean σ.store.length σ.rooms.length σ.ys.length (oneOr l)) : Fin P fn σ0 v σ' E σ := by
 unfold finT at h
 split at h
 ·cases h
 rename_i l hl
 obtain ⟨l0, k1, k2, k3⟩ := resF_ok hs _ l hl
 split at h
 ·cases h
 rename_i hlen
 simp only [Bool.and_eq_true, beq_eq, ble_iff, lenF_eq] at hlen
 obtain ⟨⟨hy, h1⟩, h2⟩ := hlen
 have whole : v = oneOr l → σ' = σ → Fin P fn σ0 v σ' E σ := by
  rintro rfl rfl
  refine ⟨l0, σ'.store.length, σ'.rooms.length, k1, h1, h2, fun Ψ x hx => ?_, by rw [← hy]; simp [Sg.cut], by rw [← hy]; exact hcl, hy⟩
  have := hcr l0 k1
  rw [hy] at this
  exact oneOr_weak k2 k3 (hx.trim this)
 split at h
 ·injection h with h
  injection h with e1 e2
  exact whole e1.symm e2.symm
 simp only [normN_eq, lenF_eq] at h
 split at h
 ·rename_i hc
  simp only [Bool.and_eq_true] at hc
  injection h with h
  injection h with e1 e2
  subst e1 e2
  refine ⟨l0, σ0.store.length, σ0.rooms.length, k1, Nat.le_refl _, Nat.le_refl _, fun Ψ x hx => (oneOr_weak k2 k3 hx).trim (cleanL_ok _ _ hc.1 _ (List.mem_cons_self ..)), rfl, cleanS_cut hc.2 fun id cs hid hcs => ?_, hy⟩
  refine List.mem_of_getElem? (i := id) ?_
  rw [List.getElem?_take_of_lt hid]
  exact hcs
 injection h with h
 injection h with e1 e2
 exact whole e1.symm e2.symm
theorem SR_drops {Ψ : Ty} {w : World} : ∀ (l : List Nat) (σ : Sg), SR Ψ σ w → SR Ψ (dropsF l σ) w
 | [], _, h => h
 | i :: r, σ, h => SR_drops r (σ.drop i) (h.dropVar i)
theorem PC_drops {P : Program} {Y : YEnv} {f : FuncId} {args : List PV} {σ σ' : Sg} {v : PV} (h : PC P Y f args σ v σ') (l : List Nat) : PC P Y f args σ v (dropsF l σ') :=
 ⟨h.1, fun Ψ vals w hs ha hy => (h.2 Ψ vals w hs ha hy).mono fun _ _ ⟨x, Ψ', e, le, k, hv, hb⟩ => ⟨x, Ψ', e, le, SR_drops l _ k, hv, hb⟩⟩
def Got (ex : Exit) (T : TE) (σ : Sg) : Exit → Env → Sg → Prop := fun ex1 E1 σ1 => ex1 = ex ∧ Same E1 T ∧ σ1 = σ
theorem thenF_inv {r : Out} {k : TE → Sg → Out} {o : Exit × TE × Sg} (h : thenF r k = some o) : (∃ T σ, r = some (.normal, T, σ) ∧ k T σ = some o) ∨ (r = some o ∧ o.1 ≠ .normal) := by
 unfold thenF at h
 split at h
 ·exact .inl ⟨_, _, rfl, h⟩
 rename_i hn
 refine .inr ⟨h, fun e => ?_⟩
 obtain ⟨ex, T, σ⟩ := o
 simp only at e
 subst e
 exact hn _ _ h
theorem argsF_put : ∀ (ps : List Nat) (vs : List PV) (E : Env) (T : TE), (∀ p, p ∈ ps → p ≤ 511) → Same E T → Same (putAll ps vs E) ((argsF ps).lay vs T) := by
 intro ps
 induction ps with
 | nil => intro vs E T _ h; exact h
 | cons p ps ih =>
  intro vs E T hp h
  cases vs with
  | nil => exact h
  | cons v vs =>
   simp only [putAll, argsF]
   exact ih vs _ _ (fun q hq => hp q (List.mem_cons_of_mem _ hq)) (h.put (d := some p) (fun n e => by injection e with e; subst e; exact hp p (List.mem_cons_self ..)) v)
theorem argsF_args : ∀ (k : Nat) (vs : List PV) (i : Nat) (E : Env) (T : TE), vs.length ≤ k → i + k ≤ 512 → (∀ t, i ≤ t → E.get t = .undef) → Same E T → Same (argsEnv i vs ++ E) ((argsF (List.range' i k)).lay vs T) := by
 intro k
 induction k with
 | zero =>
  intro vs i E T h _ _ hs
  cases vs with
  | nil => exact hs
  | cons => simp at h
 | succ k ih =>
  intro vs i E T h hi hu hs
  cases vs with
  | nil => exact hs
  | cons v vs =>
   simp only [List.length_cons] at h
   simp only [argsEnv, List.range'_succ, argsF]
   have hput := hs.put (d := some i) (fun n e => by injection e with e; omega) v
   have := ih vs (i + 1) ((i, v) :: E) _ (by omega) (by omega) (fun t ht => by
    simp only [Env.get]
    rw [if_neg (by omega)]
    exact hu t (by omega)) hput
   intro t
   refine Eq.trans ?_ (this t)
   have ga : ∀ (l : List PV) (j : Nat) (E1 : Env), (argsEnv j l ++ E1).get t = if j ≤ t ∧ t < j + l.length then (l[t - j]?).getD .undef else E1.get t := by
    intro l
    induction l with
    | nil => intro j E1; simp [argsEnv]; intro a b; omega
    | cons x l ihl =>
     intro j E1
     simp only [argsEnv, List.cons_append, Env.get]
     by_cases e : j = t
     ·subst e; simp
     rw [if_neg e, ihl]
     by_cases e2 : j + 1 ≤ t ∧ t < j + 1 + l.length
     ·rw [if_pos e2, if_pos (by simp; omega), show t - j = (t - (j + 1)) + 1 by omega]
      simp
     rw [if_neg e2, if_neg (by simp; omega)]
   simp only [List.cons_append, Env.get]
   rw [ga, ga]
   simp only [Env.get]
   by_cases e : i = t
   ·subst e
    rw [if_pos rfl, if_neg (by omega), if_pos rfl]
   rw [if_neg e, if_neg e]
section
variable {P : Program} (hm : P.follows .mixedOrders = true)
include hm
theorem codeF_ok (A : Aid) (f N : Nat) {call : YF → CallT} (hcall : ∀ Yf Yr, YFOK Yf Yr → CallOK P Yr (call Yf)) : ∀ (c : Code) (n : Nat) (Yf : YF) (Yr : YEnv) (E : Env) (T : TE) (σ : Sg) (rd : Option Nat) (lo : Nat × Nat) (ex : Exit) (T' : TE) (σ' : Sg),
 YFOK Yf Yr → Same E T → (codeF P A f N c).run call n Yf T σ = some (ex, T', σ') → W P Yr N rd lo c E σ (Got ex T' σ') := by
 intro c
 induction c with
 | skip => intro n Yf Yr E T σ rd lo ex T' σ' hy hs h; injection h with h; injection h with h1 h2; injection h2 with h2 h3; subst h1 h2 h3; exact W_skip ⟨rfl, hs, rfl⟩
 | label l => intro n Yf Yr E T σ rd lo ex T' σ' hy hs h; injection h with h; injection h with h1 h2; injection h2 with h2 h3; subst h1 h2 h3; exact W_label ⟨rfl, hs, rfl⟩
 | exit id => intro n Yf Yr E T σ rd lo ex T' σ' hy hs h; injection h with h; injection h with h1 h2; injection h2 with h2 h3; subst h1 h2 h3; exact W_exit ⟨rfl, hs, rfl⟩
 | ret => intro n Yf Yr E T σ rd lo ex T' σ' hy hs h; injection h with h; injection h with h1 h2; injection h2 with h2 h3; subst h1 h2 h3; exact W_ret ⟨rfl, hs, rfl⟩
 | goto l => intro n Yf Yr E T σ rd lo ex T' σ' hy hs h; cases h
 | refuse s => intro n Yf Yr E T σ rd lo ex T' σ' hy hs h; cases h
 | region id ops d =>
  intro n Yf Yr E T σ rd lo ex T' σ' hy hs h
  have inv : ∀ {r : Option (TE × Sg)}, regF r = some (ex, T', σ') → r = some (T', σ') ∧ ex = .normal := by
   intro r h
   unfold regF at h
   split at h
   ·injection h with h; injection h with h1 h2; injection h2 with h2 h3; subst h1 h2 h3; exact ⟨rfl, rfl⟩
   cases h
  cases d with
  | false =>
   obtain ⟨h1, rfl⟩ := inv h
   exact W_ops (hcall Yf Yr hy) hy hs h1
  | true =>
   obtain ⟨h1, rfl⟩ := inv h
   exact W_drawn hm (hcall Yf Yr hy) hy hs h1
 | seq x y ihx ihy =>
  intro n Yf Yr E T σ rd lo ex T' σ' hy hs h
  refine W_seq fun K hK => ?_
  rcases thenF_inv h with ⟨T1, σ1, h1, h2⟩ | ⟨h1, h2⟩
  ·refine W_mono (ihx n Yf Yr E T σ rd lo _ _ _ hy hs h1) fun ex1 E1 σ2 hg => ?_
   obtain ⟨rfl, hs1, rfl⟩ := hg
   exact hK _ _ (ihy n Yf Yr E1 T1 σ2 rd lo _ _ _ hy hs1 h2)
  refine W_mono (ihx n Yf Yr E T σ rd lo _ _ _ hy hs h1) fun ex1 E1 σ2 hg => ?_
  obtain ⟨rfl, hs1, rfl⟩ := hg
  cases ex1 with
  | normal => exact absurd rfl h2
  | _ => exact ⟨rfl, hs1, rfl⟩
 | cond x a b iha ihb =>
  intro n Yf Yr E T σ rd lo ex T' σ' hy hs h
  have he := ev_opd (x := x) (T := T) (E := E) fun t _ => hs t
  simp only [codeF] at h
  split at h
  ·rename_i hv
   exact W_cond_true (he.trans hv) (iha n Yf Yr E T σ rd lo _ _ _ hy hs h)
  ·rename_i hv
   exact W_cond_false (he.trans hv) (ihb n Yf Yr E T σ rd lo _ _ _ hy hs h)
  cases h
 | loop c ih =>
  intro n Yf Yr E T σ rd lo ex T' σ' hy hs h
  refine W_loopK (fun k E1 σ1 => ∃ T1, Same E1 T1 ∧ loopF (codeF P A f N c) call k Yf T1 σ1 = some (ex, T', σ')) n ⟨T, hs, h⟩ fun k E1 σ1 hI => ?_
  obtain ⟨T1, hs1, h1⟩ := hI
  cases k with
  | zero => cases h1
  | succ k =>
   simp only [loopF] at h1
   rcases thenF_inv h1 with ⟨T2, σ2, h2, h3⟩ | ⟨h2, h3⟩
   ·refine W_mono (ih k Yf Yr E1 T1 σ1 rd lo _ _ _ hy hs1 h2) fun ex1 E2 σ3 hg => ?_
    obtain ⟨rfl, hs2, rfl⟩ := hg
    exact ⟨k, Nat.lt_succ_self k, T2, hs2, h3⟩
   refine W_mono (ih k Yf Yr E1 T1 σ1 rd lo _ _ _ hy hs1 h2) fun ex1 E2 σ3 hg => ?_
   obtain ⟨rfl, hs2, rfl⟩ := hg
   cases ex1 with
   | normal => exact absurd rfl h3
   | _ => exact ⟨rfl, hs2, rfl⟩
 | block id c ih =>
  intro n Yf Yr E T σ rd lo ex T' σ' hy hs h
  refine W_block ?_
  simp only [codeF, blockF] at h
  split at h
  ·rename_i id' T1 σ1 h1
   refine W_mono (ih n Yf Yr E T σ rd lo _ _ _ hy hs h1) fun ex1 E1 σ2 hg => ?_
   obtain ⟨rfl, hs1, rfl⟩ := hg
   simp only [InBlock]
   split at h
   ·rename_i hb
    rw [if_pos (beq_eq.1 hb)]
    injection h with h; injection h with h1 h2; injection h2 with h2 h3; subst h1 h2 h3
    exact ⟨rfl, hs1, rfl⟩
   rename_i hb
   rw [if_neg fun e => by rw [beq_eq.2 e] at hb; cases hb]
   injection h with h; injection h with h1 h2; injection h2 with h2 h3; subst h1 h2 h3
   exact ⟨rfl, hs1, rfl⟩
  rename_i hn
  refine W_mono (ih n Yf Yr E T σ rd lo _ _ _ hy hs h) fun ex1 E1 σ2 hg => ?_
  obtain ⟨rfl, hs1, rfl⟩ := hg
  cases ex1 with
  | exit id' => exact absurd h (hn id' _ _)
  | _ => exact ⟨rfl, hs1, rfl⟩
 | scope c ih =>
  intro n Yf Yr E T σ rd lo ex T' σ' hy hs h
  refine W_scope ?_
  simp only [codeF, scopeF] at h
  split at h
  ·cases h
  rename_i hn
  refine W_mono (ih n Yf Yr E T σ rd lo _ _ _ hy hs h) fun ex1 E1 σ2 hg => ?_
  obtain ⟨rfl, hs1, rfl⟩ := hg
  cases ex1 with
  | goto l => exact absurd h (hn l _ _)
  | _ => exact ⟨rfl, hs1, rfl⟩
 | rangeFunc g ps assign body iha ihb =>
  intro n Yf Yr E T σ rd lo ex T' σ' hy hs h
  simp only [codeF] at h
  split at h
  ·cases h
  rename_i hps
  simp only [List.all_eq_true, Bool.and_eq_true, ble_iff] at hps
  simp only at h
  split at h
  ·rename_i gf fs cs hg
   split at h
   ·rename_i v5 σ5 hcl
    have he : ev E g = .func (.func gf) fs cs := (ev_opd (x := g) (T := T) (E := E) fun t _ => hs t).trans hg
    let yf : List PV → Sg → Option (PV × Sg) := roundF ((codeF P A f N assign).run call n Yf) ((codeF P A f N body).run call n Yf) ps.toList T σ.ys.length
    let S : YSem := fun args σ2 b σ2' => yf args σ2 = some (.bool b, σ2')
    have hS : ∀ args σ2 b σ2', S args σ2 b σ2' → Round P Yr N ps.toList assign body E σ.ys.length args σ2 b σ2' := by
     intro args σ2 b σ2' hh
     have hh : roundF ((codeF P A f N assign).run call n Yf) ((codeF P A f N body).run call n Yf) ps.toList T σ.ys.length args σ2 = some (.bool b, σ2') := hh
     unfold roundF at hh
     split at hh
     ·cases hh
     rename_i hlen
     split at hh
     ·rename_i hready
      split at hh
      ·rename_i T3 σ3 hassign
       split at hh
       ·rename_i hready3
        split at hh
        ·rename_i ex4 T4 σ4 hbody
         split at hh
         ·rename_i hbusy
          refine ⟨beq_eq.1 hlen, hready, W_mono (iha n Yf Yr _ _ _ _ _ _ _ _ hy (argsF_put ps.toList args E T (fun p hp => (hps p hp).2) hs) hassign) fun ex1 E1 σ1 hgot => ?_⟩
          obtain ⟨rfl, hs1, rfl⟩ := hgot
          refine ⟨rfl, hready3, W_mono (ihb n Yf Yr _ _ _ _ _ _ _ _ hy hs1 hbody) fun ex1 E2 σ6 hgot => ?_⟩
          obtain ⟨rfl, hs2, rfl⟩ := hgot
          cases ex1 <;> simp only at hh <;> first
           | (cases hh; done)
           | (injection hh with hh; injection hh with h1 h2; injection h1 with h1; subst h1 h2; exact ⟨hbusy, rfl, rfl⟩)
         cases hh
        cases hh
       cases hh
      cases hh
     cases hh
    have hyf : YFOK (Yf.at σ.ys.length yf) (Yr.at σ.ys.length S) := by
     intro y args σ2 v σ2' hh
     unfold YF.at at hh
     split at hh
     ·rename_i he'
      have he' := beq_eq.1 he'
      subst he'
      rw [YEnv.at_self]
      have hb : ∃ b, v = .bool b := by
       have hh : roundF ((codeF P A f N assign).run call n Yf) ((codeF P A f N body).run call n Yf) ps.toList T σ.ys.length args σ2 = some (v, σ2') := hh
       unfold roundF at hh
       repeat' (split at hh)
       all_goals first
        | (cases hh; done)
        | (injection hh with hh; injection hh with h1 h2; exact ⟨_, h1.symm⟩)
      obtain ⟨b, rfl⟩ := hb
      exact ⟨b, rfl, hh⟩
     rename_i hne
     obtain ⟨b, e1, e2⟩ := hy y args σ2 v σ2' hh
     refine ⟨b, e1, ?_⟩
     unfold YEnv.at
     rw [if_neg fun e => by rw [beq_eq.2 e] at hne; cases hne]
     exact e2
    have hpc := hcall _ _ hyf gf (fs ++ [.yield σ.ys.length] ++ cs) σ.pushY v5 σ5 hcl
    have key : ∀ σ6, PC P (Yr.at σ.ys.length S) gf (fs ++ [.yield σ.ys.length] ++ cs) σ.pushY v5 σ6 → cleanS σ6.store.length σ6.rooms.length σ.ys.length σ6.store = true → afterF T σ.ys.length σ6 = some (ex, T', σ') → W P Yr N rd lo (.rangeFunc g ps assign body) E σ (Got ex T' σ') := by
     intro σ6 hpc hclean h
     have hcut : CleanCut σ6 σ6.store.length σ6.rooms.length σ.ys.length := cleanS_cut hclean fun id cs _ hc => List.mem_of_getElem? hc
     unfold afterF at h
     split at h
     ·rename_i hst
      injection h with h; injection h with h1 h2; injection h2 with h2 h3; subst h1 h2 h3
      exact W_rangeFunc he (fun t ht => (hps t ht).1) S hS hpc hst hcut ⟨rfl, hs, rfl⟩
     ·rename_i hst
      injection h with h; injection h with h1 h2; injection h2 with h2 h3; subst h1 h2 h3
      exact W_rangeFunc he (fun t ht => (hps t ht).1) S hS hpc hst hcut (W_ret ⟨rfl, hs, rfl⟩)
     ·rename_i id hst
      injection h with h; injection h with h1 h2; injection h2 with h2 h3; subst h1 h2 h3
      exact W_rangeFunc he (fun t ht => (hps t ht).1) S hS hpc hst hcut (W_exit ⟨rfl, hs, rfl⟩)
     cases h
    unfold afterD at h
    split at h
    ·rename_i hclean
     exact key _ hpc hclean h
    split at h
    ·rename_i hclean
     exact key _ (PC_drops hpc _) hclean h
    cases h
   cases h
  cases h
/-- What a run gives, the program gives. -/
theorem callK_ok (A : Aid) (ho : ∀ f args σ v σ', A.orc f args σ = some (v, σ') → ∀ Y, PC P Y f args σ v σ') : ∀ (n : Nat) (Yf : YF) (Yr : YEnv), YFOK Yf Yr → CallOK P Yr (callK P A n Yf) := by
 intro n
 induction n with
 | zero => intro Yf Yr _ f args σ v σ' h; cases h
 | succ n ih =>
  intro Yf Yr hy f args σ v σ' h
  simp only [callK] at h
  split at h
  ·rename_i r hr
   injection h with h
   subst h
   exact ho f args σ v σ' hr Yr
  unfold funF at h
  split at h
  ·cases h
  rename_i fn hfn
  split at h
  ·cases h
  rename_i c hb
  split at h
  ·cases h
  rename_i hgo
  simp only [Bool.and_eq_true, ble_iff] at hgo
  simp only at h
  split at h
  ·cases h
  rename_i hlen
  have hlen := ble_iff.1 hlen
  refine PC_of_W hfn hb hgo.1 rfl hlen fun _ _ => ?_
  have hargs : Same (argsEnv 0 args) ((argsF (List.range fn.ntmps)).lay args TE.leaf) := by
   have := argsF_args fn.ntmps args 0 [] TE.leaf hlen (by omega) (fun t _ => rfl) fun t => (get_leaf t).symm
   rw [List.append_nil, ← List.range_eq_range'] at this
   exact this
  have fin : ∀ ex T σ1, (codeF P A f fn.ntmps c).run (callK P A n) n Yf ((argsF (List.range fn.ntmps)).lay args TE.leaf) σ = some (ex, T, σ1) → (ex = .normal ∨ ex = .ret) → finT P (A.mode f 999) fn σ T σ1 = some (v, σ') →
   W P Yr fn.ntmps none (σ.store.length, σ.rooms.length) c (argsEnv 0 args) σ (fun ex E' σ2 => (ex = .normal ∨ ex = .ret) ∧ Fin P fn σ v σ' E' σ2) := by
   intro ex T σ1 hrun hex hfin
   refine W_mono (W_clean fn (codeF_ok hm A f fn.ntmps ih c n Yf Yr _ _ σ none _ ex T σ1 hy hargs hrun)) fun ex1 E1 σ2 hg => ?_
   obtain ⟨⟨rfl, hs1, rfl⟩, hcl, hcr⟩ := hg
   exact ⟨hex, finT_ok hs1 hfin hcl hcr⟩
  unfold endF at h
  split at h
  ·rename_i T σ1 hrun
   exact fin _ _ _ hrun (.inl rfl) h
  ·rename_i T σ1 hrun
   exact fin _ _ _ hrun (.inr rfl) h
  cases h
end
def isWhole : Sz → Bool
 | .whole _ => true
 | _ => false
/-- What is known for ever, all that there is taken for old. -/
def Ty.elder (Ψ : Ty) (n : Nat) : Ty := { base := n, imm := Ψ.imm, β := [], hist := fun _ _ => none, ys := [], ds := [], rs := [], sz := Ψ.sz.filter fun x => isWhole x.2 }
theorem SR.elder {Ψ : Ty} {σ : Sg} {w : World} (h : SR Ψ σ w) : SR (Ψ.elder w.heap.size) ⟨[], [], []⟩ w := by
 refine ⟨Nat.le_refl _, h.imm, rfl, fun id cs b h1 => ?_, fun id id' cs cs' b h1 => ?_, fun r n b e c es h1 => ?_, fun r n r' n' b e c es e' c' es' h1 => ?_, fun r n x h1 => ?_, fun r m n x h1 => ?_, fun id b h1 => ?_, fun y l d s h1 => ?_, ⟨rfl, fun y y' l r r' h1 => ?_⟩, fun d h1 => ?_, fun b c h1 => ?_, fun b s h1 => ?_⟩
 ·simp at h1
 ·simp at h1
 ·simp at h1
 ·simp at h1
 ·cases h1
 ·cases h1
 ·simp [Ty.elder] at h1
 ·simp [Ty.elder] at h1
 ·simp [Ty.elder] at h1
 ·cases h1
 ·cases h1
 obtain ⟨h2, h3⟩ := List.mem_filter.1 h1
 have h4 := h.szok b s h2
 cases s with
 | whole c =>
  obtain ⟨k1, k2⟩ := h4
  exact ⟨Nat.lt_of_lt_of_le k1 h.base, k2⟩
 | n k => cases h3
 | ty t k => cases h3
theorem GOK.elder {P : Program} {Ψ : Ty} (h : GOK P Ψ) (n : Nat) : GOK P (Ψ.elder n) :=
 ⟨fun g k => List.mem_filter.2 ⟨h.tab g k, rfl⟩, fun g k => h.max g k, fun q m hm g k => h.err q m hm g k⟩
theorem PC.frame {P : Program} {f : FuncId} {v : PV} {σ0 : Sg} (hv : ∀ Ψ Ψ' x, VR Ψ v x → VR Ψ' v x) (h : PC P noY f [] ⟨[], [], []⟩ v σ0) (Y : YEnv) (σ : Sg) : PC P Y f [] σ v σ := by
 refine ⟨h.1, fun Ψ vals w hs ha hy => ?_⟩
 have hv0 : vals = #[] := Array.eq_empty_of_size_eq_zero ha.1
 subst hv0
 refine CallsIn.mono (h.2 (Ψ.elder w.heap.size) #[] w hs.elder (VRs.nil _) (.none (hy.1.elder _))) ?_
 rintro e w' ⟨x, Ψ', rfl, _, _, hx, hb⟩
 refine ⟨x, Ψ, rfl, Ty.le.refl _, hs.more (fun k hk => hb.block k hk) hb.size, hv _ _ _ hx, ?_⟩
 exact ⟨hb.os, hb.tape, hb.output, hb.size, fun k hk => hb.block k (Nat.lt_of_lt_of_le hk hs.base)⟩
theorem bool_any {b : Bool} : ∀ (Ψ Ψ' : Ty) (x : Value), VR Ψ (.bool b) x → VR Ψ' (.bool b) x := fun Ψ Ψ' x h => by rw [h.bool_inv]; exact .bool b
abbrev PlanT := List (Nat × List Nat × List (Nat × Nat) × List (List Nat))
def planOf : PlanT → Nat → List Nat × List (Nat × Nat) × List (List Nat)
 | [], _ => ([], [], [])
 | (k, x) :: r, i => cond (Nat.beq k i) x (planOf r i)
/-- Plans listed by function and region. -/
def modeAt : List (Nat × Nat) → Nat → Nat
 | [], _ => 0
 | (k, m) :: r, i => cond (Nat.beq k i) m (modeAt r i)
def aidOf (l : PlanT) (o : Orc) (ms : List (Nat × Nat) := []) : Aid := ⟨fun f id => planOf l (f * 1000 + id), o, fun f d => modeAt ms (f * 1000 + d)⟩
def noYF : YF := fun _ _ _ => none
def saysTrue : Option (PV × Sg) → Bool
 | some (.bool true, _) => true
 | _ => false
/-- A call of no arguments that, run, says true. -/
theorem PC_run {P : Program} (hm : P.follows .mixedOrders = true) {A : Aid} (ho : ∀ f args σ v σ', A.orc f args σ = some (v, σ') → ∀ Y, PC P Y f args σ v σ') {n : Nat} {f : FuncId} (h : saysTrue (callK P A n noYF f [] ⟨[], [], []⟩) = true) (Y : YEnv) (σ : Sg) : PC P Y f [] σ (.bool true) σ := by
 unfold saysTrue at h
 split at h
 ·rename_i σ0 hr
  exact PC.frame bool_any (callK_ok hm A ho n noYF noY (fun y args σ v σ' h => by cases h) f [] _ _ _ hr) Y σ
 cases h
set_option maxRecDepth 1000000
def planT : PlanT := [(3002, [0, 1, 2, 3, 4, 5, 6, 7, 8, 9, 10, 11], [(2, 9), (3, 9)], [[], [0], [], [2], [1, 0], [4, 0, 1], [5, 0, 1, 4], [3, 0, 1, 2, 4, 5, 6], [7, 0, 1, 2, 3, 4, 5, 6], [8, 6, 0, 1, 2, 3, 4, 5, 7], [0, 1, 2, 3, 4, 5, 6, 7, 8, 9], [10, 9, 0, 1, 2, 3, 4, 5, 6, 7, 8]]), (13005, [0, 1, 2, 3, 4, 5, 6, 7, 8, 9], [], [[], [], [0, 1], [2, 0, 1], [], [], [4, 5], [6, 4, 5], [3, 7, 2, 0, 1, 6, 4, 5], [8, 0, 1, 2, 3, 4, 5, 6, 7]]), (14005, [0, 1, 2, 3, 4, 5, 6, 7, 8, 9], [], [[], [], [0, 1], [2, 0, 1], [], [], [4, 5], [6, 4, 5], [3, 7, 2, 0, 1, 6, 4, 5], [8, 0, 1, 2, 3, 4, 5, 6, 7]]), (19006, [0, 1, 2, 3, 4, 5, 6, 7, 8], [], [[], [], [0, 1], [2, 0, 1], [], [], [4, 5], [6, 4, 5], [3, 7, 2, 0, 1, 6, 4, 5]]), (23006, [0, 1, 2, 3, 4, 5, 6, 7, 8, 9], [], [[], [], [0, 1], [2, 0, 1], [], [], [4, 5], [6, 4, 5], [3, 7, 2, 0, 1, 6, 4, 5], [8, 3, 7, 2, 0, 1, 6, 4, 5]]), (46004, [0, 1, 2, 3, 4, 5, 6, 7, 8, 9, 10, 11, 12, 13, 14, 15, 16, 17, 18, 19], [], [[], [], [0, 1], [2, 0, 1], [3, 2, 0, 1], [3, 2, 0, 1], [4, 5, 3, 2, 0, 1], [6, 3, 4, 5, 2, 0, 1], [3, 2, 0, 1], [7, 8, 3, 6, 4, 5, 2, 0, 1], [9, 3, 7, 8, 6, 4, 5, 2, 0, 1], [3, 2, 0, 1], [3, 2, 0, 1], [11, 12, 3, 2, 0, 1], [13, 3, 11, 12, 2, 0, 1], [3, 2, 0, 1], [14, 15, 3, 13, 11, 12, 2, 0, 1], [16, 3, 14, 15, 13, 11, 12, 2, 0, 1], [10, 17, 3, 9, 7, 8, 6, 4, 5, 2, 0, 1, 16, 14, 15, 13, 11, 12], [3, 18, 2, 0, 1, 10, 17, 9, 7, 8, 6, 4, 5, 16, 14, 15, 13, 11, 12]])]
theorem mixedV : Tryz.prog.follows .mixedOrders = true := by kernel_rfl
theorem cells3 : Tryz.prog.cellsOf 3 = 1 := by kernel_rfl
theorem bytes3 : Tryz.prog.bytesOf 3 = 8 := by kernel_rfl
theorem zero3 : zeroPV Tryz.prog 3 = some [.int .i64 0] := by kernel_rfl
theorem cells4 : Tryz.prog.cellsOf 4 = 1 := by kernel_rfl
theorem bytes4 : Tryz.prog.bytesOf 4 = 1 := by kernel_rfl
theorem zero4 : zeroPV Tryz.prog 4 = some [.bool false] := by kernel_rfl
theorem cells5 : Tryz.prog.cellsOf 5 = 1 := by kernel_rfl
theorem bytes5 : Tryz.prog.bytesOf 5 = 1 := by kernel_rfl
theorem zero5 : zeroPV Tryz.prog 5 = some [.int .u8 0] := by kernel_rfl
theorem cells9 : Tryz.prog.cellsOf 9 = 1 := by kernel_rfl
theorem cells22 : Tryz.prog.cellsOf 22 = 1 := by kernel_rfl
theorem cells24 : Tryz.prog.cellsOf 24 = 5 := by kernel_rfl
theorem zero24 : zeroPV Tryz.prog 24 = some [.int .i64 0, .int .i64 0, .int .i64 0, .int .i64 0, .isl [] .exact] := by kernel_rfl
theorem cells27 : Tryz.prog.cellsOf 27 = 3 := by kernel_rfl
theorem zero27 : zeroPV Tryz.prog 27 = some [.int .i64 0, .int .i64 0, .int .i64 0] := by kernel_rfl
theorem cells31 : Tryz.prog.cellsOf 31 = 6 := by kernel_rfl
theorem zero31 : zeroPV Tryz.prog 31 = some [.int .i64 0, .int .i64 0, .int .i64 0, .int .i64 0, .int .i64 0, .int .i64 0] := by kernel_rfl
theorem cells42 : Tryz.prog.cellsOf 42 = 1 := by kernel_rfl
theorem zero42 : zeroPV Tryz.prog 42 = some [.isl [] .exact] := by kernel_rfl
theorem cells44 : Tryz.prog.cellsOf 44 = 5 := by kernel_rfl
theorem bytes44 : Tryz.prog.bytesOf 44 = 120 := by kernel_rfl
theorem zero44 : zeroPV Tryz.prog 44 = some [.isl [] .exact, .isl [] .exact, .isl [] .exact, .isl [] .exact, .isl [] .exact] := by kernel_rfl
theorem cells81 : Tryz.prog.cellsOf 81 = 8 := by kernel_rfl
theorem zero81 : zeroPV Tryz.prog 81 = some [.int .i64 0, .int .i64 0, .int .i64 0, .int .i64 0, .int .i64 0, .int .i64 0, .int .i64 0, .int .i64 0] := by kernel_rfl
theorem cells83 : Tryz.prog.cellsOf 83 = 16 := by kernel_rfl
theorem cells84 : Tryz.prog.cellsOf 84 = 1 := by kernel_rfl
theorem cells86 : Tryz.prog.cellsOf 86 = 21 := by kernel_rfl
theorem bytes86 : Tryz.prog.bytesOf 86 = 184 := by kernel_rfl
theorem zero86 : zeroPV Tryz.prog 86 = some [.int .i64 0, .int .i64 0, .int .i64 0, .isl [] .exact, .int .i64 0, .int .i64 0, .int .i64 0, .int .i64 0, .int .i64 0, .int .i64 0, .int .i64 0, .int .i64 0, .int .i64 0, .int .i64 0, .int .i64 0, .int .i64 0, .int .i64 0, .int .i64 0, .int .i64 0, .int .i64 0, .nilmap] := by kernel_rfl
theorem cells89 : Tryz.prog.cellsOf 89 = 3 := by kernel_rfl
theorem zero89 : zeroPV Tryz.prog 89 = some [.int .i64 0, .int .i64 0, .int .i64 0] := by kernel_rfl
theorem cells99 : Tryz.prog.cellsOf 99 = 1 := by kernel_rfl
theorem zero123 : zeroPV Tryz.prog 123 = some [.bool false, .bool false, .bool false, .bool false, .bool false, .bool false, .bool false, .bool false] := by kernel_rfl
theorem cells126 : Tryz.prog.cellsOf 126 = 1 := by kernel_rfl
theorem zero126 : zeroPV Tryz.prog 126 = some [.nilfunc] := by kernel_rfl
theorem cells131 : Tryz.prog.cellsOf 131 = 4 := by kernel_rfl
theorem bytes131 : Tryz.prog.bytesOf 131 = 32 := by kernel_rfl
theorem zero131 : zeroPV Tryz.prog 131 = some [.int .i64 0, .int .i64 0, .int .i64 0, .int .i64 0] := by kernel_rfl
set_option maxRecDepth 100000
theorem lda3 {σ : Sg} {id off : Nat} : loadPV Tryz.prog σ 3 (.ptr id off) = ldS σ id off := ldS_of Tryz.underlying3 rfl
theorem ela3 {σ : Sg} {es i off : Nat} {l : List PV} : loadPV Tryz.prog σ 3 (.eptr es l i off) = elS l i off := elS_of Tryz.underlying3 rfl
theorem sto3 {σ : Sg} {id off : Nat} {p : PV} : storePV Tryz.prog σ 3 (.ptr id off) p = stX 1 σ id off p := stX_of Tryz.underlying3 cells3 p
theorem lda4 {σ : Sg} {id off : Nat} : loadPV Tryz.prog σ 4 (.ptr id off) = ldS σ id off := ldS_of Tryz.underlying4 rfl
theorem sto4 {σ : Sg} {id off : Nat} {p : PV} : storePV Tryz.prog σ 4 (.ptr id off) p = stX 1 σ id off p := stX_of Tryz.underlying4 cells4 p
theorem lda22 {σ : Sg} {id off : Nat} : loadPV Tryz.prog σ 22 (.ptr id off) = ldS σ id off := ldS_of Tryz.underlying22 rfl
theorem ia22 {l : List PV} {own : Own} {k : IntKind} {i : Int} : indexAddrPV Tryz.prog 22 (.isl l own) (.int k i) = iaX 3 l i := iaX_of Tryz.underlying22 Tryz.underlying27 cells27 k i
theorem len22 {l : List PV} {own : Own} : lenPV Tryz.prog 22 (.isl l own) = some (.int .i64 l.length) := len_of Tryz.underlying22
theorem bs22 {len : Nat} {parts : List (Nat × PV)} : buildSlicePV Tryz.prog 22 len parts = bsX 3 len parts := bsX_of Tryz.underlying22 Tryz.underlying27 cells27 zero27 len parts
theorem lda24 {σ : Sg} {id off : Nat} : loadPV Tryz.prog σ 24 (.ptr id off) = ldA 5 σ id off := ldA_of Tryz.underlying24 rfl cells24
theorem sto24 {σ : Sg} {id off : Nat} {p : PV} : storePV Tryz.prog σ 24 (.ptr id off) p = stX 5 σ id off p := stX_of Tryz.underlying24 cells24 p
theorem fa24_0 {id off : Nat} : fieldAddrPV Tryz.prog 24 (.ptr id off) 0 = some (.ptr id (off + 0)) := fa1_of Tryz.underlying24 (by rfl) (by exact Tryz.underlying3) (by exact cells3) (by rfl) (by rfl)
theorem fa24_1 {id off : Nat} : fieldAddrPV Tryz.prog 24 (.ptr id off) 1 = some (.ptr id (off + 1)) := fa1_of Tryz.underlying24 (by rfl) (by exact Tryz.underlying3) (by exact cells3) (by rfl) (by rfl)
theorem fa24_2 {id off : Nat} : fieldAddrPV Tryz.prog 24 (.ptr id off) 2 = some (.ptr id (off + 2)) := fa1_of Tryz.underlying24 (by rfl) (by exact Tryz.underlying3) (by exact cells3) (by rfl) (by rfl)
theorem fa24_3 {id off : Nat} : fieldAddrPV Tryz.prog 24 (.ptr id off) 3 = some (.ptr id (off + 3)) := fa1_of Tryz.underlying24 (by rfl) (by exact Tryz.underlying3) (by exact cells3) (by rfl) (by rfl)
theorem fa24_4 {id off : Nat} : fieldAddrPV Tryz.prog 24 (.ptr id off) 4 = some (.ptr id (off + 4)) := fa1_of Tryz.underlying24 (by rfl) (by exact Tryz.underlying22) (by exact cells22) (by rfl) (by rfl)
theorem bld24 {parts : List (Nat × PV)} : buildPV Tryz.prog 24 parts = bldX [.int .i64 0, .int .i64 0, .int .i64 0, .int .i64 0, .isl [] .exact] [(0, 1), (1, 1), (2, 1), (3, 1), (4, 1)] parts := bldX_of zero24 Tryz.underlying24 (by kernel_rfl) (by kernel_rfl) parts
theorem lda27 {σ : Sg} {id off : Nat} : loadPV Tryz.prog σ 27 (.ptr id off) = ldA 3 σ id off := ldA_of Tryz.underlying27 rfl cells27
theorem ela27 {σ : Sg} {es i off : Nat} {l : List PV} : loadPV Tryz.prog σ 27 (.eptr es l i off) = elA 3 l i off := elA_of Tryz.underlying27 rfl cells27
theorem sto27 {σ : Sg} {id off : Nat} {p : PV} : storePV Tryz.prog σ 27 (.ptr id off) p = stX 3 σ id off p := stX_of Tryz.underlying27 cells27 p
theorem fa27_0 {id off : Nat} : fieldAddrPV Tryz.prog 27 (.ptr id off) 0 = some (.ptr id (off + 0)) := fa1_of Tryz.underlying27 (by rfl) (by exact Tryz.underlying3) (by exact cells3) (by rfl) (by rfl)
theorem fa27_1 {id off : Nat} : fieldAddrPV Tryz.prog 27 (.ptr id off) 1 = some (.ptr id (off + 1)) := fa1_of Tryz.underlying27 (by rfl) (by exact Tryz.underlying3) (by exact cells3) (by rfl) (by rfl)
theorem fa27_2 {id off : Nat} : fieldAddrPV Tryz.prog 27 (.ptr id off) 2 = some (.ptr id (off + 2)) := fa1_of Tryz.underlying27 (by rfl) (by exact Tryz.underlying3) (by exact cells3) (by rfl) (by rfl)
theorem bld27 {parts : List (Nat × PV)} : buildPV Tryz.prog 27 parts = bldX [.int .i64 0, .int .i64 0, .int .i64 0] [(0, 1), (1, 1), (2, 1)] parts := bldX_of zero27 Tryz.underlying27 (by kernel_rfl) (by kernel_rfl) parts
theorem ia28 {l : List PV} {own : Own} {k : IntKind} {i : Int} : indexAddrPV Tryz.prog 28 (.isl l own) (.int k i) = iaX 6 l i := iaX_of Tryz.underlying28 Tryz.underlying31 cells31 k i
theorem len28 {l : List PV} {own : Own} : lenPV Tryz.prog 28 (.isl l own) = some (.int .i64 l.length) := len_of Tryz.underlying28
theorem bs28 {len : Nat} {parts : List (Nat × PV)} : buildSlicePV Tryz.prog 28 len parts = bsX 6 len parts := bsX_of Tryz.underlying28 Tryz.underlying31 cells31 zero31 len parts
theorem lda31 {σ : Sg} {id off : Nat} : loadPV Tryz.prog σ 31 (.ptr id off) = ldA 6 σ id off := ldA_of Tryz.underlying31 rfl cells31
theorem ela31 {σ : Sg} {es i off : Nat} {l : List PV} : loadPV Tryz.prog σ 31 (.eptr es l i off) = elA 6 l i off := elA_of Tryz.underlying31 rfl cells31
theorem sto31 {σ : Sg} {id off : Nat} {p : PV} : storePV Tryz.prog σ 31 (.ptr id off) p = stX 6 σ id off p := stX_of Tryz.underlying31 cells31 p
theorem fa31_0 {id off : Nat} : fieldAddrPV Tryz.prog 31 (.ptr id off) 0 = some (.ptr id (off + 0)) := fa1_of Tryz.underlying31 (by rfl) (by exact Tryz.underlying3) (by exact cells3) (by rfl) (by rfl)
theorem fae31_0 {es i off : Nat} {l : List PV} : fieldAddrPV Tryz.prog 31 (.eptr es l i off) 0 = some (.eptr es l i (off + 0)) := fa2_of Tryz.underlying31 (by rfl) (by exact Tryz.underlying3) (by exact cells3) (by rfl) (by rfl)
theorem fa31_1 {id off : Nat} : fieldAddrPV Tryz.prog 31 (.ptr id off) 1 = some (.ptr id (off + 1)) := fa1_of Tryz.underlying31 (by rfl) (by exact Tryz.underlying3) (by exact cells3) (by rfl) (by rfl)
theorem fa31_2 {id off : Nat} : fieldAddrPV Tryz.prog 31 (.ptr id off) 2 = some (.ptr id (off + 2)) := fa1_of Tryz.underlying31 (by rfl) (by exact Tryz.underlying3) (by exact cells3) (by rfl) (by rfl)
theorem fa31_3 {id off : Nat} : fieldAddrPV Tryz.prog 31 (.ptr id off) 3 = some (.ptr id (off + 3)) := fa1_of Tryz.underlying31 (by rfl) (by exact Tryz.underlying3) (by exact cells3) (by rfl) (by rfl)
theorem fa31_4 {id off : Nat} : fieldAddrPV Tryz.prog 31 (.ptr id off) 4 = some (.ptr id (off + 4)) := fa1_of Tryz.underlying31 (by rfl) (by exact Tryz.underlying3) (by exact cells3) (by rfl) (by rfl)
theorem fa31_5 {id off : Nat} : fieldAddrPV Tryz.prog 31 (.ptr id off) 5 = some (.ptr id (off + 5)) := fa1_of Tryz.underlying31 (by rfl) (by exact Tryz.underlying3) (by exact cells3) (by rfl) (by rfl)
theorem bld31 {parts : List (Nat × PV)} : buildPV Tryz.prog 31 parts = bldX [.int .i64 0, .int .i64 0, .int .i64 0, .int .i64 0, .int .i64 0, .int .i64 0] [(0, 1), (1, 1), (2, 1), (3, 1), (4, 1), (5, 1)] parts := bldX_of zero31 Tryz.underlying31 (by kernel_rfl) (by kernel_rfl) parts
theorem ia36 {l : List PV} {own : Own} {k : IntKind} {i : Int} : indexAddrPV Tryz.prog 36 (.isl l own) (.int k i) = iaX 5 l i := iaX_of Tryz.underlying36 Tryz.underlying44 cells44 k i
theorem len36 {l : List PV} {own : Own} : lenPV Tryz.prog 36 (.isl l own) = some (.int .i64 l.length) := len_of Tryz.underlying36
theorem bs36 {len : Nat} {parts : List (Nat × PV)} : buildSlicePV Tryz.prog 36 len parts = bsX 5 len parts := bsX_of Tryz.underlying36 Tryz.underlying44 cells44 zero44 len parts
theorem app36 {σ : Sg} {l m : List PV} {own own' : Own} : appendPV Tryz.prog σ 36 36 (.isl l own) (.isl m own') = appX 5 120 σ l own m := appX_of Tryz.underlying36 Tryz.underlying44 cells44 bytes44 (by decide) (by decide) zero44 rfl
theorem iam39 {id off len : Nat} {k : IntKind} {i : Int} : indexAddrPV Tryz.prog 39 (.msl id off len) (.int k i) = iaM 1 id off len i := iaM_of Tryz.underlying39 Tryz.underlying4 cells4 k len i
theorem lenm39 {id off n : Nat} : lenPV Tryz.prog 39 (.msl id off n) = some (.int .i64 n) := lenM_of Tryz.underlying39 n
theorem lda42 {σ : Sg} {id off : Nat} : loadPV Tryz.prog σ 42 (.ptr id off) = ldS σ id off := ldS_of Tryz.underlying42 rfl
theorem ela42 {σ : Sg} {es i off : Nat} {l : List PV} : loadPV Tryz.prog σ 42 (.eptr es l i off) = elS l i off := elS_of Tryz.underlying42 rfl
theorem sto42 {σ : Sg} {id off : Nat} {p : PV} : storePV Tryz.prog σ 42 (.ptr id off) p = stX 1 σ id off p := stX_of Tryz.underlying42 cells42 p
theorem ia42 {l : List PV} {own : Own} {k : IntKind} {i : Int} : indexAddrPV Tryz.prog 42 (.isl l own) (.int k i) = iaX 1 l i := iaX_of Tryz.underlying42 Tryz.underlying3 cells3 k i
theorem len42 {l : List PV} {own : Own} : lenPV Tryz.prog 42 (.isl l own) = some (.int .i64 l.length) := len_of Tryz.underlying42
theorem bs42 {len : Nat} {parts : List (Nat × PV)} : buildSlicePV Tryz.prog 42 len parts = bsX 1 len parts := bsX_of Tryz.underlying42 Tryz.underlying3 cells3 zero3 len parts
theorem app42 {σ : Sg} {l m : List PV} {own own' : Own} : appendPV Tryz.prog σ 42 42 (.isl l own) (.isl m own') = appX 1 8 σ l own m := appX_of Tryz.underlying42 Tryz.underlying3 cells3 bytes3 (by decide) (by decide) zero3 rfl
theorem lda44 {σ : Sg} {id off : Nat} : loadPV Tryz.prog σ 44 (.ptr id off) = ldA 5 σ id off := ldA_of Tryz.underlying44 rfl cells44
theorem sto44 {σ : Sg} {id off : Nat} {p : PV} : storePV Tryz.prog σ 44 (.ptr id off) p = stX 5 σ id off p := stX_of Tryz.underlying44 cells44 p
theorem fa44_0 {id off : Nat} : fieldAddrPV Tryz.prog 44 (.ptr id off) 0 = some (.ptr id (off + 0)) := fa1_of Tryz.underlying44 (by rfl) (by exact Tryz.underlying42) (by exact cells42) (by rfl) (by rfl)
theorem fa44_1 {id off : Nat} : fieldAddrPV Tryz.prog 44 (.ptr id off) 1 = some (.ptr id (off + 1)) := fa1_of Tryz.underlying44 (by rfl) (by exact Tryz.underlying42) (by exact cells42) (by rfl) (by rfl)
theorem fa44_2 {id off : Nat} : fieldAddrPV Tryz.prog 44 (.ptr id off) 2 = some (.ptr id (off + 2)) := fa1_of Tryz.underlying44 (by rfl) (by exact Tryz.underlying42) (by exact cells42) (by rfl) (by rfl)
theorem fa44_3 {id off : Nat} : fieldAddrPV Tryz.prog 44 (.ptr id off) 3 = some (.ptr id (off + 3)) := fa1_of Tryz.underlying44 (by rfl) (by exact Tryz.underlying42) (by exact cells42) (by rfl) (by rfl)
theorem fae44_3 {es i off : Nat} {l : List PV} : fieldAddrPV Tryz.prog 44 (.eptr es l i off) 3 = some (.eptr es l i (off + 3)) := fa2_of Tryz.underlying44 (by rfl) (by exact Tryz.underlying42) (by exact cells42) (by rfl) (by rfl)
theorem fa44_4 {id off : Nat} : fieldAddrPV Tryz.prog 44 (.ptr id off) 4 = some (.ptr id (off + 4)) := fa1_of Tryz.underlying44 (by rfl) (by exact Tryz.underlying42) (by exact cells42) (by rfl) (by rfl)
theorem fae44_4 {es i off : Nat} {l : List PV} : fieldAddrPV Tryz.prog 44 (.eptr es l i off) 4 = some (.eptr es l i (off + 4)) := fa2_of Tryz.underlying44 (by rfl) (by exact Tryz.underlying42) (by exact cells42) (by rfl) (by rfl)
theorem fp44_4 {cs : List PV} : fieldPV Tryz.prog 44 (.agg cs) 4 = cs[4]? := fpS_of Tryz.underlying44 (by rfl) (by exact Tryz.underlying42) (by rfl) (by rfl) cs
theorem ia52 {l : List PV} {own : Own} {k : IntKind} {i : Int} : indexAddrPV Tryz.prog 52 (.isl l own) (.int k i) = iaX 1 l i := iaX_of Tryz.underlying52 Tryz.underlying42 cells42 k i
theorem len52 {l : List PV} {own : Own} : lenPV Tryz.prog 52 (.isl l own) = some (.int .i64 l.length) := len_of Tryz.underlying52
theorem bs52 {len : Nat} {parts : List (Nat × PV)} : buildSlicePV Tryz.prog 52 len parts = bsX 1 len parts := bsX_of Tryz.underlying52 Tryz.underlying42 cells42 zero42 len parts
theorem ia79 {l : List PV} {own : Own} {k : IntKind} {i : Int} : indexAddrPV Tryz.prog 79 (.isl l own) (.int k i) = iaX 21 l i := iaX_of Tryz.underlying79 Tryz.underlying86 cells86 k i
theorem len79 {l : List PV} {own : Own} : lenPV Tryz.prog 79 (.isl l own) = some (.int .i64 l.length) := len_of Tryz.underlying79
theorem bs79 {len : Nat} {parts : List (Nat × PV)} : buildSlicePV Tryz.prog 79 len parts = bsX 21 len parts := bsX_of Tryz.underlying79 Tryz.underlying86 cells86 zero86 len parts
theorem app79 {σ : Sg} {l m : List PV} {own own' : Own} : appendPV Tryz.prog σ 79 79 (.isl l own) (.isl m own') = appX 21 184 σ l own m := appX_of Tryz.underlying79 Tryz.underlying86 cells86 bytes86 (by decide) (by decide) zero86 rfl
theorem iar81 {id off : Nat} {k : IntKind} {i : Int} : indexAddrPV Tryz.prog 81 (.ptr id off) (.int k i) = iaM 1 id off 8 i := iaA_of Tryz.underlying81 Tryz.underlying3 cells3 k i
theorem fa83_0 {id off : Nat} : fieldAddrPV Tryz.prog 83 (.ptr id off) 0 = some (.ptr id (off + 0)) := fa1_of Tryz.underlying83 (by rfl) (by exact Tryz.underlying81) (by exact cells81) (by rfl) (by rfl)
theorem fa83_1 {id off : Nat} : fieldAddrPV Tryz.prog 83 (.ptr id off) 1 = some (.ptr id (off + 8)) := fa1_of Tryz.underlying83 (by rfl) (by exact Tryz.underlying81) (by exact cells81) (by rfl) (by rfl)
theorem lda84 {σ : Sg} {id off : Nat} : loadPV Tryz.prog σ 84 (.ptr id off) = ldS σ id off := ldS_of Tryz.underlying84 rfl
theorem lda86 {σ : Sg} {id off : Nat} : loadPV Tryz.prog σ 86 (.ptr id off) = ldA 21 σ id off := ldA_of Tryz.underlying86 rfl cells86
theorem ela86 {σ : Sg} {es i off : Nat} {l : List PV} : loadPV Tryz.prog σ 86 (.eptr es l i off) = elA 21 l i off := elA_of Tryz.underlying86 rfl cells86
theorem sto86 {σ : Sg} {id off : Nat} {p : PV} : storePV Tryz.prog σ 86 (.ptr id off) p = stX 21 σ id off p := stX_of Tryz.underlying86 cells86 p
theorem fa86_0 {id off : Nat} : fieldAddrPV Tryz.prog 86 (.ptr id off) 0 = some (.ptr id (off + 0)) := fa1_of Tryz.underlying86 (by rfl) (by exact Tryz.underlying27) (by exact cells27) (by rfl) (by rfl)
theorem fa86_1 {id off : Nat} : fieldAddrPV Tryz.prog 86 (.ptr id off) 1 = some (.ptr id (off + 3)) := fa1_of Tryz.underlying86 (by rfl) (by exact Tryz.underlying42) (by exact cells42) (by rfl) (by rfl)
theorem fa86_2 {id off : Nat} : fieldAddrPV Tryz.prog 86 (.ptr id off) 2 = some (.ptr id (off + 4)) := fa1_of Tryz.underlying86 (by rfl) (by exact Tryz.underlying83) (by exact cells83) (by rfl) (by rfl)
theorem fa86_3 {id off : Nat} : fieldAddrPV Tryz.prog 86 (.ptr id off) 3 = some (.ptr id (off + 20)) := fa1_of Tryz.underlying86 (by rfl) (by exact Tryz.underlying84) (by exact cells84) (by rfl) (by rfl)
theorem bld86 {parts : List (Nat × PV)} : buildPV Tryz.prog 86 parts = bldX [.int .i64 0, .int .i64 0, .int .i64 0, .isl [] .exact, .int .i64 0, .int .i64 0, .int .i64 0, .int .i64 0, .int .i64 0, .int .i64 0, .int .i64 0, .int .i64 0, .int .i64 0, .int .i64 0, .int .i64 0, .int .i64 0, .int .i64 0, .int .i64 0, .int .i64 0, .int .i64 0, .nilmap] [(0, 3), (3, 1), (4, 16), (20, 1)] parts := bldX_of zero86 Tryz.underlying86 (by kernel_rfl) (by kernel_rfl) parts
theorem lda89 {σ : Sg} {id off : Nat} : loadPV Tryz.prog σ 89 (.ptr id off) = ldA 3 σ id off := ldA_of Tryz.underlying89 rfl cells89
theorem sto89 {σ : Sg} {id off : Nat} {p : PV} : storePV Tryz.prog σ 89 (.ptr id off) p = stX 3 σ id off p := stX_of Tryz.underlying89 cells89 p
theorem fa89_0 {id off : Nat} : fieldAddrPV Tryz.prog 89 (.ptr id off) 0 = some (.ptr id (off + 0)) := fa1_of Tryz.underlying89 (by rfl) (by exact Tryz.underlying3) (by exact cells3) (by rfl) (by rfl)
theorem fa89_2 {id off : Nat} : fieldAddrPV Tryz.prog 89 (.ptr id off) 2 = some (.ptr id (off + 2)) := fa1_of Tryz.underlying89 (by rfl) (by exact Tryz.underlying3) (by exact cells3) (by rfl) (by rfl)
theorem bld89 {parts : List (Nat × PV)} : buildPV Tryz.prog 89 parts = bldX [.int .i64 0, .int .i64 0, .int .i64 0] [(0, 1), (1, 1), (2, 1)] parts := bldX_of zero89 Tryz.underlying89 (by kernel_rfl) (by kernel_rfl) parts
theorem lda99 {σ : Sg} {id off : Nat} : loadPV Tryz.prog σ 99 (.ptr id off) = ldS σ id off := ldS_of Tryz.underlying99 rfl
theorem sto99 {σ : Sg} {id off : Nat} {p : PV} : storePV Tryz.prog σ 99 (.ptr id off) p = stX 1 σ id off p := stX_of Tryz.underlying99 cells99 p
theorem bs99 {len : Nat} {parts : List (Nat × PV)} : buildSlicePV Tryz.prog 99 len parts = bsX 1 len parts := bsX_of Tryz.underlying99 Tryz.underlying5 cells5 zero5 len parts
theorem app99 {σ : Sg} {l m : List PV} {own own' : Own} : appendPV Tryz.prog σ 99 99 (.isl l own) (.isl m own') = appX 1 1 σ l own m := appX_of Tryz.underlying99 Tryz.underlying5 cells5 bytes5 (by decide) (by decide) zero5 rfl
theorem fa101_1 {id off : Nat} : fieldAddrPV Tryz.prog 101 (.ptr id off) 1 = some (.ptr id (off + 1)) := fa1_of Tryz.underlying101 (by rfl) (by exact Tryz.underlying99) (by exact cells99) (by rfl) (by rfl)
theorem iar123 {id off : Nat} {k : IntKind} {i : Int} : indexAddrPV Tryz.prog 123 (.ptr id off) (.int k i) = iaM 1 id off 8 i := iaA_of Tryz.underlying123 Tryz.underlying4 cells4 k i
theorem ela126 {σ : Sg} {es i off : Nat} {l : List PV} : loadPV Tryz.prog σ 126 (.eptr es l i off) = elS l i off := elS_of Tryz.underlying126 rfl
theorem ia127 {l : List PV} {own : Own} {k : IntKind} {i : Int} : indexAddrPV Tryz.prog 127 (.isl l own) (.int k i) = iaX 1 l i := iaX_of Tryz.underlying127 Tryz.underlying126 cells126 k i
theorem len127 {l : List PV} {own : Own} : lenPV Tryz.prog 127 (.isl l own) = some (.int .i64 l.length) := len_of Tryz.underlying127
theorem bs127 {len : Nat} {parts : List (Nat × PV)} : buildSlicePV Tryz.prog 127 len parts = bsX 1 len parts := bsX_of Tryz.underlying127 Tryz.underlying126 cells126 zero126 len parts
theorem ia129 {l : List PV} {own : Own} {k : IntKind} {i : Int} : indexAddrPV Tryz.prog 129 (.isl l own) (.int k i) = iaX 4 l i := iaX_of Tryz.underlying129 Tryz.underlying131 cells131 k i
theorem len129 {l : List PV} {own : Own} : lenPV Tryz.prog 129 (.isl l own) = some (.int .i64 l.length) := len_of Tryz.underlying129
theorem bs129 {len : Nat} {parts : List (Nat × PV)} : buildSlicePV Tryz.prog 129 len parts = bsX 4 len parts := bsX_of Tryz.underlying129 Tryz.underlying131 cells131 zero131 len parts
theorem app129 {σ : Sg} {l m : List PV} {own own' : Own} : appendPV Tryz.prog σ 129 129 (.isl l own) (.isl m own') = appX 4 32 σ l own m := appX_of Tryz.underlying129 Tryz.underlying131 cells131 bytes131 (by decide) (by decide) zero131 rfl
theorem lda131 {σ : Sg} {id off : Nat} : loadPV Tryz.prog σ 131 (.ptr id off) = ldA 4 σ id off := ldA_of Tryz.underlying131 rfl cells131
theorem ela131 {σ : Sg} {es i off : Nat} {l : List PV} : loadPV Tryz.prog σ 131 (.eptr es l i off) = elA 4 l i off := elA_of Tryz.underlying131 rfl cells131
theorem sto131 {σ : Sg} {id off : Nat} {p : PV} : storePV Tryz.prog σ 131 (.ptr id off) p = stX 4 σ id off p := stX_of Tryz.underlying131 cells131 p
theorem fa131_0 {id off : Nat} : fieldAddrPV Tryz.prog 131 (.ptr id off) 0 = some (.ptr id (off + 0)) := fa1_of Tryz.underlying131 (by rfl) (by exact Tryz.underlying3) (by exact cells3) (by rfl) (by rfl)
theorem fa131_1 {id off : Nat} : fieldAddrPV Tryz.prog 131 (.ptr id off) 1 = some (.ptr id (off + 1)) := fa1_of Tryz.underlying131 (by rfl) (by exact Tryz.underlying3) (by exact cells3) (by rfl) (by rfl)
theorem fa131_2 {id off : Nat} : fieldAddrPV Tryz.prog 131 (.ptr id off) 2 = some (.ptr id (off + 2)) := fa1_of Tryz.underlying131 (by rfl) (by exact Tryz.underlying3) (by exact cells3) (by rfl) (by rfl)
theorem fa131_3 {id off : Nat} : fieldAddrPV Tryz.prog 131 (.ptr id off) 3 = some (.ptr id (off + 3)) := fa1_of Tryz.underlying131 (by rfl) (by exact Tryz.underlying3) (by exact cells3) (by rfl) (by rfl)
theorem bld131 {parts : List (Nat × PV)} : buildPV Tryz.prog 131 parts = bldX [.int .i64 0, .int .i64 0, .int .i64 0, .int .i64 0] [(0, 1), (1, 1), (2, 1), (3, 1)] parts := bldX_of zero131 Tryz.underlying131 (by kernel_rfl) (by kernel_rfl) parts
attribute [go_sem] lda3 ela3 sto3 lda4 sto4 lda22 ia22 len22 bs22 lda24 sto24 fa24_0 fa24_1 fa24_2 fa24_3 fa24_4 bld24 lda27 ela27 sto27 fa27_0 fa27_1 fa27_2 bld27 ia28 len28 bs28 lda31 ela31 sto31 fa31_0 fae31_0 fa31_1 fa31_2 fa31_3 fa31_4 fa31_5 bld31 ia36 len36 bs36 app36 iam39 lenm39 lda42 ela42 sto42 ia42 len42 bs42 app42 lda44 sto44 fa44_0 fa44_1 fa44_2 fa44_3 fae44_3 fa44_4 fae44_4 fp44_4 ia52 len52 bs52 ia79 len79 bs79 app79 iar81 fa83_0 fa83_1 lda84 lda86 ela86 sto86 fa86_0 fa86_1 fa86_2 fa86_3 bld86 lda89 sto89 fa89_0 fa89_2 bld89 lda99 sto99 bs99 app99 fa101_1 iar123 ela126 ia127 len127 bs127 ia129 len129 bs129 app129 lda131 ela131 sto131 fa131_0 fa131_1 fa131_2 fa131_3 bld131 zero3 zero4 zero5 zero24 zero27 zero31 zero42 zero44 zero81 zero86 zero89 zero123 zero126 zero131
theorem seqN {K : Env → Sg → Prop} {Q : Exit → Env → Sg → Prop} {E : Env} {σ : Sg} : Seq K Q .normal E σ = K E σ := rfl
theorem seqR {K : Env → Sg → Prop} {Q : Exit → Env → Sg → Prop} {E : Env} {σ : Sg} : Seq K Q .ret E σ = Q .ret E σ := rfl
theorem seqX {K : Env → Sg → Prop} {Q : Exit → Env → Sg → Prop} {E : Env} {σ : Sg} {i : Nat} : Seq K Q (.exit i) E σ = Q (.exit i) E σ := rfl
theorem blkN {i : Nat} {Q : Exit → Env → Sg → Prop} {E : Env} {σ : Sg} : InBlock i Q .normal E σ = Q .normal E σ := rfl
theorem blkR {i : Nat} {Q : Exit → Env → Sg → Prop} {E : Env} {σ : Sg} : InBlock i Q .ret E σ = Q .ret E σ := rfl
theorem blkX {i j : Nat} {Q : Exit → Env → Sg → Prop} {E : Env} {σ : Sg} : InBlock i Q (.exit j) E σ = if j = i then Q .normal E σ else Q (.exit j) E σ := rfl
theorem range0 : List.range 0 = [] := rfl
theorem range1 : List.range 1 = [0] := rfl
theorem range2 : List.range 2 = [0, 1] := rfl
theorem range3 : List.range 3 = [0, 1, 2] := rfl
theorem range4 : List.range 4 = [0, 1, 2, 3] := rfl
theorem range5 : List.range 5 = [0, 1, 2, 3, 4] := rfl
theorem range6 : List.range 6 = [0, 1, 2, 3, 4, 5] := rfl
theorem range7 : List.range 7 = [0, 1, 2, 3, 4, 5, 6] := rfl
theorem range8 : List.range 8 = [0, 1, 2, 3, 4, 5, 6, 7] := rfl
theorem range9 : List.range 9 = [0, 1, 2, 3, 4, 5, 6, 7, 8] := rfl
theorem range10 : List.range 10 = [0, 1, 2, 3, 4, 5, 6, 7, 8, 9] := rfl
theorem range11 : List.range 11 = [0, 1, 2, 3, 4, 5, 6, 7, 8, 9, 10] := rfl
theorem range12 : List.range 12 = [0, 1, 2, 3, 4, 5, 6, 7, 8, 9, 10, 11] := rfl
theorem range13 : List.range 13 = [0, 1, 2, 3, 4, 5, 6, 7, 8, 9, 10, 11, 12] := rfl
theorem range14 : List.range 14 = [0, 1, 2, 3, 4, 5, 6, 7, 8, 9, 10, 11, 12, 13] := rfl
theorem range15 : List.range 15 = [0, 1, 2, 3, 4, 5, 6, 7, 8, 9, 10, 11, 12, 13, 14] := rfl
theorem range16 : List.range 16 = [0, 1, 2, 3, 4, 5, 6, 7, 8, 9, 10, 11, 12, 13, 14, 15] := rfl
attribute [go_sem] range0 range1 range2 range3 range4 range5 range6 range7 range8 range9 range10 range11 range12 range13 range14 range15 range16
attribute [go_sem low] Sg.push_new Sg.pushRoom_new Sg.pushY_new
attribute [go_sem] Sg.ext_ext
attribute [go_sem] seqN seqR seqX blkN blkR blkX
attribute [go_sem] GL GD GWant_true GWant_false GOpt_some GWho_nobody GWho_fn GWho_yield GOr_true wantedPV whom effOp pureOp isNilC isNilV isNilI ev constPV constPV0 Option.map Option.bind decide_false ite_true ite_false eq_self gt_iff_lt ge_iff_le Env.put Env.get dstOK Nat.reduceLT decide_true Nat.reduceEqDiff argsEnv Nat.reduceAdd binPV bin arith isShift pickPV keep List.map Bool.true_and Bool.and_true reduceIte List.getElem?_toArray List.getElem?_cons_succ List.getElem?_cons_zero beq_true beq_false Bool.not_true Bool.not_false Bool.false_eq_true true_and and_true undefs Dem Option.map_some Option.map_none builtinPV foldMax foldMin unPV extractPV oneOr Sg.push_ext Sg.pushRoom_ext Sg.len_ext Sg.rooms_ext Sg.ys_ext Sg.pushY_ext Sg.ysget_ext Sg.ysget_ext0 Sg.setY_ext Sg.setY_ext0 Sg.popY_ext Sg.popY_ext0 ldS_ext ldS_ext0 ldA_ext ldA_ext0 stX_ext stX_ext0 List.cons_append List.nil_append List.length_cons List.length_nil Nat.zero_add Nat.add_zero List.set_cons_zero List.set_cons_succ PV.cells_agg PV.cells_int PV.cells_bool PV.cells_str PV.cells_isl PV.cells_nilsl PV.cells_func PV.cells_ptr PV.cells_undef defd PV.scalar List.all_cons List.all_nil BEq.rfl Nat.le_refl Nat.reduceLeDiff putCells fillPV List.take_succ_cons List.take_zero List.drop_succ_cons List.drop_zero and_self Nat.reduceMul Nat.reducePow Nat.lt_add_one Nat.reduceBEq List.length_map List.take_nil List.drop_nil
/-- A slice of numbers that grows in place: nothing yet, or the last of a row of variables (those before it are gone). -/
def glI (n : Nat) (out : List Int) : PV := match out with
 | [] => .gnil
 | _ :: t => .gsl (n + t.length) (t.length + 1) 1
def gsI (out : List Int) : List (Option (List PV)) := match out with
 | [] => []
 | _ :: t => List.replicate t.length none ++ [some (out.map I)]
theorem gsI_len (out : List Int) : (gsI out).length = out.length := by cases out <;> simp [gsI]
theorem glI_cells (n : Nat) (out : List Int) : (glI n out).cells = [glI n out] := by cases out <;> rfl
theorem glI_scalar (n : Nat) (out : List Int) : (glI n out).scalar = true := by cases out <;> rfl
theorem glI_defd (n : Nat) (out : List Int) : defd (glI n out) = true := by cases out <;> rfl
theorem appendAny_gl {P : Program} {σ : Sg} {t t' : TypeId} {n : Nat} {out : List Int} {m : List PV} {o : Own} : appendAny P σ t t' (glI n out) (.isl m o) = appendG P σ t t' (glI n out) (.isl m o) := by cases out <;> rfl
theorem cells_gsl (a b c : Nat) : (PV.gsl a b c).cells = [PV.gsl a b c] := rfl
theorem cells_gnil : PV.gnil.cells = [PV.gnil] := rfl
attribute [go_sem] appendAny_gl cells_gsl cells_gnil
attribute [go_sem high] glI_cells glI_scalar glI_defd
theorem stX_glI {σ : Sg} {l : List (Option (List PV))} {rm : List Nat} {ys : List LState} {j off n : Nat} {out : List Int} : stX 1 (σ.ext l rm ys) (σ.store.length + j) off (glI n out) = match l[j]? with
 | some (some cs) => if off + 1 ≤ cs.length then some (σ.ext (l.set j (some (putCells cs off [glI n out]))) rm ys) else none
 | _ => none := by
 simp only [stX_ext, glI_defd, glI_cells, List.all_cons, List.all_nil, glI_scalar]
 rcases l[j]? with _ | _ | cs <;> simp
attribute [go_sem high] stX_glI
theorem glI_clean {a b c n : Nat} {out : List Int} (h : n + out.length ≤ a) : Clean a b c (glI n out) := by
 cases out with
 | nil => exact .gnil
 | cons x out => exact .gsl _ _ _ (by simp at h; omega)
theorem CleanLs_append {a b c : Nat} {l m : List (Option (List PV))} (h : CleanLs a b c l) (k : CleanLs a b c m) : CleanLs a b c (l ++ m) := fun cs hcs => by
 rcases List.mem_append.1 hcs with h' | h'
 ·exact h cs h'
 exact k cs h'
theorem CleanLs_rep {a b c : Nat} (n : Nat) : CleanLs a b c (List.replicate n none) := fun cs hcs => by
 have := List.eq_of_mem_replicate hcs
 cases this
theorem gsI_clean {a b c : Nat} (out : List Int) : CleanLs a b c (gsI out) := by
 cases out with
 | nil => simp only [gsI, CleanLs_nil]
 | cons x out =>
  refine CleanLs_append (CleanLs_rep _) ?_
  simp only [CleanLs_cons, CleanLs_nil, and_true]
  intro p hp
  obtain ⟨y, _, rfl⟩ := List.mem_map.1 hp
  exact .int _ _
section
variable {σ : Sg} {A : List (Option (List PV))} {rm : List Nat} {ys : List LState} {N : Nat} {lo : Nat × Nat} {E : Env} {out : List Int}
theorem get_mid {α : Type} {A B : List α} {x : α} : (A ++ x :: B)[A.length]? = some x := by simp
theorem set_mid {α : Type} {A B : List α} {x y : α} : (A ++ x :: B).set A.length y = A ++ y :: B := by simp
theorem gsI_get {x : Int} : (A ++ gsI (x :: out))[A.length + out.length]? = some (some ((x :: out).map I)) := by
 have : A.length + out.length = (A ++ List.replicate out.length (none : Option (List PV))).length := by simp
 rw [this, gsI, ← List.append_assoc]
 exact get_mid
theorem gsI_set {x : Int} {y : Option (List PV)} : (A ++ gsI (x :: out)).set (A.length + out.length) y = A ++ (List.replicate out.length none ++ [y]) := by
 have : A.length + out.length = (A ++ List.replicate out.length (none : Option (List PV))).length := by simp
 rw [this, gsI, ← List.append_assoc, ← List.append_assoc]
 exact set_mid
theorem appG_gl (x : Int) (h : (out.length + 1) * 8 ≤ 2 ^ 47) : appG 1 8 (σ.ext (A ++ gsI out) rm ys) (glI (σ.store.length + A.length) out) [I x] = some (glI (σ.store.length + A.length) (out ++ [x]), σ.ext (A ++ gsI (out ++ [x])) rm ys) := by
 cases out with
 | nil =>
  rw [glI, appG_nil (by rfl) (by simp) (by simp)]
  simp [gsI, glI, rowC, Sg.push_ext, Sg.len_ext]
 | cons y out =>
  simp only [glI]
  rw [appG_more (cs := (y :: out).map I) (by rw [Nat.add_assoc, Sg.get_ext]; exact gsI_get) (by simp) (by rfl) (by simp) (by simpa using h)]
  rw [Nat.add_assoc (Sg.store σ).length, Sg.drop_ext, gsI_set]
  simp only [Sg.push_ext, Sg.len_ext, rowC]
  have e : List.replicate (out ++ [x]).length (none : Option (List PV)) = List.replicate out.length none ++ [none] := by simp [List.replicate_succ']
  simp only [List.cons_append, gsI, e]
  simp [Nat.add_assoc]
theorem sortI_nil : sortI [] = [] := by simp [sortI]
theorem glI_sort (n : Nat) : glI n (sortI out) = glI n out := by
 have hl := sortI_len out
 cases h : sortI out with
 | nil =>
  rw [h] at hl
  cases out with
  | nil => rfl
  | cons x out => simp at hl
 | cons y s =>
  rw [h] at hl
  cases out with
  | nil => simp at hl
  | cons x out => simp only [List.length_cons] at hl; simp only [glI]; rw [show s.length = out.length by omega]
theorem sort_gl {P : Program} {Y : YEnv} {f : FuncId} (h : SortsI P f) (hl : out.length < 2 ^ 60) : PC P Y f [glI (σ.store.length + A.length) out] (σ.ext (A ++ gsI out) rm ys) (.tuple []) (σ.ext (A ++ gsI (sortI out)) rm ys) := by
 cases out with
 | nil => rw [sortI_nil]; exact PC_sort0 h
 | cons x out =>
  have h1 := PC_sortI (Y := Y) (σ := σ.ext (A ++ gsI (x :: out)) rm ys) (id := σ.store.length + A.length + out.length) (xs := x :: out) h (by rw [Nat.add_assoc, Sg.get_ext]; exact gsI_get) hl
  rw [Nat.add_assoc, Sg.set_ext, gsI_set] at h1
  have e : A ++ (List.replicate out.length none ++ [some ((sortI (x :: out)).map I)]) = A ++ gsI (sortI (x :: out)) := by
   have hs := sortI_len (x :: out)
   cases hc : sortI (x :: out) with
   | nil => rw [hc] at hs; simp at hs
   | cons y s =>
    rw [hc] at hs
    simp only [List.length_cons] at hs
    simp only [gsI]
    rw [show out.length = s.length by omega]
  rw [e] at h1
  simp only [glI]
  rw [Nat.add_assoc]
  exact h1
/-- Compacted. -/
def glC (n : Nat) (s : List Int) : PV := match s with
 | [] => .gnil
 | _ :: t => .gsl (n + t.length) (Lib.compact s).length 1
theorem glC_cells (n : Nat) (out : List Int) : (glC n out).cells = [glC n out] := by cases out <;> rfl
theorem glC_scalar (n : Nat) (out : List Int) : (glC n out).scalar = true := by cases out <;> rfl
theorem glC_defd (n : Nat) (out : List Int) : defd (glC n out) = true := by cases out <;> rfl
attribute [go_sem high] glC_cells glC_scalar glC_defd
theorem stX_glC {σ : Sg} {l : List (Option (List PV))} {rm : List Nat} {ys : List LState} {j off n : Nat} {out : List Int} : stX 1 (σ.ext l rm ys) (σ.store.length + j) off (glC n out) = match l[j]? with
 | some (some cs) => if off + 1 ≤ cs.length then some (σ.ext (l.set j (some (putCells cs off [glC n out]))) rm ys) else none
 | _ => none := by
 simp only [stX_ext, glC_defd, glC_cells, List.all_cons, List.all_nil, glC_scalar]
 rcases l[j]? with _ | _ | cs <;> simp
attribute [go_sem high] stX_glC
end
/-- Some operations, then what is known is weakened, then the rest. -/
def GLw (P : Program) (Y : YEnv) (N : Nat) (lo : Nat × Nat) (ops : Array Oper) : Nat → List Oper → Env → Sg → (Env → Sg → Prop) → Prop
 | 0, os, E, σ, K => ∃ E' σ', Weak N lo E σ E' σ' ∧ GL P Y N ops os E' σ' K
 | _ + 1, [], _, _, _ => False
 | n + 1, o :: os, E, σ, K => GL P Y N ops [o] E σ (fun E' σ' => GLw P Y N lo ops n os E' σ' K)
theorem GLw_ok {D : List Nat} {P : Program} {Y : YEnv} {N : Nat} {rd : Option Nat} {lo : Nat × Nat} {ops : Array Oper} {K : Env → Sg → Prop} {Ψ0 : Ty} {Q : Exit → Act → World → Prop} (hbd : Bnd Ψ0 lo) :
 ∀ (n : Nat) (os : List Oper) (is : List Nat), (∀ n : Nat, os[n]? = (is[n]?).bind fun i => ops[i]?) → os.length = is.length → ∀ (E : Env) (σ : Sg) (Ψ : Ty) (a : Act) (w : World), Ψ0.le Ψ → Rel N D Ψ E σ a w → YOK P Y Ψ0 →
 GLw P Y N lo ops n os E σ K → (∀ E' σ' Ψ' a' w', Ψ0.le Ψ' → Rel N D Ψ' E' σ' a' w' → Below Ψ0.base w w' → K E' σ' → Q .normal a' w') → wpOpsIn (FnOf Ψ0 rd) 0 P ops Q is a w := by
 intro n
 induction n with
 | zero =>
  intro os is his hl E σ Ψ a w le hr hy hg hk
  obtain ⟨E', σ', hw, hg⟩ := hg
  obtain ⟨Ψ', le', hr'⟩ := hw Ψ0 Ψ D a w hbd le hr
  exact GL_ok os is his hl E' σ' Ψ' a w le' hr' hy hg hk
 | succ n ihn =>
  intro os is his hl E σ Ψ a w le hr hy hg hk
  cases os with
  | nil => exact hg.elim
  | cons o os =>
  cases is with
  | nil => simp at hl
  | cons i is =>
   have h0 := his 0
   simp only [List.getElem?_cons_zero, Option.bind_some] at h0
   have his' : ∀ n : Nat, os[n]? = (is[n]?).bind fun i => ops[i]? := fun n => by simpa using his (n + 1)
   have hl' : os.length = is.length := by simpa using hl
   simp only [GLw, GL] at hg
   obtain ⟨hd, hg⟩ := hg
   simp only [wpOpsIn, ← h0]
   have fin : ∀ {v : PV} {σ' : Sg} {x : Value} {w' : World} {Ψ' : Ty}, Ψ.le Ψ' → SR Ψ' σ' w' → VR Ψ' v x → Below Ψ.base w w' → GLw P Y N lo ops n os (E.put o.dst v) σ' K → wpOpsIn (FnOf Ψ0 rd) 0 P ops Q is (a.put o.dst x) w' := by
    intro v σ' x w' Ψ' le' hs' hv hb hg'
    exact ihn os is his' hl' _ σ' Ψ' _ w' (le.trans le') (hr.put le' hs' hd hv) hy hg' fun E2 σ2 Ψ2 a2 w2 l2 r2 b2 k2 => hk E2 σ2 Ψ2 a2 w2 l2 r2 (Below.trans (by rw [← le.base]; exact hb) b2) k2
   cases hw : wantedPV ops E o with
   | none => rw [hw] at hg; exact (hg : False).elim
   | some b =>
    rw [hw] at hg
    rw [wanted_ok hw hr.env]
    cases b with
    | false =>
     rw [GWant_false] at hg
     simp only [Bool.false_eq_true, if_false]
     exact ⟨fun f _ => FnOf_fn _ _ _, fin (Ty.le.refl _) hr.sg (skipped_ok _) (Below.refl _ _) hg⟩
    | true =>
     simp only [if_true]
     refine ⟨fun f _ => FnOf_fn _ _ _, ?_⟩
     cases hwh : whom E o.op with
     | nobody =>
      rw [GWant_true, hwh, GWho_nobody] at hg
      cases heff : effOp P σ E o.op with
      | none => rw [heff] at hg; exact (hg : False).elim
      | some r =>
       obtain ⟨v, σ'⟩ := r
       rw [heff, GOpt_some] at hg
       obtain ⟨nx, x, w', Ψ', k1, k2, k3, k4, k5, k6⟩ := effOp_ok heff hr.sg hr.env
       rw [Oper.semAt_eq _ _ _ (effOp_not_defer heff), k1]
       rcases k2 with rfl | ⟨rfl, rfl⟩
       ·exact fin k3 k4 k5 k6 hg
       exact fin k3 k4 k5 k6 hg
     | fn f args =>
      rw [GWant_true, hwh, GWho_fn] at hg
      obtain ⟨v, σ', hpc, hg⟩ := hg
      obtain ⟨hnd, vals, k1, k2⟩ := whom_fn hwh hr.env hpc.1 w
      rw [Oper.semAt_eq _ _ _ hnd, k1]
      refine ⟨fun h => (by rw [FnOf_depth] at h; cases h), ?_⟩
      refine CallsIn.mono (callsIn_FnOf (hpc.2 Ψ vals w hr.sg k2 (hy.mono le))) fun e w' hh => ?_
      obtain ⟨x, Ψ', rfl, l1, l2, l3, l4⟩ := hh
      exact fin l1 l2 l3 l4 hg
     | yield y args =>
      rw [GWant_true, hwh, GWho_yield] at hg
      obtain ⟨b, σ', hargs, hg⟩ := hg
      obtain ⟨hnd, vals, l, d, hl1, k2, hrun⟩ := whom_yield hwh hr.env
      obtain ⟨l', r0, hl2, hround⟩ := (hy.mono le).2 y args σ b σ' hargs
      rw [hl1] at hl2
      injection hl2 with hl2
      injection hl2 with hl2 _
      subst hl2
      obtain ⟨r, q1, q2, q3⟩ := hround Ψ vals w (Ty.le.refl _) hr.sg k2
      rw [Oper.semAt_eq _ _ _ hnd, hrun P w r q1 q2]
      refine ⟨fun h => (by rw [FnOf_depth] at h; cases h), ?_⟩
      refine RoundIn.mono (roundIn_FnOf q3) fun e w' hh => ?_
      obtain ⟨Ψ', rfl, l1, l2, l4⟩ := hh
      exact fin l1 l2 (.bool b) l4 hg
theorem W_regionN {P : Program} {Y : YEnv} {N : Nat} {rd : Option Nat} {lo : Nat × Nat} {id : Nat} {ops : Array Oper} {E : Env} {σ : Sg} {Q : Exit → Env → Sg → Prop} (ks : List Nat) (n : Nat)
 (h : ∀ K : Env → Sg → Prop, (∀ E' σ', Q .normal (keep ks E') σ' → K E' σ') → GLw P Y N lo ops n ops.toList E σ K) : W P Y N rd lo (.region id ops false) E σ Q := by
 intro Ψ0 D hb hy _ Ψ a w le hr
 refine wpIn_region ?_
 refine GLw_ok (K := fun E' σ' => Q .normal (keep ks E') σ') hb n ops.toList (List.range ops.size) ?_ (by simp) E σ Ψ a w le hr hy (h _ fun _ _ k => k) ?_
 ·intro n
  simp only [Array.getElem?_toList]
  by_cases hn : n < ops.size
  ·simp [hn]
  simp [hn]
 intro E' σ' Ψ' a' w' le' hr' hb hq
 exact ⟨_, σ', Ψ', le', hr'.keep ks, hb, hq⟩
theorem Weak.gone {N : Nat} {lo : Nat × Nat} {E : Env} {σ : Sg} (id : Nat) : Weak N lo E σ E (σ.drop id) := fun _ Ψ _ _ _ _ le hr =>
 ⟨Ψ, le, hr.size, hr.env, hr.sg.dropVar id, hr.dsub, hr.defs⟩
theorem Weak.goneX {N : Nat} {lo : Nat × Nat} {E : Env} {σ : Sg} {l : List (Option (List PV))} {rm : List Nat} {ys : List LState} (j : Nat) : Weak N lo E (σ.ext l rm ys) E (σ.ext (l.set j none) rm ys) := by
 have h := Weak.gone (N := N) (lo := lo) (E := E) (σ := σ.ext l rm ys) (σ.store.length + j)
 rw [Sg.drop_ext] at h
 exact h
section
variable {P : Program} {Y : YEnv} {N : Nat} {rd : Option Nat} {lo : Nat × Nat} {ops : Array Oper} {E : Env} {σ : Sg}
theorem next_step {D : List Nat} {K : Env → Sg → Prop} {Ψ0 : Ty} {Q : Exit → Act → World → Prop} {o : Oper} {os : List Oper} {it : Operand} (hop : o.op = .next it false) (hg : o.guard = none) (hd : dstOK N o = true)
 {id mid : Nat} {seen : List Nat} {es : List PV} (hi : iterAt σ (ev E it) = some (id, mid, seen, es)) (is : List Nat) (his : ∀ n : Nat, (o :: os)[n]? = (is[n]?).bind fun i => ops[i]?) (hl : (o :: os).length = is.length)
 (Ψ : Ty) (a : Act) (w : World) (le : Ψ0.le Ψ) (hr : Rel N D Ψ E σ a w) (hy : YOK P Y Ψ0)
 (h0 : (∀ j, j < es.length → j ∈ seen) → GL P Y N ops os (E.put o.dst (.tuple [.bool false])) σ K)
 (h1 : ∀ j k u, es[j]? = some (.tuple [k, u]) → j ∉ seen → GL P Y N ops os (E.put o.dst (.tuple [.bool true, k, u])) (σ.setVar id [.itst mid es.length (seen ++ [j])]) K)
 (hk : ∀ E' σ' Ψ' a' w', Ψ0.le Ψ' → Rel N D Ψ' E' σ' a' w' → Below Ψ0.base w w' → K E' σ' → Q .normal a' w') : wpOpsIn (FnOf Ψ0 rd) 0 P ops Q is a w := by
 cases is with
 | nil => simp at hl
 | cons i is =>
  have e0 := his 0
  simp only [List.getElem?_cons_zero, Option.bind_some] at e0
  have his' : ∀ n : Nat, os[n]? = (is[n]?).bind fun i => ops[i]? := fun n => by simpa using his (n + 1)
  have hl' : os.length = is.length := by simpa using hl
  simp only [wpOpsIn, ← e0]
  have hw : wantedPV ops E o = some true := by unfold wantedPV; rw [hg]
  rw [wanted_ok hw hr.env]
  simp only [if_true]
  refine ⟨fun f _ => FnOf_fn _ _ _, ?_⟩
  have fin : ∀ {v : PV} {σ' : Sg} {x : Value} {w' : World} {Ψ' : Ty}, Ψ.le Ψ' → SR Ψ' σ' w' → VR Ψ' v x → Below Ψ.base w w' → GL P Y N ops os (E.put o.dst v) σ' K → wpOpsIn (FnOf Ψ0 rd) 0 P ops Q is (a.put o.dst x) w' := by
   intro v σ' x w' Ψ' le' hs' hv hb hg'
   exact GL_ok os is his' hl' _ σ' Ψ' _ w' (le.trans le') (hr.put le' hs' hd hv) hy hg' fun E2 σ2 Ψ2 a2 w2 l2 r2 b2 k2 => hk E2 σ2 Ψ2 a2 w2 l2 r2 (Below.trans (by rw [← le.base]; exact hb) b2) k2
  have hex : ∀ {v : PV} {σ' : Sg}, Did P (Instr.next (a.eval it) false o.type) Ψ w v σ' → ∃ x w' Ψ', (execOp a.eval o).run P w = .ok (.value x) w' ∧ Ψ.le Ψ' ∧ SR Ψ' σ' w' ∧ VR Ψ' v x ∧ Below Ψ.base w w' := by
   intro v σ' h
   obtain ⟨x, w', Ψ', k1, k2, k3, k4, k5⟩ := h
   refine ⟨x, w', Ψ', ?_, k2, k3, k4, k5⟩
   unfold execOp
   rw [hop]
   simp only
   rw [run_bind_ok k1]
   rfl
  have hnd : ∀ c, o.op ≠ .defer c := fun c e => by rw [hop] at e; cases e
  rcases next_ok (P := P) hr.sg hi (ev_ok hr.env it) o.type with ⟨q1, q2⟩ | ⟨j, k, u, q1, q2, q3⟩
  ·obtain ⟨x, w', Ψ', k1, k2, k3, k4, k5⟩ := hex q2
   rw [Oper.semAt_eq _ _ _ hnd, k1]
   exact fin k2 k3 k4 k5 (h0 q1)
  obtain ⟨x, w', Ψ', k1, k2, k3, k4, k5⟩ := hex q3
  rw [Oper.semAt_eq _ _ _ hnd, k1]
  exact fin k2 k3 k4 k5 (h1 j k u q1 q2)
theorem W_next {rid : Nat} {Q : Exit → Env → Sg → Prop} (ks : List Nat) {o : Oper} {os : List Oper} {it : Operand} (hops : ops.toList = o :: os) (hop : o.op = .next it false) (hg : o.guard = none) (hd : dstOK N o = true)
 {id mid : Nat} {seen : List Nat} {es : List PV} (hi : iterAt σ (ev E it) = some (id, mid, seen, es))
 (h0 : ∀ K : Env → Sg → Prop, (∀ E' σ', Q .normal (keep ks E') σ' → K E' σ') → (∀ j, j < es.length → j ∈ seen) → GL P Y N ops os (E.put o.dst (.tuple [.bool false])) σ K)
 (h1 : ∀ K : Env → Sg → Prop, (∀ E' σ', Q .normal (keep ks E') σ' → K E' σ') → ∀ j k u, es[j]? = some (.tuple [k, u]) → j ∉ seen → GL P Y N ops os (E.put o.dst (.tuple [.bool true, k, u])) (σ.setVar id [.itst mid es.length (seen ++ [j])]) K) :
 W P Y N rd lo (.region rid ops false) E σ Q := by
 intro Ψ0 D hb hy _ Ψ a w le hr
 refine wpIn_region ?_
 refine next_step (K := fun E' σ' => Q .normal (keep ks E') σ') (os := os) hop hg hd hi (List.range ops.size) ?_ (by rw [← hops]; simp) Ψ a w le hr hy (h0 _ fun _ _ k => k) (h1 _ fun _ _ k => k) ?_
 ·intro n
  rw [← hops]
  simp only [Array.getElem?_toList]
  by_cases hn : n < ops.size
  ·simp [hn]
  simp [hn]
 intro E' σ' Ψ' a' w' le' hr' hb hq
 exact ⟨_, σ', Ψ', le', hr'.keep ks, hb, hq⟩
end
structure Rnd where
 keep : Int
 jury : Int
 member : Int
 deriving DecidableEq
structure Contest where
 songs : Int
 juries : Int
 members : Int
 most : Int
 rounds : List Rnd
 deriving DecidableEq
structure Ballot where
 serial : Int
 round : Int
 kind : Int
 voter : Int
 song : Int
 points : Int
 deriving DecidableEq
structure Res where
 songs : List Int
 points : List Int
 votes : List Int
 scores : List Int
 kept : List Int
 deriving DecidableEq
/-- A song with its points, votes and score. -/
structure Std where
 song : Int
 points : Int
 votes : Int
 score : Int
 deriving DecidableEq
abbrev intsO (o : Own) (xs : List Int) : PV := .isl (xs.map I) o
def rdCells (r : Rnd) : List PV := [I r.keep, I r.jury, I r.member]
def rdPV (r : Rnd) : PV := .agg (rdCells r)
abbrev rds (l : List Rnd) : PV := .isl (l.map rdPV) .ro
def cnCells (c : Contest) : List PV := [I c.songs, I c.juries, I c.members, I c.most, rds c.rounds]
def cnPV (c : Contest) : PV := .agg (cnCells c)
def blCells (b : Ballot) : List PV := [I b.serial, I b.round, I b.kind, I b.voter, I b.song, I b.points]
def blPV (b : Ballot) : PV := .agg (blCells b)
abbrev bls (l : List Ballot) : PV := .isl (l.map blPV) .ro
def rsCells (r : Res) : List PV := [ints r.songs, ints r.points, ints r.votes, ints r.scores, ints r.kept]
def rsPV (r : Res) : PV := .agg (rsCells r)
abbrev rss (l : List Res) : PV := .isl (l.map rsPV) .ro
def sdCells (x : Std) : List PV := [I x.song, I x.points, I x.votes, I x.score]
def sdPV (x : Std) : PV := .agg (sdCells x)
abbrev sds (l : List Std) : PV := .isl (l.map sdPV) .ro
def llPV (xs : List Int) : PV := ints xs
abbrev lls (l : List (List Int)) : PV := .isl (l.map llPV) .ro
section
variable {α : Type} {f : α → PV} {xs : List α} {i : Nat} {x : α} {c k off : Nat}
theorem iaX_map (h : xs[i]? = some x) (hc : (f x).cells.length = c) : iaX c (xs.map f) (i : Int) = some (.eptr c (xs.map f) i 0) := by
 have hlt : i < xs.length := (List.getElem?_eq_some_iff.1 h).1
 have hx : xs[i] = x := (List.getElem?_eq_some_iff.1 h).2
 unfold iaX
 rw [if_pos ⟨Int.natCast_nonneg _, by simpa using hlt⟩]
 simp [hlt, hx, hc]
theorem elS_map (h : xs[i]? = some x) : elS (xs.map f) i off = (f x).cells[off]? := by simp [elS, h]
theorem elA_map (h : xs[i]? = some x) : elA k (xs.map f) i off = if off + k ≤ (f x).cells.length then some (.agg (((f x).cells.drop off).take k)) else none := by simp [elA, h]
end
theorem noTok {b : Nat} : ∀ r n es, Own.ro = .tok r n es → r < b := fun r n es e => by cases e
theorem clean_ints {a b c : Nat} (xs : List Int) : Clean a b c (ints xs) := Clean.ints xs .ro noTok
theorem clean_ll {a b c : Nat} (xs : List Int) : Clean a b c (llPV xs) := Clean.ints xs .ro noTok
theorem cleans_rd {a b c : Nat} (r : Rnd) : ∀ p, p ∈ rdCells r → Clean a b c p := Clean.all_cons (.int _ _) (Clean.all_cons (.int _ _) (Clean.all_cons (.int _ _) Clean.all_nil))
theorem clean_rd {a b c : Nat} (r : Rnd) : Clean a b c (rdPV r) := .agg _ (cleans_rd r)
theorem cleans_bl {a b c : Nat} (x : Ballot) : ∀ p, p ∈ blCells x → Clean a b c p :=
 Clean.all_cons (.int _ _) (Clean.all_cons (.int _ _) (Clean.all_cons (.int _ _) (Clean.all_cons (.int _ _) (Clean.all_cons (.int _ _) (Clean.all_cons (.int _ _) Clean.all_nil)))))
theorem clean_bl {a b c : Nat} (x : Ballot) : Clean a b c (blPV x) := .agg _ (cleans_bl x)
theorem cleans_rs {a b c : Nat} (x : Res) : ∀ p, p ∈ rsCells x → Clean a b c p :=
 Clean.all_cons (clean_ints _) (Clean.all_cons (clean_ints _) (Clean.all_cons (clean_ints _) (Clean.all_cons (clean_ints _) (Clean.all_cons (clean_ints _) Clean.all_nil))))
theorem clean_rs {a b c : Nat} (x : Res) : Clean a b c (rsPV x) := .agg _ (cleans_rs x)
theorem cleans_sd {a b c : Nat} (x : Std) : ∀ p, p ∈ sdCells x → Clean a b c p :=
 Clean.all_cons (.int _ _) (Clean.all_cons (.int _ _) (Clean.all_cons (.int _ _) (Clean.all_cons (.int _ _) Clean.all_nil)))
theorem clean_sd {a b c : Nat} (x : Std) : Clean a b c (sdPV x) := .agg _ (cleans_sd x)
def inR (n lo hi : Int) : Bool := decide (lo ≤ n) && decide (n ≤ hi)
def allIn (lo hi : Int) (l : List Int) : Bool := l.all fun n => inR n lo hi
theorem okC_rd {xs : List Rnd} : okC 3 (xs.map rdPV) = True := okC_map fun x => by simp [okC, rdPV, rdCells, PV.cells, PV.scalar]
theorem okC_bl {xs : List Ballot} : okC 6 (xs.map blPV) = True := okC_map fun x => by simp [okC, blPV, blCells, PV.cells, PV.scalar]
theorem okC_rs {xs : List Res} : okC 5 (xs.map rsPV) = True := okC_map fun x => by simp [okC, rsPV, rsCells, PV.cells, PV.scalar]
theorem okC_sd {xs : List Std} : okC 4 (xs.map sdPV) = True := okC_map fun x => by simp [okC, sdPV, sdCells, PV.cells, PV.scalar]
theorem okC_ll {xs : List (List Int)} : okC 1 (xs.map llPV) = True := okC_map fun x => by simp [okC, llPV, PV.cells, PV.scalar]
theorem roL_rd {xs : List Rnd} : PV.roL (xs.map rdPV) = xs.map rdPV := roL_enc fun x => by simp only [rdPV, rdCells, ro_agg, roL_cons, roL_nil, ro_int]
theorem roL_bl {xs : List Ballot} : PV.roL (xs.map blPV) = xs.map blPV := roL_enc fun x => by simp only [blPV, blCells, ro_agg, roL_cons, roL_nil, ro_int]
theorem roL_rs {xs : List Res} : PV.roL (xs.map rsPV) = xs.map rsPV := roL_enc fun x => by simp only [rsPV, rsCells, ro_agg, roL_cons, roL_nil, ro_isl, roL_ints]
theorem roL_sd {xs : List Std} : PV.roL (xs.map sdPV) = xs.map sdPV := roL_enc fun x => by simp only [sdPV, sdCells, ro_agg, roL_cons, roL_nil, ro_int]
theorem roL_ll {xs : List (List Int)} : PV.roL (xs.map llPV) = xs.map llPV := roL_enc fun x => by simp only [llPV, ro_isl, roL_ints]
theorem cA_rd {a b c : Nat} {xs : List Rnd} : CleanAll a b c (xs.map rdPV) = True := CleanAll_map clean_rd
theorem cA_bl {a b c : Nat} {xs : List Ballot} : CleanAll a b c (xs.map blPV) = True := CleanAll_map clean_bl
theorem cA_rs {a b c : Nat} {xs : List Res} : CleanAll a b c (xs.map rsPV) = True := CleanAll_map clean_rs
theorem cA_sd {a b c : Nat} {xs : List Std} : CleanAll a b c (xs.map sdPV) = True := CleanAll_map clean_sd
theorem cA_ll {a b c : Nat} {xs : List (List Int)} : CleanAll a b c (xs.map llPV) = True := CleanAll_map clean_ll
attribute [go_sem] okC_rd okC_bl okC_rs okC_sd okC_ll roL_rd roL_bl roL_rs roL_sd roL_ll cA_rd cA_bl cA_rs cA_sd cA_ll rdPV rdCells cnPV cnCells blPV blCells rsPV rsCells sdPV sdCells
theorem mixed : Tryz.prog.follows .mixedOrders = true := by kernel_rfl
def has (l : List Int) (v : Int) : Bool := l.any fun x => decide (x = v)
theorem has_iff {l : List Int} {v : Int} : has l v = true ↔ v ∈ l := by simp [has]
theorem appg42 {σ : Sg} {x : PV} {m : List PV} {own : Own} : appendG Tryz.prog σ 42 42 x (.isl m own) = appG 1 8 σ x m := appG_of Tryz.underlying42 Tryz.underlying3 cells3 bytes3 (by decide) (by decide) zero3 rfl
theorem leng42 {id n es : Nat} : lenPV Tryz.prog 42 (.gsl id n es) = some (.int .i64 n) := lenG_of Tryz.underlying42 n
theorem lenn42 : lenPV Tryz.prog 42 .gnil = some (.int .i64 0) := lenN_of Tryz.underlying42
theorem appg129 {σ : Sg} {x : PV} {m : List PV} {own : Own} : appendG Tryz.prog σ 129 129 x (.isl m own) = appG 4 32 σ x m := appG_of Tryz.underlying129 Tryz.underlying131 cells131 bytes131 (by decide) (by decide) zero131 rfl
theorem iag129 {id len es : Nat} {k : IntKind} {i : Int} : indexAddrPV Tryz.prog 129 (.gsl id len es) (.int k i) = iaM 4 id 0 len i := iaG_of Tryz.underlying129 Tryz.underlying131 cells131 k len i
theorem leng129 {id n es : Nat} : lenPV Tryz.prog 129 (.gsl id n es) = some (.int .i64 n) := lenG_of Tryz.underlying129 n
attribute [go_sem] appg42 leng42 lenn42 appg129 iag129 leng129
theorem wrapU {n : Int} (h1 : 0 ≤ n) (h2 : n ≤ 18446744073709551615) : IntKind.u64.wrap n = n := IntWalk.u64_in n ⟨h1, h2⟩
theorem sv_ext_sv {σ : Sg} {d : Nat} {cs cs0 : List PV} {l : List (Option (List PV))} {rm : List Nat} {ys : List LState} (h : d < σ.store.length) : ((σ.setVar d cs0).ext l rm ys).setVar d cs = (σ.setVar d cs).ext l rm ys := by
 rw [sv_ext (by rw [sv_len]; exact h), sv_sv]
theorem sv_self {σ : Sg} {d : Nat} {cs : List PV} (h : σ.store[d]? = some (some cs)) : σ.setVar d cs = σ := by
 have : σ.store.set d (some cs) = σ.store := by
  refine List.ext_getElem? fun i => ?_
  rw [List.getElem?_set]
  by_cases e : d = i
  ·subst e; rw [if_pos rfl, if_pos (List.getElem?_eq_some_iff.1 h).1, h]
  rw [if_neg e]
 unfold Sg.setVar
 rw [this]
theorem get_extx {σ : Sg} {d : Nat} {cs : List PV} {l : List (Option (List PV))} {rm : List Nat} {ys : List LState} (hd : σ.store[d]? = some (some cs)) : (σ.ext l rm ys).store[d]? = some (some cs) := by
 rw [ext_get (lt_of_get hd)]; exact hd
theorem shr1 {a : Int} : shiftPV .shr .u64 a 1 = some (.int .u64 (a.fdiv 2)) := rfl
theorem shr32 {a : Int} : shiftPV .shr .u64 a 32 = some (.int .u64 (a.fdiv 4294967296)) := rfl
theorem cv2_110 {k : IntKind} {n : Int} : convPV Tryz.prog 2 110 (.int k n) = some (.int .u64 (IntKind.u64.wrap n)) := by kernel_rfl
theorem cv3_5 {k : IntKind} {n : Int} : convPV Tryz.prog 3 5 (.int k n) = some (.int .u8 (IntKind.u8.wrap n)) := by kernel_rfl
theorem cv3_110 {k : IntKind} {n : Int} : convPV Tryz.prog 3 110 (.int k n) = some (.int .u64 (IntKind.u64.wrap n)) := by kernel_rfl
theorem cv3_141 {k : IntKind} {n : Int} : convPV Tryz.prog 3 141 (.int k n) = some (.int .u64 (IntKind.u64.wrap n)) := by kernel_rfl
theorem cv3_189 {k : IntKind} {n : Int} : convPV Tryz.prog 3 189 (.int k n) = some (.int .u64 (IntKind.u64.wrap n)) := by kernel_rfl
theorem cv5_3 {k : IntKind} {n : Int} : convPV Tryz.prog 5 3 (.int k n) = some (.int .i64 (IntKind.i64.wrap n)) := by kernel_rfl
theorem cv5_21 {k : IntKind} {n : Int} : convPV Tryz.prog 5 21 (.int k n) = some (.int .i32 (IntKind.i32.wrap n)) := by kernel_rfl
theorem cv5_110 {k : IntKind} {n : Int} : convPV Tryz.prog 5 110 (.int k n) = some (.int .u64 (IntKind.u64.wrap n)) := by kernel_rfl
theorem cv5_168 {k : IntKind} {n : Int} : convPV Tryz.prog 5 168 (.int k n) = some (.int .u32 (IntKind.u32.wrap n)) := by kernel_rfl
theorem cv110_2 {k : IntKind} {n : Int} : convPV Tryz.prog 110 2 (.int k n) = some (.int .i64 (IntKind.i64.wrap n)) := by kernel_rfl
theorem cv110_3 {k : IntKind} {n : Int} : convPV Tryz.prog 110 3 (.int k n) = some (.int .i64 (IntKind.i64.wrap n)) := by kernel_rfl
theorem cv110_5 {k : IntKind} {n : Int} : convPV Tryz.prog 110 5 (.int k n) = some (.int .u8 (IntKind.u8.wrap n)) := by kernel_rfl
theorem cv110_168 {k : IntKind} {n : Int} : convPV Tryz.prog 110 168 (.int k n) = some (.int .u32 (IntKind.u32.wrap n)) := by kernel_rfl
theorem cv141_3 {k : IntKind} {n : Int} : convPV Tryz.prog 141 3 (.int k n) = some (.int .i64 (IntKind.i64.wrap n)) := by kernel_rfl
theorem cv141_168 {k : IntKind} {n : Int} : convPV Tryz.prog 141 168 (.int k n) = some (.int .u32 (IntKind.u32.wrap n)) := by kernel_rfl
theorem cv168_5 {k : IntKind} {n : Int} : convPV Tryz.prog 168 5 (.int k n) = some (.int .u8 (IntKind.u8.wrap n)) := by kernel_rfl
attribute [go_sem] cv2_110 cv3_5 cv3_110 cv3_141 cv3_189 cv5_3 cv5_21 cv5_110 cv5_168 cv110_2 cv110_3 cv110_5 cv110_168 cv141_3 cv141_168 cv168_5 nilCheckPV shr1 shr32 Sg.ext_nil
theorem slh28 {l : List PV} {own : Own} {k : IntKind} {n : Int} : slicePV Tryz.prog 28 (.isl l own) none (some (.int k n)) none = if 0 ≤ n then if n.toNat ≤ l.length then some (.isl (l.take n.toNat) (sliceOwn own 0 n.toNat l.length)) else none else none := slHi_of Tryz.underlying28 Tryz.underlying31 l own k n
theorem slh42 {l : List PV} {own : Own} {k : IntKind} {n : Int} : slicePV Tryz.prog 42 (.isl l own) none (some (.int k n)) none = if 0 ≤ n then if n.toNat ≤ l.length then some (.isl (l.take n.toNat) (sliceOwn own 0 n.toNat l.length)) else none else none := slHi_of Tryz.underlying42 Tryz.underlying3 l own k n
theorem slh66 {l : List PV} {own : Own} {k : IntKind} {n : Int} : slicePV Tryz.prog 66 (.isl l own) none (some (.int k n)) none = if 0 ≤ n then if n.toNat ≤ l.length then some (.isl (l.take n.toNat) (sliceOwn own 0 n.toNat l.length)) else none else none := slHi_of Tryz.underlying66 Tryz.underlying9 l own k n
theorem slh129 {l : List PV} {own : Own} {k : IntKind} {n : Int} : slicePV Tryz.prog 129 (.isl l own) none (some (.int k n)) none = if 0 ≤ n then if n.toNat ≤ l.length then some (.isl (l.take n.toNat) (sliceOwn own 0 n.toNat l.length)) else none else none := slHi_of Tryz.underlying129 Tryz.underlying131 l own k n
attribute [go_sem] slh28 slh42 slh66 slh129
/-- Who votes once. -/
abbrev Voice := Int × Int × Int
def vcPV (v : Voice) : PV := .agg [I v.1, I v.2.1, I v.2.2]
theorem clean_vc {a b c : Nat} (v : Voice) : Clean a b c (vcPV v) := .agg _ (Clean.all_cons (.int _ _) (Clean.all_cons (.int _ _) (Clean.all_cons (.int _ _) Clean.all_nil)))
theorem mkB {σ : Sg} {k : Nat} (hk : k < 2 ^ 44) : makePV Tryz.prog σ 39 (.int .i64 (k : Int)) (.int .i64 (k : Int)) = some (.msl σ.store.length 0 k, σ.push ((List.replicate k false).map PV.bool)) := by
 rw [mk_of Tryz.underlying39 zero4 bytes4 cells4 (by omega) (by omega), repB]
theorem keyInt : KeyOK Tryz.prog 3 I := fun a b => by
 simp only [I, keyEq, if_true]
 congr 1
theorem intsEq3 {a b c d e f : Int} : intsEq [.int .i64 a, .int .i64 b, .int .i64 c] [.int .i64 d, .int .i64 e, .int .i64 f] = some ((a == d) && ((b == e) && ((c == f) && true))) := rfl
theorem eqF89 {a b c d e f : Int} : eqFieldsPV Tryz.prog [.int .i64 a, .int .i64 b, .int .i64 c] [.int .i64 d, .int .i64 e, .int .i64 f] (Tryz.prog.fieldsOf 89).toList = some ((a == d) && ((b == e) && ((c == f) && true))) := by kernel_rfl
theorem keyVc : KeyOK Tryz.prog 89 vcPV := fun x y => by
 obtain ⟨a, b, c⟩ := x
 obtain ⟨d, e, f⟩ := y
 have hf : ∃ fs, Tryz.prog.underlying 89 = some (.struct fs) := ⟨_, Tryz.underlying89⟩
 obtain ⟨fs, hf⟩ := hf
 have e1 : Tryz.prog.fieldsOf 89 = fs := by simp [Program.fieldsOf, hf]
 have := eqF89 (a := a) (b := b) (c := c) (d := d) (e := e) (f := f)
 rw [e1] at this
 simp only [vcPV, I, keyEq, hf, intsEq3, this]
 rw [if_pos ⟨by kernel_rfl, trivial⟩]
 refine congrArg some ?_
 rw [Bool.and_true, Bool.eq_iff_iff]
 simp [Prod.ext_iff]
theorem lk84 {σ : Sg} {id : Nat} {a b c : Int} {ok : Bool} : lookupPV Tryz.prog σ 84 (.map id) (.agg [.int .i64 a, .int .i64 b, .int .i64 c]) ok = lkX Tryz.prog 89 (I 0) σ id (.agg [.int .i64 a, .int .i64 b, .int .i64 c]) ok := lk_of Tryz.underlying84 Tryz.underlying89 (by kernel_rfl) (by kernel_rfl) σ id ok
theorem up84 {σ : Sg} {id : Nat} {a b c : Int} {v : PV} : updatePV Tryz.prog σ 84 (.map id) (.agg [.int .i64 a, .int .i64 b, .int .i64 c]) v = upX Tryz.prog 89 σ id (.agg [.int .i64 a, .int .i64 b, .int .i64 c]) v := up_of Tryz.underlying84 Tryz.underlying89 (by kernel_rfl) v σ id
theorem lkV {m : List (Voice × Int)} {a b c : Int} {ok : Bool} : lkM Tryz.prog 89 (I 0) (some (some (.mark :: mapE vcPV I m))) (.agg [.int .i64 a, .int .i64 b, .int .i64 c]) ok = some (packPV ok (I ((aget (a, b, c) m).getD 0)) (aget (a, b, c) m).isSome) := by
 have := lkM_map (z := I 0) keyVc I m (a, b, c) ok
 simp only [vcPV, I] at this ⊢
 rw [this]
 cases aget (a, b, c) m <;> rfl
theorem upV {m : List (Voice × Int)} {a b c v : Int} : upM Tryz.prog 89 (some (some (.mark :: mapE vcPV I m))) (.agg [.int .i64 a, .int .i64 b, .int .i64 c]) (.int .i64 v) = some (.mark :: mapE vcPV I (aput (a, b, c) v m)) := upM_map keyVc I m (a, b, c) v
theorem CleanAll_mapV {a b c : Nat} {l : List (Voice × Int)} : CleanAll a b c (mapE vcPV I l) = True := CleanAll_mapE clean_vc (fun _ => .int _ _)
theorem lk77 {σ : Sg} {id : Nat} {k : Int} {ok : Bool} : lookupPV Tryz.prog σ 77 (.map id) (.int .i64 k) ok = lkX Tryz.prog 3 (.bool false) σ id (.int .i64 k) ok := lk_of Tryz.underlying77 Tryz.underlying3 (by kernel_rfl) rfl σ id ok
theorem up77 {σ : Sg} {id : Nat} {k : Int} {v : PV} : updatePV Tryz.prog σ 77 (.map id) (.int .i64 k) v = upX Tryz.prog 3 σ id (.int .i64 k) v := up_of Tryz.underlying77 Tryz.underlying3 rfl v σ id
theorem lkB {m : List (Int × Bool)} {k : Int} {ok : Bool} : lkM Tryz.prog 3 (.bool false) (some (some (.mark :: mapE I PV.bool m))) (.int .i64 k) ok = some (packPV ok (.bool ((aget k m).getD false)) (aget k m).isSome) := by
 have := lkM_map (z := .bool false) keyInt PV.bool m k ok
 simp only [I] at this ⊢
 rw [this]
 cases aget k m <;> rfl
theorem upB {m : List (Int × Bool)} {k : Int} {v : Bool} : upM Tryz.prog 3 (some (some (.mark :: mapE I PV.bool m))) (.int .i64 k) (.bool v) = some (.mark :: mapE I PV.bool (aput k v m)) := upM_map keyInt PV.bool m k v
theorem CleanAll_mapB {a b c : Nat} {l : List (Int × Bool)} : CleanAll a b c (mapE I PV.bool l) = True := CleanAll_mapE (fun _ => .int _ _) (fun _ => .bool _)
theorem packT {v : PV} {b : Bool} : packPV true v b = .tuple [v, .bool b] := rfl
theorem packF {v : PV} {b : Bool} : packPV false v b = v := rfl
theorem evN_tmp {E : Env} {t : Nat} : evN E (.tmp t) = E.get t := rfl
theorem evN_int {E : Env} {k : IntKind} {n : Int} : evN E (.const (.int k n)) = .int k n := rfl
theorem evN_bool {E : Env} {b : Bool} : evN E (.const (.bool b)) = .bool b := rfl
theorem evN_nil {E : Env} : evN E (.const (.slice none 0 0)) = .nilsl := rfl
theorem sll42 {xs : List Int} {own : Own} {k : IntKind} {n : Int} : slicePV Tryz.prog 42 (.isl (xs.map I) own) (some (.int k n)) none none = if 0 ≤ n then if n.toNat ≤ xs.length then some (.isl ((xs.drop n.toNat).map I) own) else none else none := slLo_of Tryz.underlying42 Tryz.underlying3 cells3 (fun _ => rfl) xs own k n
theorem slb42 {xs : List Int} {own : Own} {k k' : IntKind} {n m : Int} : slicePV Tryz.prog 42 (.isl (xs.map I) own) (some (.int k n)) (some (.int k' m)) none = if 0 ≤ n then if 0 ≤ m then if n.toNat ≤ m.toNat ∧ m.toNat ≤ xs.length then some (.isl (((xs.drop n.toNat).take (m.toNat - n.toNat)).map I) (sliceOwn own n.toNat m.toNat xs.length)) else none else none else none := slBoth_of Tryz.underlying42 Tryz.underlying3 cells3 (fun _ => rfl) xs own k k' n m
attribute [go_sem] sll42 slb42 lk84 up84 lkV upV CleanAll_mapV lk77 up77 lkB upB CleanAll_mapB packT packF evN_tmp evN_int evN_bool evN_nil lkX_ext lkX_ext0 upX_ext upX_ext0 lkX_svx Cl_map Cl_nilmap Cl_mark Cl_gsl Cl_gnil setI setB
theorem inR_true {n lo hi : Int} : inR n lo hi = true ↔ lo ≤ n ∧ n ≤ hi := by simp [inR]
theorem allIn_nil {lo hi : Int} : allIn lo hi [] = true := rfl
theorem allIn_cons {lo hi x : Int} {l : List Int} : allIn lo hi (x :: l) = (inR x lo hi && allIn lo hi l) := rfl
/-- The first place of a number, or -1. -/
def fIdx {α : Type} (q : α → Bool) : Nat → List α → Int
 | _, [] => -1
 | i, x :: l => if q x then (i : Int) else fIdx q (i + 1) l
theorem fIdx_anyi {α : Type} (q : α → Bool) : ∀ (l : List α) (i : Nat), decide (0 ≤ fIdx q i l) = l.any q := by
 intro l
 induction l with
 | nil => intro i; simp [fIdx]
 | cons x l ih =>
  intro i
  by_cases h : q x = true
  ·have e : fIdx q i (x :: l) = (i : Int) := by simp only [fIdx]; rw [if_pos h]
   rw [e]; simp [h]
  have e : fIdx q i (x :: l) = fIdx q (i + 1) l := by simp only [fIdx]; rw [if_neg h]
  rw [e, ih (i + 1), List.any_cons]
  have h' : q x = false := by simpa using h
  rw [h', Bool.false_or]
theorem has_comm (l : List Int) (v : Int) : (l.any fun x => decide (v = x)) = has l v := by
 unfold has
 congr 1
 funext x
 rw [Bool.eq_iff_iff]
 simp [eq_comm]
theorem fIdx_any {α : Type} (q : α → Bool) (l : List α) : decide (0 ≤ fIdx q 0 l) = l.any q := fIdx_anyi q l 0
set_option maxHeartbeats 2000000 in
theorem in_pc (Y : YEnv) (σ : Sg) (lw hg : Int) (l : List Int) (o : Own) (hl : l.length < 2 ^ 62) :
 PC Tryz.prog Y 35 [I lw, I hg, intsO o l] σ (.bool (allIn lw hg l)) (σ) := by
 refine PC_of_W Tryz.func35 rfl (by kernel_rfl) Tryz.ntmps35 (by simp) fun hcl hca => ?_
 obtain ⟨res, hres⟩ : ∃ r, allIn lw hg l = r := ⟨_, rfl⟩
 rw [hres]
 refine W_sr [0, 1, 2] fun R hR => ?_
 simp only [go_sem]
 refine hR _ _ ?_; clear hR R
 try simp only [go_sem]
 refine W_seq fun Z2 K2 => ?_
 refine W_sr [0, 1, 9, 10, 11] fun R hR => ?_
 simp only [go_sem]
 refine hR _ _ ?_; clear hR R
 try simp only [go_sem]
 refine W_block ?_
 refine W_loopS (α := Nat) (fun (i : Nat) => [(11, I i)]) (fun (i : Nat) => i ≤ l.length ∧ res = allIn lw hg (l.drop i)) (fun (i : Nat) => l.length - i) (0) rfl (⟨Nat.zero_le _, hres.symm⟩) ?_
 rintro i ⟨hi, hinv⟩
 refine W_sr [0, 1, 9, 10, 11, 12] fun R hR => ?_
 simp only [go_sem]
 refine hR _ _ ?_; clear hR R
 try simp only [go_sem]
 refine W_seq fun Z5 K5 => ?_
 refine W_cond rfl (fun c1 => ?_) (fun c1 => ?_)
 ·
  try simp only [nrm] at c1
  have hi' : i < l.length := by first | assumption | omega
  obtain ⟨x, hx⟩ : ∃ x, l[i]? = some x := ⟨l[i], by simp [hi']⟩
  have hdrop : l.drop i = x :: l.drop (i + 1) := by
   rw [List.drop_eq_getElem_cons hi']; congr 1; exact (List.getElem?_eq_some_iff.1 hx).2
  rw [hdrop, allIn_cons] at hinv
  refine W_skip (K5 _ _ ?_)
  refine W_seq fun Z6 K6 => ?_
  refine W_block ?_
  refine W_sr [0, 1, 8, 9, 10, 11] fun R hR => ?_
  simp only [go_sem, hx]
  refine hR _ _ ?_; clear hR R
  try simp only [go_sem, hx]
  refine W_seq fun Z8 K8 => ?_
  refine W_regionJ [0, 1, 9, 10, 11, 22] [(22, .bool (!inR x lw hg))] ?_ fun R hR => ?_
  ·refine K8 _ _ ?_
   simp only [go_sem, hx]
   refine W_cond rfl (fun c2 => ?_) (fun c2 => ?_)
   ·
    try simp only [nrm] at c2
    refine W_sr [6] fun R hR => ?_
    simp only [go_sem, hx]
    refine hR _ _ ?_; clear hR R
    try simp only [go_sem, hx]
    refine W_ret ?_
    simp only [go_sem, hx]
    refine ⟨.inr (by trivial), ?_⟩
    first | refine Fsa hcl rfl ?_ | refine Fse hcl rfl ?_
    try simp only [go_sem]
    all_goals
     rw [hinv]; have c3 : inR x lw hg = false := by simpa using c2
     rw [c3, Bool.false_and]
   try simp only [nrm] at c2
   refine W_skip (K6 _ _ ?_)
   refine W_region [0, 1, 9, 10, 11] fun R hR => ?_
   simp only [go_sem, hx]
   try simp (disch := omega) only [wrapI, wrapU]
   refine hR _ _ ?_; clear hR R
   try simp only [go_sem, hx]
   refine ⟨i + 1, ?_, by (try simp only []); omega, ?_⟩
   ·first | exact Weak.refl | exact Wqq
   try dsimp only
   refine ⟨hi', ?_⟩
   rw [hinv]
   have c3 : inR x lw hg = true := by simpa using c2
   rw [c3, Bool.true_and]
  simp only [go_sem, hx]
  refine GWant_split (fun g1 => ?_) (fun g1 => ?_)
  ·try simp only [Bool.not_eq_true', Bool.not_eq_false'] at g1
   have n1 := g1; try simp only [nrm] at n1
   simp only [go_sem, hx, g1]
   refine hR _ ?_
   all_goals try simp only [go_sem, hx]
   all_goals
    first | rfl | (simp [inR, *]; done) | (congr 1; have hb : decide (hg < x) = !inR x lw hg := (by rw [Bool.eq_iff_iff]; simp [inR]; omega); simp [hb]; done) | (have hb : decide (hg < x) = !inR x lw hg := (by rw [Bool.eq_iff_iff]; simp [inR]; omega); simp only [hb]; first | done | rfl)
  try simp only [Bool.not_eq_true', Bool.not_eq_false'] at g1
  have n1 := g1; try simp only [nrm] at n1
  simp only [go_sem, hx, g1]
  refine hR _ ?_
  all_goals try simp only [go_sem, hx]
  all_goals
   first | rfl | (simp [inR, *]; done) | (congr 1; have hb : decide (hg < x) = !inR x lw hg := (by rw [Bool.eq_iff_iff]; simp [inR]; omega); simp [hb]; done) | (have hb : decide (hg < x) = !inR x lw hg := (by rw [Bool.eq_iff_iff]; simp [inR]; omega); simp only [hb]; first | done | rfl)
 try simp only [nrm] at c1
 have hdrop : l.drop i = [] := List.drop_eq_nil_of_le (by omega)
 rw [hdrop, allIn_nil] at hinv
 refine W_exit ?_
 simp only [go_sem]
 refine K2 _ _ ?_
 refine W_sr [6] fun R hR => ?_
 simp only [go_sem]
 refine hR _ _ ?_; clear hR R
 try simp only [go_sem]
 refine W_ret ?_
 simp only [go_sem]
 refine ⟨.inr (by trivial), ?_⟩
 first | refine Fsa hcl rfl ?_ | refine Fse hcl rfl ?_
 try simp only [go_sem]
 all_goals
  rw [hinv]
set_option maxHeartbeats 2000000 in
theorem index_pc (Y : YEnv) (σ : Sg) (l : List Int) (o : Own) (v : Int) (hl : l.length < 2 ^ 62) :
 PC Tryz.prog Y 45 [intsO o l, I v] σ (I (fIdx (fun x => decide (v = x)) 0 l)) (σ) := by
 refine PC_of_W Tryz.func45 rfl (by kernel_rfl) Tryz.ntmps45 (by simp) fun hcl hca => ?_
 refine W_sr [0, 1] fun R hR => ?_
 simp only [go_sem]
 refine hR _ _ ?_; clear hR R
 try simp only [go_sem]
 refine W_seq fun Z2 K2 => ?_
 refine W_sr [0, 1, 7, 8] fun R hR => ?_
 simp only [go_sem]
 refine hR _ _ ?_; clear hR R
 try simp only [go_sem]
 refine W_block ?_
 refine W_loopS (α := Nat) (fun (i : Nat) => [(8, I i)]) (fun (i : Nat) => i ≤ l.length ∧ fIdx (fun x => decide (v = x)) i (l.drop i) = fIdx (fun x => decide (v = x)) 0 l) (fun (i : Nat) => l.length - i) (0) rfl (⟨Nat.zero_le _, rfl⟩) ?_
 rintro i ⟨hi, hinv⟩
 refine W_sr [0, 1, 7, 8, 9] fun R hR => ?_
 simp only [go_sem]
 refine hR _ _ ?_; clear hR R
 try simp only [go_sem]
 refine W_seq fun Z5 K5 => ?_
 refine W_cond rfl (fun c1 => ?_) (fun c1 => ?_)
 ·
  try simp only [nrm] at c1
  have hi' : i < l.length := by first | assumption | omega
  obtain ⟨x, hx⟩ : ∃ x, l[i]? = some x := ⟨l[i], by simp [hi']⟩
  have hdrop : l.drop i = x :: l.drop (i + 1) := by
   rw [List.drop_eq_getElem_cons hi']; congr 1; exact (List.getElem?_eq_some_iff.1 hx).2
  rw [hdrop] at hinv
  simp only [fIdx] at hinv
  refine W_skip (K5 _ _ ?_)
  refine W_seq fun Z6 K6 => ?_
  refine W_block ?_
  refine W_sr [0, 1, 5, 7, 8] fun R hR => ?_
  simp only [go_sem, hx]
  refine hR _ _ ?_; clear hR R
  try simp only [go_sem, hx]
  refine W_sr [0, 1, 5, 7, 8, 16] fun R hR => ?_
  simp only [go_sem, hx]
  refine hR _ _ ?_; clear hR R
  try simp only [go_sem, hx]
  refine W_cond rfl (fun c2 => ?_) (fun c2 => ?_)
  ·
   try simp only [nrm] at c2
   refine W_sr [4] fun R hR => ?_
   simp only [go_sem, hx]
   refine hR _ _ ?_; clear hR R
   try simp only [go_sem, hx]
   refine W_ret ?_
   simp only [go_sem, hx]
   refine ⟨.inr (by trivial), ?_⟩
   first | refine Fsa hcl rfl ?_ | refine Fse hcl rfl ?_
   try simp only [go_sem]
   all_goals
    first | rfl | (simp_all; done) | (simp_all; omega)
  try simp only [nrm] at c2
  refine W_skip (K6 _ _ ?_)
  refine W_region [0, 1, 7, 8] fun R hR => ?_
  simp only [go_sem, hx]
  try simp (disch := omega) only [wrapI, wrapU]
  refine hR _ _ ?_; clear hR R
  try simp only [go_sem, hx]
  refine ⟨i + 1, ?_, by (try simp only []); omega, ?_⟩
  ·first | exact Weak.refl | exact Wqq
  try dsimp only
  exact ⟨hi', by simp_all⟩
 try simp only [nrm] at c1
 have hdrop : l.drop i = [] := List.drop_eq_nil_of_le (by omega)
 rw [hdrop] at hinv
 simp only [fIdx] at hinv
 refine W_exit ?_
 simp only [go_sem]
 refine K2 _ _ ?_
 refine W_sr [4] fun R hR => ?_
 simp only [go_sem]
 refine hR _ _ ?_; clear hR R
 try simp only [go_sem]
 refine W_ret ?_
 simp only [go_sem]
 refine ⟨.inr (by trivial), ?_⟩
 first | refine Fsa hcl rfl ?_ | refine Fse hcl rfl ?_
 try simp only [go_sem]
 all_goals
  first | rfl | (simp_all; done) | (simp_all; omega)
set_option maxHeartbeats 2000000 in
theorem contains_pc (Y : YEnv) (σ : Sg) (l : List Int) (o : Own) (v : Int) (hl : l.length < 2 ^ 62) :
 PC Tryz.prog Y 40 [intsO o l, I v] σ (.bool (has l v)) (σ) := by
 refine PC_of_W Tryz.func40 rfl (by kernel_rfl) Tryz.ntmps40 (by simp) fun hcl hca => ?_
 refine W_sr [0, 1] fun R hR => ?_
 simp only [go_sem]
 refine hR _ _ ?_; clear hR R
 try simp only [go_sem]
 refine W_sr [4] fun R hR => ?_
 simp only [go_sem]
 refine GCall_of (index_pc Y _ l o v hl) ?_
 simp only [go_sem]
 refine hR _ _ ?_; clear hR R
 try simp only [go_sem]
 refine W_ret ?_
 simp only [go_sem]
 refine ⟨.inr (by trivial), ?_⟩
 first | refine Fsa hcl rfl ?_ | refine Fse hcl rfl ?_
 try simp only [go_sem]
 all_goals
  simp only [fIdx_any, has_comm, go_sem]
set_option maxHeartbeats 2000000 in
theorem EqInts_pc (Y : YEnv) (σ : Sg) (xs ys : List Int) (o o2 : Own) (hx : xs.length < 2 ^ 50) :
 PC Tryz.prog Y 19 [.isl (xs.map I) o, .isl (ys.map I) o2] σ (.bool (decide (xs = ys))) (σ) := by
 refine PC_of_W Tryz.func19 rfl (by kernel_rfl) Tryz.ntmps19 (by simp) fun hcl hca => ?_
 refine W_sr [0, 1] fun R hR => ?_
 simp only [go_sem]
 refine hR _ _ ?_; clear hR R
 try simp only [go_sem]
 refine W_seq fun Z2 K2 => ?_
 refine W_sr [0, 1, 10] fun R hR => ?_
 simp only [go_sem]
 refine hR _ _ ?_; clear hR R
 try simp only [go_sem]
 refine W_cond rfl (fun c1 => ?_) (fun c1 => ?_)
 ·
  try simp only [nrm] at c1
  refine W_sr [4] fun R hR => ?_
  simp only [go_sem]
  refine hR _ _ ?_; clear hR R
  try simp only [go_sem]
  refine W_ret ?_
  simp only [go_sem]
  refine ⟨.inr (by trivial), ?_⟩
  first | refine Fsa hcl rfl ?_ | refine Fse hcl rfl ?_
  try simp only [go_sem]
  all_goals
   simp; intro h; subst h; exact c1 rfl
 try simp only [nrm] at c1
 refine W_skip (K2 _ _ ?_)
 refine W_seq fun Z5 K5 => ?_
 refine W_sr [0, 1, 5] fun R hR => ?_
 simp only [go_sem]
 refine hR _ _ ?_; clear hR R
 try simp only [go_sem]
 refine W_block ?_
 refine W_loopS (α := Nat) (fun (i : Nat) => [(5, I i)]) (fun (i : Nat) => i ≤ xs.length ∧ xs.take i = ys.take i) (fun (i : Nat) => xs.length - i) (0) rfl (⟨Nat.zero_le _, rfl⟩) ?_
 rintro i ⟨hi, ht⟩
 refine W_seq fun Z7 K7 => ?_
 refine W_sr [0, 1, 5, 14] fun R hR => ?_
 simp only [go_sem]
 refine hR _ _ ?_; clear hR R
 try simp only [go_sem]
 refine W_cond rfl (fun c2 => ?_) (fun c2 => ?_)
 ·
  try simp only [nrm] at c2
  have hi' : i < xs.length := by first | assumption | omega
  obtain ⟨x, hxi⟩ : ∃ x, xs[i]? = some x := ⟨xs[i], by simp⟩
  obtain ⟨y, hyi⟩ : ∃ y, ys[i]? = some y := ⟨ys[i]'(by omega), by simp⟩
  refine W_skip (K7 _ _ ?_)
  refine W_seq fun Z9 K9 => ?_
  refine W_block ?_
  refine W_seq fun Z10 K10 => ?_
  refine W_draw [0, 1, 5, 25] [0, 1, 2, 3, 4, 5, 6, 7, 8] [] [[], [], [0, 1], [0, 1, 2], [], [], [4, 5], [4, 5, 6], [0, 1, 2, 3, 4, 5, 6, 7]] mixed (by kernel_rfl) fun R hR => ?_
  simp only [go_sem, hxi, hyi]
  try refine And.intro (by repeat' (first | refine And.intro ?_ ?_ | exact GOr_right (fun _ => by simp only [go_sem, hxi, hyi]))) ?_
  refine hR _ _ (K10 _ _ ?_); clear hR R; try clear K10 Z10
  try simp only [go_sem, hxi, hyi]
  refine W_cond rfl (fun c3 => ?_) (fun c3 => ?_)
  ·
   try simp only [nrm] at c3
   refine W_sr [4] fun R hR => ?_
   simp only [go_sem, hxi, hyi]
   refine hR _ _ ?_; clear hR R
   try simp only [go_sem, hxi, hyi]
   refine W_ret ?_
   simp only [go_sem, hxi, hyi]
   refine ⟨.inr (by trivial), ?_⟩
   first | refine Fsa hcl rfl ?_ | refine Fse hcl rfl ?_
   try simp only [go_sem]
   all_goals
    simp; intro h; subst h; rw [hxi] at hyi; injection hyi with h; exact c3 h
  try simp only [nrm] at c3
  refine W_skip (K9 _ _ ?_)
  refine W_region [0, 1, 5] fun R hR => ?_
  simp only [go_sem, hxi, hyi]
  try simp (disch := omega) only [wrapI, wrapU]
  refine hR _ _ ?_; clear hR R
  try simp only [go_sem, hxi, hyi]
  refine ⟨i + 1, ?_, by (try simp only []); omega, ?_⟩
  ·first | exact Weak.refl | exact Wqq
  try dsimp only
  refine ⟨hi', ?_⟩
  rw [List.take_add_one, List.take_add_one, ht, hxi, hyi, c3]
 try simp only [nrm] at c2
 have hie : i = xs.length := by omega
 subst hie
 have hxy : xs = ys := by rw [List.take_length] at ht; rw [c1, List.take_length] at ht; exact ht
 refine W_exit ?_
 simp only [go_sem]
 refine K5 _ _ ?_
 refine W_sr [4] fun R hR => ?_
 simp only [go_sem]
 refine hR _ _ ?_; clear hR R
 try simp only [go_sem]
 refine W_ret ?_
 simp only [go_sem]
 refine ⟨.inr (by trivial), ?_⟩
 first | refine Fsa hcl rfl ?_ | refine Fse hcl rfl ?_
 try simp only [go_sem]
 all_goals
  simp [hxy]
def chkRd (s : Int) (r : Rnd) : Bool := allIn 0 1000 [r.jury, r.member] && allIn 1 s [r.keep]
def chkRds : Int → List Rnd → Int
 | s, [] => if s = 1 then 0 else 1
 | s, r :: l => if !(chkRd s r) then 2 else chkRds r.keep l
def chkCn0 (c : Contest) : Bool := allIn 1 8 [c.songs] && allIn 0 8 [c.juries] && allIn 0 1000 [c.members] && allIn 0 100 [c.most]
/-- The error of a contest. -/
def chkCn (c : Contest) : Int := if !(chkCn0 c) then 2 else if c.rounds.length = 0 then 4 else if (c.rounds.length : Int) > 4 then 5 else chkRds c.songs c.rounds
set_option maxHeartbeats 4000000 in
theorem Check_pc (Y : YEnv) (σ : Sg) (c : Contest) (hr : c.rounds.length < 2 ^ 40) :
 PC Tryz.prog Y 9 [cnPV c] σ (I (chkCn c)) (σ) := by
 refine PC_of_W Tryz.func9 rfl (by kernel_rfl) Tryz.ntmps9 (by simp) fun hcl hca => ?_
 obtain ⟨res, hres⟩ : ∃ r, chkCn c = r := ⟨_, rfl⟩
 rw [hres]
 refine W_sr [1] fun R hR => ?_
 simp only [go_sem, cnCells]
 refine hR _ _ ?_; clear hR R
 try simp only [go_sem, cnCells]
 refine W_seq fun Z2 K2 => ?_
 refine W_block ?_
 refine W_seq fun Z3 K3 => ?_
 refine W_sr [1, 6] fun R hR => ?_
 simp only [go_sem, cnCells]
 refine GCall_of (in_pc Y _ 1 8 [c.songs] .exact (by simp)) ?_
 simp only [go_sem, cnCells]
 refine hR _ _ ?_; clear hR R
 try simp only [go_sem, cnCells]
 refine W_cond rfl (fun c1 => ?_) (fun c1 => ?_)
 ·
  try simp only [nrm] at c1
  refine W_skip (K3 _ _ ?_)
  refine W_cond_true (by first | rfl | (simp only [go_sem]; simp [c1])) ?_
  refine W_sr [2] fun R hR => ?_
  simp only [go_sem, cnCells]
  refine hR _ _ ?_; clear hR R
  try simp only [go_sem, cnCells]
  refine W_ret ?_
  simp only [go_sem, cnCells]
  refine ⟨.inr (by trivial), ?_⟩
  first | refine Fsa hcl rfl ?_ | refine Fse hcl rfl ?_
  try simp only [go_sem]
  all_goals
   first | rfl | (simp_all; done) | (simp_all; omega) | (rw [← hres]; simp only [chkCn, chkCn0]; (repeat' split) <;> ((first | rfl | omega | (simp_all; done) | (simp_all; omega))))
 try simp only [nrm] at c1
 refine W_sr [1, 6] fun R hR => ?_
 simp only [go_sem, cnCells]
 refine GCall_of (in_pc Y _ 0 8 [c.juries] .exact (by simp)) ?_
 simp only [go_sem, cnCells]
 refine hR _ _ ?_; clear hR R
 try simp only [go_sem, cnCells]
 refine W_cond rfl (fun c2 => ?_) (fun c2 => ?_)
 ·
  try simp only [nrm] at c2
  refine W_skip (K3 _ _ ?_)
  refine W_cond_true (by first | rfl | (simp only [go_sem]; simp [c2])) ?_
  refine W_sr [2] fun R hR => ?_
  simp only [go_sem, cnCells]
  refine hR _ _ ?_; clear hR R
  try simp only [go_sem, cnCells]
  refine W_ret ?_
  simp only [go_sem, cnCells]
  refine ⟨.inr (by trivial), ?_⟩
  first | refine Fsa hcl rfl ?_ | refine Fse hcl rfl ?_
  try simp only [go_sem]
  all_goals
   first | rfl | (simp_all; done) | (simp_all; omega) | (rw [← hres]; simp only [chkCn, chkCn0]; (repeat' split) <;> ((first | rfl | omega | (simp_all; done) | (simp_all; omega))))
 try simp only [nrm] at c2
 refine W_sr [1, 6] fun R hR => ?_
 simp only [go_sem, cnCells]
 refine GCall_of (in_pc Y _ 0 1000 [c.members] .exact (by simp)) ?_
 simp only [go_sem, cnCells]
 refine hR _ _ ?_; clear hR R
 try simp only [go_sem, cnCells]
 refine W_cond rfl (fun c3 => ?_) (fun c3 => ?_)
 ·
  try simp only [nrm] at c3
  refine W_skip (K3 _ _ ?_)
  refine W_cond_true (by first | rfl | (simp only [go_sem]; simp [c3])) ?_
  refine W_sr [2] fun R hR => ?_
  simp only [go_sem, cnCells]
  refine hR _ _ ?_; clear hR R
  try simp only [go_sem, cnCells]
  refine W_ret ?_
  simp only [go_sem, cnCells]
  refine ⟨.inr (by trivial), ?_⟩
  first | refine Fsa hcl rfl ?_ | refine Fse hcl rfl ?_
  try simp only [go_sem]
  all_goals
   first | rfl | (simp_all; done) | (simp_all; omega) | (rw [← hres]; simp only [chkCn, chkCn0]; (repeat' split) <;> ((first | rfl | omega | (simp_all; done) | (simp_all; omega))))
 try simp only [nrm] at c3
 refine W_region [1, 6] fun R hR => ?_
 simp only [go_sem, cnCells]
 refine GCall_of (in_pc Y _ 0 100 [c.most] .exact (by simp)) ?_
 simp only [go_sem, cnCells]
 refine hR _ _ (K3 _ _ ?_); clear hR R; try clear K3 Z3
 try simp only [go_sem, cnCells]
 refine W_cond rfl (fun c4 => ?_) (fun c4 => ?_)
 ·
  try simp only [nrm] at c4
  refine W_sr [2] fun R hR => ?_
  simp only [go_sem, cnCells]
  refine hR _ _ ?_; clear hR R
  try simp only [go_sem, cnCells]
  refine W_ret ?_
  simp only [go_sem, cnCells]
  refine ⟨.inr (by trivial), ?_⟩
  first | refine Fsa hcl rfl ?_ | refine Fse hcl rfl ?_
  try simp only [go_sem]
  all_goals
   first | rfl | (simp_all; done) | (simp_all; omega) | (rw [← hres]; simp only [chkCn, chkCn0]; (repeat' split) <;> ((first | rfl | omega | (simp_all; done) | (simp_all; omega))))
 try simp only [nrm] at c4
 refine W_sr [1, 27] fun R hR => ?_
 simp only [go_sem, cnCells]
 refine hR _ _ ?_; clear hR R
 try simp only [go_sem, cnCells]
 refine W_cond rfl (fun c5 => ?_) (fun c5 => ?_)
 ·
  try simp only [nrm] at c5
  refine W_sr [2] fun R hR => ?_
  simp only [go_sem, cnCells]
  refine hR _ _ ?_; clear hR R
  try simp only [go_sem, cnCells]
  refine W_ret ?_
  simp only [go_sem, cnCells]
  refine ⟨.inr (by trivial), ?_⟩
  first | refine Fsa hcl rfl ?_ | refine Fse hcl rfl ?_
  try simp only [go_sem]
  all_goals
   first | rfl | (simp_all; done) | (simp_all; omega) | (rw [← hres]; simp only [chkCn, chkCn0]; (repeat' split) <;> ((first | rfl | omega | (simp_all; done) | (simp_all; omega))))
 try simp only [nrm] at c5
 refine W_sr [1, 32] fun R hR => ?_
 simp only [go_sem, cnCells]
 refine hR _ _ ?_; clear hR R
 try simp only [go_sem, cnCells]
 refine W_cond rfl (fun c6 => ?_) (fun c6 => ?_)
 ·
  try simp only [nrm] at c6
  refine W_sr [2] fun R hR => ?_
  simp only [go_sem, cnCells]
  refine hR _ _ ?_; clear hR R
  try simp only [go_sem, cnCells]
  refine W_ret ?_
  simp only [go_sem, cnCells]
  refine ⟨.inr (by trivial), ?_⟩
  first | refine Fsa hcl rfl ?_ | refine Fse hcl rfl ?_
  try simp only [go_sem]
  all_goals
   first | rfl | (simp_all; done) | (simp_all; omega) | (rw [← hres]; simp only [chkCn, chkCn0]; (repeat' split) <;> ((first | rfl | omega | (simp_all; done) | (simp_all; omega))))
 try simp only [nrm] at c6
 refine W_skip (K2 _ _ ?_)
 refine W_sr [1, 3] fun R hR => ?_
 simp only [go_sem, cnCells]
 refine hR _ _ ?_; clear hR R
 try simp only [go_sem, cnCells]
 refine W_seq fun Z16 K16 => ?_
 refine W_sr [3, 40, 41, 42] fun R hR => ?_
 simp only [go_sem, cnCells]
 refine hR _ _ ?_; clear hR R
 try simp only [go_sem, cnCells]
 refine W_block ?_
 refine W_loopT (α := Nat × Int) (fun ⟨i, s⟩ => [(3, I s), (42, I i)]) (fun ⟨i, s⟩ => σ.ext [some (cnCells c)] []) (fun ⟨i, s⟩ => i ≤ c.rounds.length ∧ chkRds c.songs c.rounds = chkRds s (c.rounds.drop i)) (fun ⟨i, s⟩ => c.rounds.length - i) ((0, c.songs)) rfl (by first | rfl | (simp only [go_sem]; done) | (simp only [go_sem]; rfl)) (⟨Nat.zero_le _, rfl⟩) ?_
 rintro ⟨i, s⟩ ⟨hi, hinv⟩
 refine W_sr [3, 40, 41, 42, 43] fun R hR => ?_
 simp only [go_sem, cnCells]
 refine hR _ _ ?_; clear hR R
 try simp only [go_sem, cnCells]
 refine W_seq fun Z19 K19 => ?_
 refine W_cond rfl (fun c7 => ?_) (fun c7 => ?_)
 ·
  try simp only [nrm] at c7
  have hi' : i < c.rounds.length := by first | assumption | omega
  obtain ⟨r, hx⟩ : ∃ r, c.rounds[i]? = some r := ⟨c.rounds[i], by simp [hi']⟩
  have hdrop : c.rounds.drop i = r :: c.rounds.drop (i + 1) := by
   rw [List.drop_eq_getElem_cons hi']; congr 1; exact (List.getElem?_eq_some_iff.1 hx).2
  rw [hdrop] at hinv
  simp only [chkRds] at hinv
  refine W_skip (K19 _ _ ?_)
  refine W_seq fun Z20 K20 => ?_
  refine W_block ?_
  refine W_sr [3, 5, 40, 41, 42] fun R hR => ?_
  simp only [go_sem, cnCells, hx, rdCells, rdPV, List.getElem?_map]
  refine hR _ _ ?_; clear hR R
  try simp only [go_sem, cnCells, hx, rdCells, rdPV, List.getElem?_map]
  refine W_seq fun Z22 K22 => ?_
  refine W_seq fun Z23 K23 => ?_
  refine W_regionJ [5, 40, 41, 42, 60] [(60, .bool (!chkRd s r))] ?_ fun R hR => ?_
  ·refine K23 _ _ ?_
   simp only [go_sem, cnCells, hx, rdCells, rdPV, List.getElem?_map]
   refine W_cond rfl (fun c8 => ?_) (fun c8 => ?_)
   ·
    try simp only [nrm] at c8
    refine W_sr [2] fun R hR => ?_
    simp only [go_sem, cnCells, hx, rdCells, rdPV, List.getElem?_map]
    refine hR _ _ ?_; clear hR R
    try simp only [go_sem, cnCells, hx, rdCells, rdPV, List.getElem?_map]
    refine W_ret ?_
    simp only [go_sem, cnCells, hx, rdCells, rdPV, List.getElem?_map]
    refine ⟨.inr (by trivial), ?_⟩
    first | refine Fsa hcl rfl ?_ | refine Fse hcl rfl ?_
    try simp only [go_sem]
    all_goals
     first | rfl | (simp_all; done) | (simp_all; omega) | (rw [← hres]; simp only [chkCn, chkCn0]; (repeat' split) <;> ((first | rfl | omega | (simp_all; done) | (simp_all; omega))))
   try simp only [nrm] at c8
   refine W_skip (K22 _ _ ?_)
   refine W_region [3, 40, 41, 42] fun R hR => ?_
   simp only [go_sem, cnCells, hx, rdCells, rdPV, List.getElem?_map]
   refine hR _ _ (K20 _ _ ?_); clear hR R; try clear K20 Z20
   try simp only [go_sem, cnCells, hx, rdCells, rdPV, List.getElem?_map]
   refine W_region [3, 40, 41, 42] fun R hR => ?_
   simp only [go_sem, cnCells, hx, rdCells, rdPV, List.getElem?_map]
   try simp (disch := omega) only [wrapI, wrapU]
   refine hR _ _ ?_; clear hR R
   try simp only [go_sem, cnCells, hx, rdCells, rdPV, List.getElem?_map]
   refine ⟨(i + 1, r.keep), ?_, by (try simp only []); omega, ?_⟩
   ·refine Weak.trans (Weak.cutX 1 0 (by omega) (by omega) hcl (by simp only [go_sem] <;> omega) (by simp only [go_sem] <;> omega)) ?_
    simp only [go_sem]
    exact Weak.eq (by first | rfl | (simp only [go_sem]; done) | (simp only [go_sem]; rfl) | (simp [go_sem]; done) | (simp [go_sem]; omega)) (by first | rfl | (simp only [go_sem]; done) | (simp [go_sem]; done))
   try dsimp only
   refine ⟨hi', ?_⟩
   rw [hinv]; simp [*]
  simp only [go_sem, cnCells, hx, rdCells, rdPV, List.getElem?_map]
  refine GCall_of (in_pc Y _ 0 1000 [r.jury, r.member] .exact (by simp)) ?_
  simp only [go_sem, cnCells, hx, rdCells, rdPV, List.getElem?_map]
  refine GWant_split (fun g1 => ?_) (fun g1 => ?_)
  ·try simp only [Bool.not_eq_true', Bool.not_eq_false'] at g1
   have n1 := g1; try simp only [nrm] at n1
   simp only [go_sem, cnCells, hx, rdCells, rdPV, List.getElem?_map, g1]
   refine GCall_of (in_pc Y _ 1 s [r.keep] .exact (by simp)) ?_
   simp only [go_sem, cnCells, hx, rdCells, rdPV, List.getElem?_map, g1]
   refine hR _ ?_
   all_goals try simp only [go_sem, cnCells, hx, rdCells, rdPV, List.getElem?_map]
   all_goals
    first | rfl | (simp [chkRd, *]; done) | (simp_all [chkRd]; done)
  try simp only [Bool.not_eq_true', Bool.not_eq_false'] at g1
  have n1 := g1; try simp only [nrm] at n1
  simp only [go_sem, cnCells, hx, rdCells, rdPV, List.getElem?_map, g1]
  refine hR _ ?_
  all_goals try simp only [go_sem, cnCells, hx, rdCells, rdPV, List.getElem?_map]
  all_goals
   first | rfl | (simp [chkRd, *]; done) | (simp_all [chkRd]; done)
 try simp only [nrm] at c7
 have hdrop : c.rounds.drop i = [] := List.drop_eq_nil_of_le (by omega)
 rw [hdrop] at hinv
 simp only [chkRds] at hinv
 refine W_exit ?_
 simp only [go_sem, cnCells]
 refine K16 _ _ ?_
 refine W_seq fun Z25 K25 => ?_
 refine W_sr [65] fun R hR => ?_
 simp only [go_sem, cnCells]
 refine hR _ _ ?_; clear hR R
 try simp only [go_sem, cnCells]
 refine W_cond rfl (fun c9 => ?_) (fun c9 => ?_)
 ·
  try simp only [nrm] at c9
  refine W_sr [2] fun R hR => ?_
  simp only [go_sem, cnCells]
  refine hR _ _ ?_; clear hR R
  try simp only [go_sem, cnCells]
  refine W_ret ?_
  simp only [go_sem, cnCells]
  refine ⟨.inr (by trivial), ?_⟩
  first | refine Fsa hcl rfl ?_ | refine Fse hcl rfl ?_
  try simp only [go_sem]
  all_goals
   first | rfl | (simp_all; done) | (simp_all; omega) | (rw [← hres]; simp only [chkCn, chkCn0]; (repeat' split) <;> ((first | rfl | omega | (simp_all; done) | (simp_all; omega))))
 try simp only [nrm] at c9
 refine W_skip (K25 _ _ ?_)
 refine W_sr [2] fun R hR => ?_
 simp only [go_sem, cnCells]
 refine hR _ _ ?_; clear hR R
 try simp only [go_sem, cnCells]
 refine W_ret ?_
 simp only [go_sem, cnCells]
 refine ⟨.inr (by trivial), ?_⟩
 first | refine Fsa hcl rfl ?_ | refine Fse hcl rfl ?_
 try simp only [go_sem]
 all_goals
  first | rfl | (simp_all; done) | (simp_all; omega) | (rw [← hres]; simp only [chkCn, chkCn0]; (repeat' split) <;> ((first | rfl | omega | (simp_all; done) | (simp_all; omega))))
theorem allIn1 {lo hi x : Int} : allIn lo hi [x] = inR x lo hi := by simp [allIn]
def unl (b : Bool) (e : Int) : Int := if b then 0 else e
def bl1 (c : Contest) (b : Ballot) : Int := unl (inR b.round 0 ((c.rounds.length : Int) - 1)) 2
def bl2 (b : Ballot) : Int := unl (inR b.kind 1 2) 3
def bl3 (c : Contest) (b : Ballot) : Int := unl (inR b.voter 0 ((if b.kind = 2 then c.members else c.juries) - 1)) 7
def bl4 (c : Contest) (b : Ballot) : Int := unl (inR b.song 0 (c.songs - 1)) 7
def bl5 (c : Contest) (b : Ballot) : Int := if b.kind = 2 then unl (b.points == 0) 1 else unl (inR b.points 0 c.most) 2
set_option maxHeartbeats 2000000 in
theorem unless_pc (Y : YEnv) (σ : Sg) (b : Bool) (e : Int) :
 PC Tryz.prog Y 66 [.bool b, I e] σ (I (unl b e)) (σ) := by
 refine PC_of_W Tryz.func66 rfl (by kernel_rfl) Tryz.ntmps66 (by simp) fun hcl hca => ?_
 refine W_sr [0, 1] fun R hR => ?_
 simp only [go_sem]
 refine hR _ _ ?_; clear hR R
 try simp only [go_sem]
 refine W_seq fun Z2 K2 => ?_
 refine W_sr [1, 5] fun R hR => ?_
 simp only [go_sem]
 refine hR _ _ ?_; clear hR R
 try simp only [go_sem]
 refine W_cond rfl (fun c1 => ?_) (fun c1 => ?_)
 ·
  try simp only [nrm] at c1
  refine W_sr [4] fun R hR => ?_
  simp only [go_sem]
  refine hR _ _ ?_; clear hR R
  try simp only [go_sem]
  refine W_ret ?_
  simp only [go_sem]
  refine ⟨.inr (by trivial), ?_⟩
  first | refine Fsa hcl rfl ?_ | refine Fse hcl rfl ?_
  try simp only [go_sem]
  all_goals
   first | rfl | (simp_all; done) | (simp_all; omega) | (simp only [unl]; (repeat' split) <;> ((first | rfl | omega | (simp_all; done) | (simp_all; omega))))
 try simp only [nrm] at c1
 refine W_skip (K2 _ _ ?_)
 refine W_sr [4] fun R hR => ?_
 simp only [go_sem]
 refine hR _ _ ?_; clear hR R
 try simp only [go_sem]
 refine W_ret ?_
 simp only [go_sem]
 refine ⟨.inr (by trivial), ?_⟩
 first | refine Fsa hcl rfl ?_ | refine Fse hcl rfl ?_
 try simp only [go_sem]
 all_goals
  first | rfl | (simp_all; done) | (simp_all; omega) | (simp only [unl]; (repeat' split) <;> ((first | rfl | omega | (simp_all; done) | (simp_all; omega))))
set_option maxHeartbeats 2000000 in
theorem bl1_pc (Y : YEnv) (σ : Sg) (c : Contest) (b : Ballot) (i1 i2 : Nat) (h1 : σ.store[i1]? = some (some (cnCells c))) (h2 : σ.store[i2]? = some (some (blCells b))) (hr : c.rounds.length < 2 ^ 40) :
 PC Tryz.prog Y 65 [.ptr i1 0, .ptr i2 0] σ (I (bl1 c b)) (σ) := by
 refine PC_of_W Tryz.func65 rfl (by kernel_rfl) Tryz.ntmps65 (by simp) fun hcl hca => ?_
 refine W_sr [0, 1] fun R hR => ?_
 simp only [go_sem, ldS_at h1, ldS_at h2, cnCells, blCells, allIn1]
 refine hR _ _ ?_; clear hR R
 try simp only [go_sem, ldS_at h1, ldS_at h2, cnCells, blCells, allIn1]
 refine W_sr [2] fun R hR => ?_
 simp only [go_sem, ldS_at h1, ldS_at h2, cnCells, blCells, allIn1]
 try simp (disch := omega) only [wrapI]
 try simp (disch := omega) only [wrapI, wrapU]
 refine GCall_of (in_pc Y _ 0 ((c.rounds.length : Int) - 1) [b.round] .exact (by simp)) ?_
 simp only [go_sem, ldS_at h1, ldS_at h2, cnCells, blCells, allIn1]
 try simp (disch := omega) only [wrapI, wrapU]
 refine GCall_of (unless_pc Y _ _ 2) ?_
 simp only [go_sem, ldS_at h1, ldS_at h2, cnCells, blCells, allIn1]
 try simp (disch := omega) only [wrapI, wrapU]
 refine hR _ _ ?_; clear hR R
 try simp only [go_sem, ldS_at h1, ldS_at h2, cnCells, blCells, allIn1]
 refine W_ret ?_
 simp only [go_sem, ldS_at h1, ldS_at h2, cnCells, blCells, allIn1]
 refine ⟨.inr (by trivial), ?_⟩
 first | refine Fsa hcl rfl ?_ | refine Fse hcl rfl ?_
 try simp only [go_sem]
 all_goals
  first | rfl | simp [bl1, allIn1]
set_option maxHeartbeats 2000000 in
theorem bl2_pc (Y : YEnv) (σ : Sg) (c : Contest) (b : Ballot) (i1 i2 : Nat) (h1 : σ.store[i1]? = some (some (cnCells c))) (h2 : σ.store[i2]? = some (some (blCells b))) :
 PC Tryz.prog Y 67 [.ptr i2 0] σ (I (bl2 b)) (σ) := by
 refine PC_of_W Tryz.func67 rfl (by kernel_rfl) Tryz.ntmps67 (by simp) fun hcl hca => ?_
 refine W_sr [0] fun R hR => ?_
 simp only [go_sem, ldS_at h1, ldS_at h2, cnCells, blCells, allIn1]
 refine hR _ _ ?_; clear hR R
 try simp only [go_sem, ldS_at h1, ldS_at h2, cnCells, blCells, allIn1]
 refine W_sr [1] fun R hR => ?_
 simp only [go_sem, ldS_at h1, ldS_at h2, cnCells, blCells, allIn1]
 refine GCall_of (in_pc Y _ 1 2 [b.kind] .exact (by simp)) ?_
 simp only [go_sem, ldS_at h1, ldS_at h2, cnCells, blCells, allIn1]
 refine GCall_of (unless_pc Y _ _ 3) ?_
 simp only [go_sem, ldS_at h1, ldS_at h2, cnCells, blCells, allIn1]
 refine hR _ _ ?_; clear hR R
 try simp only [go_sem, ldS_at h1, ldS_at h2, cnCells, blCells, allIn1]
 refine W_ret ?_
 simp only [go_sem, ldS_at h1, ldS_at h2, cnCells, blCells, allIn1]
 refine ⟨.inr (by trivial), ?_⟩
 first | refine Fsa hcl rfl ?_ | refine Fse hcl rfl ?_
 try simp only [go_sem]
 all_goals
  first | rfl | simp [bl2, allIn1]
set_option maxHeartbeats 2000000 in
theorem bl3_pc (Y : YEnv) (σ : Sg) (c : Contest) (b : Ballot) (i1 i2 : Nat) (h1 : σ.store[i1]? = some (some (cnCells c))) (h2 : σ.store[i2]? = some (some (blCells b))) (hm : -2 ^ 60 ≤ c.members ∧ c.members ≤ 2 ^ 60) (hj : -2 ^ 60 ≤ c.juries ∧ c.juries ≤ 2 ^ 60) :
 PC Tryz.prog Y 68 [.ptr i1 0, .ptr i2 0] σ (I (bl3 c b)) (σ) := by
 refine PC_of_W Tryz.func68 rfl (by kernel_rfl) Tryz.ntmps68 (by simp) fun hcl hca => ?_
 refine W_sr [0, 1] fun R hR => ?_
 simp only [go_sem, ldS_at h1, ldS_at h2, cnCells, blCells, allIn1]
 refine hR _ _ ?_; clear hR R
 try simp only [go_sem, ldS_at h1, ldS_at h2, cnCells, blCells, allIn1]
 refine W_sr [0, 1, 3] fun R hR => ?_
 simp only [go_sem, ldS_at h1, ldS_at h2, cnCells, blCells, allIn1]
 refine hR _ _ ?_; clear hR R
 try simp only [go_sem, ldS_at h1, ldS_at h2, cnCells, blCells, allIn1]
 refine W_seq fun Z3 K3 => ?_
 refine W_sr [0, 1, 3, 8] fun R hR => ?_
 simp only [go_sem, ldS_at h1, ldS_at h2, cnCells, blCells, allIn1]
 refine hR _ _ ?_; clear hR R
 try simp only [go_sem, ldS_at h1, ldS_at h2, cnCells, blCells, allIn1]
 refine W_cond rfl (fun c1 => ?_) (fun c1 => ?_)
 ·
  try simp only [nrm] at c1
  refine W_region [1, 3] fun R hR => ?_
  simp only [go_sem, ldS_at h1, ldS_at h2, cnCells, blCells, allIn1]
  refine hR _ _ (K3 _ _ ?_); clear hR R; try clear K3 Z3
  try simp only [go_sem, ldS_at h1, ldS_at h2, cnCells, blCells, allIn1]
  refine W_sr [2] fun R hR => ?_
  simp only [go_sem, ldS_at h1, ldS_at h2, cnCells, blCells, allIn1]
  try simp (disch := omega) only [wrapI]
  try simp (disch := omega) only [wrapI, wrapU]
  refine GCall_of (in_pc Y _ 0 (c.members - 1) [b.voter] .exact (by simp)) ?_
  simp only [go_sem, ldS_at h1, ldS_at h2, cnCells, blCells, allIn1]
  try simp (disch := omega) only [wrapI, wrapU]
  refine GCall_of (unless_pc Y _ _ 7) ?_
  simp only [go_sem, ldS_at h1, ldS_at h2, cnCells, blCells, allIn1]
  try simp (disch := omega) only [wrapI, wrapU]
  refine hR _ _ ?_; clear hR R
  try simp only [go_sem, ldS_at h1, ldS_at h2, cnCells, blCells, allIn1]
  refine W_ret ?_
  simp only [go_sem, ldS_at h1, ldS_at h2, cnCells, blCells, allIn1]
  refine ⟨.inr (by trivial), ?_⟩
  first | refine Fsa hcl rfl ?_ | refine Fse hcl rfl ?_
  try simp only [go_sem]
  all_goals
   first | rfl | (simp [bl3, allIn1, *]; done) | simp_all [bl3, allIn1]
 try simp only [nrm] at c1
 refine W_skip (K3 _ _ ?_)
 refine W_sr [2] fun R hR => ?_
 simp only [go_sem, ldS_at h1, ldS_at h2, cnCells, blCells, allIn1]
 try simp (disch := omega) only [wrapI]
 try simp (disch := omega) only [wrapI, wrapU]
 refine GCall_of (in_pc Y _ 0 (c.juries - 1) [b.voter] .exact (by simp)) ?_
 simp only [go_sem, ldS_at h1, ldS_at h2, cnCells, blCells, allIn1]
 try simp (disch := omega) only [wrapI, wrapU]
 refine GCall_of (unless_pc Y _ _ 7) ?_
 simp only [go_sem, ldS_at h1, ldS_at h2, cnCells, blCells, allIn1]
 try simp (disch := omega) only [wrapI, wrapU]
 refine hR _ _ ?_; clear hR R
 try simp only [go_sem, ldS_at h1, ldS_at h2, cnCells, blCells, allIn1]
 refine W_ret ?_
 simp only [go_sem, ldS_at h1, ldS_at h2, cnCells, blCells, allIn1]
 refine ⟨.inr (by trivial), ?_⟩
 first | refine Fsa hcl rfl ?_ | refine Fse hcl rfl ?_
 try simp only [go_sem]
 all_goals
  first | rfl | (simp [bl3, allIn1, *]; done) | simp_all [bl3, allIn1]
set_option maxHeartbeats 2000000 in
theorem bl4_pc (Y : YEnv) (σ : Sg) (c : Contest) (b : Ballot) (i1 i2 : Nat) (h1 : σ.store[i1]? = some (some (cnCells c))) (h2 : σ.store[i2]? = some (some (blCells b))) (hs : -2 ^ 60 ≤ c.songs ∧ c.songs ≤ 2 ^ 60) :
 PC Tryz.prog Y 69 [.ptr i1 0, .ptr i2 0] σ (I (bl4 c b)) (σ) := by
 refine PC_of_W Tryz.func69 rfl (by kernel_rfl) Tryz.ntmps69 (by simp) fun hcl hca => ?_
 refine W_sr [0, 1] fun R hR => ?_
 simp only [go_sem, ldS_at h1, ldS_at h2, cnCells, blCells, allIn1]
 refine hR _ _ ?_; clear hR R
 try simp only [go_sem, ldS_at h1, ldS_at h2, cnCells, blCells, allIn1]
 refine W_sr [2] fun R hR => ?_
 simp only [go_sem, ldS_at h1, ldS_at h2, cnCells, blCells, allIn1]
 try simp (disch := omega) only [wrapI]
 try simp (disch := omega) only [wrapI, wrapU]
 refine GCall_of (in_pc Y _ 0 (c.songs - 1) [b.song] .exact (by simp)) ?_
 simp only [go_sem, ldS_at h1, ldS_at h2, cnCells, blCells, allIn1]
 try simp (disch := omega) only [wrapI, wrapU]
 refine GCall_of (unless_pc Y _ _ 7) ?_
 simp only [go_sem, ldS_at h1, ldS_at h2, cnCells, blCells, allIn1]
 try simp (disch := omega) only [wrapI, wrapU]
 refine hR _ _ ?_; clear hR R
 try simp only [go_sem, ldS_at h1, ldS_at h2, cnCells, blCells, allIn1]
 refine W_ret ?_
 simp only [go_sem, ldS_at h1, ldS_at h2, cnCells, blCells, allIn1]
 refine ⟨.inr (by trivial), ?_⟩
 first | refine Fsa hcl rfl ?_ | refine Fse hcl rfl ?_
 try simp only [go_sem]
 all_goals
  first | rfl | simp [bl4, allIn1]
set_option maxHeartbeats 2000000 in
theorem bl5_pc (Y : YEnv) (σ : Sg) (c : Contest) (b : Ballot) (i1 i2 : Nat) (h1 : σ.store[i1]? = some (some (cnCells c))) (h2 : σ.store[i2]? = some (some (blCells b))) :
 PC Tryz.prog Y 70 [.ptr i2 0, .ptr i1 0] σ (I (bl5 c b)) (σ) := by
 refine PC_of_W Tryz.func70 rfl (by kernel_rfl) Tryz.ntmps70 (by simp) fun hcl hca => ?_
 refine W_sr [0, 1] fun R hR => ?_
 simp only [go_sem, ldS_at h1, ldS_at h2, cnCells, blCells, allIn1]
 refine hR _ _ ?_; clear hR R
 try simp only [go_sem, ldS_at h1, ldS_at h2, cnCells, blCells, allIn1]
 refine W_seq fun Z2 K2 => ?_
 refine W_sr [0, 1, 5] fun R hR => ?_
 simp only [go_sem, ldS_at h1, ldS_at h2, cnCells, blCells, allIn1]
 refine hR _ _ ?_; clear hR R
 try simp only [go_sem, ldS_at h1, ldS_at h2, cnCells, blCells, allIn1]
 refine W_cond rfl (fun c1 => ?_) (fun c1 => ?_)
 ·
  try simp only [nrm] at c1
  refine W_sr [2] fun R hR => ?_
  simp only [go_sem, ldS_at h1, ldS_at h2, cnCells, blCells, allIn1]
  refine GCall_of (unless_pc Y _ _ 1) ?_
  simp only [go_sem, ldS_at h1, ldS_at h2, cnCells, blCells, allIn1]
  refine hR _ _ ?_; clear hR R
  try simp only [go_sem, ldS_at h1, ldS_at h2, cnCells, blCells, allIn1]
  refine W_ret ?_
  simp only [go_sem, ldS_at h1, ldS_at h2, cnCells, blCells, allIn1]
  refine ⟨.inr (by trivial), ?_⟩
  first | refine Fsa hcl rfl ?_ | refine Fse hcl rfl ?_
  try simp only [go_sem]
  all_goals
   first | rfl | (simp [bl5, allIn1, *]; done) | simp_all [bl5, allIn1]
 try simp only [nrm] at c1
 refine W_skip (K2 _ _ ?_)
 refine W_sr [2] fun R hR => ?_
 simp only [go_sem, ldS_at h1, ldS_at h2, cnCells, blCells, allIn1]
 refine GCall_of (in_pc Y _ 0 c.most [b.points] .exact (by simp)) ?_
 simp only [go_sem, ldS_at h1, ldS_at h2, cnCells, blCells, allIn1]
 refine GCall_of (unless_pc Y _ _ 2) ?_
 simp only [go_sem, ldS_at h1, ldS_at h2, cnCells, blCells, allIn1]
 refine hR _ _ ?_; clear hR R
 try simp only [go_sem, ldS_at h1, ldS_at h2, cnCells, blCells, allIn1]
 refine W_ret ?_
 simp only [go_sem, ldS_at h1, ldS_at h2, cnCells, blCells, allIn1]
 refine ⟨.inr (by trivial), ?_⟩
 first | refine Fsa hcl rfl ?_ | refine Fse hcl rfl ?_
 try simp only [go_sem]
 all_goals
  first | rfl | (simp [bl5, allIn1, *]; done) | simp_all [bl5, allIn1]
/-- The first error of a list. -/
def firstE : List Int → Int
 | [] => 0
 | e :: l => if e ≠ 0 then e else firstE l
def blEs (c : Contest) (b : Ballot) : List Int := [bl1 c b, bl2 b, bl3 c b, bl4 c b, bl5 c b]
def chkBl (c : Contest) (b : Ballot) : Int := firstE (blEs c b)
set_option maxHeartbeats 4000000 in
theorem chkBl_pc (Y : YEnv) (σ : Sg) (c : Contest) (b : Ballot) (hr : c.rounds.length < 2 ^ 40) (hs : -2 ^ 60 ≤ c.songs ∧ c.songs ≤ 2 ^ 60) (hm : -2 ^ 60 ≤ c.members ∧ c.members ≤ 2 ^ 60) (hj : -2 ^ 60 ≤ c.juries ∧ c.juries ≤ 2 ^ 60) :
 PC Tryz.prog Y 36 [cnPV c, blPV b] σ (I (chkBl c b)) (σ) := by
 refine PC_of_W Tryz.func36 rfl (by kernel_rfl) Tryz.ntmps36 (by simp) fun hcl hca => ?_
 refine W_sr [2, 3] fun R hR => ?_
 simp only [go_sem, cnPV, blPV]
 refine hR _ _ ?_; clear hR R
 try simp only [go_sem, cnPV, blPV]
 refine W_sr [5] fun R hR => ?_
 simp only [go_sem, cnPV, blPV]
 refine hR _ _ ?_; clear hR R
 try simp only [go_sem, cnPV, blPV]
 refine W_seq fun Z3 K3 => ?_
 refine W_sr [15, 16, 17] fun R hR => ?_
 simp only [go_sem, cnPV, blPV]
 refine hR _ _ ?_; clear hR R
 try simp only [go_sem, cnPV, blPV]
 refine W_block ?_
 obtain ⟨fns, hfns⟩ : ∃ z, z = [PV.func (.func 65) [] [.ptr σ.store.length 0, .ptr (σ.store.length + 1) 0], .func (.func 67) [] [.ptr (σ.store.length + 1) 0], .func (.func 68) [] [.ptr σ.store.length 0, .ptr (σ.store.length + 1) 0], .func (.func 69) [] [.ptr σ.store.length 0, .ptr (σ.store.length + 1) 0], .func (.func 70) [] [.ptr (σ.store.length + 1) 0, .ptr σ.store.length 0]] := ⟨_, rfl⟩
 obtain ⟨es, hes⟩ : ∃ z, z = blEs c b := ⟨_, rfl⟩
 refine W_weak (Weak.keep [15, 16, 17]) ?_
 simp only [go_sem]
 refine W_weak (Weak.eq (E' := [(15, .isl fns .exact), (16, I 5), (17, I 0)]) (by rw [hfns]) rfl) ?_
 have ll : fns.length = 5 := by rw [hfns]; rfl
 have le : es.length = 5 := by rw [hes]; rfl
 have hall : ∀ i, i < 5 → ∃ p fr e, fns[i]? = some (.func (.func p) [] fr) ∧ es[i]? = some e ∧ PC Tryz.prog Y p fr (σ.ext [some (cnCells c), some (blCells b)] []) (I e) (σ.ext [some (cnCells c), some (blCells b)] []) := by
  intro i hi
  rw [hfns, hes]
  rcases (by omega : i = 0 ∨ i = 1 ∨ i = 2 ∨ i = 3 ∨ i = 4) with rfl | rfl | rfl | rfl | rfl
  ·exact ⟨_, _, _, rfl, rfl, bl1_pc Y _ c b _ _ (Sg.get_ext0 ..) (Sg.get_ext ..) hr⟩
  ·exact ⟨_, _, _, rfl, rfl, bl2_pc Y _ c b _ _ (Sg.get_ext0 ..) (Sg.get_ext ..)⟩
  ·exact ⟨_, _, _, rfl, rfl, bl3_pc Y _ c b _ _ (Sg.get_ext0 ..) (Sg.get_ext ..) hm hj⟩
  ·exact ⟨_, _, _, rfl, rfl, bl4_pc Y _ c b _ _ (Sg.get_ext0 ..) (Sg.get_ext ..) hs⟩
  exact ⟨_, _, _, rfl, rfl, bl5_pc Y _ c b _ _ (Sg.get_ext0 ..) (Sg.get_ext ..)⟩
 clear hfns
 refine W_loopS (α := Nat) (fun (i : Nat) => [(17, I i)]) (fun (i : Nat) => i ≤ 5 ∧ chkBl c b = firstE (es.drop i)) (fun (i : Nat) => 5 - i) (0) rfl (⟨Nat.zero_le _, by rw [hes]; rfl⟩) ?_
 rintro i ⟨hi, hinv⟩
 refine W_sr [15, 16, 17, 18] fun R hR => ?_
 simp only [go_sem, cnPV, blPV, ll]
 refine hR _ _ ?_; clear hR R
 try simp only [go_sem, cnPV, blPV, ll]
 refine W_seq fun Z6 K6 => ?_
 refine W_cond rfl (fun c1 => ?_) (fun c1 => ?_)
 ·
  try simp only [nrm] at c1
  have hi5 : i < 5 := by first | omega | (simp at c1; omega)
  obtain ⟨p, fr, e, hx, hxe, hfp⟩ := hall i hi5
  have hdrop : es.drop i = e :: es.drop (i + 1) := by
   rw [List.drop_eq_getElem_cons (by omega)]; congr 1; exact (List.getElem?_eq_some_iff.1 hxe).2
  rw [hdrop] at hinv
  simp only [firstE] at hinv
  have hi5' : (i : Int) < 5 := by omega
  have hia : iaX 1 fns (i : Int) = some (.eptr 1 fns i 0) := by
   unfold iaX
   rw [if_pos ⟨Int.natCast_nonneg _, by rw [ll]; exact hi5'⟩]
   simp [hx, PV.cells]
  have hel : elS fns i 0 = some (.func (.func p) [] fr) := by simp [elS, hx, PV.cells]
  refine W_skip (K6 _ _ ?_)
  refine W_seq fun Z7 K7 => ?_
  refine W_block ?_
  refine W_sr [7, 15, 16, 17] fun R hR => ?_
  simp only [go_sem, cnPV, blPV, ll, hx, hia, hel]
  refine hR _ _ ?_; clear hR R
  try simp only [go_sem, cnPV, blPV, ll, hx, hia, hel]
  refine W_sr [8, 15, 16, 17] fun R hR => ?_
  simp only [go_sem, cnPV, blPV, ll, hx, hia, hel]
  refine GCall_of (hfp) ?_
  simp only [go_sem, cnPV, blPV, ll, hx, hia, hel]
  refine hR _ _ ?_; clear hR R
  try simp only [go_sem, cnPV, blPV, ll, hx, hia, hel]
  refine W_sr [8, 15, 16, 17, 24] fun R hR => ?_
  simp only [go_sem, cnPV, blPV, ll, hx, hia, hel]
  refine hR _ _ ?_; clear hR R
  try simp only [go_sem, cnPV, blPV, ll, hx, hia, hel]
  refine W_cond rfl (fun c2 => ?_) (fun c2 => ?_)
  ·
   try simp only [nrm] at c2
   refine W_sr [4] fun R hR => ?_
   simp only [go_sem, cnPV, blPV, ll, hx, hia, hel]
   refine hR _ _ ?_; clear hR R
   try simp only [go_sem, cnPV, blPV, ll, hx, hia, hel]
   refine W_ret ?_
   simp only [go_sem, cnPV, blPV, ll, hx, hia, hel]
   refine ⟨.inr (by trivial), ?_⟩
   first | refine Fsa hcl rfl ?_ | refine Fse hcl rfl ?_
   try simp only [go_sem]
   all_goals
    rw [hinv]; first | done | rfl | (simp [*]; done)
  try simp only [nrm] at c2
  refine W_skip (K7 _ _ ?_)
  refine W_region [15, 16, 17] fun R hR => ?_
  simp only [go_sem, cnPV, blPV, ll, hx, hia, hel]
  try simp (disch := omega) only [wrapI, wrapU]
  refine hR _ _ ?_; clear hR R
  try simp only [go_sem, cnPV, blPV, ll, hx, hia, hel]
  refine ⟨i + 1, ?_, by (try simp only []); omega, ?_⟩
  ·first | exact Weak.refl | exact Wqq
  try dsimp only
  refine ⟨by omega, ?_⟩
  rw [hinv]; simp [*]
 try simp only [nrm] at c1
 have hdrop : es.drop i = [] := List.drop_eq_nil_of_le (by omega)
 rw [hdrop] at hinv
 simp only [firstE] at hinv
 refine W_exit ?_
 simp only [go_sem, cnPV, blPV, ll]
 refine K3 _ _ ?_
 refine W_sr [4] fun R hR => ?_
 simp only [go_sem, cnPV, blPV, ll]
 refine hR _ _ ?_; clear hR R
 try simp only [go_sem, cnPV, blPV, ll]
 refine W_ret ?_
 simp only [go_sem, cnPV, blPV, ll]
 refine ⟨.inr (by trivial), ?_⟩
 first | refine Fsa hcl rfl ?_ | refine Fse hcl rfl ?_
 try simp only [go_sem]
 all_goals
  rw [hinv]; first | done | rfl | (simp [*]; done)
def mapS (p : List Int) : List (Int × Bool) := p.foldl (fun m k => aput k true m) []
theorem mapS_snoc (p : List Int) (k : Int) : mapS (p ++ [k]) = aput k true (mapS p) := by simp [mapS, List.foldl_append]
theorem mapS_gen (k : Int) : ∀ (p : List Int) (m : List (Int × Bool)), (aget k (p.foldl (fun m k => aput k true m) m)).getD false = ((aget k m).getD false || has p k) := by
 intro p
 induction p with
 | nil => intro m; simp [has]
 | cons a p ih =>
  intro m
  rw [List.foldl_cons, ih, aget_put]
  by_cases h : k = a
  ·subst h; simp [has]
  have h' : ¬ a = k := fun e => h e.symm
  simp [has, h, h']
theorem mapS_get (k : Int) (p : List Int) : (aget k (mapS p)).getD false = has p k := by
 unfold mapS
 rw [mapS_gen]; simp [aget]
def chkBlsF (c : Contest) : List Int → List Ballot → Int
 | _, [] => 0
 | p, b :: l => if !(inR b.serial 1 1000000000) then 2 else if has p b.serial then 8 else if chkBl c b ≠ 0 then chkBl c b else chkBlsF c (p ++ [b.serial]) l
/-- The error of ballots. -/
def chkBls (c : Contest) (l : List Ballot) : Int := if chkCn c ≠ 0 then chkCn c else if (l.length : Int) > 300 then 5 else chkBlsF c [] l
structure CnV (c : Contest) : Prop where
 sg : 1 ≤ c.songs ∧ c.songs ≤ 8
 jr : 0 ≤ c.juries ∧ c.juries ≤ 8
 mb : 0 ≤ c.members ∧ c.members ≤ 1000
 ms : 0 ≤ c.most ∧ c.most ≤ 100
 rl : 0 < c.rounds.length ∧ c.rounds.length ≤ 4
 rs : chkRds c.songs c.rounds = 0
theorem cnV_of {c : Contest} (h : chkCn c = 0) : CnV c := by
 unfold chkCn at h
 split at h
 ·cases h
 rename_i h1
 split at h
 ·cases h
 split at h
 ·cases h
 simp only [chkCn0, allIn1, Bool.not_eq_true', Bool.not_eq_false, Bool.and_eq_true, inR_true] at h1
 obtain ⟨⟨⟨a1, a2⟩, a3⟩, a4⟩ := h1
 exact ⟨a1, a2, a3, a4, by omega, h⟩
set_option maxHeartbeats 8000000 in
theorem chkBls_pc (Y : YEnv) (σ : Sg) (c : Contest) (l : List Ballot) (hr : c.rounds.length < 2 ^ 40) (hl : l.length < 2 ^ 40) :
 PC Tryz.prog Y 10 [cnPV c, bls l] σ (I (chkBls c l)) (σ) := by
 refine PC_of_W Tryz.func10 rfl (by kernel_rfl) Tryz.ntmps10 (by simp) fun hcl hca => ?_
 obtain ⟨res, hres⟩ : ∃ r, chkBls c l = r := ⟨_, rfl⟩
 rw [hres]
 refine W_sr [1, 2] fun R hR => ?_
 simp only [go_sem, lk77, up77, lkX, upX, lkB, upB, CleanAll_mapB, packF, allIn1, Sg.get_ext, Sg.get_ext0, List.getElem?_cons_succ, List.getElem?_cons_zero]
 refine hR _ _ ?_; clear hR R
 try simp only [go_sem, lk77, up77, lkX, upX, lkB, upB, CleanAll_mapB, packF, allIn1, Sg.get_ext, Sg.get_ext0, List.getElem?_cons_succ, List.getElem?_cons_zero]
 refine W_seq fun Z2 K2 => ?_
 refine W_sr [1, 2, 5] fun R hR => ?_
 simp only [go_sem, lk77, up77, lkX, upX, lkB, upB, CleanAll_mapB, packF, allIn1, Sg.get_ext, Sg.get_ext0, List.getElem?_cons_succ, List.getElem?_cons_zero]
 refine GCall_of (Check_pc Y _ c hr) ?_
 simp only [go_sem, lk77, up77, lkX, upX, lkB, upB, CleanAll_mapB, packF, allIn1, Sg.get_ext, Sg.get_ext0, List.getElem?_cons_succ, List.getElem?_cons_zero]
 refine hR _ _ ?_; clear hR R
 try simp only [go_sem, lk77, up77, lkX, upX, lkB, upB, CleanAll_mapB, packF, allIn1, Sg.get_ext, Sg.get_ext0, List.getElem?_cons_succ, List.getElem?_cons_zero]
 refine W_sr [1, 2, 5, 13] fun R hR => ?_
 simp only [go_sem, lk77, up77, lkX, upX, lkB, upB, CleanAll_mapB, packF, allIn1, Sg.get_ext, Sg.get_ext0, List.getElem?_cons_succ, List.getElem?_cons_zero]
 refine hR _ _ ?_; clear hR R
 try simp only [go_sem, lk77, up77, lkX, upX, lkB, upB, CleanAll_mapB, packF, allIn1, Sg.get_ext, Sg.get_ext0, List.getElem?_cons_succ, List.getElem?_cons_zero]
 refine W_cond rfl (fun c1 => ?_) (fun c1 => ?_)
 ·
  try simp only [nrm] at c1
  refine W_sr [4] fun R hR => ?_
  simp only [go_sem, lk77, up77, lkX, upX, lkB, upB, CleanAll_mapB, packF, allIn1, Sg.get_ext, Sg.get_ext0, List.getElem?_cons_succ, List.getElem?_cons_zero]
  refine hR _ _ ?_; clear hR R
  try simp only [go_sem, lk77, up77, lkX, upX, lkB, upB, CleanAll_mapB, packF, allIn1, Sg.get_ext, Sg.get_ext0, List.getElem?_cons_succ, List.getElem?_cons_zero]
  refine W_ret ?_
  simp only [go_sem, lk77, up77, lkX, upX, lkB, upB, CleanAll_mapB, packF, allIn1, Sg.get_ext, Sg.get_ext0, List.getElem?_cons_succ, List.getElem?_cons_zero]
  refine ⟨.inr (by trivial), ?_⟩
  first | refine Fsa hcl rfl ?_ | refine Fse hcl rfl ?_
  try simp only [go_sem]
  all_goals
   first | rfl | (simp_all; done) | (simp_all; omega) | (rw [← hres]; simp only [chkBls]; (repeat' split) <;> ((first | rfl | omega | (simp_all; done) | (simp_all; omega))))
 try simp only [nrm] at c1
 refine W_skip (K2 _ _ ?_)
 refine W_seq fun Z6 K6 => ?_
 refine W_sr [1, 2, 17] fun R hR => ?_
 simp only [go_sem, lk77, up77, lkX, upX, lkB, upB, CleanAll_mapB, packF, allIn1, Sg.get_ext, Sg.get_ext0, List.getElem?_cons_succ, List.getElem?_cons_zero]
 refine hR _ _ ?_; clear hR R
 try simp only [go_sem, lk77, up77, lkX, upX, lkB, upB, CleanAll_mapB, packF, allIn1, Sg.get_ext, Sg.get_ext0, List.getElem?_cons_succ, List.getElem?_cons_zero]
 refine W_cond rfl (fun c2 => ?_) (fun c2 => ?_)
 ·
  try simp only [nrm] at c2
  refine W_sr [4] fun R hR => ?_
  simp only [go_sem, lk77, up77, lkX, upX, lkB, upB, CleanAll_mapB, packF, allIn1, Sg.get_ext, Sg.get_ext0, List.getElem?_cons_succ, List.getElem?_cons_zero]
  refine hR _ _ ?_; clear hR R
  try simp only [go_sem, lk77, up77, lkX, upX, lkB, upB, CleanAll_mapB, packF, allIn1, Sg.get_ext, Sg.get_ext0, List.getElem?_cons_succ, List.getElem?_cons_zero]
  refine W_ret ?_
  simp only [go_sem, lk77, up77, lkX, upX, lkB, upB, CleanAll_mapB, packF, allIn1, Sg.get_ext, Sg.get_ext0, List.getElem?_cons_succ, List.getElem?_cons_zero]
  refine ⟨.inr (by trivial), ?_⟩
  first | refine Fsa hcl rfl ?_ | refine Fse hcl rfl ?_
  try simp only [go_sem]
  all_goals
   first | rfl | (simp_all; done) | (simp_all; omega) | (rw [← hres]; simp only [chkBls]; (repeat' split) <;> ((first | rfl | omega | (simp_all; done) | (simp_all; omega))))
 try simp only [nrm] at c2
 refine W_skip (K6 _ _ ?_)
 refine W_sr [1, 2, 6] fun R hR => ?_
 simp only [go_sem, lk77, up77, lkX, upX, lkB, upB, CleanAll_mapB, packF, allIn1, Sg.get_ext, Sg.get_ext0, List.getElem?_cons_succ, List.getElem?_cons_zero]
 refine hR _ _ ?_; clear hR R
 try simp only [go_sem, lk77, up77, lkX, upX, lkB, upB, CleanAll_mapB, packF, allIn1, Sg.get_ext, Sg.get_ext0, List.getElem?_cons_succ, List.getElem?_cons_zero]
 refine W_seq fun Z10 K10 => ?_
 refine W_sr [2, 6, 19, 20, 21] fun R hR => ?_
 simp only [go_sem, lk77, up77, lkX, upX, lkB, upB, CleanAll_mapB, packF, allIn1, Sg.get_ext, Sg.get_ext0, List.getElem?_cons_succ, List.getElem?_cons_zero]
 refine hR _ _ ?_; clear hR R
 try simp only [go_sem, lk77, up77, lkX, upX, lkB, upB, CleanAll_mapB, packF, allIn1, Sg.get_ext, Sg.get_ext0, List.getElem?_cons_succ, List.getElem?_cons_zero]
 refine W_block ?_
 have hV := cnV_of c1
 refine W_loopT (α := Nat) (fun (i : Nat) => [(21, I i)]) (fun (i : Nat) => σ.ext [some (cnCells c), some (.mark :: mapE I PV.bool (mapS ((l.take i).map (·.serial))))] []) (fun (i : Nat) => i ≤ l.length ∧ res = chkBlsF c ((l.take i).map (·.serial)) (l.drop i)) (fun (i : Nat) => l.length - i) (0) rfl (by first | rfl | (simp only [go_sem]; done) | (simp only [go_sem]; rfl)) (⟨Nat.zero_le _, by rw [← hres]; unfold chkBls; rw [if_neg (by simp [c1]), if_neg (by omega)]; rfl⟩) ?_
 rintro i ⟨hi, hinv⟩
 refine W_sr [2, 6, 19, 20, 21, 22] fun R hR => ?_
 simp only [go_sem, lk77, up77, lkX, upX, lkB, upB, CleanAll_mapB, packF, allIn1, Sg.get_ext, Sg.get_ext0, List.getElem?_cons_succ, List.getElem?_cons_zero]
 refine hR _ _ ?_; clear hR R
 try simp only [go_sem, lk77, up77, lkX, upX, lkB, upB, CleanAll_mapB, packF, allIn1, Sg.get_ext, Sg.get_ext0, List.getElem?_cons_succ, List.getElem?_cons_zero]
 refine W_seq fun Z13 K13 => ?_
 refine W_cond rfl (fun c3 => ?_) (fun c3 => ?_)
 ·
  try simp only [nrm] at c3
  have hi' : i < l.length := by first | assumption | omega
  obtain ⟨b, hx⟩ : ∃ b, l[i]? = some b := ⟨l[i], by simp [hi']⟩
  have hdrop : l.drop i = b :: l.drop (i + 1) := by
   rw [List.drop_eq_getElem_cons hi']; congr 1; exact (List.getElem?_eq_some_iff.1 hx).2
  rw [hdrop] at hinv
  simp only [chkBlsF] at hinv
  have hsn : (l.take (i + 1)).map (·.serial) = (l.take i).map (·.serial) ++ [b.serial] := by rw [List.take_add_one, hx]; simp
  obtain ⟨p, hp⟩ : ∃ z, (l.take i).map (·.serial) = z := ⟨_, rfl⟩
  rw [hp] at hinv hsn
  rw [hp]
  have hmg := mapS_get b.serial p
  refine W_skip (K13 _ _ ?_)
  refine W_seq fun Z14 K14 => ?_
  refine W_block ?_
  refine W_sr [2, 6, 8, 19, 20, 21] fun R hR => ?_
  simp only [go_sem, lk77, up77, lkX, upX, lkB, upB, CleanAll_mapB, packF, allIn1, Sg.get_ext, Sg.get_ext0, List.getElem?_cons_succ, List.getElem?_cons_zero, hx, blCells, blPV, hmg]
  refine hR _ _ ?_; clear hR R
  try simp only [go_sem, lk77, up77, lkX, upX, lkB, upB, CleanAll_mapB, packF, allIn1, Sg.get_ext, Sg.get_ext0, List.getElem?_cons_succ, List.getElem?_cons_zero, hx, blCells, blPV, hmg]
  refine W_seq fun Z16 K16 => ?_
  refine W_block ?_
  refine W_sr [2, 6, 8, 19, 20, 21, 25] fun R hR => ?_
  simp only [go_sem, lk77, up77, lkX, upX, lkB, upB, CleanAll_mapB, packF, allIn1, Sg.get_ext, Sg.get_ext0, List.getElem?_cons_succ, List.getElem?_cons_zero, hx, blCells, blPV, hmg]
  refine GCall_of (in_pc Y _ 1 1000000000 [b.serial] .exact (by simp)) ?_
  simp only [go_sem, lk77, up77, lkX, upX, lkB, upB, CleanAll_mapB, packF, allIn1, Sg.get_ext, Sg.get_ext0, List.getElem?_cons_succ, List.getElem?_cons_zero, hx, blCells, blPV, hmg]
  refine hR _ _ ?_; clear hR R
  try simp only [go_sem, lk77, up77, lkX, upX, lkB, upB, CleanAll_mapB, packF, allIn1, Sg.get_ext, Sg.get_ext0, List.getElem?_cons_succ, List.getElem?_cons_zero, hx, blCells, blPV, hmg]
  refine W_cond rfl (fun c4 => ?_) (fun c4 => ?_)
  ·
   try simp only [nrm] at c4
   refine W_sr [4] fun R hR => ?_
   simp only [go_sem, lk77, up77, lkX, upX, lkB, upB, CleanAll_mapB, packF, allIn1, Sg.get_ext, Sg.get_ext0, List.getElem?_cons_succ, List.getElem?_cons_zero, hx, blCells, blPV, hmg]
   refine hR _ _ ?_; clear hR R
   try simp only [go_sem, lk77, up77, lkX, upX, lkB, upB, CleanAll_mapB, packF, allIn1, Sg.get_ext, Sg.get_ext0, List.getElem?_cons_succ, List.getElem?_cons_zero, hx, blCells, blPV, hmg]
   refine W_ret ?_
   simp only [go_sem, lk77, up77, lkX, upX, lkB, upB, CleanAll_mapB, packF, allIn1, Sg.get_ext, Sg.get_ext0, List.getElem?_cons_succ, List.getElem?_cons_zero, hx, blCells, blPV, hmg]
   refine ⟨.inr (by trivial), ?_⟩
   first | refine Fsa hcl rfl ?_ | refine Fse hcl rfl ?_
   try simp only [go_sem]
   all_goals
    first | rfl | (simp_all; done) | (simp_all; omega) | (rw [← hres]; simp only [chkBls]; (repeat' split) <;> ((first | rfl | omega | (simp_all; done) | (simp_all; omega))))
  try simp only [nrm] at c4
  refine W_sr [2, 6, 8, 19, 20, 21, 31] fun R hR => ?_
  simp only [go_sem, lk77, up77, lkX, upX, lkB, upB, CleanAll_mapB, packF, allIn1, Sg.get_ext, Sg.get_ext0, List.getElem?_cons_succ, List.getElem?_cons_zero, hx, blCells, blPV, hmg]
  refine hR _ _ ?_; clear hR R
  try simp only [go_sem, lk77, up77, lkX, upX, lkB, upB, CleanAll_mapB, packF, allIn1, Sg.get_ext, Sg.get_ext0, List.getElem?_cons_succ, List.getElem?_cons_zero, hx, blCells, blPV, hmg]
  refine W_cond rfl (fun c5 => ?_) (fun c5 => ?_)
  ·
   try simp only [nrm] at c5
   refine W_sr [4] fun R hR => ?_
   simp only [go_sem, lk77, up77, lkX, upX, lkB, upB, CleanAll_mapB, packF, allIn1, Sg.get_ext, Sg.get_ext0, List.getElem?_cons_succ, List.getElem?_cons_zero, hx, blCells, blPV, hmg]
   refine hR _ _ ?_; clear hR R
   try simp only [go_sem, lk77, up77, lkX, upX, lkB, upB, CleanAll_mapB, packF, allIn1, Sg.get_ext, Sg.get_ext0, List.getElem?_cons_succ, List.getElem?_cons_zero, hx, blCells, blPV, hmg]
   refine W_ret ?_
   simp only [go_sem, lk77, up77, lkX, upX, lkB, upB, CleanAll_mapB, packF, allIn1, Sg.get_ext, Sg.get_ext0, List.getElem?_cons_succ, List.getElem?_cons_zero, hx, blCells, blPV, hmg]
   refine ⟨.inr (by trivial), ?_⟩
   first | refine Fsa hcl rfl ?_ | refine Fse hcl rfl ?_
   try simp only [go_sem]
   all_goals
    first | rfl | (simp_all; done) | (simp_all; omega) | (rw [← hres]; simp only [chkBls]; (repeat' split) <;> ((first | rfl | omega | (simp_all; done) | (simp_all; omega))))
  try simp only [nrm] at c5
  refine W_skip (K16 _ _ ?_)
  refine W_sr [2, 6, 8, 19, 20, 21] fun R hR => ?_
  simp only [go_sem, lk77, up77, lkX, upX, lkB, upB, CleanAll_mapB, packF, allIn1, Sg.get_ext, Sg.get_ext0, List.getElem?_cons_succ, List.getElem?_cons_zero, hx, blCells, blPV, hmg]
  refine hR _ _ ?_; clear hR R
  try simp only [go_sem, lk77, up77, lkX, upX, lkB, upB, CleanAll_mapB, packF, allIn1, Sg.get_ext, Sg.get_ext0, List.getElem?_cons_succ, List.getElem?_cons_zero, hx, blCells, blPV, hmg]
  refine W_sr [2, 6, 9, 19, 20, 21] fun R hR => ?_
  simp only [go_sem, lk77, up77, lkX, upX, lkB, upB, CleanAll_mapB, packF, allIn1, Sg.get_ext, Sg.get_ext0, List.getElem?_cons_succ, List.getElem?_cons_zero, hx, blCells, blPV, hmg]
  refine GCall_of (chkBl_pc Y _ c b hr (by have := hV.sg; omega) (by have := hV.mb; omega) (by have := hV.jr; omega)) ?_
  simp only [go_sem, lk77, up77, lkX, upX, lkB, upB, CleanAll_mapB, packF, allIn1, Sg.get_ext, Sg.get_ext0, List.getElem?_cons_succ, List.getElem?_cons_zero, hx, blCells, blPV, hmg]
  refine hR _ _ ?_; clear hR R
  try simp only [go_sem, lk77, up77, lkX, upX, lkB, upB, CleanAll_mapB, packF, allIn1, Sg.get_ext, Sg.get_ext0, List.getElem?_cons_succ, List.getElem?_cons_zero, hx, blCells, blPV, hmg]
  refine W_sr [2, 6, 9, 19, 20, 21, 43] fun R hR => ?_
  simp only [go_sem, lk77, up77, lkX, upX, lkB, upB, CleanAll_mapB, packF, allIn1, Sg.get_ext, Sg.get_ext0, List.getElem?_cons_succ, List.getElem?_cons_zero, hx, blCells, blPV, hmg]
  refine hR _ _ ?_; clear hR R
  try simp only [go_sem, lk77, up77, lkX, upX, lkB, upB, CleanAll_mapB, packF, allIn1, Sg.get_ext, Sg.get_ext0, List.getElem?_cons_succ, List.getElem?_cons_zero, hx, blCells, blPV, hmg]
  refine W_cond rfl (fun c6 => ?_) (fun c6 => ?_)
  ·
   try simp only [nrm] at c6
   refine W_sr [4] fun R hR => ?_
   simp only [go_sem, lk77, up77, lkX, upX, lkB, upB, CleanAll_mapB, packF, allIn1, Sg.get_ext, Sg.get_ext0, List.getElem?_cons_succ, List.getElem?_cons_zero, hx, blCells, blPV, hmg]
   refine hR _ _ ?_; clear hR R
   try simp only [go_sem, lk77, up77, lkX, upX, lkB, upB, CleanAll_mapB, packF, allIn1, Sg.get_ext, Sg.get_ext0, List.getElem?_cons_succ, List.getElem?_cons_zero, hx, blCells, blPV, hmg]
   refine W_ret ?_
   simp only [go_sem, lk77, up77, lkX, upX, lkB, upB, CleanAll_mapB, packF, allIn1, Sg.get_ext, Sg.get_ext0, List.getElem?_cons_succ, List.getElem?_cons_zero, hx, blCells, blPV, hmg]
   refine ⟨.inr (by trivial), ?_⟩
   first | refine Fsa hcl rfl ?_ | refine Fse hcl rfl ?_
   try simp only [go_sem]
   all_goals
    first | rfl | (simp_all; done) | (simp_all; omega) | (rw [← hres]; simp only [chkBls]; (repeat' split) <;> ((first | rfl | omega | (simp_all; done) | (simp_all; omega))))
  try simp only [nrm] at c6
  refine W_skip (K14 _ _ ?_)
  refine W_region [2, 6, 19, 20, 21] fun R hR => ?_
  simp only [go_sem, lk77, up77, lkX, upX, lkB, upB, CleanAll_mapB, packF, allIn1, Sg.get_ext, Sg.get_ext0, List.getElem?_cons_succ, List.getElem?_cons_zero, hx, blCells, blPV, hmg]
  try simp (disch := omega) only [wrapI, wrapU]
  refine hR _ _ ?_; clear hR R
  try simp only [go_sem, lk77, up77, lkX, upX, lkB, upB, CleanAll_mapB, packF, allIn1, Sg.get_ext, Sg.get_ext0, List.getElem?_cons_succ, List.getElem?_cons_zero, hx, blCells, blPV, hmg]
  refine ⟨i + 1, ?_, by (try simp only []); omega, ?_⟩
  ·refine Weak.trans (Weak.cutX 2 0 (by omega) (by omega) hcl (by simp only [go_sem, CleanAll_mapB] <;> omega) (by simp only [go_sem] <;> omega)) ?_
   simp only [go_sem]
   exact Weak.eq rfl (by rw [hsn, mapS_snoc])
  try dsimp only
  refine ⟨hi', ?_⟩
  rw [hsn, hinv]; simp [*]
 try simp only [nrm] at c3
 have hdrop : l.drop i = [] := List.drop_eq_nil_of_le (by omega)
 rw [hdrop] at hinv
 simp only [chkBlsF] at hinv
 refine W_exit ?_
 simp only [go_sem, lk77, up77, lkX, upX, lkB, upB, CleanAll_mapB, packF, allIn1, Sg.get_ext, Sg.get_ext0, List.getElem?_cons_succ, List.getElem?_cons_zero]
 refine K10 _ _ ?_
 refine W_sr [4] fun R hR => ?_
 simp only [go_sem, lk77, up77, lkX, upX, lkB, upB, CleanAll_mapB, packF, allIn1, Sg.get_ext, Sg.get_ext0, List.getElem?_cons_succ, List.getElem?_cons_zero]
 refine hR _ _ ?_; clear hR R
 try simp only [go_sem, lk77, up77, lkX, upX, lkB, upB, CleanAll_mapB, packF, allIn1, Sg.get_ext, Sg.get_ext0, List.getElem?_cons_succ, List.getElem?_cons_zero]
 refine W_ret ?_
 simp only [go_sem, lk77, up77, lkX, upX, lkB, upB, CleanAll_mapB, packF, allIn1, Sg.get_ext, Sg.get_ext0, List.getElem?_cons_succ, List.getElem?_cons_zero]
 refine ⟨.inr (by trivial), ?_⟩
 first | refine Fsa hcl rfl ?_ | refine Fse hcl rfl ?_
 try simp only [go_sem]
 all_goals
  first | rfl | (simp_all; done) | (simp_all; omega) | (rw [← hres]; simp only [chkBls]; (repeat' split) <;> ((first | rfl | omega | (simp_all; done) | (simp_all; omega))))
def cmpI (a b : Int) : Int := if a < b then -1 else if b < a then 1 else 0
def orI : List Int → Int
 | [] => 0
 | x :: l => if x ≠ 0 then x else orI l
def weighS (s : Std) (r : Rnd) : Std := { s with score := r.jury * s.points + r.member * s.votes }
/-- Who is ahead: below zero where the first is. -/
def aheadS (a b : Std) : Int := orI [cmpI b.score a.score, cmpI b.points a.points, cmpI a.song b.song]
theorem mul_bd {a b : Int} (h : 0 ≤ a ∧ a ≤ 2 ^ 20) (h2 : -2 ^ 30 ≤ b ∧ b ≤ 2 ^ 30) : -2 ^ 50 ≤ a * b ∧ a * b ≤ 2 ^ 50 := by
 have e1 : a * b ≤ a * 2 ^ 30 := Int.mul_le_mul_of_nonneg_left h2.2 h.1
 have e2 : a * (-2 ^ 30) ≤ a * b := Int.mul_le_mul_of_nonneg_left h2.1 h.1
 omega
set_option maxHeartbeats 2000000 in
theorem nan_pc (Y : YEnv) (σ : Sg) (a : Int) :
 PC Tryz.prog Y 102 [I a] σ (.bool false) (σ) := by
 refine PC_of_W Tryz.func102 rfl (by kernel_rfl) Tryz.ntmps102 (by simp) fun hcl hca => ?_
 refine W_sr [0] fun R hR => ?_
 simp only [go_sem]
 refine hR _ _ ?_; clear hR R
 try simp only [go_sem]
 refine W_sr [2] fun R hR => ?_
 simp only [go_sem]
 refine hR _ _ ?_; clear hR R
 try simp only [go_sem]
 refine W_ret ?_
 simp only [go_sem]
 refine ⟨.inr (by trivial), ?_⟩
 first | refine Fsa hcl rfl ?_ | refine Fse hcl rfl ?_
 try simp only [go_sem]
 all_goals
  first | rfl | simp
set_option maxHeartbeats 2000000 in
theorem cmp_pc (Y : YEnv) (σ : Sg) (a b : Int) :
 PC Tryz.prog Y 89 [I a, I b] σ (I (cmpI a b)) (σ) := by
 refine PC_of_W Tryz.func89 rfl (by kernel_rfl) Tryz.ntmps89 (by simp) fun hcl hca => ?_
 refine W_sr [0, 1] fun R hR => ?_
 simp only [go_sem]
 refine hR _ _ ?_; clear hR R
 try simp only [go_sem]
 refine W_sr [0, 1, 5] fun R hR => ?_
 simp only [go_sem]
 refine GCall_of (nan_pc Y _ a) ?_
 simp only [go_sem]
 refine hR _ _ ?_; clear hR R
 try simp only [go_sem]
 refine W_sr [0, 1, 5, 6] fun R hR => ?_
 simp only [go_sem]
 refine GCall_of (nan_pc Y _ b) ?_
 simp only [go_sem]
 refine hR _ _ ?_; clear hR R
 try simp only [go_sem]
 refine W_seq fun Z4 K4 => ?_
 refine W_sr [0, 1, 6, 11] fun R hR => ?_
 simp only [go_sem]
 refine hR _ _ ?_; clear hR R
 try simp only [go_sem]
 refine W_cond rfl (fun c1 => ?_) (fun c1 => ?_)
 ·
  try simp only [nrm] at c1
  exfalso
  simp at c1
 try simp only [nrm] at c1
 refine W_skip (K4 _ _ ?_)
 refine W_seq fun Z6 K6 => ?_
 refine W_sr [0, 1, 13] fun R hR => ?_
 simp only [go_sem]
 refine hR _ _ ?_; clear hR R
 try simp only [go_sem]
 refine W_cond rfl (fun c2 => ?_) (fun c2 => ?_)
 ·
  try simp only [nrm] at c2
  exfalso
  simp at c2
 try simp only [nrm] at c2
 refine W_skip (K6 _ _ ?_)
 refine W_seq fun Z8 K8 => ?_
 refine W_sr [0, 1, 16] fun R hR => ?_
 simp only [go_sem]
 refine hR _ _ ?_; clear hR R
 try simp only [go_sem]
 refine W_cond rfl (fun c3 => ?_) (fun c3 => ?_)
 ·
  try simp only [nrm] at c3
  refine W_sr [4] fun R hR => ?_
  simp only [go_sem]
  refine hR _ _ ?_; clear hR R
  try simp only [go_sem]
  refine W_ret ?_
  simp only [go_sem]
  refine ⟨.inr (by trivial), ?_⟩
  first | refine Fsa hcl rfl ?_ | refine Fse hcl rfl ?_
  try simp only [go_sem]
  all_goals
   first | rfl | (simp_all; done) | (simp_all; omega) | (simp only [cmpI]; (repeat' split) <;> ((first | rfl | omega | (simp_all; done) | (simp_all; omega))))
 try simp only [nrm] at c3
 refine W_skip (K8 _ _ ?_)
 refine W_seq fun Z11 K11 => ?_
 refine W_sr [19] fun R hR => ?_
 simp only [go_sem]
 refine hR _ _ ?_; clear hR R
 try simp only [go_sem]
 refine W_cond rfl (fun c4 => ?_) (fun c4 => ?_)
 ·
  try simp only [nrm] at c4
  refine W_sr [4] fun R hR => ?_
  simp only [go_sem]
  refine hR _ _ ?_; clear hR R
  try simp only [go_sem]
  refine W_ret ?_
  simp only [go_sem]
  refine ⟨.inr (by trivial), ?_⟩
  first | refine Fsa hcl rfl ?_ | refine Fse hcl rfl ?_
  try simp only [go_sem]
  all_goals
   first | rfl | (simp_all; done) | (simp_all; omega) | (simp only [cmpI]; (repeat' split) <;> ((first | rfl | omega | (simp_all; done) | (simp_all; omega))))
 try simp only [nrm] at c4
 refine W_skip (K11 _ _ ?_)
 refine W_sr [4] fun R hR => ?_
 simp only [go_sem]
 refine hR _ _ ?_; clear hR R
 try simp only [go_sem]
 refine W_ret ?_
 simp only [go_sem]
 refine ⟨.inr (by trivial), ?_⟩
 first | refine Fsa hcl rfl ?_ | refine Fse hcl rfl ?_
 try simp only [go_sem]
 all_goals
  first | rfl | (simp_all; done) | (simp_all; omega) | (simp only [cmpI]; (repeat' split) <;> ((first | rfl | omega | (simp_all; done) | (simp_all; omega))))
set_option maxHeartbeats 2000000 in
theorem or_pc (Y : YEnv) (σ : Sg) (l : List Int) (o : Own) (hl : l.length < 2 ^ 40) :
 PC Tryz.prog Y 88 [intsO o l] σ (I (orI l)) (σ) := by
 refine PC_of_W Tryz.func88 rfl (by kernel_rfl) Tryz.ntmps88 (by simp) fun hcl hca => ?_
 obtain ⟨res, hres⟩ : ∃ r, orI l = r := ⟨_, rfl⟩
 rw [hres]
 refine W_sr [0] fun R hR => ?_
 simp only [go_sem]
 refine hR _ _ ?_; clear hR R
 try simp only [go_sem]
 refine W_sr [0, 3] fun R hR => ?_
 simp only [go_sem]
 refine hR _ _ ?_; clear hR R
 try simp only [go_sem]
 refine W_seq fun Z3 K3 => ?_
 refine W_sr [3, 6, 7, 8] fun R hR => ?_
 simp only [go_sem]
 refine hR _ _ ?_; clear hR R
 try simp only [go_sem]
 refine W_block ?_
 refine W_loopS (α := Nat) (fun (i : Nat) => [(8, I i)]) (fun (i : Nat) => i ≤ l.length ∧ res = orI (l.drop i)) (fun (i : Nat) => l.length - i) (0) rfl (⟨Nat.zero_le _, hres.symm⟩) ?_
 rintro i ⟨hi, hinv⟩
 refine W_sr [3, 6, 7, 8, 9] fun R hR => ?_
 simp only [go_sem]
 refine hR _ _ ?_; clear hR R
 try simp only [go_sem]
 refine W_seq fun Z6 K6 => ?_
 refine W_cond rfl (fun c1 => ?_) (fun c1 => ?_)
 ·
  try simp only [nrm] at c1
  have hi' : i < l.length := by first | assumption | omega
  obtain ⟨x, hx⟩ : ∃ x, l[i]? = some x := ⟨l[i], by simp [hi']⟩
  have hdrop : l.drop i = x :: l.drop (i + 1) := by
   rw [List.drop_eq_getElem_cons hi']; congr 1; exact (List.getElem?_eq_some_iff.1 hx).2
  rw [hdrop] at hinv
  simp only [orI] at hinv
  refine W_skip (K6 _ _ ?_)
  refine W_seq fun Z7 K7 => ?_
  refine W_block ?_
  refine W_sr [3, 5, 6, 7, 8] fun R hR => ?_
  simp only [go_sem, hx]
  refine hR _ _ ?_; clear hR R
  try simp only [go_sem, hx]
  refine W_sr [3, 5, 6, 7, 8, 14] fun R hR => ?_
  simp only [go_sem, hx]
  refine hR _ _ ?_; clear hR R
  try simp only [go_sem, hx]
  refine W_cond rfl (fun c2 => ?_) (fun c2 => ?_)
  ·
   try simp only [nrm] at c2
   refine W_sr [2] fun R hR => ?_
   simp only [go_sem, hx]
   refine hR _ _ ?_; clear hR R
   try simp only [go_sem, hx]
   refine W_ret ?_
   simp only [go_sem, hx]
   refine ⟨.inr (by trivial), ?_⟩
   first | refine Fsa hcl rfl ?_ | refine Fse hcl rfl ?_
   try simp only [go_sem]
   all_goals
    rw [hinv]; first | done | rfl | simp_all
  try simp only [nrm] at c2
  refine W_skip (K7 _ _ ?_)
  refine W_region [3, 6, 7, 8] fun R hR => ?_
  simp only [go_sem, hx]
  try simp (disch := omega) only [wrapI, wrapU]
  refine hR _ _ ?_; clear hR R
  try simp only [go_sem, hx]
  refine ⟨i + 1, ?_, by (try simp only []); omega, ?_⟩
  ·first | exact Weak.refl | exact Wqq
  try dsimp only
  refine ⟨hi', ?_⟩
  rw [hinv]; simp_all
 try simp only [nrm] at c1
 have hdrop : l.drop i = [] := List.drop_eq_nil_of_le (by omega)
 rw [hdrop] at hinv
 simp only [orI] at hinv
 refine W_exit ?_
 simp only [go_sem]
 refine K3 _ _ ?_
 refine W_sr [2] fun R hR => ?_
 simp only [go_sem]
 refine hR _ _ ?_; clear hR R
 try simp only [go_sem]
 refine W_ret ?_
 simp only [go_sem]
 refine ⟨.inr (by trivial), ?_⟩
 first | refine Fsa hcl rfl ?_ | refine Fse hcl rfl ?_
 try simp only [go_sem]
 all_goals
  rw [hinv]; first | done | rfl | simp_all
set_option maxHeartbeats 2000000 in
theorem weigh_pc (Y : YEnv) (σ : Sg) (s : Std) (r : Rnd) (h1 : 0 ≤ r.jury ∧ r.jury ≤ 2 ^ 20) (h2 : 0 ≤ r.member ∧ r.member ≤ 2 ^ 20) (h3 : -2 ^ 30 ≤ s.points ∧ s.points ≤ 2 ^ 30) (h4 : -2 ^ 30 ≤ s.votes ∧ s.votes ≤ 2 ^ 30) :
 PC Tryz.prog Y 85 [sdPV s, rdPV r] σ (sdPV (weighS s r)) (σ) := by
 refine PC_of_W Tryz.func85 rfl (by kernel_rfl) Tryz.ntmps85 (by simp) fun hcl hca => ?_
 have hm1 := mul_bd h1 h3
 have hm2 := mul_bd h2 h4
 have hw1 : IntKind.i64.wrap (r.jury * s.points) = r.jury * s.points := wrapI (by omega) (by omega)
 have hw2 : IntKind.i64.wrap (r.member * s.votes) = r.member * s.votes := wrapI (by omega) (by omega)
 have hw3 : IntKind.i64.wrap (r.jury * s.points + r.member * s.votes) = r.jury * s.points + r.member * s.votes := wrapI (by omega) (by omega)
 refine W_sr [2, 3, 4] fun R hR => ?_
 simp only [go_sem, sdPV, sdCells, rdPV, rdCells, hw1, hw2, hw3]
 refine hR _ _ ?_; clear hR R
 try simp only [go_sem, sdPV, sdCells, rdPV, rdCells, hw1, hw2, hw3]
 refine W_sr [2, 4] fun R hR => ?_
 simp only [go_sem, sdPV, sdCells, rdPV, rdCells, hw1, hw2, hw3]
 try simp (disch := omega) only [wrapI, wrapU]
 refine hR _ _ ?_; clear hR R
 try simp only [go_sem, sdPV, sdCells, rdPV, rdCells, hw1, hw2, hw3]
 refine W_sr [4] fun R hR => ?_
 simp only [go_sem, sdPV, sdCells, rdPV, rdCells, hw1, hw2, hw3]
 refine hR _ _ ?_; clear hR R
 try simp only [go_sem, sdPV, sdCells, rdPV, rdCells, hw1, hw2, hw3]
 refine W_ret ?_
 simp only [go_sem, sdPV, sdCells, rdPV, rdCells, hw1, hw2, hw3]
 refine ⟨.inr (by trivial), ?_⟩
 first | refine Fin_same hcl (by show resPV Tryz.prog _ _ [.cell 4 131] = some _; simp only [resPV, go_sem]; rfl) (Wk_eq ?_ (by simp only [go_sem])) | refine Fin_same hcl rfl (Wk_eq ?_ (by simp only [go_sem]))
 try simp only [go_sem]
 all_goals
  first | rfl | simp [weighS, sdPV, sdCells]
set_option maxHeartbeats 2000000 in
theorem ahead_pc (Y : YEnv) (σ : Sg) (a b : Std) :
 PC Tryz.prog Y 74 [sdPV a, sdPV b] σ (I (aheadS a b)) (σ) := by
 refine PC_of_W Tryz.func74 rfl (by kernel_rfl) Tryz.ntmps74 (by simp) fun hcl hca => ?_
 refine W_sr [2, 3] fun R hR => ?_
 simp only [go_sem, sdPV, sdCells]
 refine hR _ _ ?_; clear hR R
 try simp only [go_sem, sdPV, sdCells]
 refine W_seq fun Z2 K2 => ?_
 refine W_draw [4] [0, 1, 2, 3, 4, 5, 6, 7, 8, 9, 10, 11, 12, 13, 14, 15, 16, 17] [(5, 4), (6, 4), (7, 4), (8, 4), (10, 4), (10, 9), (11, 4), (11, 9), (12, 4), (12, 9), (13, 4), (13, 9)] [[], [0], [], [2], [0, 1, 2, 3], [], [5], [], [7], [0, 1, 2, 3, 4, 5, 6, 7, 8], [], [10], [], [12], [0, 1, 2, 3, 4, 5, 6, 7, 8, 9, 10, 11, 12, 13], [0, 1, 2, 3, 4, 5, 6, 7, 8, 9, 10, 11, 12, 13, 14], [0, 1, 2, 3, 4, 5, 6, 7, 8, 9, 10, 11, 12, 13, 14, 15], [0, 1, 2, 3, 4, 5, 6, 7, 8, 9, 10, 11, 12, 13, 14, 15, 16]] mixed (by kernel_rfl) fun R hR => ?_
 simp only [go_sem, sdPV, sdCells]
 refine GCall_of (cmp_pc Y _ b.score a.score) ?_
 simp only [go_sem, sdPV, sdCells]
 refine GCall_of (cmp_pc Y _ b.points a.points) ?_
 simp only [go_sem, sdPV, sdCells]
 refine GCall_of (cmp_pc Y _ a.song b.song) ?_
 simp only [go_sem, sdPV, sdCells]
 refine GCall_of (or_pc Y _ [cmpI b.score a.score, cmpI b.points a.points, cmpI a.song b.song] .exact (by simp)) ?_
 simp only [go_sem, sdPV, sdCells]
 try refine And.intro (by repeat' (first | refine And.intro ?_ ?_ | exact GOr_right (fun _ => by simp only [go_sem, sdPV, sdCells]))) ?_
 refine hR _ _ (K2 _ _ ?_); clear hR R; try clear K2 Z2
 try simp only [go_sem, sdPV, sdCells]
 refine W_ret ?_
 simp only [go_sem, sdPV, sdCells]
 refine ⟨.inr (by trivial), ?_⟩
 first | refine Fsa hcl rfl ?_ | refine Fse hcl rfl ?_
 try simp only [go_sem]
 all_goals
  first | rfl | simp [aheadS]
structure Tally where
 rd : Rnd
 songs : List Int
 pts : Nat → Int
 vts : Nat → Int
 m : List (Voice × Int)
def tlCells (id : Nat) (t : Tally) : List PV := [I t.rd.keep, I t.rd.jury, I t.rd.member, ints t.songs, I (t.pts 0), I (t.pts 1), I (t.pts 2), I (t.pts 3), I (t.pts 4), I (t.pts 5), I (t.pts 6), I (t.pts 7), I (t.vts 0), I (t.vts 1), I (t.vts 2), I (t.vts 3), I (t.vts 4), I (t.vts 5), I (t.vts 6), I (t.vts 7), .map id]
def tlPV (id : Nat) (t : Tally) : PV := .agg (tlCells id t)
def upd (f : Nat → Int) (k : Nat) (v : Int) : Nat → Int := fun s => if s = k then v else f s
theorem tl_pts {id : Nat} {t : Tally} : ∀ {s : Nat}, s < 8 → (tlCells id t)[4 + s]? = some (I (t.pts s))
 | 0, _ => rfl
 | 1, _ => rfl
 | 2, _ => rfl
 | 3, _ => rfl
 | 4, _ => rfl
 | 5, _ => rfl
 | 6, _ => rfl
 | 7, _ => rfl
 | n + 8, h => absurd h (by omega)
theorem tl_vts {id : Nat} {t : Tally} : ∀ {s : Nat}, s < 8 → (tlCells id t)[12 + s]? = some (I (t.vts s))
 | 0, _ => rfl
 | 1, _ => rfl
 | 2, _ => rfl
 | 3, _ => rfl
 | 4, _ => rfl
 | 5, _ => rfl
 | 6, _ => rfl
 | 7, _ => rfl
 | n + 8, h => absurd h (by omega)
theorem tl_map {id : Nat} {t : Tally} : (tlCells id t)[20]? = some (.map id) := rfl
theorem tl_songs {id : Nat} {t : Tally} : (tlCells id t)[3]? = some (ints t.songs) := rfl
theorem tl_keep {id : Nat} {t : Tally} : (tlCells id t)[0]? = some (I t.rd.keep) := rfl
theorem tl_len {id : Nat} {t : Tally} : (tlCells id t).length = 21 := rfl
theorem tl_setP {id : Nat} {t : Tally} : ∀ {s : Nat}, s < 8 → ∀ v : Int, (tlCells id t).set (4 + s) (I v) = tlCells id { t with pts := upd t.pts s v }
 | 0, _, _ => rfl
 | 1, _, _ => rfl
 | 2, _, _ => rfl
 | 3, _, _ => rfl
 | 4, _, _ => rfl
 | 5, _, _ => rfl
 | 6, _, _ => rfl
 | 7, _, _ => rfl
 | n + 8, h, _ => absurd h (by omega)
theorem tl_setV {id : Nat} {t : Tally} : ∀ {s : Nat}, s < 8 → ∀ v : Int, (tlCells id t).set (12 + s) (I v) = tlCells id { t with vts := upd t.vts s v }
 | 0, _, _ => rfl
 | 1, _, _ => rfl
 | 2, _, _ => rfl
 | 3, _, _ => rfl
 | 4, _, _ => rfl
 | 5, _, _ => rfl
 | 6, _, _ => rfl
 | 7, _, _ => rfl
 | n + 8, h, _ => absurd h (by omega)
theorem cleans_tl {a b c id : Nat} (t : Tally) (hid : id < a) : CleanAll a b c (tlCells id t) := by
 intro p hp
 simp only [tlCells, List.mem_cons, List.not_mem_nil, or_false] at hp
 repeat' (first | (rcases hp with rfl | hp; first | exact .int _ _ | exact clean_ints _) | (subst hp; exact .mapv _ hid))
theorem clean_tl {a b c id : Nat} (t : Tally) (hid : id < a) : Clean a b c (tlPV id t) := .agg _ (cleans_tl t hid)
theorem mapE_len {κ ν : Type} {ek : κ → PV} {ev : ν → PV} {l : List (κ × ν)} : (mapE ek ev l).length = l.length := by simp [mapE]
theorem mapE_get {κ ν : Type} {ek : κ → PV} {ev : ν → PV} {l : List (κ × ν)} {j : Nat} {k u : PV} (h : (mapE ek ev l)[j]? = some (.tuple [k, u])) : ∃ e, l[j]? = some e ∧ k = ek e.1 ∧ u = ev e.2 := by
 unfold mapE at h
 rw [List.getElem?_map] at h
 cases he : l[j]? with
 | none => rw [he] at h; cases h
 | some e =>
  rw [he] at h
  simp only [Option.map_some, Option.some.injEq, PV.tuple.injEq, List.cons.injEq, and_true] at h
  exact ⟨e, rfl, h.1.symm, h.2.symm⟩
theorem mapE_at {κ ν : Type} {ek : κ → PV} {ev : ν → PV} {l : List (κ × ν)} {j : Nat} {e : κ × ν} (h : l[j]? = some e) : (mapE ek ev l)[j]? = some (.tuple [ek e.1, ev e.2]) := by
 unfold mapE
 rw [List.getElem?_map, h]; rfl
theorem it_ext {σ : Sg} {l : List (Option (List PV))} {rm : List Nat} {ys : List LState} {j k n : Nat} {seen : List Nat} {es : List PV} (h1 : l[j]? = some (some [.itst (σ.store.length + k) n seen])) (h2 : l[k]? = some (some (.mark :: es))) (h3 : es.length = n) :
 iterAt (σ.ext l rm ys) (.iter (σ.store.length + j)) = some (σ.store.length + j, σ.store.length + k, seen, es) := by
 simp only [iterAt, Sg.get_ext, h1, h2, h3, if_true]
theorem rg78 {σ : Sg} {id : Nat} : rangePV Tryz.prog σ 84 (.map id) = match σ.store[id]? with
 | some (some (.mark :: es)) => some (.iter σ.store.length, σ.push [.itst id es.length []])
 | _ => none := by
 simp only [rangePV, Tryz.underlying84]
 rfl
theorem Cl_iter {a b c id : Nat} : Clean a b c (.iter id) = (id < a) := propext ⟨fun h => by cases h; assumption, fun h => .iter _ h⟩
theorem Cl_itst {a b c mid n : Nat} {s : List Nat} : Clean a b c (.itst mid n s) = (mid < a) := propext ⟨fun h => by cases h; assumption, fun h => .itst _ _ _ h⟩
theorem cA_tl {a b c id : Nat} {t : Tally} : CleanAll a b c (tlCells id t) = (id < a) := propext ⟨fun h => by have := h (.map id) (by simp [tlCells]); cases this; assumption, cleans_tl t⟩
theorem C_tl {a b c id : Nat} {t : Tally} : Clean a b c (tlPV id t) = (id < a) := propext ⟨fun h => by cases h; rename_i h; exact cA_tl.mp h, clean_tl t⟩
attribute [go_sem] cA_tl C_tl
theorem cells_map {id : Nat} : (PV.map id).cells = [.map id] := rfl
attribute [go_sem] cells_map rg78 Cl_iter Cl_itst mapE_len
def keyOf (b : Ballot) : Voice := (b.kind, b.voter, if b.kind = 2 then -1 else b.song)
def isIn (rd : Int) (songs : List Int) (b : Ballot) : Bool := decide (b.round = rd) && has songs b.song
/-- Does the ballot at a place beat the one that is there? -/
def first (l : List Ballot) (m : List (Voice × Int)) (b : Ballot) : Bool :=
 match aget (keyOf b) m with
 | none => true
 | some k => match l[k.toNat]? with
  | none => true
  | some o => decide (b.serial < o.serial)
def vstep (rd : Int) (songs : List Int) (l : List Ballot) (m : List (Voice × Int)) (i : Nat) (b : Ballot) : List (Voice × Int) :=
 if isIn rd songs b && first l m b then aput (keyOf b) (i : Int) m else m
def voices (rd : Int) (songs : List Int) (l : List Ballot) : Nat → List (Voice × Int)
 | 0 => []
 | i + 1 => match l[i]? with
  | some b => vstep rd songs l (voices rd songs l i) i b
  | none => voices rd songs l i
/-- Each place in the map is that of a ballot that counts in the round, under its key. -/
def PlOk (rd : Int) (songs : List Int) (l : List Ballot) (i : Nat) (m : List (Voice × Int)) : Prop :=
 ∀ e, e ∈ m → ∃ (k : Nat) (b : Ballot), e.2 = k ∧ k < i ∧ l[k]? = some b ∧ e.1 = keyOf b ∧ isIn rd songs b = true
theorem mem_aput {k : Voice} {v : Int} : ∀ {m : List (Voice × Int)} {e : Voice × Int}, e ∈ aput k v m → e = (k, v) ∨ e ∈ m := by
 intro m
 induction m with
 | nil => intro e h; simp only [aput, List.mem_singleton] at h; exact .inl h
 | cons q m ih =>
  intro e h
  simp only [aput] at h
  split at h
  ·rcases List.mem_cons.1 h with h | h
   ·exact .inl h
   exact .inr (by simp [h])
  rcases List.mem_cons.1 h with h | h
  ·exact .inr (by simp [h])
  rcases ih h with h | h
  ·exact .inl h
  exact .inr (by simp [h])
theorem voices_ok (rd : Int) (songs : List Int) (l : List Ballot) : ∀ i, PlOk rd songs l i (voices rd songs l i) := by
 intro i
 induction i with
 | zero => intro e h; cases h
 | succ i ih =>
  have up : ∀ e, e ∈ voices rd songs l i → ∃ (k : Nat) (b : Ballot), e.2 = k ∧ k < i + 1 ∧ l[k]? = some b ∧ e.1 = keyOf b ∧ isIn rd songs b = true := fun e h => by
   obtain ⟨k, b, h1, h2, h3⟩ := ih e h
   exact ⟨k, b, h1, by omega, h3⟩
  simp only [voices]
  split
  ·rename_i b hb
   unfold vstep
   split
   ·rename_i hc
    simp only [Bool.and_eq_true] at hc
    intro e h
    rcases mem_aput h with rfl | h
    ·exact ⟨i, b, rfl, by omega, hb, rfl, hc.1⟩
    exact up e h
   exact up
  exact up
def entB (l : List Ballot) (m : List (Voice × Int)) (j : Nat) : Option Ballot := m[j]?.bind fun e => l[e.2.toNat]?
def cpB (s : Nat) (b : Ballot) : Int := if b.kind ≠ 2 ∧ b.song = s then b.points else 0
def cvB (s : Nat) (b : Ballot) : Int := if b.kind = 2 ∧ b.song = s then 1 else 0
def optB (f : Ballot → Int) : Option Ballot → Int
 | some b => f b
 | none => 0
def sumB (f : Ballot → Int) (l : List Ballot) (m : List (Voice × Int)) (js : List Nat) : Int := (js.map fun j => optB f (entB l m j)).sum
/-- What all songs get. -/
def sumR (f : Nat → Ballot → Int) (l : List Ballot) (m : List (Voice × Int)) (js : List Nat) : Nat → Int := fun s => sumB (f s) l m js
theorem sumB_snoc {f : Ballot → Int} {l : List Ballot} {m : List (Voice × Int)} {js : List Nat} {j : Nat} {b : Ballot} (hb : entB l m j = some b) : sumB f l m (js ++ [j]) = sumB f l m js + f b := by simp [sumB, hb, optB]
theorem sumR_same {f : Nat → Ballot → Int} {l : List Ballot} {m : List (Voice × Int)} {js : List Nat} {j : Nat} {b : Ballot} (hb : entB l m j = some b) (h : ∀ s, f s b = 0) : sumR f l m (js ++ [j]) = sumR f l m js := by
 funext s
 unfold sumR
 rw [sumB_snoc hb, h, Int.add_zero]
theorem sumR_hit {f : Nat → Ballot → Int} {l : List Ballot} {m : List (Voice × Int)} {js : List Nat} {j : Nat} {b : Ballot} (hb : entB l m j = some b) {k : Nat} {v : Int} (h : ∀ s, f s b = if s = k then v else 0) : sumR f l m (js ++ [j]) = upd (sumR f l m js) k (sumR f l m js k + v) := by
 funext s
 unfold sumR upd
 rw [sumB_snoc hb, h]
 by_cases e : s = k
 ·rw [if_pos e, if_pos e, e]
 rw [if_neg e, if_neg e, Int.add_zero]
theorem sum_perm {α : Type} {g : α → Int} {a b : List α} (h : a.Perm b) : (a.map g).sum = (b.map g).sum := by
 induction h with
 | nil => rfl
 | cons x _ ih => simp [ih]
 | swap x y l => simp; omega
 | trans _ _ h1 h2 => rw [h1, h2]
theorem perm_range {js : List Nat} {n : Nat} (h1 : js.Nodup) (h2 : ∀ j, j ∈ js → j < n) (h3 : ∀ j, j < n → j ∈ js) : js.Perm (List.range n) := by
 rw [List.perm_iff_count]
 intro a
 rw [List.Nodup.count h1, List.Nodup.count List.nodup_range]
 simp only [List.mem_range]
 by_cases ha : a < n
 ·rw [if_pos (h3 a ha), if_pos ha]
 rw [if_neg (fun q => ha (h2 a q)), if_neg ha]
theorem sumR_all {f : Nat → Ballot → Int} {l : List Ballot} {m : List (Voice × Int)} {js : List Nat} {n : Nat} (h1 : js.Nodup) (h2 : ∀ j, j ∈ js → j < n) (h3 : ∀ j, j < n → j ∈ js) : sumR f l m js = sumR f l m (List.range n) := by
 funext s
 unfold sumR sumB
 exact sum_perm (perm_range h1 h2 h3)
theorem nodup_len : ∀ {n : Nat} {js : List Nat}, js.Nodup → (∀ j, j ∈ js → j < n) → js.length ≤ n := by
 intro n
 induction n with
 | zero =>
  intro js _ h
  cases js with
  | nil => exact Nat.le_refl _
  | cons j js => exact absurd (h j (by simp)) (by omega)
 | succ n ih =>
  intro js h1 h2
  have g := ih (js := js.erase n) (h1.erase n) (fun j hj => by
   have e := (h1.mem_erase_iff).1 hj
   have := h2 j e.2
   have := e.1
   omega)
  have := List.length_erase (l := js) (a := n)
  split at this <;> omega
theorem sumB_bd {f : Ballot → Int} {l : List Ballot} {m : List (Voice × Int)} {c : Int} (hc : 0 ≤ c) (hf : ∀ b, b ∈ l → 0 ≤ f b ∧ f b ≤ c) : ∀ js : List Nat, 0 ≤ sumB f l m js ∧ sumB f l m js ≤ c * js.length := by
 intro js
 induction js with
 | nil => simp [sumB]
 | cons j js ih =>
  have e : sumB f l m (j :: js) = optB f (entB l m j) + sumB f l m js := by simp [sumB]
  have h : 0 ≤ optB f (entB l m j) ∧ optB f (entB l m j) ≤ c := by
   unfold entB
   cases hm : m[j]? with
   | none => simp [optB]; exact hc
   | some p =>
    simp only [Option.bind_some]
    cases hl : l[p.2.toNat]? with
    | none => simp [optB]; exact hc
    | some b => exact hf b (List.mem_of_getElem? hl)
  rw [e, List.length_cons, show ((js.length + 1 : Nat) : Int) = js.length + 1 by omega, Int.mul_add, Int.mul_one]
  omega
theorem aput_len {k : Voice} {v : Int} : ∀ m : List (Voice × Int), (aput k v m).length ≤ m.length + 1 := by
 intro m
 induction m with
 | nil => simp [aput]
 | cons e m ih =>
  simp only [aput]
  split
  ·simp
  simp only [List.length_cons]; omega
theorem voices_len (rd : Int) (songs : List Int) (l : List Ballot) : ∀ i, (voices rd songs l i).length ≤ i := by
 intro i
 induction i with
 | zero => simp [voices]
 | succ i ih =>
  simp only [voices]
  split
  ·unfold vstep
   split
   ·exact Nat.le_trans (aput_len _) (by omega)
   omega
  omega
/-- A round counted. -/
def countT (r : Rnd) (rd : Int) (songs : List Int) (l : List Ballot) : Tally :=
 let m := voices rd songs l l.length
 ⟨r, songs, sumR cpB l m (List.range m.length), sumR cvB l m (List.range m.length), m⟩
structure BlV (c : Contest) (b : Ballot) : Prop where
 sr : 1 ≤ b.serial ∧ b.serial ≤ 1000000000
 rd : 0 ≤ b.round ∧ b.round < c.rounds.length
 kd : b.kind = 1 ∨ b.kind = 2
 vt : 0 ≤ b.voter ∧ b.voter < if b.kind = 2 then c.members else c.juries
 sg : 0 ≤ b.song ∧ b.song < c.songs
 pt : 0 ≤ b.points ∧ b.points ≤ if b.kind = 2 then 0 else c.most
theorem unl_zero {b : Bool} {e : Int} (he : e ≠ 0) (h : unl b e = 0) : b = true := by
 unfold unl at h
 cases b
 ·exact absurd h he
 rfl
theorem blV_of {c : Contest} {b : Ballot} (hs : inR b.serial 1 1000000000 = true) (h : chkBl c b = 0) : BlV c b := by
 simp only [chkBl, blEs, firstE] at h
 split at h
 ·rename_i q; exact absurd h q
 rename_i h1
 split at h
 ·rename_i q; exact absurd h q
 rename_i h2
 split at h
 ·rename_i q; exact absurd h q
 rename_i h3
 split at h
 ·rename_i q; exact absurd h q
 rename_i h4
 split at h
 ·rename_i q; exact absurd h q
 rename_i h5
 simp only [ne_eq, Classical.not_not] at h1 h2 h3 h4 h5
 have g1 := inR_true.1 (unl_zero (by decide) h1)
 have g2 := inR_true.1 (unl_zero (by decide) h2)
 have g3 := inR_true.1 (unl_zero (by decide) h3)
 have g4 := inR_true.1 (unl_zero (by decide) h4)
 refine ⟨inR_true.1 hs, by omega, by omega, ⟨g3.1, by have := g3.2; omega⟩, by omega, ?_⟩
 unfold bl5 at h5
 split at h5
 ·rename_i hk
  have g5 := unl_zero (by decide) h5
  simp only [beq_iff_eq] at g5
  rw [g5, if_pos hk]; omega
 rename_i hk
 have g5 := inR_true.1 (unl_zero (by decide) h5)
 rw [if_neg hk]; exact g5
theorem blsF_of {c : Contest} : ∀ {l : List Ballot} {p : List Int}, chkBlsF c p l = 0 → p.Nodup → (∀ b, b ∈ l → BlV c b) ∧ (p ++ l.map (·.serial)).Nodup := by
 intro l
 induction l with
 | nil => intro p _ hp; exact ⟨fun b h => absurd h (by simp), by simpa using hp⟩
 | cons b l ih =>
  intro p h hp
  simp only [chkBlsF] at h
  split at h
  ·cases h
  rename_i h1
  split at h
  ·cases h
  rename_i h2
  split at h
  ·rename_i h3; exact absurd h h3
  rename_i h3
  simp only [ne_eq, Classical.not_not] at h3
  have hn : (p ++ [b.serial]).Nodup := by
   rw [List.nodup_append]
   refine ⟨hp, by simp, fun x hx y hy => ?_⟩
   simp only [List.mem_singleton] at hy
   subst hy
   intro e
   subst e
   exact h2 (has_iff.2 hx)
  obtain ⟨g1, g2⟩ := ih h hn
  refine ⟨fun x hx => ?_, by simpa using g2⟩
  rcases List.mem_cons.1 hx with rfl | hx
  ·exact blV_of (by simpa using h1) h3
  exact g1 x hx
theorem blsV_of {c : Contest} {l : List Ballot} (h : chkBls c l = 0) : CnV c ∧ l.length ≤ 300 ∧ (∀ b, b ∈ l → BlV c b) ∧ (l.map (·.serial)).Nodup := by
 unfold chkBls at h
 split at h
 ·rename_i q; exact absurd h q
 rename_i h1
 simp only [ne_eq, Classical.not_not] at h1
 split at h
 ·cases h
 rename_i h2
 obtain ⟨g1, g2⟩ := blsF_of h (by simp)
 exact ⟨cnV_of h1, by omega, g1, by simpa using g2⟩
theorem rds_of : ∀ {l : List Rnd} {s : Int}, chkRds s l = 0 → s ≤ 8 → ∀ r, r ∈ l → (1 ≤ r.keep ∧ r.keep ≤ 8) ∧ (0 ≤ r.jury ∧ r.jury ≤ 1000) ∧ 0 ≤ r.member ∧ r.member ≤ 1000 := by
 intro l
 induction l with
 | nil => intro s _ _ r h; cases h
 | cons a l ih =>
  intro s h hs r hr
  simp only [chkRds] at h
  split at h
  ·cases h
  rename_i h1
  simp only [chkRd, allIn, List.all_cons, List.all_nil, Bool.and_true, Bool.not_eq_true', Bool.not_eq_false, Bool.and_eq_true, inR_true] at h1
  rcases List.mem_cons.1 hr with rfl | hr
  ·omega
  exact ih h (by omega) r hr
theorem CnV.rnd {c : Contest} (h : CnV c) {r : Rnd} (hr : r ∈ c.rounds) : (1 ≤ r.keep ∧ r.keep ≤ 8) ∧ (0 ≤ r.jury ∧ r.jury ≤ 1000) ∧ 0 ≤ r.member ∧ r.member ≤ 1000 := rds_of h.rs h.sg.2 r hr
/-- The numbers from 0. -/
def toI (n : Int) : List Int := (List.range n.toNat).map fun (i : Nat) => (i : Int)
/-- One standing sinks to its place. -/
def sink : Nat → List Std → List Std
 | 0, l => l
 | j + 1, l => match l[j + 1]?, l[j]? with
  | some x, some y => if aheadS x y < 0 then sink j ((l.set (j + 1) y).set j x) else l
  | _, _ => l
def sinkAll : Nat → Nat → List Std → List Std
 | 0, _, l => l
 | k + 1, i, l => sinkAll k (i + 1) (sink i l)
def sortSd (l : List Std) : List Std := sinkAll (l.length - 1) 1 l
/-- The standing of a song, with more points and votes. -/
def stdT (t : Tally) (s p v : Int) : Std := weighS ⟨s, t.pts s.toNat + p, t.vts s.toNat + v, 0⟩ t.rd
def allT (t : Tally) : List Std := t.songs.map fun s => stdT t s 0 0
def keptS (n : Nat) (l : List Std) : List Int := sortI (((sortSd l).take n).map (·.song))
def resT (t : Tally) : Res := ⟨t.songs, (allT t).map (·.points), (allT t).map (·.votes), (allT t).map (·.score), keptS t.rd.keep.toNat (allT t)⟩
/-- The rounds counted, each with the songs that the one before keeps. -/
def rdsT (l : List Ballot) : List Rnd → Nat → List Int → List Tally
 | [], _, _ => []
 | r :: rs, i, songs => countT r i songs l :: rdsT l rs (i + 1) (resT (countT r i songs l)).kept
def roundsT (c : Contest) (l : List Ballot) : List Tally := rdsT l c.rounds 0 (toI c.songs)
def resultsT (c : Contest) (l : List Ballot) : List Res := (roundsT c l).map resT
def winnerT (c : Contest) (l : List Ballot) : Int := match (resultsT c l).getLast? with
 | some r => r.kept.headD 0
 | none => 0
def runD (c : Contest) (l : List Ballot) : List Res × Int × Int := if chkBls c l ≠ 0 then ([], 0, chkBls c l) else (resultsT c l, winnerT c l, 0)
theorem rdsT_len {l : List Ballot} : ∀ {rs : List Rnd} {i : Nat} {s : List Int}, (rdsT l rs i s).length = rs.length := by
 intro rs
 induction rs with
 | nil => intro i s; rfl
 | cons r rs ih => intro i s; simp [rdsT, ih]
theorem mem_set2 {α : Type} {l : List α} {i j : Nat} {x y z : α} (hx : l[i]? = some x) (hy : l[j]? = some y) (h : z ∈ (l.set i y).set j x) : z ∈ l := by
 rcases List.mem_or_eq_of_mem_set h with h | h
 ·rcases List.mem_or_eq_of_mem_set h with h | h
  ·exact h
  exact h ▸ List.mem_of_getElem? hy
 exact h ▸ List.mem_of_getElem? hx
theorem swap_perm {α : Type} : ∀ {l : List α} {j : Nat} {x y : α}, l[j + 1]? = some x → l[j]? = some y → ((l.set (j + 1) y).set j x).Perm l := by
 intro l
 induction l with
 | nil => intro j x y h; simp at h
 | cons a l ih =>
  intro j x y hx hy
  cases j with
  | zero =>
   cases l with
   | nil => simp at hx
   | cons b l =>
    simp only [List.getElem?_cons_zero, List.getElem?_cons_succ, Option.some.injEq] at hx hy
    subst hx hy
    simp only [List.set_cons_succ, List.set_cons_zero]
    exact List.Perm.swap _ _ _
  | succ j =>
   simp only [List.getElem?_cons_succ] at hx hy
   simp only [List.set_cons_succ]
   exact List.Perm.cons _ (ih hx hy)
theorem sink_perm : ∀ (j : Nat) (l : List Std), (sink j l).Perm l := by
 intro j
 induction j with
 | zero => intro l; exact List.Perm.refl _
 | succ j ih =>
  intro l
  simp only [sink]
  split
  ·rename_i x y hx hy
   split
   ·exact (ih _).trans (swap_perm hx hy)
   exact List.Perm.refl _
  exact List.Perm.refl _
theorem sinkAll_perm : ∀ (k i : Nat) (l : List Std), (sinkAll k i l).Perm l := by
 intro k
 induction k with
 | zero => intro i l; exact List.Perm.refl _
 | succ k ih => intro i l; exact (ih _ _).trans (sink_perm _ _)
theorem sortSd_perm (l : List Std) : (sortSd l).Perm l := sinkAll_perm _ _ _
theorem sortSd_len (l : List Std) : (sortSd l).length = l.length := (sortSd_perm l).length_eq
theorem allT_len {t : Tally} : (allT t).length = t.songs.length := by simp [allT]
theorem kept_len {n : Nat} {l : List Std} (h : n ≤ l.length) : (keptS n l).length = n := by
 unfold keptS
 rw [sortI_len, List.length_map, List.length_take, sortSd_len]; omega
end Go.Proofs.YtdoohibbfjdblaaGreatDoor
