/-
  The rules by which a walk is worked out.
  A variable's slice without spare room gets a room; what is read of a variable may be told otherwise.
  The data of the laws, read: towns, cities, bands; rows of things.
  What the arguments of the laws are read as: numbers, bands, cities.
  What a city is read as.
  The owner of a slice in a variable is forgotten.
  A slice is held against nil: the answer is open where the slice is empty.
  Slices of slices: what goes in front is cut off.
  Slices that grow in place: operations without types; a variable moved to another number; a variable that is never written again.
  Facts of this seat's types for slices that grow in place.
  Conversions at this seat's types; shifts; pointers that are not nil.
  Parts of slices at this seat's types.
  What is done to texts at this seat's types.
  What the arguments of the laws are read as: texts, bytes, numbers within their bounds.
  Walks: numbers copied, bands copied.
  Walks: within bounds.
  Walks: numbers within bounds, spans, ends of streets.
  Walks: spans, groups, towns (crowd).
  Walks: towns (crowd).
  Walks: cities, squares, bands that may be (band).
  Walks: the times of bands, lists of bands (band).
  Walks: visits of bands, whether they cross (band).
  Walks: verdicts, the sleep of squares (band).
  Walks: the loud minutes, the sleep of a square (band).
  Walks: the sleep of a square (band); comparisons of lists (bateriakit).
-/
import Derived.Test.YteklodljdndcoaaGreatDoorPc
import Derived.CallsIn
import Derived.RangeFuncLeaves
import Derived.RangeFuncRecord
import Derived.OrdersIn
import Derived.Below
import Derived.Laws.World
import Derived.Laws.StructEq
import Derived.Laws.BytesString
import Derived.Laws.Append
import Derived.MapKept
import Derived.ProofKit
import Derived.Carry
import Derived.Handed
import Derived.ChangeCalls
import Derived.Stop.Joined
import Derived.Lib.LaidTab
import Derived.Shelf.Strconv.Itoa3
import Derived.RangeFuncIn
import Derived.RangeFuncNested
import Derived.Test.YteklodljdndcoaaGreatDoorProg
import Derived.KernelRfl
import Derived.IntWalk
import Derived.Test.YteklodljdndcoaaGreatDoorRows
import Derived.Sort.OwnSortedInts
import Derived.Lib.SlicesCompact
import Derived.Shelf.Strings.Builder1
import Derived.Lib.SplitLaws
import Derived.Lib.AtoiAll
import Derived.Lib.ItoaNum
import Derived.Lib.IndexBytes
import Derived.Shelf.Strings.Split
import Derived.Shelf.Strconv.AtoiAll
import Derived.Lib.AtoiErrMem
import Derived.Lib.ItoaLen
import Derived.Lib.AtoiAllCases
import Derived.Test.YteklodljdndcoaaGreatDoorCards
import Derived.Test.YteklodljdndcoaaGreatDoorTie
import Derived.JoinedOf
import Derived.LaidMore
import Derived.LaidSub
import Derived.Lay
import Derived.SevenTiedAt
import Derived.Lib.LaidU8
import Derived.Shelf.Vars
set_option linter.unusedSimpArgs false
set_option linter.unusedVariables false
namespace Go.Proofs.YteklodljdndcoaaGreatDoor
open Go Go.RowKit
theorem seqN {K : Env → Sg → Prop} {Q : Exit → Env → Sg → Prop} {E : Env} {σ : Sg} : Seq K Q .normal E σ = K E σ := rfl
theorem seqR {K : Env → Sg → Prop} {Q : Exit → Env → Sg → Prop} {E : Env} {σ : Sg} : Seq K Q .ret E σ = Q .ret E σ := rfl
theorem seqX {K : Env → Sg → Prop} {Q : Exit → Env → Sg → Prop} {E : Env} {σ : Sg} {i : Nat} : Seq K Q (.exit i) E σ = Q (.exit i) E σ := rfl
theorem blkN {i : Nat} {Q : Exit → Env → Sg → Prop} {E : Env} {σ : Sg} : InBlock i Q .normal E σ = Q .normal E σ := rfl
theorem blkR {i : Nat} {Q : Exit → Env → Sg → Prop} {E : Env} {σ : Sg} : InBlock i Q .ret E σ = Q .ret E σ := rfl
theorem blkX {i j : Nat} {Q : Exit → Env → Sg → Prop} {E : Env} {σ : Sg} : InBlock i Q (.exit j) E σ = if j = i then Q .normal E σ else Q (.exit j) E σ := rfl
theorem range0 : List.range 0 = [] := rfl
theorem range1 : List.range 1 = [0] := rfl
theorem range2 : List.range 2 = [0, 1] := rfl
theorem range3 : List.range 3 = [0, 1, 2] := rfl
theorem range4 : List.range 4 = [0, 1, 2, 3] := rfl
theorem range5 : List.range 5 = [0, 1, 2, 3, 4] := rfl
theorem range6 : List.range 6 = [0, 1, 2, 3, 4, 5] := rfl
theorem range7 : List.range 7 = [0, 1, 2, 3, 4, 5, 6] := rfl
theorem range8 : List.range 8 = [0, 1, 2, 3, 4, 5, 6, 7] := rfl
theorem range9 : List.range 9 = [0, 1, 2, 3, 4, 5, 6, 7, 8] := rfl
theorem range10 : List.range 10 = [0, 1, 2, 3, 4, 5, 6, 7, 8, 9] := rfl
theorem range11 : List.range 11 = [0, 1, 2, 3, 4, 5, 6, 7, 8, 9, 10] := rfl
theorem range12 : List.range 12 = [0, 1, 2, 3, 4, 5, 6, 7, 8, 9, 10, 11] := rfl
theorem range13 : List.range 13 = [0, 1, 2, 3, 4, 5, 6, 7, 8, 9, 10, 11, 12] := rfl
theorem range14 : List.range 14 = [0, 1, 2, 3, 4, 5, 6, 7, 8, 9, 10, 11, 12, 13] := rfl
theorem range15 : List.range 15 = [0, 1, 2, 3, 4, 5, 6, 7, 8, 9, 10, 11, 12, 13, 14] := rfl
theorem range16 : List.range 16 = [0, 1, 2, 3, 4, 5, 6, 7, 8, 9, 10, 11, 12, 13, 14, 15] := rfl
attribute [go_sem] range0 range1 range2 range3 range4 range5 range6 range7 range8 range9 range10 range11 range12 range13 range14 range15 range16
attribute [go_sem low] Sg.push_new Sg.pushRoom_new Sg.pushY_new
attribute [go_sem] Sg.ext_ext
attribute [go_sem] seqN seqR seqX blkN blkR blkX
attribute [go_sem] GL GD GWant_true GWant_false GOpt_some GWho_nobody GWho_fn GWho_yield GOr_true wantedPV whom effOp pureOp isNilC isNilV isNilI ev constPV constPV0 Option.map Option.bind decide_false ite_true ite_false eq_self gt_iff_lt ge_iff_le Env.put Env.get dstOK Nat.reduceLT decide_true Nat.reduceEqDiff argsEnv Nat.reduceAdd binPV bin arith isShift pickPV keep List.map Bool.true_and Bool.and_true reduceIte List.getElem?_toArray List.getElem?_cons_succ List.getElem?_cons_zero beq_true beq_false Bool.not_true Bool.not_false Bool.false_eq_true true_and and_true undefs Dem Option.map_some Option.map_none builtinPV foldMax foldMin unPV extractPV oneOr Sg.push_ext Sg.pushRoom_ext Sg.len_ext Sg.rooms_ext Sg.ys_ext Sg.pushY_ext Sg.ysget_ext Sg.ysget_ext0 Sg.setY_ext Sg.setY_ext0 Sg.popY_ext Sg.popY_ext0 ldS_ext ldS_ext0 ldA_ext ldA_ext0 stX_ext stX_ext0 List.cons_append List.nil_append List.length_cons List.length_nil Nat.zero_add Nat.add_zero List.set_cons_zero List.set_cons_succ PV.cells_agg PV.cells_int PV.cells_bool PV.cells_str PV.cells_isl PV.cells_nilsl PV.cells_func PV.cells_ptr PV.cells_undef defd PV.scalar List.all_cons List.all_nil BEq.rfl Nat.le_refl Nat.reduceLeDiff putCells fillPV List.take_succ_cons List.take_zero List.drop_succ_cons List.drop_zero and_self Nat.reduceMul Nat.reducePow Nat.lt_add_one Nat.reduceBEq List.length_map List.take_nil List.drop_nil
end Go.Proofs.YteklodljdndcoaaGreatDoor
namespace Go.Proofs.YteklodljdndcoaaGreatDoor
open Go Go.RowKit
theorem setVar_some {σ : Sg} {id i : Nat} {cs cs' x : List PV} (hid : σ.store[id]? = some (some cs)) (h : (σ.setVar id cs').store[i]? = some (some x)) : (i = id ∧ x = cs') ∨ (i ≠ id ∧ σ.store[i]? = some (some x)) := by
  have h' : (σ.store.set id (some cs'))[i]? = some (some x) := h
  rw [List.getElem?_set] at h'
  by_cases e : id = i
  · subst e
    rw [if_pos rfl, if_pos (List.getElem?_eq_some_iff.1 hid).1] at h'
    injection h' with h'
    injection h' with h'
    exact .inl ⟨rfl, h'.symm⟩
  · rw [if_neg e] at h'
    exact .inr ⟨fun e' => e e'.symm, h'⟩
theorem SR.reread {Ψ : Ty} {σ : Sg} {w : World} (h : SR Ψ σ w) {id : Nat} {cs cs' : List PV} (hid : σ.store[id]? = some (some cs))
    (hv : ∀ b, Ψ.β[id]? = some b → Keeps Ψ w b cs → Keeps Ψ w b cs') : SR Ψ (σ.setVar id cs') w := by
  have old : ∀ (i : Nat) (x : List PV), (σ.setVar id cs').store[i]? = some (some x) → ∃ y, σ.store[i]? = some (some y) := fun i x hx => by
    rcases setVar_some hid hx with ⟨rfl, _⟩ | ⟨_, h'⟩
    · exact ⟨_, hid⟩
    · exact ⟨_, h'⟩
  refine ⟨h.base, h.imm, by rw [sv_len]; exact h.blen, ?_, ?_, ?_, h.roomsApart, h.histlt, h.histle, h.βlt, h.yok, h.ylen', h.dok, ?_, h.szok⟩
  · intro i x b hx hb
    rcases setVar_some hid hx with ⟨rfl, rfl⟩ | ⟨_, h'⟩
    · obtain ⟨a1, a2, a0⟩ := h.block i cs b hid hb
      exact ⟨a1, a2, hv b hb a0⟩
    · exact h.block i x b h' hb
  · intro i i' x x' b hx hx' hb hb'
    obtain ⟨y, hy⟩ := old i x hx
    obtain ⟨y', hy'⟩ := old i' x' hx'
    exact h.apart i i' y y' b hy hy' hb hb'
  · intro r n b e c es hr hh hlt
    obtain ⟨a1, a2, a3, a4⟩ := h.room r n b e c es hr hh hlt
    refine ⟨a1, a2, fun i hi x hx => ?_, a4⟩
    obtain ⟨y, hy⟩ := old i x hx
    exact a3 i hi y hy
  · intro b c hm
    obtain ⟨a1, a2, a3, a4, a5⟩ := h.rok b c hm
    refine ⟨a1, a2, fun i hi x hx => ?_, a4, a5⟩
    obtain ⟨y, hy⟩ := old i x hx
    exact a3 i hi y hy
theorem Keeps.setRo {Ψ : Ty} {w : World} {b off : Nat} {cs : List PV} {p : PV} (h : Keeps Ψ w b cs) (hp : cs[off]? = some p) : Keeps Ψ w b (cs.set off p.ro) := by
  have hlt : off < cs.length := (List.getElem?_eq_some_iff.1 hp).1
  have at' : ∀ (j : Nat) (q : PV), (cs.set off p.ro)[j]? = some q → (j = off ∧ q = p.ro) ∨ cs[j]? = some q := by
    intro j q hq
    rw [List.getElem?_set] at hq
    by_cases e : off = j
    · rw [if_pos e, if_pos hlt] at hq
      injection hq with hq
      exact .inl ⟨e.symm, hq.symm⟩
    · rw [if_neg e] at hq
      exact .inr hq
  rcases h with ⟨c, a3, a4, a5⟩ | ⟨arr, es, rfl, a3, a4, a5⟩ | ⟨mid, r, n, seen, rfl, a3, a4⟩
  · refine .inl ⟨c, a3, by simpa using a4, fun j q v h1 h2 => ?_⟩
    rcases at' j q h1 with ⟨rfl, rfl⟩ | h1
    · exact (a5 j p v hp h2).ro
    · exact a5 j q v h1 h2
  · rcases off with _ | off
    · simp at hp
      subst hp
      exact .inr (.inl ⟨arr, es, rfl, a3, a4, a5⟩)
    · refine .inr (.inl ⟨arr, es.set off p.ro, rfl, a3, by simpa using a4, fun j q e h1 h2 => ?_⟩)
      simp only [List.getElem?_cons_succ] at hp
      rcases at' (j + 1) q (by simpa using h1) with ⟨hj, rfl⟩ | h1
      · have : j = off := by omega
        subst this
        obtain ⟨g1, k, v, rfl, g2, g3⟩ := a5 j p e hp h2
        exact ⟨g1, k.ro, v.ro, rfl, g2.ro, g3.ro⟩
      · exact a5 j q e (by simpa using h1) h2
  · rcases off with _ | off
    · simp at hp
      subst hp
      exact .inr (.inr ⟨mid, r, n, seen, rfl, a3, a4⟩)
    · simp at hp
theorem Weak.roomV {N : Nat} {lo : Nat × Nat} {E : Env} {σ : Sg} {id off es : Nat} {cs l : List PV} (hid : σ.store[id]? = some (some cs)) (hc : cs[off]? = some (.isl l .exact)) (hes : ∀ q, q ∈ l → q.cells.length = es) :
    Weak N lo E σ E ((σ.setVar id (cs.set off (.isl l (.tok σ.rooms.length l.length es)))).pushRoom l.length) := by
  intro Ψ0 Ψ D a w hb le hr
  obtain ⟨b, hβ⟩ : ∃ b, Ψ.β[id]? = some b := by
    have : id < Ψ.β.length := by rw [hr.sg.blen]; exact (List.getElem?_eq_some_iff.1 hid).1
    exact ⟨Ψ.β[id], by simp [this]⟩
  obtain ⟨_, _, h0⟩ := hr.sg.block id cs b hid hβ
  obtain ⟨c, hbi, hcl, hcv⟩ : ∃ c, blockIs w b c ∧ cs.length ≤ c.size ∧ ∀ (j : Nat) (p : PV) (v : Value), cs[j]? = some p → c[j]? = some v → VR Ψ p v := by
    rcases h0 with h0 | ⟨arr, es, rfl, _, g1, g2⟩ | ⟨mid, r, n, seen, rfl, _, _⟩
    · exact h0
    rotate_left
    · rcases off with _ | off
      · simp at hc
      · simp at hc
    · rcases off with _ | off
      · simp at hc
      simp only [List.getElem?_cons_succ] at hc
      have hlt : off < arr.size := by rw [g1]; exact (List.getElem?_eq_some_iff.1 hc).1
      obtain ⟨_, k, v, e, _⟩ := g2 off _ arr[off] hc (by simp [hlt])
      cases e
  have hoff : off < cs.length := (List.getElem?_eq_some_iff.1 hc).1
  have hoc : off < c.size := Nat.lt_of_lt_of_le hoff hcl
  have hv : VR Ψ (.isl l .exact) c[off] := hcv off _ _ hc (by simp [hoc])
  have fin : ∀ x : Option (Nat × Nat × Nat × Nat), (∀ b e c s, x = some (b, e, c, s) → ¬ e < c) → (∀ Ψ', Ψ.le Ψ' → Ψ'.hist σ.rooms.length l.length = some x → VR Ψ' (.isl l (.tok σ.rooms.length l.length es)) c[off]) →
      ∃ Ψ', Ψ0.le Ψ' ∧ Rel N D Ψ' E ((σ.setVar id (cs.set off (.isl l (.tok σ.rooms.length l.length es)))).pushRoom l.length) a w := by
    intro x hx hvr
    obtain ⟨le', hs'⟩ := hr.sg.newRoom l.length x (fun b e c s hh hlt => absurd hlt (hx b e c s hh))
    have hnew := hvr _ le' (by simp [Ty.addHist])
    have hid' : (σ.pushRoom l.length).store[id]? = some (some cs) := hid
    have hs2 := hs'.reread (cs' := cs.set off (.isl l (.tok σ.rooms.length l.length es))) hid' (fun b2 hb2 h2 => by
      have e1 : b2 = b := by
        have := le'.β id b hβ
        rw [hb2] at this; injection this
      subst e1
      obtain ⟨g1, g2⟩ := h2.cells hbi
      refine .inl ⟨c, hbi, by simpa using g1, fun j p v h1 h2 => ?_⟩
      rw [List.getElem?_set] at h1
      by_cases hj : off = j
      · subst hj
        rw [if_pos rfl, if_pos hoff] at h1
        injection h1 with h1
        subst h1
        have : v = c[off] := by simpa [hoc] using h2.symm
        rw [this]; exact hnew
      · rw [if_neg hj] at h1
        exact g2 j p v h1 h2)
    refine ⟨_, le.trans le', hr.size, fun t' => (hr.env t').mono le', hs2, fun d hd => le'.ds _ (hr.dsub d hd), ?_⟩
    obtain ⟨rs, r1, r2, r3⟩ := hr.defs
    exact ⟨rs, r1, r2, fun r hm => ⟨le'.ds _ (r3 r hm).1, (r3 r hm).2⟩⟩
  generalize hx : c[off] = x at hv fin
  cases hv with
  | islnil _ a0 _ => exact fin none (fun b e c s h => by cases h) fun Ψ' _ hh => .islnil _ a0 ⟨_, hh⟩
  | isl es0 _ _ b o cap vals hs h1 h2 hc' ho =>
    have hcap : cap = l.length := ho
    subst hcap
    refine fin (some (b, o + l.length * es, o + l.length * es, es)) (fun b e c s h => by injection h with h; injection h with _ h; injection h with h1 h; injection h with h2 _; omega) fun Ψ' le' hh => ?_
    by_cases hl : l = []
    · subst hl
      exact .isl es [] _ b o 0 vals (fun k e h => by simp at h) (fun k e j p h => by simp at h) (fun k e j p h => by simp at h) (Nat.le_refl _) ⟨rfl, hh⟩
    · have : es0 = es := by
        cases l with
        | nil => exact absurd rfl hl
        | cons q l => rw [← hs 0 q rfl]; exact hes q (by simp)
      subst this
      exact .isl es0 l _ b o _ vals hs (fun k e j p q1 q2 => le'.imm _ _ _ (h1 k e j p q1 q2)) (fun k e j p q1 q2 => (h2 k e j p q1 q2).mono le') (Nat.le_refl _) ⟨rfl, hh⟩
/-- The same for a variable that is new. -/
theorem Weak.roomX {N : Nat} {lo : Nat × Nat} {E : Env} {σ : Sg} {l : List (Option (List PV))} {rm : List Nat} {ys : List LState} {j off es : Nat} {cs m : List PV} (hid : l[j]? = some (some cs)) (hc : cs[off]? = some (.isl m .exact)) (hes : ∀ q, q ∈ m → q.cells.length = es) :
    Weak N lo E (σ.ext l rm ys) E (σ.ext (l.set j (some (cs.set off (.isl m (.tok (σ.rooms.length + rm.length) m.length es))))) (rm ++ [m.length]) ys) := by
  have h := Weak.roomV (N := N) (lo := lo) (E := E) (σ := σ.ext l rm ys) (id := σ.store.length + j) (off := off) (es := es) (cs := cs) (l := m) (by rw [Sg.get_ext]; exact hid) hc hes
  rw [Sg.rooms_ext, Sg.set_ext, Sg.pushRoom_ext] at h
  exact h
theorem Weak.roomSV {N : Nat} {lo : Nat × Nat} {E : Env} {σ : Sg} {d : Nat} {ds : List PV} {l : List (Option (List PV))} {rm : List Nat} {ys : List LState} {j off es : Nat} {cs m : List PV} (hid : l[j]? = some (some cs)) (hc : cs[off]? = some (.isl m .exact)) (hes : ∀ q, q ∈ m → q.cells.length = es) :
    Weak N lo E ((σ.setVar d ds).ext l rm ys) E ((σ.setVar d ds).ext (l.set j (some (cs.set off (.isl m (.tok (σ.rooms.length + rm.length) m.length es))))) (rm ++ [m.length]) ys) := by
  have h := Weak.roomX (N := N) (lo := lo) (E := E) (σ := σ.setVar d ds) (rm := rm) (ys := ys) hid hc hes
  exact h
/-- Cut back, where a variable that was there before was set. -/
theorem Weak.cutSV {N : Nat} {lo : Nat × Nat} {E : Env} {σ : Sg} {d : Nat} {ds : List PV} {l : List (Option (List PV))} {rm : List Nat} {ys : List LState} (k j : Nat) (h1 : lo.1 ≤ σ.store.length + k) (h2 : lo.2 ≤ σ.rooms.length + j) (hcl : CleanSg σ) (hds : CleanAll σ.store.length σ.rooms.length σ.ys.length ds)
    (hc : CleanLs (σ.store.length + k) (σ.rooms.length + j) (σ.ys.length + ys.length) (l.take k)) (hE : CleanEs (σ.store.length + k) (σ.rooms.length + j) (σ.ys.length + ys.length) E) :
    Weak N lo E ((σ.setVar d ds).ext l rm ys) E ((σ.setVar d ds).ext (l.take k) (rm.take j) ys) := by
  have h := Weak.cutX (N := N) (lo := lo) (E := E) (σ := σ.setVar d ds) (l := l) (rm := rm) (ys := ys) k j (by rw [sv_len]; exact h1) h2 (CleanSg_set hcl hds) (by rw [sv_len]; exact hc) (by rw [sv_len]; exact hE)
  exact h
end Go.Proofs.YteklodljdndcoaaGreatDoor
namespace Go.Proofs.YteklodljdndcoaaGreatDoor
open Go Go.RowKit
structure Group where
  slo : Int
  shi : Int
  alo : Int
  ahi : Int
  stay : Int
  first : Int
  path : List Int
  deriving DecidableEq
structure Town where
  rooms : List Int
  streets : List (Int × Int)
  groups : List Group
  steps : Int
  deriving DecidableEq
structure City where
  town : Town
  brk : Int
  sleep : List Int
  deriving DecidableEq
structure Band where
  first : Int
  path : List Int
  lo : Int
  hi : Int
  stay : Int
  people : Int
  deriving DecidableEq
abbrev intsO (o : Own) (xs : List Int) : PV := .isl (xs.map I) o
def stPV (s : Int × Int) : PV := .agg [I s.1, I s.2]
def grPV (g : Group) : PV := .agg [I g.slo, I g.shi, I g.alo, I g.ahi, I g.stay, I g.first, ints g.path]
def twCells (t : Town) : List PV := [ints t.rooms, .isl (t.streets.map stPV) .ro, .isl (t.groups.map grPV) .ro, I t.steps]
def twPV (t : Town) : PV := .agg (twCells t)
def ctCells (c : City) : List PV := [ints c.town.rooms, .isl (c.town.streets.map stPV) .ro, .isl (c.town.groups.map grPV) .ro, I c.town.steps, I c.brk, ints c.sleep]
def ctPV (c : City) : PV := .agg (ctCells c)
def bdCells (b : Band) : List PV := [I b.first, ints b.path, I b.lo, I b.hi, I b.stay, I b.people]
def bdPV (b : Band) : PV := .agg (bdCells b)
abbrev bands (l : List Band) : PV := .isl (l.map bdPV) .ro
section
variable {α : Type} {f : α → PV} {xs : List α} {i : Nat} {x : α} {c k off : Nat}
theorem iaX_map (h : xs[i]? = some x) (hc : (f x).cells.length = c) : iaX c (xs.map f) (i : Int) = some (.eptr c (xs.map f) i 0) := by
  have hlt : i < xs.length := (List.getElem?_eq_some_iff.1 h).1
  have hx : xs[i] = x := (List.getElem?_eq_some_iff.1 h).2
  unfold iaX
  rw [if_pos ⟨Int.natCast_nonneg _, by simpa using hlt⟩]
  simp [hlt, hx, hc]
theorem elS_map (h : xs[i]? = some x) : elS (xs.map f) i off = (f x).cells[off]? := by simp [elS, h]
theorem elA_map (h : xs[i]? = some x) : elA k (xs.map f) i off = if off + k ≤ (f x).cells.length then some (.agg (((f x).cells.drop off).take k)) else none := by simp [elA, h]
end
theorem Clean.map {α : Type} {a b c : Nat} {f : α → PV} {xs : List α} {o : Own} (ho : ∀ r n es, o = .tok r n es → r < b) (h : ∀ x, Clean a b c (f x)) : Clean a b c (.isl (xs.map f) o) :=
  .isl _ _ (fun e he => by obtain ⟨x, _, rfl⟩ := List.mem_map.1 he; exact h x) ho
theorem noTok {b : Nat} : ∀ r n es, Own.ro = .tok r n es → r < b := fun r n es e => by cases e
theorem clean_ints {a b c : Nat} (xs : List Int) : Clean a b c (ints xs) := Clean.ints xs .ro noTok
theorem clean_st {a b c : Nat} (s : Int × Int) : Clean a b c (stPV s) := .agg _ (Clean.all_cons (.int _ _) (Clean.all_cons (.int _ _) Clean.all_nil))
theorem clean_gr {a b c : Nat} (g : Group) : Clean a b c (grPV g) :=
  .agg _ (Clean.all_cons (.int _ _) (Clean.all_cons (.int _ _) (Clean.all_cons (.int _ _) (Clean.all_cons (.int _ _) (Clean.all_cons (.int _ _) (Clean.all_cons (.int _ _) (Clean.all_cons (clean_ints _) Clean.all_nil)))))))
theorem cleans_bd {a b c : Nat} (x : Band) : ∀ p, p ∈ bdCells x → Clean a b c p :=
  Clean.all_cons (.int _ _) (Clean.all_cons (clean_ints _) (Clean.all_cons (.int _ _) (Clean.all_cons (.int _ _) (Clean.all_cons (.int _ _) (Clean.all_cons (.int _ _) Clean.all_nil)))))
theorem clean_bd {a b c : Nat} (x : Band) : Clean a b c (bdPV x) := .agg _ (cleans_bd x)
theorem cleans_tw {a b c : Nat} (t : Town) : ∀ p, p ∈ twCells t → Clean a b c p :=
  Clean.all_cons (clean_ints _) (Clean.all_cons (Clean.map noTok clean_st) (Clean.all_cons (Clean.map noTok clean_gr) (Clean.all_cons (.int _ _) Clean.all_nil)))
theorem cleans_ct {a b c : Nat} (t : City) : ∀ p, p ∈ ctCells t → Clean a b c p :=
  Clean.all_cons (clean_ints _) (Clean.all_cons (Clean.map noTok clean_st) (Clean.all_cons (Clean.map noTok clean_gr) (Clean.all_cons (.int _ _) (Clean.all_cons (.int _ _) (Clean.all_cons (clean_ints _) Clean.all_nil)))))
theorem clean_ct {a b c : Nat} (t : City) : Clean a b c (ctPV t) := .agg _ (cleans_ct t)
theorem Wk_int {a b c : Nat} {k : IntKind} {n m : Int} (h : n = m) : Wk a b c (.int k n) (.int k m) := by rw [h]; exact Wk.of_clean (.int _ _)
theorem Wk_bool {a b c : Nat} {n m : Bool} (h : n = m) : Wk a b c (.bool n) (.bool m) := by rw [h]; exact Wk.of_clean (.bool _)
def inR (n lo hi : Int) : Bool := decide (lo ≤ n) && decide (n ≤ hi)
def allIn (lo hi : Int) (l : List Int) : Bool := l.all fun n => inR n lo hi
def other (s : Int × Int) (at' : Int) : Int := if at' = s.1 then s.2 else if at' = s.2 then s.1 else -1
def chkSpan (lo hi limit : Int) : Int := if !(inR lo 0 limit && inR hi 0 limit) then 2 else if lo > hi then 9 else 0
theorem okC_st {xs : List (Int × Int)} : okC 2 (xs.map stPV) = True := okC_map fun x => by simp [okC, stPV, PV.cells, PV.scalar]
theorem okC_gr {xs : List Group} : okC 7 (xs.map grPV) = True := okC_map fun x => by simp [okC, grPV, PV.cells, PV.scalar]
theorem okC_bd {xs : List Band} : okC 6 (xs.map bdPV) = True := okC_map fun x => by simp [okC, bdPV, bdCells, PV.cells, PV.scalar]
theorem roL_st {xs : List (Int × Int)} : PV.roL (xs.map stPV) = xs.map stPV := roL_enc fun x => by simp only [stPV, ro_agg, roL_cons, roL_nil, ro_int]
theorem roL_gr {xs : List Group} : PV.roL (xs.map grPV) = xs.map grPV := roL_enc fun x => by simp only [grPV, ro_agg, roL_cons, roL_nil, ro_int, ro_isl, roL_ints]
theorem roL_bd {xs : List Band} : PV.roL (xs.map bdPV) = xs.map bdPV := roL_enc fun x => by simp only [bdPV, bdCells, ro_agg, roL_cons, roL_nil, ro_int, ro_isl, roL_ints]
theorem cA_st {a b c : Nat} {xs : List (Int × Int)} : CleanAll a b c (xs.map stPV) = True := CleanAll_map clean_st
theorem cA_gr {a b c : Nat} {xs : List Group} : CleanAll a b c (xs.map grPV) = True := CleanAll_map clean_gr
theorem cA_bd {a b c : Nat} {xs : List Band} : CleanAll a b c (xs.map bdPV) = True := CleanAll_map clean_bd
attribute [go_sem] okC_st okC_gr okC_bd roL_st roL_gr roL_bd cA_st cA_gr cA_bd stPV grPV twPV twCells ctPV ctCells bdPV bdCells
theorem mixed : Tryz.prog.follows .mixedOrders = true := by kernel_rfl
end Go.Proofs.YteklodljdndcoaaGreatDoor
namespace Go.Proofs.YteklodljdndcoaaGreatDoor
open Go Go.RowKit
theorem own : ownKnob Tryz.prog.godebug = none := by kernel_rfl
theorem laidOut : laidOutB Tryz.prog = true := by kernel_rfl
theorem rdInt : Rd Tryz.prog 3 fun p => ∃ n : Int, p = I n := (Rd.int Tryz.underlying3).mono fun _ ⟨n, h, _⟩ => ⟨n, h⟩
theorem rdInts : Rd Tryz.prog 22 fun p => ∃ xs : List Int, p = ints xs ∧ xs.length * 8 ≤ 140737488351232 :=
  (Rd.slice Tryz.underlying22 (by kernel_rfl) rdInt).mono fun p ⟨l, h1, h2, h3⟩ => by
    obtain ⟨xs, rfl, _⟩ := map_of (f := I) (Q := fun _ => True) fun x hx => let ⟨n, e⟩ := h1 x hx; ⟨n, e, trivial⟩
    have e : Tryz.prog.bytesOf 3 = 8 := by kernel_rfl
    rw [e] at h2
    exact ⟨xs, h3, by simpa [reachBytes] using h2⟩
theorem rdSpan : Rd Tryz.prog 49 fun p => ∃ a b : Int, p = .agg [I a, I b] :=
  (Rd.struct Tryz.underlying49 (by kernel_rfl) (.cons rdInt (.cons rdInt .nil))).mono fun p ⟨l, h, e⟩ => by
    obtain ⟨x, y, rfl⟩ : ∃ x y, l = [x, y] := by
      match l, h with
      | [x, y], _ => exact ⟨x, y, rfl⟩
    obtain ⟨⟨a, rfl⟩, ⟨b, rfl⟩, _⟩ := h
    exact ⟨a, b, e⟩
def bandSz (b : Band) : Prop := b.path.length * 8 ≤ 140737488351232
theorem rdBand : Rd Tryz.prog 53 fun p => ∃ b : Band, p = bdPV b ∧ bandSz b :=
  (Rd.struct Tryz.underlying53 (by kernel_rfl) (.cons rdInt (.cons rdInts (.cons rdSpan (.cons rdInt (.cons rdInt .nil)))))).mono fun p ⟨l, h, e⟩ => by
    match l, h with
    | [_, _, _, _, _], ⟨⟨a, ha⟩, ⟨xs, hx, hs⟩, ⟨b, c, hb⟩, ⟨d, hd⟩, ⟨f, hf⟩, _⟩ =>
      subst ha hx hb hd hf
      exact ⟨⟨a, xs, b, c, d, f⟩, e, hs⟩
theorem rdBands : Rd Tryz.prog 29 fun p => ∃ l : List Band, p = bands l ∧ l.length * 64 ≤ 140737488351232 ∧ ∀ b, b ∈ l → bandSz b :=
  (Rd.slice Tryz.underlying29 (by kernel_rfl) rdBand).mono fun p ⟨l, h1, h2, h3⟩ => by
    obtain ⟨xs, rfl, hs⟩ := map_of (f := bdPV) (Q := bandSz) h1
    have e : Tryz.prog.bytesOf 53 = 64 := by kernel_rfl
    rw [e] at h2
    exact ⟨xs, h3, by simpa [reachBytes] using h2, hs⟩
end Go.Proofs.YteklodljdndcoaaGreatDoor
namespace Go.Proofs.YteklodljdndcoaaGreatDoor
open Go Go.RowKit
structure citySz (c : City) : Prop where
  hr : c.town.rooms.length * 8 ≤ 140737488351232
  hs : c.town.streets.length * 16 ≤ 140737488351232
  hg : c.town.groups.length * 72 ≤ 140737488351232
  hp : ∀ g, g ∈ c.town.groups → g.path.length * 8 ≤ 140737488351232
  hsl : c.sleep.length * 8 ≤ 140737488351232
theorem rdStreet : Rd Tryz.prog 96 fun p => ∃ s : Int × Int, p = stPV s ∧ True :=
  (Rd.struct Tryz.underlying96 (by kernel_rfl) (.cons rdInt (.cons rdInt .nil))).mono fun p ⟨l, h, e⟩ => by
    match l, h with
    | [_, _], ⟨⟨a, ha⟩, ⟨b, hb⟩, _⟩ => subst ha hb; exact ⟨(a, b), e, trivial⟩
theorem rdStreets : Rd Tryz.prog 23 fun p => ∃ l : List (Int × Int), p = .isl (l.map stPV) .ro ∧ l.length * 16 ≤ 140737488351232 :=
  (Rd.slice Tryz.underlying23 (by kernel_rfl) rdStreet).mono fun p ⟨l, h1, h2, h3⟩ => by
    obtain ⟨xs, rfl, hs⟩ := map_of (f := stPV) (Q := fun _ => True) h1
    have e : Tryz.prog.bytesOf 96 = 16 := by kernel_rfl
    rw [e] at h2
    exact ⟨xs, h3, by simpa [reachBytes] using h2⟩
theorem rdGroup : Rd Tryz.prog 51 fun p => ∃ g : Group, p = grPV g ∧ g.path.length * 8 ≤ 140737488351232 :=
  (Rd.struct Tryz.underlying51 (by kernel_rfl) (.cons rdSpan (.cons rdSpan (.cons rdInt (.cons rdInt (.cons rdInts .nil)))))).mono fun p ⟨l, h, e⟩ => by
    match l, h with
    | [_, _, _, _, _], ⟨⟨a, b, ha⟩, ⟨c, d, hb⟩, ⟨x, hx⟩, ⟨y, hy⟩, ⟨xs, hz, hs⟩, _⟩ =>
      subst ha hb hx hy hz
      exact ⟨⟨a, b, c, d, x, y, xs⟩, e, hs⟩
theorem rdGroups : Rd Tryz.prog 24 fun p => ∃ l : List Group, p = .isl (l.map grPV) .ro ∧ l.length * 72 ≤ 140737488351232 ∧ ∀ g, g ∈ l → g.path.length * 8 ≤ 140737488351232 :=
  (Rd.slice Tryz.underlying24 (by kernel_rfl) rdGroup).mono fun p ⟨l, h1, h2, h3⟩ => by
    obtain ⟨xs, rfl, hs⟩ := map_of (f := grPV) (Q := fun g => g.path.length * 8 ≤ 140737488351232) h1
    have e : Tryz.prog.bytesOf 51 = 72 := by kernel_rfl
    rw [e] at h2
    exact ⟨xs, h3, by simpa [reachBytes] using h2, hs⟩
structure townSz (c : Town) : Prop where
  hr : c.rooms.length * 8 ≤ 140737488351232
  hs : c.streets.length * 16 ≤ 140737488351232
  hg : c.groups.length * 72 ≤ 140737488351232
  hp : ∀ g, g ∈ c.groups → g.path.length * 8 ≤ 140737488351232
theorem rdTown : Rd Tryz.prog 26 fun p => ∃ t : Town, p = twPV t ∧ townSz t :=
  (Rd.struct Tryz.underlying26 (by kernel_rfl) (.cons rdInts (.cons rdStreets (.cons rdGroups (.cons rdInt .nil))))).mono fun p ⟨l, h, e⟩ => by
    match l, h with
    | [_, _, _, _], ⟨⟨a, ha, h1⟩, ⟨b, hb, h2⟩, ⟨c, hc, h3, h4⟩, ⟨x, hx⟩, _⟩ =>
      subst ha hb hc hx
      exact ⟨⟨a, b, c, x⟩, e, ⟨h1, h2, h3, h4⟩⟩
theorem rdCity : Rd Tryz.prog 28 fun p => ∃ c : City, p = ctPV c ∧ citySz c :=
  (Rd.struct Tryz.underlying28 (by kernel_rfl) (.cons rdTown (.cons rdInt (.cons rdInts .nil)))).mono fun p ⟨l, h, e⟩ => by
    match l, h with
    | [_, _, _], ⟨⟨t, ht, h1⟩, ⟨x, hx⟩, ⟨a, ha, h2⟩, _⟩ =>
      subst ht hx ha
      exact ⟨⟨t, x, a⟩, e, ⟨h1.hr, h1.hs, h1.hg, h1.hp, h2⟩⟩
end Go.Proofs.YteklodljdndcoaaGreatDoor
namespace Go.Proofs.YteklodljdndcoaaGreatDoor
open Go Go.RowKit
theorem Weak.roV {N : Nat} {lo : Nat × Nat} {E : Env} {σ : Sg} {id off : Nat} {cs : List PV} {p : PV} (hid : σ.store[id]? = some (some cs)) (hc : cs[off]? = some p) : Weak N lo E σ E (σ.setVar id (cs.set off p.ro)) := by
  intro Ψ0 Ψ D a w hb le hr
  have hs2 := hr.sg.reread (cs' := cs.set off p.ro) hid (fun b hb2 h2 => h2.setRo hc)
  exact ⟨Ψ, le, hr.size, hr.env, hs2, hr.dsub, hr.defs⟩
theorem Weak.roX {N : Nat} {lo : Nat × Nat} {E : Env} {σ : Sg} {l : List (Option (List PV))} {rm : List Nat} {ys : List LState} {j off : Nat} {cs : List PV} {p : PV} (hid : l[j]? = some (some cs)) (hc : cs[off]? = some p) :
    Weak N lo E (σ.ext l rm ys) E (σ.ext (l.set j (some (cs.set off p.ro))) rm ys) := by
  have h := Weak.roV (N := N) (lo := lo) (E := E) (σ := σ.ext l rm ys) (id := σ.store.length + j) (off := off) (cs := cs) (p := p) (by rw [Sg.get_ext]; exact hid) hc
  rw [Sg.set_ext] at h
  exact h
theorem Weak.roSV {N : Nat} {lo : Nat × Nat} {E : Env} {σ : Sg} {d : Nat} {ds : List PV} {l : List (Option (List PV))} {rm : List Nat} {ys : List LState} {j off : Nat} {cs : List PV} {p : PV} (hid : l[j]? = some (some cs)) (hc : cs[off]? = some p) :
    Weak N lo E ((σ.setVar d ds).ext l rm ys) E ((σ.setVar d ds).ext (l.set j (some (cs.set off p.ro))) rm ys) := Weak.roX hid hc
end Go.Proofs.YteklodljdndcoaaGreatDoor
namespace Go.Proofs.YteklodljdndcoaaGreatDoor
open Go Go.RowKit
theorem op_step {D : List Nat} {P : Program} {N : Nat} {rd : Option Nat} {ops : Array Oper} {Ψ0 : Ty} {Q : Exit → Act → World → Prop} {E : Env} {σ : Sg} {Ψ : Ty} {a : Act} {w : World} {o : Oper} {i : Nat} {is : List Nat} {v : PV}
    (hr : Rel N D Ψ E σ a w) (ho : ops[i]? = some o) (hd : dstOK N o = true) (hg : o.guard = none) (hnd : ∀ c, o.op ≠ .defer c) {x : Value} (hx : (execOp a.eval o).run P w = .ok (.value x) w) (hv : VR Ψ v x)
    (k : ∀ a', Rel N D Ψ (E.put o.dst v) σ a' w → wpOpsIn (FnOf Ψ0 rd) 0 P ops Q is a' w) : wpOpsIn (FnOf Ψ0 rd) 0 P ops Q (i :: is) a w := by
  simp only [wpOpsIn, ho]
  have hw : wantedPV ops E o = some true := by simp [wantedPV, hg]
  rw [wanted_ok hw hr.env]
  simp only [if_true]
  refine ⟨fun f _ => FnOf_fn _ _ _, ?_⟩
  rw [Oper.semAt_eq _ _ _ hnd, hx]
  exact k _ (hr.put (Ty.le.refl _) hr.sg hd hv)
theorem W_isnil {P : Program} {Y : YEnv} {N : Nat} {rd : Option Nat} {lo : Nat × Nat} {id d1 d2 : Nat} {x : Operand} {t ty1 ty2 e : TypeId} {p1 p2 : String} {af1 af2 : Array Edge} {sh : TypeId} {E : Env} {σ : Sg} {Q : Exit → Env → Sg → Prop} {l : List PV} {own : Own} (ks : List Nat)
    (h1 : d1 < N) (h2 : d2 < N) (hx : ev E x = .isl l own) (ht : P.underlying t = some (.slice e))
    (h : ∀ b : Bool, (b = true → l = []) → Q .normal (keep ks ((d2, .bool b) :: (d1, .isl l own) :: E)) σ) :
    W P Y N rd lo (.region id #[{ dst := some d1, op := .move x, type := ty1, pos := p1, after := af1, guard := none }, { dst := some d2, op := .binOp .eql t (.tmp d1) (.const (.slice none 0 0)) sh, type := ty2, pos := p2, after := af2, guard := none }] false) E σ Q := by
  intro Ψ0 D _ hy _ Ψ a w le hr
  refine wpIn_region ?_
  have hv := ev_ok hr.env x
  rw [hx] at hv
  refine op_step (is := [1]) (v := .isl l own) hr rfl (by simp [dstOK, h1]) rfl (fun c e => by cases e) (x := a.eval x) rfl hv fun a1 hr1 => ?_
  have hv1 : VR Ψ (.isl l own) (a1.tmps.getD d1 undef) := by
    have : VR Ψ ((Env.put E (some d1) (.isl l own)).get d1) (a1.tmps.getD d1 undef) := hr1.env d1
    rw [show (Env.put E (some d1) (.isl l own)).get d1 = .isl l own by simp [Env.get]] at this
    exact this
  have hval : ∃ q n c, a1.tmps.getD d1 undef = .slice q n c ∧ (q.isNone = true → l = []) := by
    generalize a1.tmps.getD d1 undef = z at hv1
    cases hv1 with
    | islnil _ _ _ => exact ⟨_, _, _, rfl, fun _ => rfl⟩
    | isl es _ _ b o cap vals hs h1 h2 hc ho => exact ⟨_, _, _, rfl, fun h => by simp at h⟩
  obtain ⟨q, n, c, hz, hq⟩ := hval
  have he : (a1.eval (.tmp d1)) = .slice q n c := hz
  have hrun : ∀ o : Oper, o.op = .binOp .eql t (.tmp d1) (.const (.slice none 0 0)) sh → (execOp a1.eval o).run P w = .ok (.value (.bool q.isNone)) w := by
    intro o ho
    have e1 : execOp a1.eval o = (do pure (.value (← (do eqGuard .eql t (.tmp d1) (.const (.slice none 0 0)) (a1.eval (.tmp d1)) (a1.eval (.const (.slice none 0 0))); binOp .eql t (a1.eval (.tmp d1)) (a1.eval (.const (.slice none 0 0))) : Sem Value)))) := by
      unfold execOp; rw [ho]
    have he2 : a1.eval (.const (.slice none 0 0)) = .slice none 0 0 := rfl
    rw [e1, he, he2]
    have hg : (eqGuard .eql t (.tmp d1) (.const (.slice none 0 0)) (.slice q n c) (.slice none 0 0)).run P w = .ok () w := rfl
    have hb : (binOp .eql t (.slice q n c) (.slice none 0 0)).run P w = .ok (.bool q.isNone) w := by
      have heq : (Op.equal t (.slice q n c) (.slice none 0 0)).run P w = .ok q.isNone w := by
        unfold Op.equal
        show (Op.equalIn (9999 + 1) t (.slice q n c) (.slice none 0 0)).run P w = _
        unfold Op.equalIn
        rw [run_bind_ok (run_und ht)]
        cases q <;> rfl
      show (do pure (.bool (← Op.equal t (.slice q n c) (.slice none 0 0))) : Sem Value).run P w = _
      rw [run_bind_ok heq]; rfl
    have hgb : (do eqGuard .eql t (.tmp d1) (.const (.slice none 0 0)) (.slice q n c) (.slice none 0 0); binOp .eql t (.slice q n c) (.slice none 0 0) : Sem Value).run P w = .ok (.bool q.isNone) w := by
      rw [run_bind_ok hg]; exact hb
    rw [run_bind_ok hgb]
    rfl
  refine op_step (is := []) (v := .bool q.isNone) hr1 rfl (by simp [dstOK, h2]) rfl (fun c e => by cases e) (x := .bool q.isNone) (hrun _ rfl) (.bool _) fun a2 hr2 => ?_
  exact ⟨_, σ, Ψ, le, hr2.keep ks, Below.refl _ _, h _ hq⟩
end Go.Proofs.YteklodljdndcoaaGreatDoor
namespace Go.Proofs.YteklodljdndcoaaGreatDoor
open Go Go.RowKit
/-- The owner of a part of a slice. -/
theorem slHi_of {P : Program} {t e : TypeId} {d : TypeDesc} (h : P.underlying t = some (.slice e)) (he : P.underlying e = some d) (l : List PV) (own : Own) (k : IntKind) (n : Int) :
    slicePV P t (.isl l own) none (some (.int k n)) none = if 0 ≤ n then if n.toNat ≤ l.length then some (.isl (l.take n.toNat) (sliceOwn own 0 n.toNat l.length)) else none else none := by
  unfold slicePV
  rw [h]
  simp only [he, bnd]
  by_cases hn : 0 ≤ n
  · simp [hn]
  · simp [hn]
/-- Without an owner. -/
theorem sliceOwn_ro {lo h len : Nat} : sliceOwn .ro lo h len = .ro := by unfold sliceOwn; split <;> rfl
theorem sliceOwn_self {own : Own} {lo len : Nat} : sliceOwn own lo len len = own := by simp [sliceOwn]
attribute [go_sem] sliceOwn_ro sliceOwn_self
theorem slLo_of {P : Program} {t e : TypeId} {d : TypeDesc} {c : Nat} (h : P.underlying t = some (.slice e)) (he : P.underlying e = some d) (hc : P.cellsOf e = c) {α : Type} {f : α → PV} (hf : ∀ x, (f x).cells.length = c) (xs : List α) (own : Own) (k : IntKind) (n : Int) :
    slicePV P t (.isl (xs.map f) own) (some (.int k n)) none none = if 0 ≤ n then if n.toNat ≤ xs.length then some (.isl ((xs.drop n.toNat).map f) own) else none else none := by
  have hall : (xs.map f).all (fun el => el.cells.length == c) = true := by
    rw [List.all_eq_true]
    intro p hp
    obtain ⟨x, _, rfl⟩ := List.mem_map.1 hp
    simp [hf]
  unfold slicePV
  rw [h]
  simp only [he, bnd, hc]
  by_cases hn : 0 ≤ n
  · simp only [hn, if_true]
    by_cases hl : n.toNat ≤ xs.length
    · rw [if_pos ⟨by simpa using hl, Nat.le_refl _, .inr hall⟩, if_pos hl, sliceOwn_self, ← List.map_drop, List.take_of_length_le (by simp)]
    · rw [if_neg (fun q => hl (by simpa using q.1)), if_neg hl]
  · simp [hn]
end Go.Proofs.YteklodljdndcoaaGreatDoor
namespace Go.Proofs.YteklodljdndcoaaGreatDoor
open Go Go.RowKit
section
variable {P : Program} {t e : TypeId} {d : TypeDesc} {c b : Nat} {σ : Sg} {id len es : Nat}
theorem iaG_of (h : P.underlying t = some (.slice e)) (he : P.underlying e = some d) (hc : P.cellsOf e = c) (kd : IntKind) (len : Nat) (n : Int) : indexAddrPV P t (.gsl id len es) (.int kd n) = iaM c id 0 len n := by
  simp [indexAddrPV, h, he, hc, iaM]
theorem lenG_of (h : P.underlying t = some (.slice e)) (n : Nat) : lenPV P t (.gsl id n es) = some (.int .i64 n) := by simp [lenPV, h]
theorem lenN_of (h : P.underlying t = some (.slice e)) : lenPV P t .gnil = some (.int .i64 0) := by simp [lenPV, h]
def appG (c b : Nat) (σ : Sg) (x : PV) (m : List PV) : Option (PV × Sg) :=
  if m.all (fun q => (q.cells.length == c) && q.cells.all PV.scalar) && decide (0 < m.length) then
    (match x with
     | .gnil => if m.length * b ≤ 2 ^ 47 then some (.gsl σ.store.length m.length c, σ.push (rowC m)) else none
     | .gsl id len es => match σ.store[id]? with
       | some (some cs) => if es = c ∧ len * es ≤ cs.length ∧ (len + m.length) * b ≤ 2 ^ 47 then some (.gsl σ.store.length (len + m.length) es, (σ.drop id).push (cs.take (len * es) ++ rowC m)) else none
       | _ => none
     | _ => none)
  else none
theorem appG_of {zs : List PV} {x : PV} {m : List PV} {own : Own} (h : P.underlying t = some (.slice e)) (he : P.underlying e = some d) (hc : P.cellsOf e = c) (hb : P.bytesOf e = b) (hb0 : b ≠ 0) (hc0 : 0 < c) (hz : zeroPV P e = some zs) (hzl : zs.length = c) :
    appendG P σ t t x (.isl m own) = appG c b σ x m := by
  unfold appendG appG
  rw [h]
  simp only [he, hc, hb, hz, hzl, Option.isSome_some, Bool.true_and, Option.map_some, BEq.rfl, Bool.and_true, hb0, hc0, ne_eq, not_false_eq_true, and_self, decide_true]
  rfl
end
theorem Sg.drop_ext {σ : Sg} {l : List (Option (List PV))} {rm : List Nat} {ys : List LState} (j : Nat) : (σ.ext l rm ys).drop (σ.store.length + j) = σ.ext (l.set j none) rm ys := by
  simp [Sg.drop, Sg.ext, List.set_append]
theorem Sg.drop_ext0 {σ : Sg} {l : List (Option (List PV))} {rm : List Nat} {ys : List LState} : (σ.ext l rm ys).drop σ.store.length = σ.ext (l.set 0 none) rm ys := Sg.drop_ext 0
attribute [go_sem] Sg.drop_ext Sg.drop_ext0
end Go.Proofs.YteklodljdndcoaaGreatDoor
namespace Go.Proofs.YteklodljdndcoaaGreatDoor
open Go Go.RowKit
theorem appg22 {σ : Sg} {x : PV} {m : List PV} {own : Own} : appendG Tryz.prog σ 22 22 x (.isl m own) = appG 1 8 σ x m := appG_of Tryz.underlying22 Tryz.underlying3 cells3 bytes3 (by decide) (by decide) zero3 rfl
theorem iag22 {id len es : Nat} {k : IntKind} {i : Int} : indexAddrPV Tryz.prog 22 (.gsl id len es) (.int k i) = iaM 1 id 0 len i := iaG_of Tryz.underlying22 Tryz.underlying3 cells3 k len i
theorem leng22 {id n es : Nat} : lenPV Tryz.prog 22 (.gsl id n es) = some (.int .i64 n) := lenG_of Tryz.underlying22 n
theorem lenn22 : lenPV Tryz.prog 22 .gnil = some (.int .i64 0) := lenN_of Tryz.underlying22
theorem appg23 {σ : Sg} {x : PV} {m : List PV} {own : Own} : appendG Tryz.prog σ 23 23 x (.isl m own) = appG 2 16 σ x m := appG_of Tryz.underlying23 Tryz.underlying96 cells96 bytes96 (by decide) (by decide) zero96 rfl
theorem iag23 {id len es : Nat} {k : IntKind} {i : Int} : indexAddrPV Tryz.prog 23 (.gsl id len es) (.int k i) = iaM 2 id 0 len i := iaG_of Tryz.underlying23 Tryz.underlying96 cells96 k len i
theorem leng23 {id n es : Nat} : lenPV Tryz.prog 23 (.gsl id n es) = some (.int .i64 n) := lenG_of Tryz.underlying23 n
theorem lenn23 : lenPV Tryz.prog 23 .gnil = some (.int .i64 0) := lenN_of Tryz.underlying23
theorem appg24 {σ : Sg} {x : PV} {m : List PV} {own : Own} : appendG Tryz.prog σ 24 24 x (.isl m own) = appG 7 72 σ x m := appG_of Tryz.underlying24 Tryz.underlying51 cells51 bytes51 (by decide) (by decide) zero51 rfl
theorem iag24 {id len es : Nat} {k : IntKind} {i : Int} : indexAddrPV Tryz.prog 24 (.gsl id len es) (.int k i) = iaM 7 id 0 len i := iaG_of Tryz.underlying24 Tryz.underlying51 cells51 k len i
theorem leng24 {id n es : Nat} : lenPV Tryz.prog 24 (.gsl id n es) = some (.int .i64 n) := lenG_of Tryz.underlying24 n
theorem lenn24 : lenPV Tryz.prog 24 .gnil = some (.int .i64 0) := lenN_of Tryz.underlying24
theorem appg29 {σ : Sg} {x : PV} {m : List PV} {own : Own} : appendG Tryz.prog σ 29 29 x (.isl m own) = appG 6 64 σ x m := appG_of Tryz.underlying29 Tryz.underlying53 cells53 bytes53 (by decide) (by decide) zero53 rfl
theorem iag29 {id len es : Nat} {k : IntKind} {i : Int} : indexAddrPV Tryz.prog 29 (.gsl id len es) (.int k i) = iaM 6 id 0 len i := iaG_of Tryz.underlying29 Tryz.underlying53 cells53 k len i
theorem leng29 {id n es : Nat} : lenPV Tryz.prog 29 (.gsl id n es) = some (.int .i64 n) := lenG_of Tryz.underlying29 n
theorem lenn29 : lenPV Tryz.prog 29 .gnil = some (.int .i64 0) := lenN_of Tryz.underlying29
theorem appg35 {σ : Sg} {x : PV} {m : List PV} {own : Own} : appendG Tryz.prog σ 35 35 x (.isl m own) = appG 6 112 σ x m := appG_of Tryz.underlying35 Tryz.underlying28 cells28 bytes28 (by decide) (by decide) zero28 rfl
theorem iag35 {id len es : Nat} {k : IntKind} {i : Int} : indexAddrPV Tryz.prog 35 (.gsl id len es) (.int k i) = iaM 6 id 0 len i := iaG_of Tryz.underlying35 Tryz.underlying28 cells28 k len i
theorem leng35 {id n es : Nat} : lenPV Tryz.prog 35 (.gsl id n es) = some (.int .i64 n) := lenG_of Tryz.underlying35 n
theorem lenn35 : lenPV Tryz.prog 35 .gnil = some (.int .i64 0) := lenN_of Tryz.underlying35
theorem appg37 {σ : Sg} {x : PV} {m : List PV} {own : Own} : appendG Tryz.prog σ 37 37 x (.isl m own) = appG 1 24 σ x m := appG_of Tryz.underlying37 Tryz.underlying29 cells29 bytes29 (by decide) (by decide) zero29 rfl
theorem iag37 {id len es : Nat} {k : IntKind} {i : Int} : indexAddrPV Tryz.prog 37 (.gsl id len es) (.int k i) = iaM 1 id 0 len i := iaG_of Tryz.underlying37 Tryz.underlying29 cells29 k len i
theorem leng37 {id n es : Nat} : lenPV Tryz.prog 37 (.gsl id n es) = some (.int .i64 n) := lenG_of Tryz.underlying37 n
theorem lenn37 : lenPV Tryz.prog 37 .gnil = some (.int .i64 0) := lenN_of Tryz.underlying37
theorem appg42 {σ : Sg} {x : PV} {m : List PV} {own : Own} : appendG Tryz.prog σ 42 42 x (.isl m own) = appG 1 16 σ x m := appG_of Tryz.underlying42 Tryz.underlying9 cells9 bytes9 (by decide) (by decide) zero9 rfl
theorem iag42 {id len es : Nat} {k : IntKind} {i : Int} : indexAddrPV Tryz.prog 42 (.gsl id len es) (.int k i) = iaM 1 id 0 len i := iaG_of Tryz.underlying42 Tryz.underlying9 cells9 k len i
theorem leng42 {id n es : Nat} : lenPV Tryz.prog 42 (.gsl id n es) = some (.int .i64 n) := lenG_of Tryz.underlying42 n
theorem lenn42 : lenPV Tryz.prog 42 .gnil = some (.int .i64 0) := lenN_of Tryz.underlying42
theorem appg54 {σ : Sg} {x : PV} {m : List PV} {own : Own} : appendG Tryz.prog σ 54 54 x (.isl m own) = appG 1 8 σ x m := appG_of Tryz.underlying54 Tryz.underlying38 cells38 bytes38 (by decide) (by decide) zero38 rfl
theorem iag54 {id len es : Nat} {k : IntKind} {i : Int} : indexAddrPV Tryz.prog 54 (.gsl id len es) (.int k i) = iaM 1 id 0 len i := iaG_of Tryz.underlying54 Tryz.underlying38 cells38 k len i
theorem leng54 {id n es : Nat} : lenPV Tryz.prog 54 (.gsl id n es) = some (.int .i64 n) := lenG_of Tryz.underlying54 n
theorem lenn54 : lenPV Tryz.prog 54 .gnil = some (.int .i64 0) := lenN_of Tryz.underlying54
theorem appg76 {σ : Sg} {x : PV} {m : List PV} {own : Own} : appendG Tryz.prog σ 76 76 x (.isl m own) = appG 1 1 σ x m := appG_of Tryz.underlying76 Tryz.underlying5 cells5 bytes5 (by decide) (by decide) zero5 rfl
theorem iag76 {id len es : Nat} {k : IntKind} {i : Int} : indexAddrPV Tryz.prog 76 (.gsl id len es) (.int k i) = iaM 1 id 0 len i := iaG_of Tryz.underlying76 Tryz.underlying5 cells5 k len i
theorem leng76 {id n es : Nat} : lenPV Tryz.prog 76 (.gsl id n es) = some (.int .i64 n) := lenG_of Tryz.underlying76 n
theorem lenn76 : lenPV Tryz.prog 76 .gnil = some (.int .i64 0) := lenN_of Tryz.underlying76
theorem appg139 {σ : Sg} {x : PV} {m : List PV} {own : Own} : appendG Tryz.prog σ 139 139 x (.isl m own) = appG 1 8 σ x m := appG_of Tryz.underlying139 Tryz.underlying94 cells94 bytes94 (by decide) (by decide) zero94 rfl
theorem iag139 {id len es : Nat} {k : IntKind} {i : Int} : indexAddrPV Tryz.prog 139 (.gsl id len es) (.int k i) = iaM 1 id 0 len i := iaG_of Tryz.underlying139 Tryz.underlying94 cells94 k len i
theorem leng139 {id n es : Nat} : lenPV Tryz.prog 139 (.gsl id n es) = some (.int .i64 n) := lenG_of Tryz.underlying139 n
theorem lenn139 : lenPV Tryz.prog 139 .gnil = some (.int .i64 0) := lenN_of Tryz.underlying139
theorem appg141 {σ : Sg} {x : PV} {m : List PV} {own : Own} : appendG Tryz.prog σ 141 141 x (.isl m own) = appG 3 24 σ x m := appG_of Tryz.underlying141 Tryz.underlying144 cells144 bytes144 (by decide) (by decide) zero144 rfl
theorem iag141 {id len es : Nat} {k : IntKind} {i : Int} : indexAddrPV Tryz.prog 141 (.gsl id len es) (.int k i) = iaM 3 id 0 len i := iaG_of Tryz.underlying141 Tryz.underlying144 cells144 k len i
theorem leng141 {id n es : Nat} : lenPV Tryz.prog 141 (.gsl id n es) = some (.int .i64 n) := lenG_of Tryz.underlying141 n
theorem lenn141 : lenPV Tryz.prog 141 .gnil = some (.int .i64 0) := lenN_of Tryz.underlying141
attribute [go_sem] appg22 iag22 leng22 lenn22 appg23 iag23 leng23 lenn23 appg24 iag24 leng24 lenn24 appg29 iag29 leng29 lenn29 appg35 iag35 leng35 lenn35 appg37 iag37 leng37 lenn37 appg42 iag42 leng42 lenn42 appg54 iag54 leng54 lenn54 appg76 iag76 leng76 lenn76 appg139 iag139 leng139 lenn139 appg141 iag141 leng141 lenn141
end Go.Proofs.YteklodljdndcoaaGreatDoor
namespace Go.Proofs.YteklodljdndcoaaGreatDoor
open Go
set_option maxRecDepth 100000
theorem wrapU {n : Int} (h1 : 0 ≤ n) (h2 : n ≤ 18446744073709551615) : IntKind.u64.wrap n = n := IntWalk.u64_in n ⟨h1, h2⟩
theorem sv_ext_sv {σ : Sg} {d : Nat} {cs cs0 : List PV} {l : List (Option (List PV))} {rm : List Nat} {ys : List LState} (h : d < σ.store.length) : ((σ.setVar d cs0).ext l rm ys).setVar d cs = (σ.setVar d cs).ext l rm ys := by
  rw [sv_ext (by rw [sv_len]; exact h), sv_sv]
theorem sv_self {σ : Sg} {d : Nat} {cs : List PV} (h : σ.store[d]? = some (some cs)) : σ.setVar d cs = σ := by
  have : σ.store.set d (some cs) = σ.store := by
    refine List.ext_getElem? fun i => ?_
    rw [List.getElem?_set]
    by_cases e : d = i
    · subst e; rw [if_pos rfl, if_pos (List.getElem?_eq_some_iff.1 h).1, h]
    · rw [if_neg e]
  unfold Sg.setVar
  rw [this]
theorem get_svx {σ : Sg} {d : Nat} {cs : List PV} {l : List (Option (List PV))} {rm : List Nat} {ys : List LState} (h : d < σ.store.length) : ((σ.setVar d cs).ext l rm ys).store[d]? = some (some cs) := by
  rw [ext_get (by rw [sv_len]; exact h)]; exact sv_get h
theorem get_extx {σ : Sg} {d : Nat} {cs : List PV} {l : List (Option (List PV))} {rm : List Nat} {ys : List LState} (hd : σ.store[d]? = some (some cs)) : (σ.ext l rm ys).store[d]? = some (some cs) := by
  rw [ext_get (lt_of_get hd)]; exact hd
theorem shr1 {a : Int} : shiftPV .shr .u64 a 1 = some (.int .u64 (a.fdiv 2)) := rfl
theorem shr32 {a : Int} : shiftPV .shr .u64 a 32 = some (.int .u64 (a.fdiv 4294967296)) := rfl
theorem cv2_65 {k : IntKind} {n : Int} : convPV Tryz.prog 2 65 (.int k n) = some (.int .u64 (IntKind.u64.wrap n)) := by kernel_rfl
theorem cv3_5 {k : IntKind} {n : Int} : convPV Tryz.prog 3 5 (.int k n) = some (.int .u8 (IntKind.u8.wrap n)) := by kernel_rfl
theorem cv3_65 {k : IntKind} {n : Int} : convPV Tryz.prog 3 65 (.int k n) = some (.int .u64 (IntKind.u64.wrap n)) := by kernel_rfl
theorem cv3_103 {k : IntKind} {n : Int} : convPV Tryz.prog 3 103 (.int k n) = some (.int .u64 (IntKind.u64.wrap n)) := by kernel_rfl
theorem cv5_3 {k : IntKind} {n : Int} : convPV Tryz.prog 5 3 (.int k n) = some (.int .i64 (IntKind.i64.wrap n)) := by kernel_rfl
theorem cv5_21 {k : IntKind} {n : Int} : convPV Tryz.prog 5 21 (.int k n) = some (.int .i32 (IntKind.i32.wrap n)) := by kernel_rfl
theorem cv5_65 {k : IntKind} {n : Int} : convPV Tryz.prog 5 65 (.int k n) = some (.int .u64 (IntKind.u64.wrap n)) := by kernel_rfl
theorem cv5_164 {k : IntKind} {n : Int} : convPV Tryz.prog 5 164 (.int k n) = some (.int .u32 (IntKind.u32.wrap n)) := by kernel_rfl
theorem cv65_2 {k : IntKind} {n : Int} : convPV Tryz.prog 65 2 (.int k n) = some (.int .i64 (IntKind.i64.wrap n)) := by kernel_rfl
theorem cv65_3 {k : IntKind} {n : Int} : convPV Tryz.prog 65 3 (.int k n) = some (.int .i64 (IntKind.i64.wrap n)) := by kernel_rfl
theorem cv65_5 {k : IntKind} {n : Int} : convPV Tryz.prog 65 5 (.int k n) = some (.int .u8 (IntKind.u8.wrap n)) := by kernel_rfl
theorem cv65_164 {k : IntKind} {n : Int} : convPV Tryz.prog 65 164 (.int k n) = some (.int .u32 (IntKind.u32.wrap n)) := by kernel_rfl
theorem cv103_164 {k : IntKind} {n : Int} : convPV Tryz.prog 103 164 (.int k n) = some (.int .u32 (IntKind.u32.wrap n)) := by kernel_rfl
theorem cv164_5 {k : IntKind} {n : Int} : convPV Tryz.prog 164 5 (.int k n) = some (.int .u8 (IntKind.u8.wrap n)) := by kernel_rfl
attribute [go_sem] cv2_65 cv3_5 cv3_65 cv3_103 cv5_3 cv5_21 cv5_65 cv5_164 cv65_2 cv65_3 cv65_5 cv65_164 cv103_164 cv164_5 nilCheckPV shr1 shr32 Sg.ext_nil
end Go.Proofs.YteklodljdndcoaaGreatDoor
namespace Go.Proofs.YteklodljdndcoaaGreatDoor
open Go
set_option maxRecDepth 100000
theorem slh22 {l : List PV} {own : Own} {k : IntKind} {n : Int} : slicePV Tryz.prog 22 (.isl l own) none (some (.int k n)) none = if 0 ≤ n then if n.toNat ≤ l.length then some (.isl (l.take n.toNat) (sliceOwn own 0 n.toNat l.length)) else none else none := slHi_of Tryz.underlying22 Tryz.underlying3 l own k n
theorem slh29 {l : List PV} {own : Own} {k : IntKind} {n : Int} : slicePV Tryz.prog 29 (.isl l own) none (some (.int k n)) none = if 0 ≤ n then if n.toNat ≤ l.length then some (.isl (l.take n.toNat) (sliceOwn own 0 n.toNat l.length)) else none else none := slHi_of Tryz.underlying29 Tryz.underlying53 l own k n
theorem slh42 {l : List PV} {own : Own} {k : IntKind} {n : Int} : slicePV Tryz.prog 42 (.isl l own) none (some (.int k n)) none = if 0 ≤ n then if n.toNat ≤ l.length then some (.isl (l.take n.toNat) (sliceOwn own 0 n.toNat l.length)) else none else none := slHi_of Tryz.underlying42 Tryz.underlying9 l own k n
attribute [go_sem] slh22 slh29 slh42
end Go.Proofs.YteklodljdndcoaaGreatDoor
namespace Go.Proofs.YteklodljdndcoaaGreatDoor
open Go Go.RowKit
abbrev txt (l : List UInt8) : PV := .str ⟨l.toArray⟩
theorem lens9 {s : ByteArray} : lenPV Tryz.prog 9 (.str s) = some (.int .i64 s.size) := by unfold lenPV; simp only [Tryz.underlying9]
theorem size_txt {l : List UInt8} : (⟨l.toArray⟩ : ByteArray).size = l.length := by simp [ByteArray.size]
theorem extract_txt {l : List UInt8} {a b : Nat} : (⟨l.toArray⟩ : ByteArray).extract a b = ⟨((l.drop a).take (b - a)).toArray⟩ := by
  apply ByteArray.ext
  simp [ByteArray.data_extract, List.extract_toArray]
/-- Parts of a text. -/
theorem slT {l : List UInt8} {a b : Nat} (h1 : a ≤ b) (h2 : b ≤ l.length) : slicePV Tryz.prog 9 (.str ⟨l.toArray⟩) (some (.int .i64 (a : Int))) (some (.int .i64 (b : Int))) none = some (.str ⟨((l.drop a).take (b - a)).toArray⟩) := by
  unfold slicePV
  simp only [Tryz.underlying9, bnd, Int.natCast_nonneg, if_true, Int.toNat_natCast, extract_txt]
  rw [if_pos ⟨h1, by rw [size_txt]; exact h2⟩]
theorem slTa {l : List UInt8} {a : Nat} (h2 : a ≤ l.length) : slicePV Tryz.prog 9 (.str ⟨l.toArray⟩) (some (.int .i64 (a : Int))) none none = some (.str ⟨(l.drop a).toArray⟩) := by
  unfold slicePV
  simp only [Tryz.underlying9, bnd, Int.natCast_nonneg, if_true, Int.toNat_natCast, extract_txt, size_txt]
  rw [if_pos ⟨h2, Nat.le_refl _⟩, List.take_of_length_le (by simp)]
theorem slTb {l : List UInt8} {b : Nat} (h2 : b ≤ l.length) : slicePV Tryz.prog 9 (.str ⟨l.toArray⟩) none (some (.int .i64 (b : Int))) none = some (.str ⟨(l.take b).toArray⟩) := by
  unfold slicePV
  simp only [Tryz.underlying9, bnd, Int.natCast_nonneg, if_true, Int.toNat_natCast, extract_txt, size_txt]
  rw [if_pos ⟨Nat.zero_le _, h2⟩]
  simp
theorem u8_beq {a b : UInt8} : ((a.toNat : Int) == (b.toNat : Int)) = decide (a = b) := by
  rw [Bool.eq_iff_iff, beq_iff_eq, decide_eq_true_eq]
  constructor
  · intro h; exact UInt8.toNat.inj (by omega)
  · rintro rfl; rfl
theorem wrap8 {n : Int} (h1 : 0 ≤ n) (h2 : n ≤ 255) : IntKind.u8.wrap n = n := IntWalk.u8_in n ⟨h1, h2⟩
theorem cvs9 {s : ByteArray} : convPV Tryz.prog 9 9 (.str s) = some (.str s) := by unfold convPV; simp only [Tryz.underlying9]
/-- A byte of a text. -/
theorem ixT {l : List UInt8} {k : IntKind} {i : Nat} {c : UInt8} (h : l[i]? = some c) : indexPV Tryz.prog 9 (.str ⟨l.toArray⟩) (.int k (i : Int)) = some (.int .u8 c.toNat) := by
  unfold indexPV
  simp only [Tryz.underlying9]
  have hl : i < l.length := (List.getElem?_eq_some_iff.1 h).1
  have hv : l[i] = c := (List.getElem?_eq_some_iff.1 h).2
  rw [dif_pos ⟨by omega, by rw [size_txt]; omega⟩]
  congr 2
  subst hv
  rfl
theorem ixT0 {l : List UInt8} {k : IntKind} {c : UInt8} (h : l[0]? = some c) : indexPV Tryz.prog 9 (.str ⟨l.toArray⟩) (.int k 0) = some (.int .u8 c.toNat) := ixT (i := 0) h
theorem strAdd {a b : List UInt8} (h : a.length + b.length ≤ 2 ^ 62) : strBin .add ⟨a.toArray⟩ ⟨b.toArray⟩ = some (.str ⟨(a ++ b).toArray⟩) := by
  unfold strBin
  simp only
  rw [if_pos (by rw [size_txt, size_txt]; exact h)]
  congr 2
  try (apply ByteArray.ext; simp [ByteArray.data_append])
theorem txt_eq {a b : List UInt8} : ((⟨a.toArray⟩ : ByteArray) == ⟨b.toArray⟩) = decide (a = b) := by
  have e : ((⟨a.toArray⟩ : ByteArray) == ⟨b.toArray⟩) = (a.toArray == b.toArray) := rfl
  rw [e, Bool.eq_iff_iff, beq_iff_eq, decide_eq_true_eq]
  simp
theorem strEql {a b : List UInt8} : strBin .eql ⟨a.toArray⟩ ⟨b.toArray⟩ = some (.bool (decide (a = b))) := by unfold strBin; simp only [txt_eq]
theorem strNeq {a b : List UInt8} : strBin .neq ⟨a.toArray⟩ ⟨b.toArray⟩ = some (.bool (!decide (a = b))) := by unfold strBin; simp only [bne, txt_eq]
theorem okC_txt {xs : List (List UInt8)} : okC 1 (xs.map txt) = True := okC_map fun x => by simp [okC, PV.cells, PV.scalar]
theorem cA_txt {a b c : Nat} {xs : List (List UInt8)} : CleanAll a b c (xs.map txt) = True := CleanAll_map fun x => by simp only [go_sem]
theorem roL_txt {xs : List (List UInt8)} : PV.roL (xs.map txt) = xs.map txt := roL_enc fun x => by simp only [ro_str]
attribute [go_sem] lens9 size_txt List.size_toArray cvs9 extract_txt strEql strNeq okC_txt cA_txt roL_txt
theorem cvb {l : List PV} {o : Own} : convPV Tryz.prog 76 9 (.isl l o) = (bytesOfPV l).map fun ns => .str (bytesStr ns) := by unfold convPV; simp only [Tryz.underlying76, Tryz.underlying9, Tryz.underlying5]
attribute [go_sem] cvb
theorem sllT {xs : List (List UInt8)} {own : Own} {k : IntKind} {n : Int} : slicePV Tryz.prog 42 (.isl (xs.map txt) own) (some (.int k n)) none none = if 0 ≤ n then if n.toNat ≤ xs.length then some (.isl ((xs.drop n.toNat).map txt) own) else none else none := slLo_of Tryz.underlying42 Tryz.underlying9 cells9 (fun _ => rfl) xs own k n
attribute [go_sem] sllT
end Go.Proofs.YteklodljdndcoaaGreatDoor
namespace Go.Proofs.YteklodljdndcoaaGreatDoor
open Go Go.RowKit
theorem rdTxt : Rd Tryz.prog 9 fun p => ∃ l : List UInt8, p = txt l := (Rd.str Tryz.underlying9).mono fun p ⟨s, h, _⟩ => ⟨s.data.toList, by rw [h]⟩
theorem rdIntB : Rd Tryz.prog 3 fun p => ∃ n : Int, p = I n ∧ -9223372036854775808 ≤ n ∧ n ≤ 9223372036854775807 := (Rd.int Tryz.underlying3).mono fun _ ⟨n, h, h1, h2⟩ => ⟨n, h, h1, h2⟩
theorem rdByte : Rd Tryz.prog 5 fun p => ∃ n : Int, p = .int .u8 n ∧ 0 ≤ n ∧ n ≤ 255 := (Rd.int Tryz.underlying5).mono fun _ ⟨n, h, h1, h2⟩ => ⟨n, h, h1, h2⟩
end Go.Proofs.YteklodljdndcoaaGreatDoor
namespace Go.Proofs.YteklodljdndcoaaGreatDoor
open Go Go.RowKit
set_option maxRecDepth 100000
end Go.Proofs.YteklodljdndcoaaGreatDoor
namespace Go.Proofs.YteklodljdndcoaaGreatDoor
open Go Go.RowKit
set_option maxRecDepth 100000
theorem in_pc (Y : YEnv) (σ : Sg) (n lo hi : Int) : PC Tryz.prog Y 47 [.int .i64 n, .int .i64 lo, .int .i64 hi] σ (.bool (inR n lo hi)) σ := by
 refine PC_of_W Tryz.func47 rfl (by kernel_rfl) Tryz.ntmps47 (by simp) fun hcl hca => ?_
 refine W_seq fun K1 h1 => ?_
 refine W_region [0, 1, 2, 6] fun K2 h2 => ?_
 simp only [go_sem]
 refine h2 _ _ (h1 _ _ ?_); clear h1 h2 K1 K2
 refine W_seq fun K1 h1 => ?_
 refine W_region [6] fun K2 h2 => ?_
 simp only [go_sem]
 refine GWant_split (fun c1 => ?_) (fun c1 => ?_)
 ·simp only [go_sem, c1]
  refine h2 _ _ (h1 _ _ ?_); clear h1 h2 K1 K2
  simp only [go_sem]
  refine W_ret ⟨.inr rfl, ?_⟩
  refine Fin_self hcl rfl (Wk_bool (by simp [inR, c1]))
 ·simp only [go_sem, c1]
  refine h2 _ _ (h1 _ _ ?_); clear h1 h2 K1 K2
  simp only [go_sem]
  refine W_ret ⟨.inr rfl, ?_⟩
  refine Fin_self hcl rfl (Wk_bool (by simp [inR, c1]))
end Go.Proofs.YteklodljdndcoaaGreatDoor
namespace Go.Proofs.YteklodljdndcoaaGreatDoor
open Go Go.RowKit
set_option maxRecDepth 100000
theorem cin_pc (Y : YEnv) (σ : Sg) (lo hi : Int) (l : List Int) (o : Own) (hl : l.length < 2 ^ 62) : PC Tryz.prog Y 76 [I lo, I hi, intsO o l] σ (.bool (allIn lo hi l)) σ := by
 refine PC_of_W Tryz.func76 rfl (by kernel_rfl) Tryz.ntmps76 (by simp) fun hcl hca => ?_
 refine W_seq fun K1 h1 => ?_
 refine W_region [0, 1, 2] fun R hR => ?_
 simp only [go_sem]
 refine hR _ _ (h1 _ _ ?_); clear hR h1 R K1
 simp only [go_sem]
 refine W_seq fun K2 h2 => ?_
 refine W_seq fun K3 h3 => ?_
 refine W_region [0, 1, 9, 10, 11] fun R hR => ?_
 simp only [go_sem]
 refine hR _ _ (h3 _ _ ?_); clear hR h3 R K3
 simp only [go_sem]
 refine W_block ?_
 refine W_loopK (fun k E σ' => ∃ i : Nat, k + i = l.length ∧ allIn lo hi (l.take i) = true ∧ E = [(0, I lo), (1, I hi), (9, intsO o l), (10, I l.length), (11, I i)] ∧ σ = σ') l.length ⟨0, rfl, rfl, rfl, rfl⟩ ?_
 rintro k E σ' ⟨i, hk, hall, rfl, rfl⟩
 refine W_seq fun K4 h4 => ?_
 refine W_region [0, 1, 9, 10, 11, 12] fun R hR => ?_
 simp only [go_sem]
 refine hR _ _ (h4 _ _ ?_); clear hR h4 R K4
 simp only [go_sem]
 refine W_seq fun K5 h5 => ?_
 refine W_cond rfl (fun c => ?_) (fun c => ?_)
 · -- true
  have hi' : i < l.length := by simpa using c
  obtain ⟨x, hx⟩ : ∃ x, l[i]? = some x := ⟨l[i], by simp [hi']⟩
  have htake : l.take (i + 1) = l.take i ++ [x] := by rw [List.take_add_one, hx]; rfl
  refine W_skip (h5 _ _ ?_); clear h5 K5
  refine W_seq fun K6 h6 => ?_
  refine W_block ?_
  refine W_seq fun K7 h7 => ?_
  refine W_region [0, 1, 8, 9, 10, 11] fun R hR => ?_
  simp only [go_sem, iaX_map (f := I) (c := 1) hx rfl, elS_map (f := I) hx]
  refine hR _ _ (h7 _ _ ?_); clear hR h7 R K7
  simp only [go_sem]
  refine W_seq fun K8 h8 => ?_
  have fin : K8 [(0, I lo), (1, I hi), (9, intsO o l), (10, I l.length), (11, I i), (22, .bool (!(inR x lo hi)))] σ := by
   refine h8 _ _ ?_
   clear h8
   refine W_cond rfl (fun c => ?_) (fun c => ?_)
   · -- true
    refine W_seq fun K9 h9 => ?_
    refine W_region [6] fun R hR => ?_
    simp only [go_sem]
    refine hR _ _ (h9 _ _ ?_); clear hR h9 R K9
    simp only [go_sem]
    refine W_ret ?_
    simp only [go_sem]
    refine ⟨.inr (by trivial), Fin_self hcl rfl (Wk_bool ?_)⟩
    have hxm : x ∈ l := List.mem_of_getElem? hx
    symm
    rw [Bool.eq_false_iff]
    intro hh
    have := List.all_eq_true.1 hh x hxm
    rw [this] at c
    cases c
   · -- false
    refine W_skip (h6 _ _ ?_); clear h6 K6
    refine W_region [0, 1, 9, 10, 11] fun R hR => ?_
    simp only [go_sem]
    refine hR _ _ ?_; clear hR R
    simp only [go_sem]
    rw [wrap_i64_id (by omega) (by omega)]
    refine ⟨k - 1, by omega, i + 1, by omega, ?_, rfl⟩
    rw [htake]
    unfold allIn at hall ⊢
    rw [List.all_append, hall]
    simpa using c
  clear h6 h8
  refine W_region [0, 1, 9, 10, 11, 22] fun R hR => ?_
  by_cases c1 : x < lo
  ·simp only [go_sem, c1]
   refine hR _ _ ?_
   simp only [go_sem]
   have : inR x lo hi = false := by simp [inR]; omega
   rw [this] at fin
   exact fin
  ·simp only [go_sem, c1]
   refine hR _ _ ?_
   simp only [go_sem]
   have : (!inR x lo hi) = decide (hi < x) := by
    rw [Bool.eq_iff_iff]; simp [inR]; omega
   rw [this] at fin
   exact fin
 · -- false
  have hi' : i = l.length := by simp at c; omega
  subst hi'
  refine W_exit ?_
  simp only [go_sem]
  refine h2 _ _ ?_; clear h5 K5 h2 K2
  refine W_seq fun K10 h10 => ?_
  refine W_region [6] fun R hR => ?_
  simp only [go_sem]
  refine hR _ _ (h10 _ _ ?_); clear hR h10 R K10
  simp only [go_sem]
  refine W_ret ?_
  simp only [go_sem]
  refine ⟨.inr (by trivial), Fin_self hcl rfl (Wk_bool ?_)⟩
  rw [List.take_length] at hall
  exact hall.symm
theorem cother_pc (Y : YEnv) (σ : Sg) (s : Int × Int) (at' : Int) : PC Tryz.prog Y 98 [stPV s, I at'] σ (I (other s at')) σ := by
 refine PC_of_W Tryz.func98 rfl (by kernel_rfl) Tryz.ntmps98 (by simp) fun hcl hca => ?_
 obtain ⟨a, b⟩ := s
 refine W_seq fun K1 h1 => ?_
 refine W_region [1, 2] fun R hR => ?_
 simp only [go_sem, stPV]
 refine hR _ _ (h1 _ _ ?_); clear hR h1 R K1
 simp only [go_sem]
 refine W_seq fun K2 h2 => ?_
 refine W_seq fun K3 h3 => ?_
 refine W_region [2, 5] fun R hR => ?_
 simp only [go_sem]
 refine hR _ _ (h3 _ _ ?_); clear hR h3 R K3
 simp only [go_sem]
 refine W_block ?_
 refine W_seq fun K4 h4 => ?_
 refine W_region [2, 5, 6] fun R hR => ?_
 simp only [go_sem]
 refine hR _ _ (h4 _ _ ?_); clear hR h4 R K4
 simp only [go_sem]
 refine W_cond rfl (fun c => ?_) (fun c => ?_)
 · -- true
  refine W_seq fun K5 h5 => ?_
  refine W_region [4] fun R hR => ?_
  simp only [go_sem]
  refine hR _ _ (h5 _ _ ?_); clear hR h5 R K5
  simp only [go_sem]
  refine W_ret ?_
  simp only [go_sem]
  refine ⟨.inr (by trivial), Fin_same hcl rfl (Wk_int ?_)⟩
  simp_all [other]
 · -- false
  refine W_seq fun K6 h6 => ?_
  refine W_region [2, 12] fun R hR => ?_
  simp only [go_sem]
  refine hR _ _ (h6 _ _ ?_); clear hR h6 R K6
  simp only [go_sem]
  refine W_cond rfl (fun c => ?_) (fun c => ?_)
  · -- true
   refine W_seq fun K7 h7 => ?_
   refine W_region [4] fun R hR => ?_
   simp only [go_sem]
   refine hR _ _ (h7 _ _ ?_); clear hR h7 R K7
   simp only [go_sem]
   refine W_ret ?_
   simp only [go_sem]
   refine ⟨.inr (by trivial), Fin_same hcl rfl (Wk_int ?_)⟩
   simp_all [other]
  · -- false
   refine W_skip ?_
   simp only [go_sem]
   refine h2 _ _ ?_
   refine W_seq fun K8 h8 => ?_
   refine W_region [4] fun R hR => ?_
   simp only [go_sem]
   refine hR _ _ (h8 _ _ ?_); clear hR h8 R K8
   simp only [go_sem]
   refine W_ret ?_
   simp only [go_sem]
   refine ⟨.inr (by trivial), Fin_same hcl rfl (Wk_int ?_)⟩
   simp_all [other]
end Go.Proofs.YteklodljdndcoaaGreatDoor
namespace Go.Proofs.YteklodljdndcoaaGreatDoor
open Go Go.RowKit
set_option maxRecDepth 100000
theorem cspan_pc (Y : YEnv) (σ : Sg) (lo hi m : Int) : PC Tryz.prog Y 97 [.agg [I lo, I hi], I m] σ (I (chkSpan lo hi m)) σ := by
 refine PC_of_W Tryz.func97 rfl (by kernel_rfl) Tryz.ntmps97 (by simp) fun hcl hca => ?_
 refine W_seq fun K1 h1 => ?_
 refine W_region [1, 2] fun R hR => ?_
 simp only [go_sem]
 refine hR _ _ (h1 _ _ ?_); clear hR h1 R K1
 simp only [go_sem]
 refine W_seq fun K2 h2 => ?_
 refine W_block ?_
 refine W_seq fun K3 h3 => ?_
 refine W_region [2, 5] fun R hR => ?_
 simp only [go_sem, bsX]
 refine GCall_of (cin_pc Y _ 0 m [lo, hi] .exact (by simp)) ?_   -- t12 := call F115(0,t6,t11) : 4   <0,5>
 simp only [go_sem]
 refine hR _ _ (h3 _ _ ?_); clear hR h3 R K3
 simp only [go_sem]
 refine W_cond rfl (fun c => ?_) (fun c => ?_)
 · -- true
  refine W_seq fun K4 h4 => ?_
  refine W_region [4] fun R hR => ?_
  simp only [go_sem]
  refine hR _ _ (h4 _ _ ?_); clear hR h4 R K4
  simp only [go_sem]
  refine W_ret ?_
  simp only [go_sem]
  refine ⟨.inr (by trivial), Fin_same hcl rfl (Wk_int (by simp_all [chkSpan, allIn]))⟩
 · -- false
  refine W_seq fun K5 h5 => ?_
  refine W_region [14] fun R hR => ?_
  simp only [go_sem]
  refine hR _ _ (h5 _ _ ?_); clear hR h5 R K5
  simp only [go_sem]
  refine W_cond rfl (fun c => ?_) (fun c => ?_)
  · -- true
   refine W_seq fun K6 h6 => ?_
   refine W_region [4] fun R hR => ?_
   simp only [go_sem]
   refine hR _ _ (h6 _ _ ?_); clear hR h6 R K6
   simp only [go_sem]
   refine W_ret ?_
   simp only [go_sem]
   refine ⟨.inr (by trivial), Fin_same hcl rfl (Wk_int (by simp_all [chkSpan, allIn]))⟩
  · -- false
   refine W_skip (h2 _ _ ?_)
   refine W_seq fun K7 h7 => ?_
   refine W_region [4] fun R hR => ?_
   simp only [go_sem]
   refine hR _ _ (h7 _ _ ?_); clear hR h7 R K7
   simp only [go_sem]
   refine W_ret ?_
   simp only [go_sem]
   refine ⟨.inr (by trivial), Fin_same hcl rfl (Wk_int (by simp_all [chkSpan, allIn]))⟩
def chkPath (streets : List (Int × Int)) : List Int → Int → Int
  | [], _ => 0
  | n :: r, at' => if !(inR n 0 (streets.length - 1)) then 7 else
    match streets[n.toNat]? with
    | none => 7
    | some s => if other s at' < 0 then 1 else chkPath streets r (other s at')
def chkGroup (t : Town) (g : Group) : Int :=
  if chkSpan g.slo g.shi 1000000 ≠ 0 then chkSpan g.slo g.shi 1000000 else
  if chkSpan g.alo g.ahi 96 ≠ 0 then chkSpan g.alo g.ahi 96 else
  if !(inR g.stay 1 96) then 2 else if !(inR g.first 0 (t.rooms.length - 1)) then 7 else if g.path.length > 12 then 5 else chkPath t.streets g.path g.first
theorem cgroup_pc (Y : YEnv) (σ : Sg) (t : Town) (g : Group) (hr : t.rooms.length < 2 ^ 62) (hs : t.streets.length < 2 ^ 62) (hp : g.path.length < 2 ^ 62) : PC Tryz.prog Y 77 [twPV t, grPV g] σ (I (chkGroup t g)) σ := by
 refine PC_of_W Tryz.func77 rfl (by kernel_rfl) Tryz.ntmps77 (by simp) fun hcl hca => ?_
 have wr : IntKind.i64.wrap ((t.rooms.length : Int) - 1) = (t.rooms.length : Int) - 1 := wrap_i64_id (by omega) (by omega)
 have ws : IntKind.i64.wrap ((t.streets.length : Int) - 1) = (t.streets.length : Int) - 1 := wrap_i64_id (by omega) (by omega)
 refine W_seq fun K1 h1 => ?_
 refine W_region [2, 3] fun R hR => ?_
 simp only [go_sem, twPV, twCells, grPV]
 refine hR _ _ (h1 _ _ ?_); clear hR h1 R K1
 simp only [go_sem, bsX, wr, ws]
 refine W_seq fun K2 h2 => ?_
 refine W_seq fun K3 h3 => ?_
 refine W_region [2, 3, 5] fun R hR => ?_
 simp only [go_sem, bsX, wr, ws]
 refine GCall_of (cspan_pc Y _ g.slo g.shi 1000000) ?_   -- t12 := call F146(t11,1000000) : 46   <1>
 simp only [go_sem, bsX, wr, ws]
 refine hR _ _ (h3 _ _ ?_); clear hR h3 R K3
 simp only [go_sem, bsX, wr, ws]
 refine W_seq fun K4 h4 => ?_
 refine W_region [2, 3, 5, 14] fun R hR => ?_
 simp only [go_sem, bsX, wr, ws]
 refine hR _ _ (h4 _ _ ?_); clear hR h4 R K4
 simp only [go_sem, bsX, wr, ws]
 refine W_cond rfl (fun c => ?_) (fun c => ?_)
 · -- true
  refine W_seq fun K5 h5 => ?_
  refine W_region [4] fun R hR => ?_
  simp only [go_sem, bsX, wr, ws]
  refine hR _ _ (h5 _ _ ?_); clear hR h5 R K5
  simp only [go_sem, bsX, wr, ws]
  refine W_ret ?_
  simp only [go_sem, bsX, wr, ws]
  refine ⟨.inr (by trivial), Fin_same hcl rfl (Wk_int (by simp_all [chkGroup, allIn] <;> (intros; omega)))⟩
 · -- false
  refine W_skip (h2 _ _ ?_)
  refine W_seq fun K6 h6 => ?_
  refine W_seq fun K7 h7 => ?_
  refine W_region [2, 3, 6] fun R hR => ?_
  simp only [go_sem, bsX, wr, ws]
  refine GCall_of (cspan_pc Y _ g.alo g.ahi 96) ?_   -- t18 := call F146(t17,96) : 46   <1>
  simp only [go_sem, bsX, wr, ws]
  refine hR _ _ (h7 _ _ ?_); clear hR h7 R K7
  simp only [go_sem, bsX, wr, ws]
  refine W_seq fun K8 h8 => ?_
  refine W_region [2, 3, 6, 20] fun R hR => ?_
  simp only [go_sem, bsX, wr, ws]
  refine hR _ _ (h8 _ _ ?_); clear hR h8 R K8
  simp only [go_sem, bsX, wr, ws]
  refine W_cond rfl (fun c => ?_) (fun c => ?_)
  · -- true
   refine W_seq fun K9 h9 => ?_
   refine W_region [4] fun R hR => ?_
   simp only [go_sem, bsX, wr, ws]
   refine hR _ _ (h9 _ _ ?_); clear hR h9 R K9
   simp only [go_sem, bsX, wr, ws]
   refine W_ret ?_
   simp only [go_sem, bsX, wr, ws]
   refine ⟨.inr (by trivial), Fin_same hcl rfl (Wk_int (by simp_all [chkGroup, allIn] <;> (intros; omega)))⟩
  · -- false
   refine W_skip (h6 _ _ ?_)
   refine W_seq fun K10 h10 => ?_
   refine W_block ?_
   refine W_seq fun K11 h11 => ?_
   refine W_region [2, 3, 22] fun R hR => ?_
   simp only [go_sem, bsX, wr, ws]
   refine GCall_of (cin_pc Y _ 1 96 [g.stay] .exact (by simp)) ?_   -- t26 := call F115(1,96,t25) : 4   <2>
   simp only [go_sem, bsX, wr, ws]
   refine hR _ _ (h11 _ _ ?_); clear hR h11 R K11
   simp only [go_sem, bsX, wr, ws]
   refine W_cond rfl (fun c => ?_) (fun c => ?_)
   · -- true
    refine W_seq fun K12 h12 => ?_
    refine W_region [4] fun R hR => ?_
    simp only [go_sem, bsX, wr, ws]
    refine hR _ _ (h12 _ _ ?_); clear hR h12 R K12
    simp only [go_sem, bsX, wr, ws]
    refine W_ret ?_
    simp only [go_sem, bsX, wr, ws]
    refine ⟨.inr (by trivial), Fin_same hcl rfl (Wk_int (by simp_all [chkGroup, allIn] <;> (intros; omega)))⟩
   · -- false
    refine W_seq fun K13 h13 => ?_
    refine W_region [2, 3, 28] fun R hR => ?_
    simp only [go_sem, bsX, wr, ws]
    refine GCall_of (cin_pc Y _ 0 _ [g.first] .exact (by simp)) ?_   -- t36 := call F115(0,t32,t35) : 4   <3,6>
    simp only [go_sem, bsX, wr, ws]
    refine hR _ _ (h13 _ _ ?_); clear hR h13 R K13
    simp only [go_sem, bsX, wr, ws]
    refine W_cond rfl (fun c => ?_) (fun c => ?_)
    · -- true
     refine W_seq fun K14 h14 => ?_
     refine W_region [4] fun R hR => ?_
     simp only [go_sem, bsX, wr, ws]
     refine hR _ _ (h14 _ _ ?_); clear hR h14 R K14
     simp only [go_sem, bsX, wr, ws]
     refine W_ret ?_
     simp only [go_sem, bsX, wr, ws]
     refine ⟨.inr (by trivial), Fin_same hcl rfl (Wk_int (by simp_all [chkGroup, allIn] <;> (intros; omega)))⟩
    · -- false
     refine W_seq fun K15 h15 => ?_
     refine W_region [2, 3, 38] fun R hR => ?_
     simp only [go_sem, bsX, wr, ws]
     refine hR _ _ (h15 _ _ ?_); clear hR h15 R K15
     simp only [go_sem, bsX, wr, ws]
     refine W_cond rfl (fun c => ?_) (fun c => ?_)
     · -- true
      refine W_seq fun K16 h16 => ?_
      refine W_region [4] fun R hR => ?_
      simp only [go_sem, bsX, wr, ws]
      refine hR _ _ (h16 _ _ ?_); clear hR h16 R K16
      simp only [go_sem, bsX, wr, ws]
      refine W_ret ?_
      simp only [go_sem, bsX, wr, ws]
      refine ⟨.inr (by trivial), Fin_same hcl rfl (Wk_int (by simp_all [chkGroup, allIn] <;> (intros; omega)))⟩
     · -- false
      refine W_skip (h10 _ _ ?_)
      refine W_seq fun K17 h17 => ?_
      refine W_region [2, 3, 7] fun R hR => ?_
      simp only [go_sem, bsX, wr, ws]
      refine hR _ _ (h17 _ _ ?_); clear hR h17 R K17
      simp only [go_sem, bsX, wr, ws]
      refine W_seq fun K18 h18 => ?_
      refine W_seq fun K19 h19 => ?_
      refine W_region [2, 7, 46, 47, 48] fun R hR => ?_
      simp only [go_sem, bsX, wr, ws]
      refine hR _ _ (h19 _ _ ?_); clear hR h19 R K19
      simp only [go_sem, bsX, wr, ws]
      refine W_block ?_
      have hgr : chkGroup t g = chkPath t.streets g.path g.first := by
       simp_all [chkGroup, allIn]
       try (intros; omega)
      refine W_loopK (fun k E σ' => ∃ (i : Nat) (at' : Int), k + i = g.path.length ∧ chkPath t.streets (g.path.drop i) at' = chkPath t.streets g.path g.first ∧ E = [(2, .ptr σ.store.length 0), (7, I at'), (46, ints g.path), (47, I g.path.length), (48, I i)] ∧ σ.ext [some (twCells t), some (grPV g).cells] [] = σ') g.path.length ⟨0, g.first, rfl, rfl, rfl, rfl⟩ ?_
      rintro k E σ' ⟨i, at', hk, hinv, rfl, rfl⟩
      simp only [twCells, grPV, go_sem]
      refine W_seq fun K20 h20 => ?_
      refine W_region [2, 7, 46, 47, 48, 49] fun R hR => ?_
      simp only [go_sem, bsX, wr, ws]
      refine hR _ _ (h20 _ _ ?_); clear hR h20 R K20
      simp only [go_sem, bsX, wr, ws]
      refine W_seq fun K21 h21 => ?_
      refine W_cond rfl (fun c => ?_) (fun c => ?_)
      · -- true
       have hi' : i < g.path.length := by simpa using c
       obtain ⟨x, hx⟩ : ∃ x, g.path[i]? = some x := ⟨g.path[i], by simp [hi']⟩
       have hdrop : g.path.drop i = x :: g.path.drop (i + 1) := by
        rw [List.drop_eq_getElem_cons hi']; congr 1; exact (List.getElem?_eq_some_iff.1 hx).2
       rw [hdrop] at hinv
       refine W_skip (h21 _ _ ?_)
       refine W_seq fun K22 h22 => ?_
       refine W_block ?_
       refine W_seq fun K23 h23 => ?_
       refine W_region [2, 7, 9, 46, 47, 48] fun R hR => ?_
       simp only [go_sem, bsX, wr, ws, iaX_map (f := I) (c := 1) hx rfl, elS_map (f := I) hx]
       refine hR _ _ (h23 _ _ ?_); clear hR h23 R K23
       simp only [go_sem, bsX, wr, ws]
       refine W_seq fun K24 h24 => ?_
       refine W_seq fun K25 h25 => ?_
       refine W_region [2, 7, 9, 46, 47, 48, 59] fun R hR => ?_
       simp only [go_sem, bsX, wr, ws]
       refine GCall_of (cin_pc Y _ 0 _ [x] .exact (by simp)) ?_   -- t58 := call F115(0,t55,t57) : 4   <3,5>
       simp only [go_sem, bsX, wr, ws]
       refine hR _ _ (h25 _ _ ?_); clear hR h25 R K25
       simp only [go_sem, bsX, wr, ws]
       refine W_cond rfl (fun c => ?_) (fun c => ?_)
       · -- true
        have hin : inR x 0 ((t.streets.length : Int) - 1) = false := by simpa [allIn] using c
        refine W_seq fun K26 h26 => ?_
        refine W_region [4] fun R hR => ?_
        simp only [go_sem, bsX, wr, ws]
        refine hR _ _ (h26 _ _ ?_); clear hR h26 R K26
        simp only [go_sem, bsX, wr, ws]
        refine W_ret ?_
        simp only [go_sem, bsX, wr, ws]
        refine ⟨.inr (by trivial), Fin_same hcl rfl (Wk_int ?_)⟩
        rw [hgr, ← hinv]; simp only [chkPath, hin]; rfl
       · -- false
        have hin : inR x 0 ((t.streets.length : Int) - 1) = true := by simpa [allIn] using c
        have hin' : 0 ≤ x ∧ x ≤ (t.streets.length : Int) - 1 := by simpa [inR] using hin
        obtain ⟨n, hn⟩ : ∃ n : Nat, x = (n : Int) := ⟨x.toNat, by omega⟩
        subst hn
        obtain ⟨s, hs'⟩ : ∃ s, t.streets[n]? = some s := ⟨t.streets[n]'(by omega), by simp⟩
        have hstep : chkPath t.streets ((n : Int) :: g.path.drop (i + 1)) at' = if other s at' < 0 then 1 else chkPath t.streets (g.path.drop (i + 1)) (other s at') := by
         simp only [chkPath, hin, Int.toNat_natCast, hs']; rfl
        rw [hstep] at hinv
        refine W_skip (h24 _ _ ?_)
        refine W_seq fun K27 h27 => ?_
        refine W_region [2, 7, 46, 47, 48] fun R hR => ?_
        simp only [go_sem, bsX, wr, ws, iaX_map (f := stPV) (c := 2) hs' rfl, elA_map (f := stPV) hs', stPV]
        refine GCall_of (cother_pc Y _ s at') ?_   -- t66 := call F117(t64,t65) : 3   <4,5>
        simp only [go_sem, bsX, wr, ws]
        refine hR _ _ (h27 _ _ ?_); clear hR h27 R K27
        simp only [go_sem, bsX, wr, ws]
        refine W_seq fun K28 h28 => ?_
        refine W_region [2, 7, 46, 47, 48, 68] fun R hR => ?_
        simp only [go_sem, bsX, wr, ws]
        refine hR _ _ (h28 _ _ ?_); clear hR h28 R K28
        simp only [go_sem, bsX, wr, ws]
        refine W_cond rfl (fun c => ?_) (fun c => ?_)
        · -- true
         refine W_seq fun K29 h29 => ?_
         refine W_region [4] fun R hR => ?_
         simp only [go_sem, bsX, wr, ws]
         refine hR _ _ (h29 _ _ ?_); clear hR h29 R K29
         simp only [go_sem, bsX, wr, ws]
         refine W_ret ?_
         simp only [go_sem, bsX, wr, ws]
         refine ⟨.inr (by trivial), Fin_same hcl rfl (Wk_int ?_)⟩
         rw [hgr, ← hinv, if_pos (by simpa using c)]
        · -- false
         refine W_skip (h22 _ _ ?_)
         refine W_region [2, 7, 46, 47, 48] fun R hR => ?_
         simp only [go_sem, bsX, wr, ws]
         refine hR _ _ ?_; clear hR R
         simp only [go_sem, bsX, wr, ws]
         rw [if_neg (by simpa using c)] at hinv
         rw [wrap_i64_id (by omega) (by omega)]
         exact ⟨k - 1, by omega, i + 1, _, by omega, hinv, rfl⟩
      · -- false
       refine W_exit ?_
       simp only [go_sem, bsX, wr, ws]
       refine h18 _ _ ?_
       refine W_seq fun K30 h30 => ?_
       refine W_region [4] fun R hR => ?_
       simp only [go_sem, bsX, wr, ws]
       refine hR _ _ (h30 _ _ ?_); clear hR h30 R K30
       simp only [go_sem, bsX, wr, ws]
       refine W_ret ?_
       simp only [go_sem, bsX, wr, ws]
       refine ⟨.inr (by trivial), Fin_same hcl rfl (Wk_int ?_)⟩
       rw [hgr, ← hinv, List.drop_eq_nil_of_le (by simp at c; omega)]; rfl
end Go.Proofs.YteklodljdndcoaaGreatDoor
namespace Go.Proofs.YteklodljdndcoaaGreatDoor
open Go Go.RowKit
set_option maxRecDepth 100000
def chkStreets (n : Int) : List (Int × Int) → Int
  | [] => 0
  | s :: r => if !(inR s.1 0 (n - 1) && inR s.2 0 (n - 1)) then 7 else if s.1 = s.2 then 1 else chkStreets n r
def chkGroups (t : Town) : List Group → Int
  | [] => 0
  | g :: r => if chkGroup t g ≠ 0 then chkGroup t g else chkGroups t r
def chkTown (t : Town) : Int :=
  if t.rooms.length = 0 then 4 else if t.rooms.length > 12 then 5 else if !(allIn 0 1000000 t.rooms) then 2 else if t.streets.length > 12 then 5 else
  if chkStreets t.rooms.length t.streets ≠ 0 then chkStreets t.rooms.length t.streets else if !(inR t.steps 0 96) then 2 else if t.groups.length > 12 then 5 else chkGroups t t.groups
theorem ctown_pc (Y : YEnv) (σ : Sg) (t : Town) (hr : t.rooms.length < 2 ^ 62) (hs : t.streets.length < 2 ^ 62) (hg : t.groups.length < 2 ^ 62) (hp : ∀ g, g ∈ t.groups → g.path.length < 2 ^ 62) : PC Tryz.prog Y 55 [twPV t] σ (I (chkTown t)) σ := by
 refine PC_of_W Tryz.func55 rfl (by kernel_rfl) Tryz.ntmps55 (by simp) fun hcl hca => ?_
 have wr : IntKind.i64.wrap ((t.rooms.length : Int) - 1) = (t.rooms.length : Int) - 1 := wrap_i64_id (by omega) (by omega)
 refine W_seq fun K1 h1 => ?_
 refine W_region [1] fun R hR => ?_
 simp only [go_sem, bsX, wr, twPV, twCells]
 refine hR _ _ (h1 _ _ ?_); clear hR h1 R K1
 simp only [go_sem, bsX, wr]
 refine W_seq fun K2 h2 => ?_
 refine W_region [1, 3] fun R hR => ?_
 simp only [go_sem, bsX, wr]
 refine hR _ _ (h2 _ _ ?_); clear hR h2 R K2
 simp only [go_sem, bsX, wr]
 refine W_seq fun K3 h3 => ?_
 refine W_block ?_
 refine W_seq fun K4 h4 => ?_
 refine W_region [1, 3, 12] fun R hR => ?_
 simp only [go_sem, bsX, wr]
 refine hR _ _ (h4 _ _ ?_); clear hR h4 R K4
 simp only [go_sem, bsX, wr]
 refine W_cond rfl (fun c => ?_) (fun c => ?_)
 · -- true
  refine W_seq fun K5 h5 => ?_
  refine W_region [2] fun R hR => ?_
  simp only [go_sem, bsX, wr]
  refine hR _ _ (h5 _ _ ?_); clear hR h5 R K5
  simp only [go_sem, bsX, wr]
  refine W_ret ?_
  simp only [go_sem, bsX, wr]
  refine ⟨.inr (by trivial), Fin_same hcl rfl (Wk_int ?_)⟩
  simp_all [chkTown]
 · -- false
  refine W_seq fun K6 h6 => ?_
  refine W_region [1, 3, 15] fun R hR => ?_
  simp only [go_sem, bsX, wr]
  refine hR _ _ (h6 _ _ ?_); clear hR h6 R K6
  simp only [go_sem, bsX, wr]
  refine W_cond rfl (fun c => ?_) (fun c => ?_)
  · -- true
   refine W_seq fun K7 h7 => ?_
   refine W_region [2] fun R hR => ?_
   simp only [go_sem, bsX, wr]
   refine hR _ _ (h7 _ _ ?_); clear hR h7 R K7
   simp only [go_sem, bsX, wr]
   refine W_ret ?_
   simp only [go_sem, bsX, wr]
   refine ⟨.inr (by trivial), Fin_same hcl rfl (Wk_int ?_)⟩
   simp_all [chkTown] <;> (intros; omega)
  · -- false
   refine W_seq fun K8 h8 => ?_
   refine W_region [1, 3, 18] fun R hR => ?_
   simp only [go_sem, bsX, wr]
   refine GCall_of (cin_pc Y _ 0 1000000 t.rooms .ro hr) ?_
   simp only [go_sem, bsX, wr]
   refine hR _ _ (h8 _ _ ?_); clear hR h8 R K8
   simp only [go_sem, bsX, wr]
   refine W_cond rfl (fun c => ?_) (fun c => ?_)
   · -- true
    refine W_seq fun K9 h9 => ?_
    refine W_region [2] fun R hR => ?_
    simp only [go_sem, bsX, wr]
    refine hR _ _ (h9 _ _ ?_); clear hR h9 R K9
    simp only [go_sem, bsX, wr]
    refine W_ret ?_
    simp only [go_sem, bsX, wr]
    refine ⟨.inr (by trivial), Fin_same hcl rfl (Wk_int ?_)⟩
    simp_all [chkTown] <;> (intros; omega)
   · -- false
    refine W_seq fun K10 h10 => ?_
    refine W_region [1, 3, 23] fun R hR => ?_
    simp only [go_sem, bsX, wr]
    refine hR _ _ (h10 _ _ ?_); clear hR h10 R K10
    simp only [go_sem, bsX, wr]
    refine W_cond rfl (fun c => ?_) (fun c => ?_)
    · -- true
     refine W_seq fun K11 h11 => ?_
     refine W_region [2] fun R hR => ?_
     simp only [go_sem, bsX, wr]
     refine hR _ _ (h11 _ _ ?_); clear hR h11 R K11
     simp only [go_sem, bsX, wr]
     refine W_ret ?_
     simp only [go_sem, bsX, wr]
     refine ⟨.inr (by trivial), Fin_same hcl rfl (Wk_int ?_)⟩
     simp_all [chkTown] <;> (intros; omega)
    · -- false
     refine W_skip (h3 _ _ ?_)
     refine W_seq fun K12 h12 => ?_
     refine W_seq fun K13 h13 => ?_
     refine W_region [1, 3, 29, 30, 31] fun R hR => ?_
     simp only [go_sem, bsX, wr]
     refine hR _ _ (h13 _ _ ?_); clear hR h13 R K13
     simp only [go_sem, bsX, wr]
     refine W_block ?_
     have hq : chkTown t = if chkStreets t.rooms.length t.streets ≠ 0 then chkStreets t.rooms.length t.streets else if !(inR t.steps 0 96) then 2 else if t.groups.length > 12 then 5 else chkGroups t t.groups := by
      simp_all [chkTown]
      try (intros; omega)
     refine W_loopK (fun k E σ' => ∃ i : Nat, k + i = t.streets.length ∧ chkStreets t.rooms.length (t.streets.drop i) = chkStreets t.rooms.length t.streets ∧ E = [(1, .ptr σ.store.length 0), (3, I t.rooms.length), (29, .isl (t.streets.map stPV) .ro), (30, I t.streets.length), (31, I i)] ∧ σ.ext [some (twCells t)] [] = σ') t.streets.length ⟨0, rfl, rfl, rfl, rfl⟩ ?_
     rintro k E σ' ⟨i, hk, hinv, rfl, rfl⟩
     simp only [twCells, go_sem]
     refine W_seq fun K14 h14 => ?_
     refine W_region [1, 3, 29, 30, 31, 32] fun R hR => ?_
     simp only [go_sem, bsX, wr]
     refine hR _ _ (h14 _ _ ?_); clear hR h14 R K14
     simp only [go_sem, bsX, wr]
     refine W_seq fun K15 h15 => ?_
     refine W_cond rfl (fun c => ?_) (fun c => ?_)
     · -- true
      have hi' : i < t.streets.length := by simpa using c
      obtain ⟨x, hx⟩ : ∃ x, t.streets[i]? = some x := ⟨t.streets[i], by simp [hi']⟩
      have hdrop : t.streets.drop i = x :: t.streets.drop (i + 1) := by
       rw [List.drop_eq_getElem_cons hi']; congr 1; exact (List.getElem?_eq_some_iff.1 hx).2
      rw [hdrop] at hinv
      simp only [chkStreets] at hinv
      refine W_skip (h15 _ _ ?_)
      refine W_seq fun K16 h16 => ?_
      refine W_block ?_
      refine W_seq fun K17 h17 => ?_
      refine W_region [1, 3, 5, 29, 30, 31] fun R hR => ?_
      simp only [go_sem, bsX, wr, iaX_map (f := stPV) (c := 2) hx rfl, elA_map (f := stPV) hx, stPV]
      refine hR _ _ (h17 _ _ ?_); clear hR h17 R K17
      simp only [go_sem, bsX, wr]
      refine W_block ?_
      refine W_seq fun K18 h18 => ?_
      refine W_region [1, 3, 5, 29, 30, 31, 35] fun R hR => ?_
      simp only [go_sem, bsX, wr]
      refine GCall_of (cin_pc Y _ 0 _ [x.1, x.2] .exact (by simp)) ?_
      simp only [go_sem, bsX, wr]
      refine hR _ _ (h18 _ _ ?_); clear hR h18 R K18
      simp only [go_sem, bsX, wr]
      refine W_cond rfl (fun c => ?_) (fun c => ?_)
      · -- true
       refine W_seq fun K19 h19 => ?_
       refine W_region [2] fun R hR => ?_
       simp only [go_sem, bsX, wr]
       refine hR _ _ (h19 _ _ ?_); clear hR h19 R K19
       simp only [go_sem, bsX, wr]
       refine W_ret ?_
       simp only [go_sem, bsX, wr]
       refine ⟨.inr (by trivial), Fin_same hcl rfl (Wk_int ?_)⟩
       rw [hq, ← hinv]; simp_all [allIn]
      · -- false
       refine W_seq fun K20 h20 => ?_
       refine W_region [1, 3, 29, 30, 31, 45] fun R hR => ?_
       simp only [go_sem, bsX, wr]
       refine hR _ _ (h20 _ _ ?_); clear hR h20 R K20
       simp only [go_sem, bsX, wr]
       refine W_cond rfl (fun c => ?_) (fun c => ?_)
       · -- true
        refine W_seq fun K21 h21 => ?_
        refine W_region [2] fun R hR => ?_
        simp only [go_sem, bsX, wr]
        refine hR _ _ (h21 _ _ ?_); clear hR h21 R K21
        simp only [go_sem, bsX, wr]
        refine W_ret ?_
        simp only [go_sem, bsX, wr]
        refine ⟨.inr (by trivial), Fin_same hcl rfl (Wk_int ?_)⟩
        rw [hq, ← hinv]; simp_all [allIn]
       · -- false
        refine W_skip (h16 _ _ ?_)
        refine W_weak (Weak.cutExt 1 0 (Nat.le_add_right _ _) (Nat.le_refl _) hcl (CleanL_cons (cleans_tw t) CleanL_nil) (Wk.env (cleanE_cons (.ptr _ _ (by omega)) (cleanE_cons (.int _ _) (cleanE_cons (Clean.map noTok clean_st) (cleanE_cons (.int _ _) (cleanE_cons (.int _ _) (cleanE_cons (.bool _) cleanE_nil)))))))) ?_
        refine W_region [1, 3, 29, 30, 31] fun R hR => ?_
        simp only [go_sem, bsX, wr]
        refine hR _ _ ?_; clear hR R
        simp only [go_sem, bsX, wr]
        rw [wrap_i64_id (by omega) (by omega)]
        exact ⟨k - 1, by omega, i + 1, by omega, by simp_all [allIn], rfl⟩
     · -- false
      have hz : chkStreets t.rooms.length t.streets = 0 := by rw [← hinv, List.drop_eq_nil_of_le (by simp at c; omega)]; rfl
      refine W_exit ?_
      simp only [go_sem, bsX, wr]
      refine h12 _ _ ?_
      refine W_seq fun K22 h22 => ?_
      refine W_block ?_
      refine W_seq fun K23 h23 => ?_
      refine W_region [1, 52] fun R hR => ?_
      simp only [go_sem, bsX, wr]
      refine GCall_of (cin_pc Y _ 0 96 [t.steps] .exact (by simp)) ?_
      simp only [go_sem, bsX, wr]
      refine hR _ _ (h23 _ _ ?_); clear hR h23 R K23
      simp only [go_sem, bsX, wr]
      refine W_cond rfl (fun c => ?_) (fun c => ?_)
      · -- true
       refine W_seq fun K24 h24 => ?_
       refine W_region [2] fun R hR => ?_
       simp only [go_sem, bsX, wr]
       refine hR _ _ (h24 _ _ ?_); clear hR h24 R K24
       simp only [go_sem, bsX, wr]
       refine W_ret ?_
       simp only [go_sem, bsX, wr]
       refine ⟨.inr (by trivial), Fin_same hcl rfl (Wk_int ?_)⟩
       rw [hq, hz]; simp_all [allIn]
      · -- false
       refine W_seq fun K25 h25 => ?_
       refine W_region [1, 58] fun R hR => ?_
       simp only [go_sem, bsX, wr]
       refine hR _ _ (h25 _ _ ?_); clear hR h25 R K25
       simp only [go_sem, bsX, wr]
       refine W_cond rfl (fun c => ?_) (fun c => ?_)
       · -- true
        refine W_seq fun K26 h26 => ?_
        refine W_region [2] fun R hR => ?_
        simp only [go_sem, bsX, wr]
        refine hR _ _ (h26 _ _ ?_); clear hR h26 R K26
        simp only [go_sem, bsX, wr]
        refine W_ret ?_
        simp only [go_sem, bsX, wr]
        refine ⟨.inr (by trivial), Fin_same hcl rfl (Wk_int ?_)⟩
        rw [hq, hz]; simp_all [allIn] <;> (intros; omega)
       · -- false
        refine W_skip (h22 _ _ ?_)
        refine W_seq fun K27 h27 => ?_
        refine W_seq fun K28 h28 => ?_
        refine W_region [1, 64, 65, 66] fun R hR => ?_
        simp only [go_sem, bsX, wr]
        refine hR _ _ (h28 _ _ ?_); clear hR h28 R K28
        simp only [go_sem, bsX, wr]
        refine W_block ?_
        have hq2 : chkTown t = chkGroups t t.groups := by
         simp_all [allIn]
         try (intros; omega)
        refine W_loopK (fun k E σ' => ∃ i : Nat, k + i = t.groups.length ∧ chkGroups t (t.groups.drop i) = chkGroups t t.groups ∧ E = [(1, .ptr σ.store.length 0), (64, .isl (t.groups.map grPV) .ro), (65, I t.groups.length), (66, I i)] ∧ σ.ext [some (twCells t)] [] = σ') t.groups.length ⟨0, rfl, rfl, rfl, rfl⟩ ?_
        rintro k E σ' ⟨i, hk, hinv, rfl, rfl⟩
        simp only [twCells, go_sem]
        refine W_seq fun K29 h29 => ?_
        refine W_region [1, 64, 65, 66, 67] fun R hR => ?_
        simp only [go_sem, bsX, wr]
        refine hR _ _ (h29 _ _ ?_); clear hR h29 R K29
        simp only [go_sem, bsX, wr]
        refine W_seq fun K30 h30 => ?_
        refine W_cond rfl (fun c => ?_) (fun c => ?_)
        · -- true
         have hi' : i < t.groups.length := by simpa using c
         obtain ⟨x, hx⟩ : ∃ x, t.groups[i]? = some x := ⟨t.groups[i], by simp [hi']⟩
         have hdrop : t.groups.drop i = x :: t.groups.drop (i + 1) := by
          rw [List.drop_eq_getElem_cons hi']; congr 1; exact (List.getElem?_eq_some_iff.1 hx).2
         rw [hdrop] at hinv
         simp only [chkGroups] at hinv
         refine W_skip (h30 _ _ ?_)
         refine W_seq fun K31 h31 => ?_
         refine W_block ?_
         refine W_seq fun K32 h32 => ?_
         refine W_region [1, 7, 64, 65, 66] fun R hR => ?_
         simp only [go_sem, bsX, wr, iaX_map (f := grPV) (c := 7) hx rfl, elA_map (f := grPV) hx, grPV]
         refine hR _ _ (h32 _ _ ?_); clear hR h32 R K32
         simp only [go_sem, bsX, wr]
         refine W_seq fun K33 h33 => ?_
         refine W_region [1, 8, 64, 65, 66] fun R hR => ?_
         simp only [go_sem, bsX, wr]
         refine GCall_of (cgroup_pc Y _ t x hr hs (hp x (List.mem_of_getElem? hx))) ?_
         simp only [go_sem, bsX, wr]
         refine hR _ _ (h33 _ _ ?_); clear hR h33 R K33
         simp only [go_sem, bsX, wr]
         refine W_seq fun K34 h34 => ?_
         refine W_region [1, 8, 64, 65, 66, 74] fun R hR => ?_
         simp only [go_sem, bsX, wr]
         refine hR _ _ (h34 _ _ ?_); clear hR h34 R K34
         simp only [go_sem, bsX, wr]
         refine W_cond rfl (fun c => ?_) (fun c => ?_)
         · -- true
          refine W_seq fun K35 h35 => ?_
          refine W_region [2] fun R hR => ?_
          simp only [go_sem, bsX, wr]
          refine hR _ _ (h35 _ _ ?_); clear hR h35 R K35
          simp only [go_sem, bsX, wr]
          refine W_ret ?_
          simp only [go_sem, bsX, wr]
          refine ⟨.inr (by trivial), Fin_same hcl rfl (Wk_int ?_)⟩
          rw [hq2, ← hinv, if_pos (by simpa using c)]
         · -- false
          refine W_skip (h31 _ _ ?_)
          refine W_weak (Weak.cutExt 1 0 (Nat.le_add_right _ _) (Nat.le_refl _) hcl (CleanL_cons (cleans_tw t) CleanL_nil) (Wk.env (cleanE_cons (.ptr _ _ (by omega)) (cleanE_cons (.int _ _) (cleanE_cons (Clean.map noTok clean_gr) (cleanE_cons (.int _ _) (cleanE_cons (.int _ _) (cleanE_cons (.bool _) cleanE_nil)))))))) ?_
          refine W_region [1, 64, 65, 66] fun R hR => ?_
          simp only [go_sem, bsX, wr]
          refine hR _ _ ?_; clear hR R
          simp only [go_sem, bsX, wr]
          rw [if_neg (by simpa using c)] at hinv
          rw [wrap_i64_id (by omega) (by omega)]
          exact ⟨k - 1, by omega, i + 1, by omega, hinv, rfl⟩
        · -- false
         refine W_exit ?_
         simp only [go_sem, bsX, wr]
         refine h27 _ _ ?_
         refine W_seq fun K36 h36 => ?_
         refine W_region [2] fun R hR => ?_
         simp only [go_sem, bsX, wr]
         refine hR _ _ (h36 _ _ ?_); clear hR h36 R K36
         simp only [go_sem, bsX, wr]
         refine W_ret ?_
         simp only [go_sem, bsX, wr]
         refine ⟨.inr (by trivial), Fin_same hcl rfl (Wk_int ?_)⟩
         rw [hq2, ← hinv, List.drop_eq_nil_of_le (by simp at c; omega)]; rfl
end Go.Proofs.YteklodljdndcoaaGreatDoor
namespace Go.Proofs.YteklodljdndcoaaGreatDoor
open Go Go.RowKit
set_option maxRecDepth 100000
def fIdx (q : Int → Bool) : Nat → List Int → Int
  | _, [] => -1
  | i, x :: r => if q x then i else fIdx q (i + 1) r
theorem fIdx_any (q : Int → Bool) : ∀ (l : List Int) (i : Nat), decide (0 ≤ fIdx q i l) = l.any q := by
  intro l
  induction l with
  | nil => intro i; rfl
  | cons x l ih =>
    intro i
    simp only [fIdx, List.any_cons]
    by_cases h : q x = true
    · simp [h]
    · simp only [Bool.not_eq_true] at h
      simp [h, ih]
def chkCity (c : City) : Int :=
  if chkTown c.town ≠ 0 then chkTown c.town else if !(inR c.brk 0 120) then 2 else if c.sleep.length ≠ c.town.rooms.length then 1 else if c.sleep.any (fun n => !(inR n 0 720)) then 2 else 0
structure City.Ok (c : City) : Prop where
  hr : c.town.rooms.length < 2 ^ 50
  hs : c.town.streets.length < 2 ^ 50
  hg : c.town.groups.length < 2 ^ 50
  hp : ∀ g, g ∈ c.town.groups → g.path.length < 2 ^ 50
  hsl : c.sleep.length < 2 ^ 50
set_option maxHeartbeats 2000000 in
theorem check1_pc (Y : YEnv) (σ : Sg) (n : Int) :
  PC Tryz.prog Y 57 [I n] σ (.bool (!(inR n 0 720))) (σ) := by
 refine PC_of_W Tryz.func57 rfl (by kernel_rfl) Tryz.ntmps57 (by simp) fun hcl hca => ?_
 refine W_seq fun kz1 kq1 => ?_
 refine W_region [0] fun R hR => ?_
 simp only [go_sem]
 refine hR _ _ (kq1 _ _ ?_); clear hR R; try clear kq1 kz1
 try simp only [go_sem]
 refine W_seq fun kz2 kq2 => ?_
 refine W_region [2] fun R hR => ?_
 simp only [go_sem]
 refine GCall_of (in_pc Y _ n 0 720) ?_
 simp only [go_sem]
 refine hR _ _ (kq2 _ _ ?_); clear hR R; try clear kq2 kz2
 try simp only [go_sem]
 refine W_ret ?_
 simp only [go_sem]
 refine ⟨.inr (by trivial), ?_⟩
 first | refine Fin_same hcl rfl (Wk_eq ?_ (by simp only [go_sem])) | refine Fin_self hcl rfl (Wk_eq ?_ (by simp only [go_sem]))
 try simp only [go_sem]
 all_goals
  first | rfl | (simp_all; done) | (simp_all; omega)
set_option maxHeartbeats 2000000 in
theorem index_pc (Y : YEnv) (σ : Sg) (l : List Int) (o : Own) (hl : l.length < 2 ^ 62) (g : FuncId) (q : Int → Bool) (hq : ∀ (σ : Sg) (x : Int), PC Tryz.prog Y g [I x] σ (.bool (q x)) σ) :
  PC Tryz.prog Y 78 [intsO o l, .func (.func g) [] []] σ (I (fIdx q 0 l)) (σ) := by
 refine PC_of_W Tryz.func78 rfl (by kernel_rfl) Tryz.ntmps78 (by simp) fun hcl hca => ?_
 refine W_seq fun kz1 kq1 => ?_
 refine W_region [0, 1] fun R hR => ?_
 simp only [go_sem]
 refine hR _ _ (kq1 _ _ ?_); clear hR R; try clear kq1 kz1
 try simp only [go_sem]
 refine W_seq fun kz2 kq2 => ?_
 refine W_seq fun kz3 kq3 => ?_
 refine W_region [0, 1, 7, 8] fun R hR => ?_
 simp only [go_sem]
 refine hR _ _ (kq3 _ _ ?_); clear hR R; try clear kq3 kz3
 try simp only [go_sem]
 refine W_block ?_
 refine W_loopS (α := Nat) (fun (i : Nat) => [(8, I i)]) (fun (i : Nat) => i ≤ l.length ∧ fIdx q i (l.drop i) = fIdx q 0 l) (fun (i : Nat) => l.length - i) (0) rfl (by simp) ?_
 rintro i ⟨hi, hinv⟩
 refine W_seq fun kz4 kq4 => ?_
 refine W_region [0, 1, 7, 8, 9] fun R hR => ?_
 simp only [go_sem]
 refine hR _ _ (kq4 _ _ ?_); clear hR R; try clear kq4 kz4
 try simp only [go_sem]
 refine W_seq fun kz5 kq5 => ?_
 refine W_cond rfl (fun c1 => ?_) (fun c1 => ?_)
 ·
  try simp only [nrm] at c1
  have hi' : i < l.length := by first | assumption | omega
  obtain ⟨x, hx⟩ : ∃ x, l[i]? = some x := ⟨l[i], by simp [hi']⟩
  have hdrop : l.drop i = x :: l.drop (i + 1) := by
   rw [List.drop_eq_getElem_cons hi']; congr 1; exact (List.getElem?_eq_some_iff.1 hx).2
  rw [hdrop] at hinv
  simp only [fIdx] at hinv
  refine W_skip (kq5 _ _ ?_)
  refine W_seq fun kz6 kq6 => ?_
  refine W_block ?_
  refine W_seq fun kz7 kq7 => ?_
  refine W_region [0, 1, 5, 7, 8] fun R hR => ?_
  simp only [go_sem, hx]
  refine hR _ _ (kq7 _ _ ?_); clear hR R; try clear kq7 kz7
  try simp only [go_sem, hx]
  refine W_seq fun kz8 kq8 => ?_
  refine W_region [0, 1, 5, 7, 8, 16] fun R hR => ?_
  simp only [go_sem, hx]
  refine GCall_of (hq _ x) ?_
  simp only [go_sem, hx]
  refine hR _ _ (kq8 _ _ ?_); clear hR R; try clear kq8 kz8
  try simp only [go_sem, hx]
  refine W_cond rfl (fun c2 => ?_) (fun c2 => ?_)
  ·
   try simp only [nrm] at c2
   refine W_seq fun kz9 kq9 => ?_
   refine W_region [4] fun R hR => ?_
   simp only [go_sem, hx]
   refine hR _ _ (kq9 _ _ ?_); clear hR R; try clear kq9 kz9
   try simp only [go_sem, hx]
   refine W_ret ?_
   simp only [go_sem, hx]
   refine ⟨.inr (by trivial), ?_⟩
   first | refine Fin_same hcl rfl (Wk_eq ?_ (by simp only [go_sem])) | refine Fin_self hcl rfl (Wk_eq ?_ (by simp only [go_sem]))
   try simp only [go_sem]
   all_goals
    first | rfl | (simp_all; done) | (simp_all; omega)
  ·
   try simp only [nrm] at c2
   refine W_skip (kq6 _ _ ?_)
   refine W_region [0, 1, 7, 8] fun R hR => ?_
   simp only [go_sem, hx]
   try simp (disch := omega) only [wrapI]
   refine hR _ _ ?_; clear hR R
   try simp only [go_sem, hx]
   refine ⟨i + 1, ?_, by (try simp only []); omega, ?_⟩
   ·first | exact Weak.refl | exact Weak.eq (by first | rfl | (simp only [go_sem]; done) | (simp only [go_sem]; rfl) | (simp [go_sem]; done) | (simp [go_sem]; omega)) (by first | rfl | (simp only [go_sem]; done) | (simp [go_sem]; done))
   ·try dsimp only
    exact ⟨hi', by simp_all⟩
 ·
  try simp only [nrm] at c1
  have hdrop : l.drop i = [] := List.drop_eq_nil_of_le (by omega)
  rw [hdrop] at hinv
  simp only [fIdx] at hinv
  refine W_exit ?_
  simp only [go_sem]
  refine kq2 _ _ ?_
  refine W_seq fun kz10 kq10 => ?_
  refine W_region [4] fun R hR => ?_
  simp only [go_sem]
  refine hR _ _ (kq10 _ _ ?_); clear hR R; try clear kq10 kz10
  try simp only [go_sem]
  refine W_ret ?_
  simp only [go_sem]
  refine ⟨.inr (by trivial), ?_⟩
  first | refine Fin_same hcl rfl (Wk_eq ?_ (by simp only [go_sem])) | refine Fin_self hcl rfl (Wk_eq ?_ (by simp only [go_sem]))
  try simp only [go_sem]
  all_goals
   first | rfl | (simp_all; done) | (simp_all; omega)
set_option maxHeartbeats 2000000 in
theorem contains_pc (Y : YEnv) (σ : Sg) (l : List Int) (o : Own) (hl : l.length < 2 ^ 62) (g : FuncId) (q : Int → Bool) (hq : ∀ (σ : Sg) (x : Int), PC Tryz.prog Y g [I x] σ (.bool (q x)) σ) :
  PC Tryz.prog Y 56 [intsO o l, .func (.func g) [] []] σ (.bool (l.any q)) (σ) := by
 refine PC_of_W Tryz.func56 rfl (by kernel_rfl) Tryz.ntmps56 (by simp) fun hcl hca => ?_
 refine W_seq fun kz1 kq1 => ?_
 refine W_region [0, 1] fun R hR => ?_
 simp only [go_sem]
 refine hR _ _ (kq1 _ _ ?_); clear hR R; try clear kq1 kz1
 try simp only [go_sem]
 refine W_seq fun kz2 kq2 => ?_
 refine W_region [4] fun R hR => ?_
 simp only [go_sem]
 refine GCall_of (index_pc Y _ l o hl g q hq) ?_
 simp only [go_sem]
 refine hR _ _ (kq2 _ _ ?_); clear hR R; try clear kq2 kz2
 try simp only [go_sem]
 refine W_ret ?_
 simp only [go_sem]
 refine ⟨.inr (by trivial), ?_⟩
 first | refine Fin_same hcl rfl (Wk_eq ?_ (by simp only [go_sem])) | refine Fin_self hcl rfl (Wk_eq ?_ (by simp only [go_sem]))
 try simp only [go_sem]
 all_goals
  simp only [fIdx_any, go_sem]
set_option maxHeartbeats 2000000 in
theorem bcheck_pc (Y : YEnv) (σ : Sg) (ct : City) (hc : ct.Ok) :
  PC Tryz.prog Y 36 [ctPV ct] σ (I (chkCity ct)) (σ) := by
 refine PC_of_W Tryz.func36 rfl (by kernel_rfl) Tryz.ntmps36 (by simp) fun hcl hca => ?_
 refine W_seq fun kz1 kq1 => ?_
 refine W_region [1] fun R hR => ?_
 simp only [go_sem]
 refine hR _ _ (kq1 _ _ ?_); clear hR R; try clear kq1 kz1
 try simp only [go_sem]
 refine W_seq fun kz2 kq2 => ?_
 refine W_seq fun kz3 kq3 => ?_
 refine W_region [1, 3] fun R hR => ?_
 simp only [go_sem]
 refine GCall_of (ctown_pc Y _ ct.town (by have := hc.hr; omega) (by have := hc.hs; omega) (by have := hc.hg; omega) (fun g hg => by have := hc.hp g hg; omega)) ?_
 simp only [go_sem]
 refine hR _ _ (kq3 _ _ ?_); clear hR R; try clear kq3 kz3
 try simp only [go_sem]
 refine W_seq fun kz4 kq4 => ?_
 refine W_region [1, 3, 8] fun R hR => ?_
 simp only [go_sem]
 refine hR _ _ (kq4 _ _ ?_); clear hR R; try clear kq4 kz4
 try simp only [go_sem]
 refine W_cond rfl (fun c1 => ?_) (fun c1 => ?_)
 ·
  try simp only [nrm] at c1
  refine W_seq fun kz5 kq5 => ?_
  refine W_region [2] fun R hR => ?_
  simp only [go_sem]
  refine hR _ _ (kq5 _ _ ?_); clear hR R; try clear kq5 kz5
  try simp only [go_sem]
  refine W_ret ?_
  simp only [go_sem]
  refine ⟨.inr (by trivial), ?_⟩
  first | refine Fin_same hcl rfl (Wk_eq ?_ (by simp only [go_sem])) | refine Fin_self hcl rfl (Wk_eq ?_ (by simp only [go_sem]))
  try simp only [go_sem]
  all_goals
   congr 1; simp only [chkCity]; simp_all
 ·
  try simp only [nrm] at c1
  refine W_skip (kq2 _ _ ?_)
  refine W_seq fun kz6 kq6 => ?_
  refine W_block ?_
  refine W_seq fun kz7 kq7 => ?_
  refine W_region [1, 10] fun R hR => ?_
  simp only [go_sem]
  refine GCall_of (in_pc Y _ ct.brk 0 120) ?_
  simp only [go_sem]
  refine hR _ _ (kq7 _ _ ?_); clear hR R; try clear kq7 kz7
  try simp only [go_sem]
  refine W_cond rfl (fun c2 => ?_) (fun c2 => ?_)
  ·
   try simp only [nrm] at c2
   refine W_seq fun kz8 kq8 => ?_
   refine W_region [2] fun R hR => ?_
   simp only [go_sem]
   refine hR _ _ (kq8 _ _ ?_); clear hR R; try clear kq8 kz8
   try simp only [go_sem]
   refine W_ret ?_
   simp only [go_sem]
   refine ⟨.inr (by trivial), ?_⟩
   first | refine Fin_same hcl rfl (Wk_eq ?_ (by simp only [go_sem])) | refine Fin_self hcl rfl (Wk_eq ?_ (by simp only [go_sem]))
   try simp only [go_sem]
   all_goals
    congr 1; simp only [chkCity]; simp_all
  ·
   try simp only [nrm] at c2
   refine W_seq fun kz9 kq9 => ?_
   refine W_region [1, 15] fun R hR => ?_
   simp only [go_sem]
   refine hR _ _ (kq9 _ _ ?_); clear hR R; try clear kq9 kz9
   try simp only [go_sem]
   refine W_cond rfl (fun c3 => ?_) (fun c3 => ?_)
   ·
    try simp only [nrm] at c3
    refine W_seq fun kz10 kq10 => ?_
    refine W_region [2] fun R hR => ?_
    simp only [go_sem]
    refine hR _ _ (kq10 _ _ ?_); clear hR R; try clear kq10 kz10
    try simp only [go_sem]
    refine W_ret ?_
    simp only [go_sem]
    refine ⟨.inr (by trivial), ?_⟩
    first | refine Fin_same hcl rfl (Wk_eq ?_ (by simp only [go_sem])) | refine Fin_self hcl rfl (Wk_eq ?_ (by simp only [go_sem]))
    try simp only [go_sem]
    all_goals
     congr 1; simp only [chkCity]; simp_all
   ·
    try simp only [nrm] at c3
    refine W_seq fun kz11 kq11 => ?_
    refine W_region [24] fun R hR => ?_
    simp only [go_sem]
    refine GCall_of (contains_pc Y _ ct.sleep .ro (by have := hc.hsl; omega) 57 _ (fun σ x => check1_pc Y σ x)) ?_
    simp only [go_sem]
    refine hR _ _ (kq11 _ _ ?_); clear hR R; try clear kq11 kz11
    try simp only [go_sem]
    refine W_cond rfl (fun c4 => ?_) (fun c4 => ?_)
    ·
     try simp only [nrm] at c4
     refine W_seq fun kz12 kq12 => ?_
     refine W_region [2] fun R hR => ?_
     simp only [go_sem]
     refine hR _ _ (kq12 _ _ ?_); clear hR R; try clear kq12 kz12
     try simp only [go_sem]
     refine W_ret ?_
     simp only [go_sem]
     refine ⟨.inr (by trivial), ?_⟩
     first | refine Fin_same hcl rfl (Wk_eq ?_ (by simp only [go_sem])) | refine Fin_self hcl rfl (Wk_eq ?_ (by simp only [go_sem]))
     try simp only [go_sem]
     all_goals
      congr 1; simp only [chkCity]; simp_all
    ·
     try simp only [nrm] at c4
     refine W_skip (kq6 _ _ ?_)
     refine W_seq fun kz13 kq13 => ?_
     refine W_region [2] fun R hR => ?_
     simp only [go_sem]
     refine hR _ _ (kq13 _ _ ?_); clear hR R; try clear kq13 kz13
     try simp only [go_sem]
     refine W_ret ?_
     simp only [go_sem]
     refine ⟨.inr (by trivial), ?_⟩
     first | refine Fin_same hcl rfl (Wk_eq ?_ (by simp only [go_sem])) | refine Fin_self hcl rfl (Wk_eq ?_ (by simp only [go_sem]))
     try simp only [go_sem]
     all_goals
      congr 1; simp only [chkCity]; simp_all
def walkSq (streets : List (Int × Int)) : List Int → Int → List Int → List Int × Int
  | [], _, out => (out, 0)
  | n :: r, at', out => if !(inR n 0 (streets.length - 1)) then ([], 7) else
    match streets[n.toNat]? with
    | none => ([], 7)
    | some s => if at' = s.1 then walkSq streets r s.2 (out ++ [s.2]) else if at' = s.2 then walkSq streets r s.1 (out ++ [s.1]) else ([], 1)
def sqs (c : City) (b : Band) : List Int × Int :=
  if !(inR b.first 0 (c.town.rooms.length - 1)) then ([], 7) else if 12 < (b.path.length : Int) then ([], 5) else walkSq c.town.streets b.path b.first [b.first]
def sqPV (p : List Int × Int) : PV := .tuple [ints p.1, I p.2]
attribute [go_sem] sqPV
set_option maxHeartbeats 2000000 in
theorem squares_pc (Y : YEnv) (σ : Sg) (ct : City) (b : Band) (hc : ct.Ok) (hb : b.path.length < 2 ^ 50) :
  PC Tryz.prog Y 71 [ctPV ct, bdPV b] σ (sqPV (sqs ct b)) (σ) := by
 refine PC_of_W Tryz.func71 rfl (by kernel_rfl) Tryz.ntmps71 (by simp) fun hcl hca => ?_
 have hr := hc.hr
 have hs := hc.hs
 obtain ⟨res, hres⟩ : ∃ r, sqs ct b = r := ⟨_, rfl⟩
 rw [hres]
 refine W_seq fun kz1 kq1 => ?_
 refine W_region [2, 3] fun R hR => ?_
 simp only [go_sem]
 refine hR _ _ (kq1 _ _ ?_); clear hR R; try clear kq1 kz1
 try simp only [go_sem]
 refine W_seq fun kz2 kq2 => ?_
 refine W_seq fun kz3 kq3 => ?_
 refine W_region [2, 3, 19] fun R hR => ?_
 simp only [go_sem]
 try simp (disch := omega) only [wrapI]
 refine GCall_of (in_pc Y _ b.first 0 _) ?_
 simp only [go_sem]
 try simp (disch := omega) only [wrapI]
 refine hR _ _ (kq3 _ _ ?_); clear hR R; try clear kq3 kz3
 try simp only [go_sem]
 refine W_cond rfl (fun c1 => ?_) (fun c1 => ?_)
 ·
  try simp only [nrm] at c1
  refine W_seq fun kz4 kq4 => ?_
  refine W_region [4, 5] fun R hR => ?_
  simp only [go_sem]
  refine hR _ _ (kq4 _ _ ?_); clear hR R; try clear kq4 kz4
  try simp only [go_sem]
  refine W_ret ?_
  simp only [go_sem]
  refine ⟨.inr (by trivial), ?_⟩
  refine Fin_same hcl rfl (Wk.ro (by simp only [go_sem]) ?_)
  try simp only [go_sem]
  all_goals
   first | rfl | (simp_all; done) | (simp_all; omega) | (rw [← hres]; simp only [sqs]; (repeat' split) <;> ((first | rfl | omega | (simp_all; done) | (simp_all; omega))))
 ·
  try simp only [nrm] at c1
  refine W_skip (kq2 _ _ ?_)
  refine W_seq fun kz5 kq5 => ?_
  refine W_seq fun kz6 kq6 => ?_
  refine W_region [2, 3, 23] fun R hR => ?_
  simp only [go_sem]
  refine hR _ _ (kq6 _ _ ?_); clear hR R; try clear kq6 kz6
  try simp only [go_sem]
  refine W_cond rfl (fun c2 => ?_) (fun c2 => ?_)
  ·
   try simp only [nrm] at c2
   refine W_seq fun kz7 kq7 => ?_
   refine W_region [4, 5] fun R hR => ?_
   simp only [go_sem]
   refine hR _ _ (kq7 _ _ ?_); clear hR R; try clear kq7 kz7
   try simp only [go_sem]
   refine W_ret ?_
   simp only [go_sem]
   refine ⟨.inr (by trivial), ?_⟩
   refine Fin_same hcl rfl (Wk.ro (by simp only [go_sem]) ?_)
   try simp only [go_sem]
   all_goals
    first | rfl | (simp_all; done) | (simp_all; omega) | (rw [← hres]; simp only [sqs]; (repeat' split) <;> ((first | rfl | omega | (simp_all; done) | (simp_all; omega))))
  ·
   try simp only [nrm] at c2
   refine W_skip (kq5 _ _ ?_)
   refine W_seq fun kz8 kq8 => ?_
   refine W_region [2, 3, 6] fun R hR => ?_
   simp only [go_sem]
   refine hR _ _ (kq8 _ _ ?_); clear hR R; try clear kq8 kz8
   try simp only [go_sem]
   refine W_seq fun kz9 kq9 => ?_
   refine W_region [2, 3, 6, 7] fun R hR => ?_
   simp only [go_sem]
   refine hR _ _ (kq9 _ _ ?_); clear hR R; try clear kq9 kz9
   try simp only [go_sem]
   refine W_seq fun kz10 kq10 => ?_
   refine W_seq fun kz11 kq11 => ?_
   refine W_region [2, 6, 7, 29, 30, 31] fun R hR => ?_
   simp only [go_sem]
   refine hR _ _ (kq11 _ _ ?_); clear hR R; try clear kq11 kz11
   try simp only [go_sem]
   refine W_block ?_
   refine W_weak (Weak.room (t := 7) (es := 1) rfl (by simp)) ?_
   refine W_weak (Weak.keep [2, 6, 7, 29, 30, 31]) ?_
   simp only [go_sem]
   refine W_loopT (α := Nat × Int × (List Int)) (fun ⟨i, at', out⟩ => [(6, I at'), (7, .isl (out.map I) (.tok σ.rooms.length out.length 1)), (31, I i)]) (fun ⟨i, at', out⟩ => σ.ext [some (ctCells ct), some (bdCells b)] [out.length]) (fun ⟨i, at', out⟩ => i ≤ b.path.length ∧ out.length = i + 1 ∧ res = walkSq ct.town.streets (b.path.drop i) at' out) (fun ⟨i, at', out⟩ => b.path.length - i) ((0, b.first, [b.first])) rfl (by first | rfl | (simp only [go_sem]; done) | (simp only [go_sem]; rfl)) (⟨Nat.zero_le _, rfl, by rw [← hres]; simp only [sqs]; simp [c1, c2]⟩) ?_
   rintro ⟨i, at', out⟩ ⟨hi, ho, hinv⟩
   refine W_seq fun kz12 kq12 => ?_
   refine W_region [2, 6, 7, 29, 30, 31, 32] fun R hR => ?_
   simp only [go_sem]
   refine hR _ _ (kq12 _ _ ?_); clear hR R; try clear kq12 kz12
   try simp only [go_sem]
   refine W_seq fun kz13 kq13 => ?_
   refine W_cond rfl (fun c3 => ?_) (fun c3 => ?_)
   ·
    try simp only [nrm] at c3
    have hi' : i < b.path.length := by first | assumption | omega
    obtain ⟨x, hx⟩ : ∃ x, b.path[i]? = some x := ⟨b.path[i], by simp [hi']⟩
    have hdrop : b.path.drop i = x :: b.path.drop (i + 1) := by
     rw [List.drop_eq_getElem_cons hi']; congr 1; exact (List.getElem?_eq_some_iff.1 hx).2
    rw [hdrop] at hinv
    simp only [walkSq] at hinv
    refine W_skip (kq13 _ _ ?_)
    refine W_seq fun kz14 kq14 => ?_
    refine W_block ?_
    refine W_seq fun kz15 kq15 => ?_
    refine W_region [2, 6, 7, 9, 29, 30, 31] fun R hR => ?_
    simp only [go_sem, hx]
    refine hR _ _ (kq15 _ _ ?_); clear hR R; try clear kq15 kz15
    try simp only [go_sem, hx]
    refine W_seq fun kz16 kq16 => ?_
    refine W_seq fun kz17 kq17 => ?_
    refine W_region [2, 6, 7, 9, 29, 30, 31, 42] fun R hR => ?_
    simp only [go_sem, hx]
    try simp (disch := omega) only [wrapI]
    refine GCall_of (in_pc Y _ x 0 _) ?_
    simp only [go_sem, hx]
    try simp (disch := omega) only [wrapI]
    refine hR _ _ (kq17 _ _ ?_); clear hR R; try clear kq17 kz17
    try simp only [go_sem, hx]
    refine W_cond rfl (fun c4 => ?_) (fun c4 => ?_)
    ·
     try simp only [nrm] at c4
     refine W_seq fun kz18 kq18 => ?_
     refine W_region [4, 5] fun R hR => ?_
     simp only [go_sem, hx]
     refine hR _ _ (kq18 _ _ ?_); clear hR R; try clear kq18 kz18
     try simp only [go_sem, hx]
     refine W_ret ?_
     simp only [go_sem, hx]
     refine ⟨.inr (by trivial), ?_⟩
     refine Fin_same hcl rfl (Wk.ro (by simp only [go_sem]) ?_)
     try simp only [go_sem]
     all_goals
      first | rfl | (simp_all; done) | (simp_all; omega) | (rw [← hres]; simp only [sqs]; (repeat' split) <;> ((first | rfl | omega | (simp_all; done) | (simp_all; omega))))
    ·
     try simp only [nrm] at c4
     have hin : 0 ≤ x ∧ x ≤ (ct.town.streets.length : Int) - 1 := by simpa [inR] using c4
     obtain ⟨n, rfl⟩ : ∃ n : Nat, x = (n : Int) := ⟨x.toNat, by omega⟩
     obtain ⟨s, hs'⟩ : ∃ s, ct.town.streets[n]? = some s := ⟨ct.town.streets[n]'(by omega), by simp⟩
     simp only [c4, Int.toNat_natCast, hs'] at hinv
     refine W_skip (kq16 _ _ ?_)
     refine W_seq fun kz19 kq19 => ?_
     refine W_seq fun kz20 kq20 => ?_
     refine W_region [2, 6, 7, 10, 29, 30, 31] fun R hR => ?_
     simp only [go_sem, hx, hs']
     refine hR _ _ (kq20 _ _ ?_); clear hR R; try clear kq20 kz20
     try simp only [go_sem, hx, hs']
     refine W_seq fun kz21 kq21 => ?_
     refine W_region [2, 7, 10, 29, 30, 31, 49] fun R hR => ?_
     simp only [go_sem, hx, hs']
     refine hR _ _ (kq21 _ _ ?_); clear hR R; try clear kq21 kz21
     try simp only [go_sem, hx, hs']
     refine W_block ?_
     refine W_seq fun kz22 kq22 => ?_
     refine W_region [2, 7, 10, 29, 30, 31, 49, 50] fun R hR => ?_
     simp only [go_sem, hx, hs']
     refine hR _ _ (kq22 _ _ ?_); clear hR R; try clear kq22 kz22
     try simp only [go_sem, hx, hs']
     refine W_cond rfl (fun c5 => ?_) (fun c5 => ?_)
     ·
      try simp only [nrm] at c5
      refine W_region [2, 6, 7, 29, 30, 31] fun R hR => ?_
      simp only [go_sem, hx, hs']
      refine hR _ _ (kq19 _ _ ?_); clear hR R; try clear kq19 kz19
      try simp only [go_sem, hx, hs']
      refine W_region [2, 6, 7, 29, 30, 31] fun R hR => ?_
      simp only [go_sem, hx, hs']
      simp (disch := first | omega | (simp only [go_sem] <;> omega)) only [wrapI, appX_exact, appX_tok]
      try simp only [go_sem, hx, hs']
      refine hR _ _ (kq14 _ _ ?_); clear hR R; try clear kq14 kz14
      try simp only [go_sem, hx, hs']
      refine W_region [2, 6, 7, 29, 30, 31] fun R hR => ?_
      simp only [go_sem, hx, hs']
      try simp (disch := omega) only [wrapI]
      refine hR _ _ ?_; clear hR R
      try simp only [go_sem, hx, hs']
      refine ⟨(i + 1, s.2, out ++ [s.2]), ?_, by (try simp only []); omega, ?_⟩
      ·refine Weak.trans (Weak.cutX 2 1 (by omega) (by omega) hcl (by simp only [go_sem]) (by simp only [go_sem] <;> omega)) ?_
       simp only [go_sem]
       exact Weak.eq (by first | rfl | (simp only [go_sem]; done) | (simp only [go_sem]; rfl) | (simp [go_sem]; done) | (simp [go_sem]; omega)) (by first | rfl | (simp only [go_sem]; done) | (simp [go_sem]; done))
      ·try dsimp only
       exact ⟨hi', by simp; omega, by simp_all⟩
     ·
      try simp only [nrm] at c5
      refine W_seq fun kz23 kq23 => ?_
      refine W_region [2, 7, 10, 29, 30, 31, 56] fun R hR => ?_
      simp only [go_sem, hx, hs']
      refine hR _ _ (kq23 _ _ ?_); clear hR R; try clear kq23 kz23
      try simp only [go_sem, hx, hs']
      refine W_cond rfl (fun c6 => ?_) (fun c6 => ?_)
      ·
       try simp only [nrm] at c6
       refine W_region [2, 6, 7, 29, 30, 31] fun R hR => ?_
       simp only [go_sem, hx, hs']
       refine hR _ _ (kq19 _ _ ?_); clear hR R; try clear kq19 kz19
       try simp only [go_sem, hx, hs']
       refine W_region [2, 6, 7, 29, 30, 31] fun R hR => ?_
       simp only [go_sem, hx, hs']
       simp (disch := first | omega | (simp only [go_sem] <;> omega)) only [wrapI, appX_exact, appX_tok]
       try simp only [go_sem, hx, hs']
       refine hR _ _ (kq14 _ _ ?_); clear hR R; try clear kq14 kz14
       try simp only [go_sem, hx, hs']
       refine W_region [2, 6, 7, 29, 30, 31] fun R hR => ?_
       simp only [go_sem, hx, hs']
       try simp (disch := omega) only [wrapI]
       refine hR _ _ ?_; clear hR R
       try simp only [go_sem, hx, hs']
       refine ⟨(i + 1, s.1, out ++ [s.1]), ?_, by (try simp only []); omega, ?_⟩
       ·refine Weak.trans (Weak.cutX 2 1 (by omega) (by omega) hcl (by simp only [go_sem]) (by simp only [go_sem] <;> omega)) ?_
        simp only [go_sem]
        exact Weak.eq (by first | rfl | (simp only [go_sem]; done) | (simp only [go_sem]; rfl) | (simp [go_sem]; done) | (simp [go_sem]; omega)) (by first | rfl | (simp only [go_sem]; done) | (simp [go_sem]; done))
       ·try dsimp only
        exact ⟨hi', by simp; omega, by simp_all⟩
      ·
       try simp only [nrm] at c6
       refine W_seq fun kz24 kq24 => ?_
       refine W_region [4, 5] fun R hR => ?_
       simp only [go_sem, hx, hs']
       refine hR _ _ (kq24 _ _ ?_); clear hR R; try clear kq24 kz24
       try simp only [go_sem, hx, hs']
       refine W_ret ?_
       simp only [go_sem, hx, hs']
       refine ⟨.inr (by trivial), ?_⟩
       refine Fin_same hcl rfl (Wk.ro (by simp only [go_sem]) ?_)
       try simp only [go_sem]
       all_goals
        first | rfl | (simp_all; done) | (simp_all; omega) | (rw [← hres]; simp only [sqs]; (repeat' split) <;> ((first | rfl | omega | (simp_all; done) | (simp_all; omega))))
   ·
    try simp only [nrm] at c3
    have hdrop : b.path.drop i = [] := List.drop_eq_nil_of_le (by omega)
    rw [hdrop] at hinv
    simp only [walkSq] at hinv
    refine W_exit ?_
    simp only [go_sem]
    refine kq10 _ _ ?_
    refine W_seq fun kz25 kq25 => ?_
    refine W_region [4, 5] fun R hR => ?_
    simp only [go_sem]
    refine hR _ _ (kq25 _ _ ?_); clear hR R; try clear kq25 kz25
    try simp only [go_sem]
    refine W_ret ?_
    simp only [go_sem]
    refine ⟨.inr (by trivial), ?_⟩
    refine Fin_same hcl rfl (Wk.ro (by simp only [go_sem]) ?_)
    try simp only [go_sem]
    all_goals
     first | rfl | (simp_all; done) | (simp_all; omega) | (rw [← hres]; simp only [sqs]; (repeat' split) <;> ((first | rfl | omega | (simp_all; done) | (simp_all; omega))))
end Go.Proofs.YteklodljdndcoaaGreatDoor
namespace Go.Proofs.YteklodljdndcoaaGreatDoor
open Go Go.RowKit
set_option maxRecDepth 100000
theorem inR_true {n lo hi : Int} : (inR n lo hi = true) = (lo ≤ n ∧ n ≤ hi) := by simp [inR]
theorem inR_false {n lo hi : Int} : (inR n lo hi = false) = ¬ (lo ≤ n ∧ n ≤ hi) := by rw [← inR_true]; simp
theorem mul_bd {a b A B : Int} (h0 : 0 ≤ a) (h1 : a ≤ A) (h2 : 0 ≤ b) (h3 : b ≤ B) : 0 ≤ a * b ∧ a * b ≤ A * B :=
  ⟨Int.mul_nonneg h0 h2, Int.mul_le_mul h1 h3 h2 (Int.le_trans h0 h1)⟩
def timesOf (b : Band) : Int :=
  if inR b.lo 0 720 = false then 2 else if inR b.hi 0 720 = false then 2 else if b.hi < b.lo then 9 else if 30 < b.hi - b.lo then 2 else if inR b.stay 1 120 = false then 2 else if inR b.people 0 1000000 = false then 2 else
  if 720 < b.hi + b.stay * ((b.path.length : Int) + 1) then 12 else 0
def chkBand (c : City) (b : Band) : Int := if (sqs c b).2 ≠ 0 then (sqs c b).2 else timesOf b
def chkBands (c : City) : List Band → Int
  | [] => 0
  | b :: r => if chkBand c b ≠ 0 then chkBand c b else chkBands c r
def askedOf (c : City) (l : List Band) : Int := if chkCity c ≠ 0 then chkCity c else chkBands c l
def chkAll (c : City) (l : List Band) : Int := if chkCity c ≠ 0 then chkCity c else if 10 < (l.length : Int) then 5 else chkBands c l
def BandsOk (l : List Band) : Prop := l.length < 2 ^ 50 ∧ ∀ b, b ∈ l → b.path.length < 2 ^ 50
set_option maxHeartbeats 2000000 in
theorem times_pc (Y : YEnv) (σ : Sg) (b : Band) (hb : b.path.length < 2 ^ 50) :
  PC Tryz.prog Y 72 [bdPV b] σ (I (timesOf b)) (σ) := by
 refine PC_of_W Tryz.func72 rfl (by kernel_rfl) Tryz.ntmps72 (by simp) fun hcl hca => ?_
 refine W_seq fun kz1 kq1 => ?_
 refine W_region [1] fun R hR => ?_
 simp only [go_sem]
 refine hR _ _ (kq1 _ _ ?_); clear hR R; try clear kq1 kz1
 try simp only [go_sem]
 refine W_seq fun kz2 kq2 => ?_
 refine W_seq fun kz3 kq3 => ?_
 refine W_region [1, 3] fun R hR => ?_
 simp only [go_sem]
 refine hR _ _ (kq3 _ _ ?_); clear hR R; try clear kq3 kz3
 try simp only [go_sem]
 refine W_block ?_
 refine W_seq fun kz4 kq4 => ?_
 refine W_seq fun kz5 kq5 => ?_
 refine W_region [1, 3, 6] fun R hR => ?_
 simp only [go_sem]
 refine GCall_of (in_pc Y _ b.lo 0 720) ?_
 simp only [go_sem]
 refine hR _ _ (kq5 _ _ ?_); clear hR R; try clear kq5 kz5
 try simp only [go_sem]
 refine W_cond rfl (fun c1 => ?_) (fun c1 => ?_)
 ·
  try simp only [nrm] at c1
  refine W_skip (kq4 _ _ ?_)
  refine W_cond_true (by first | rfl | (simp only [go_sem]; simp [c1])) ?_
  refine W_seq fun kz6 kq6 => ?_
  refine W_region [2] fun R hR => ?_
  simp only [go_sem]
  refine hR _ _ (kq6 _ _ ?_); clear hR R; try clear kq6 kz6
  try simp only [go_sem]
  refine W_ret ?_
  simp only [go_sem]
  refine ⟨.inr (by trivial), ?_⟩
  first | refine Fin_same hcl rfl (Wk_eq ?_ (by simp only [go_sem])) | refine Fin_self hcl rfl (Wk_eq ?_ (by simp only [go_sem]))
  try simp only [go_sem]
  all_goals
   first | rfl | (simp_all; done) | (simp_all; omega) | (simp only [timesOf]; (repeat' split) <;> ((first | rfl | omega | (simp_all; done) | (simp_all; omega))))
 ·
  try simp only [nrm] at c1
  refine W_region [1, 3, 6] fun R hR => ?_
  simp only [go_sem]
  refine GCall_of (in_pc Y _ b.hi 0 720) ?_
  simp only [go_sem]
  refine hR _ _ (kq4 _ _ ?_); clear hR R; try clear kq4 kz4
  try simp only [go_sem]
  refine W_cond rfl (fun c2 => ?_) (fun c2 => ?_)
  ·
   try simp only [nrm] at c2
   refine W_seq fun kz7 kq7 => ?_
   refine W_region [2] fun R hR => ?_
   simp only [go_sem]
   refine hR _ _ (kq7 _ _ ?_); clear hR R; try clear kq7 kz7
   try simp only [go_sem]
   refine W_ret ?_
   simp only [go_sem]
   refine ⟨.inr (by trivial), ?_⟩
   first | refine Fin_same hcl rfl (Wk_eq ?_ (by simp only [go_sem])) | refine Fin_self hcl rfl (Wk_eq ?_ (by simp only [go_sem]))
   try simp only [go_sem]
   all_goals
    first | rfl | (simp_all; done) | (simp_all; omega) | (simp only [timesOf]; (repeat' split) <;> ((first | rfl | omega | (simp_all; done) | (simp_all; omega))))
  ·
   try simp only [nrm] at c2
   refine W_seq fun kz8 kq8 => ?_
   refine W_region [1, 3, 15] fun R hR => ?_
   simp only [go_sem]
   refine hR _ _ (kq8 _ _ ?_); clear hR R; try clear kq8 kz8
   try simp only [go_sem]
   refine W_cond rfl (fun c3 => ?_) (fun c3 => ?_)
   ·
    try simp only [nrm] at c3
    refine W_seq fun kz9 kq9 => ?_
    refine W_region [2] fun R hR => ?_
    simp only [go_sem]
    refine hR _ _ (kq9 _ _ ?_); clear hR R; try clear kq9 kz9
    try simp only [go_sem]
    refine W_ret ?_
    simp only [go_sem]
    refine ⟨.inr (by trivial), ?_⟩
    first | refine Fin_same hcl rfl (Wk_eq ?_ (by simp only [go_sem])) | refine Fin_self hcl rfl (Wk_eq ?_ (by simp only [go_sem]))
    try simp only [go_sem]
    all_goals
     first | rfl | (simp_all; done) | (simp_all; omega) | (simp only [timesOf]; (repeat' split) <;> ((first | rfl | omega | (simp_all; done) | (simp_all; omega))))
   ·
    try simp only [nrm] at c3
    refine W_seq fun kz10 kq10 => ?_
    refine W_seq fun kz11 kq11 => ?_
    have d1 : inR b.lo 0 720 = true := by assumption
    have d2 : inR b.hi 0 720 = true := by assumption
    simp only [inR_true] at d1 d2
    refine W_region [1, 3, 21] fun R hR => ?_
    simp only [go_sem]
    try simp (disch := omega) only [wrapI]
    refine hR _ _ (kq11 _ _ ?_); clear hR R; try clear kq11 kz11
    try simp only [go_sem]
    refine W_cond rfl (fun c4 => ?_) (fun c4 => ?_)
    ·
     try simp only [nrm] at c4
     refine W_skip (kq10 _ _ ?_)
     refine W_cond_true (by first | rfl | (simp only [go_sem]; simp [c4])) ?_
     refine W_seq fun kz12 kq12 => ?_
     refine W_region [2] fun R hR => ?_
     simp only [go_sem]
     refine hR _ _ (kq12 _ _ ?_); clear hR R; try clear kq12 kz12
     try simp only [go_sem]
     refine W_ret ?_
     simp only [go_sem]
     refine ⟨.inr (by trivial), ?_⟩
     first | refine Fin_same hcl rfl (Wk_eq ?_ (by simp only [go_sem])) | refine Fin_self hcl rfl (Wk_eq ?_ (by simp only [go_sem]))
     try simp only [go_sem]
     all_goals
      first | rfl | (simp_all; done) | (simp_all; omega) | (simp only [timesOf]; (repeat' split) <;> ((first | rfl | omega | (simp_all; done) | (simp_all; omega))))
    ·
     try simp only [nrm] at c4
     refine W_seq fun kz13 kq13 => ?_
     refine W_region [1, 3, 21] fun R hR => ?_
     simp only [go_sem]
     refine GCall_of (in_pc Y _ b.stay 1 120) ?_
     simp only [go_sem]
     refine hR _ _ (kq13 _ _ ?_); clear hR R; try clear kq13 kz13
     try simp only [go_sem]
     refine W_cond rfl (fun c5 => ?_) (fun c5 => ?_)
     ·
      try simp only [nrm] at c5
      refine W_skip (kq10 _ _ ?_)
      refine W_cond_true (by first | rfl | (simp only [go_sem]; simp [c5])) ?_
      refine W_seq fun kz14 kq14 => ?_
      refine W_region [2] fun R hR => ?_
      simp only [go_sem]
      refine hR _ _ (kq14 _ _ ?_); clear hR R; try clear kq14 kz14
      try simp only [go_sem]
      refine W_ret ?_
      simp only [go_sem]
      refine ⟨.inr (by trivial), ?_⟩
      first | refine Fin_same hcl rfl (Wk_eq ?_ (by simp only [go_sem])) | refine Fin_self hcl rfl (Wk_eq ?_ (by simp only [go_sem]))
      try simp only [go_sem]
      all_goals
       first | rfl | (simp_all; done) | (simp_all; omega) | (simp only [timesOf]; (repeat' split) <;> ((first | rfl | omega | (simp_all; done) | (simp_all; omega))))
     ·
      try simp only [nrm] at c5
      refine W_region [1, 3, 21] fun R hR => ?_
      simp only [go_sem]
      refine GCall_of (in_pc Y _ b.people 0 1000000) ?_
      simp only [go_sem]
      refine hR _ _ (kq10 _ _ ?_); clear hR R; try clear kq10 kz10
      try simp only [go_sem]
      refine W_cond rfl (fun c6 => ?_) (fun c6 => ?_)
      ·
       try simp only [nrm] at c6
       refine W_seq fun kz15 kq15 => ?_
       refine W_region [2] fun R hR => ?_
       simp only [go_sem]
       refine hR _ _ (kq15 _ _ ?_); clear hR R; try clear kq15 kz15
       try simp only [go_sem]
       refine W_ret ?_
       simp only [go_sem]
       refine ⟨.inr (by trivial), ?_⟩
       first | refine Fin_same hcl rfl (Wk_eq ?_ (by simp only [go_sem])) | refine Fin_self hcl rfl (Wk_eq ?_ (by simp only [go_sem]))
       try simp only [go_sem]
       all_goals
        first | rfl | (simp_all; done) | (simp_all; omega) | (simp only [timesOf]; (repeat' split) <;> ((first | rfl | omega | (simp_all; done) | (simp_all; omega))))
      ·
       try simp only [nrm] at c6
       refine W_seq fun kz16 kq16 => ?_
       have d3 : inR b.stay 1 120 = true := by assumption
       simp only [inR_true] at d3
       have d4 := mul_bd (a := b.stay) (b := (b.path.length : Int) + 1) (A := 120) (B := 2 ^ 51) (by omega) (by omega) (by omega) (by omega)
       refine W_region [36] fun R hR => ?_
       simp only [go_sem]
       try simp (disch := omega) only [wrapI]
       refine hR _ _ (kq16 _ _ ?_); clear hR R; try clear kq16 kz16
       try simp only [go_sem]
       refine W_cond rfl (fun c7 => ?_) (fun c7 => ?_)
       ·
        try simp only [nrm] at c7
        refine W_seq fun kz17 kq17 => ?_
        refine W_region [2] fun R hR => ?_
        simp only [go_sem]
        refine hR _ _ (kq17 _ _ ?_); clear hR R; try clear kq17 kz17
        try simp only [go_sem]
        refine W_ret ?_
        simp only [go_sem]
        refine ⟨.inr (by trivial), ?_⟩
        first | refine Fin_same hcl rfl (Wk_eq ?_ (by simp only [go_sem])) | refine Fin_self hcl rfl (Wk_eq ?_ (by simp only [go_sem]))
        try simp only [go_sem]
        all_goals
         first | rfl | (simp_all; done) | (simp_all; omega) | (simp only [timesOf]; (repeat' split) <;> ((first | rfl | omega | (simp_all; done) | (simp_all; omega))))
       ·
        try simp only [nrm] at c7
        refine W_skip (kq2 _ _ ?_)
        refine W_seq fun kz18 kq18 => ?_
        refine W_region [2] fun R hR => ?_
        simp only [go_sem]
        refine hR _ _ (kq18 _ _ ?_); clear hR R; try clear kq18 kz18
        try simp only [go_sem]
        refine W_ret ?_
        simp only [go_sem]
        refine ⟨.inr (by trivial), ?_⟩
        first | refine Fin_same hcl rfl (Wk_eq ?_ (by simp only [go_sem])) | refine Fin_self hcl rfl (Wk_eq ?_ (by simp only [go_sem]))
        try simp only [go_sem]
        all_goals
         first | rfl | (simp_all; done) | (simp_all; omega) | (simp only [timesOf]; (repeat' split) <;> ((first | rfl | omega | (simp_all; done) | (simp_all; omega))))
set_option maxHeartbeats 2000000 in
theorem checkBand_pc (Y : YEnv) (σ : Sg) (ct : City) (b : Band) (hc : ct.Ok) (hb : b.path.length < 2 ^ 50) :
  PC Tryz.prog Y 51 [ctPV ct, bdPV b] σ (I (chkBand ct b)) (σ) := by
 refine PC_of_W Tryz.func51 rfl (by kernel_rfl) Tryz.ntmps51 (by simp) fun hcl hca => ?_
 refine W_seq fun kz1 kq1 => ?_
 refine W_region [2, 3] fun R hR => ?_
 simp only [go_sem]
 refine hR _ _ (kq1 _ _ ?_); clear hR R; try clear kq1 kz1
 try simp only [go_sem]
 refine W_seq fun kz2 kq2 => ?_
 refine W_seq fun kz3 kq3 => ?_
 refine W_region [3, 6] fun R hR => ?_
 simp only [go_sem]
 refine GCall_of (squares_pc Y _ ct b hc hb) ?_
 simp only [go_sem]
 refine hR _ _ (kq3 _ _ ?_); clear hR R; try clear kq3 kz3
 try simp only [go_sem]
 refine W_seq fun kz4 kq4 => ?_
 refine W_region [3, 6, 14] fun R hR => ?_
 simp only [go_sem]
 refine hR _ _ (kq4 _ _ ?_); clear hR R; try clear kq4 kz4
 try simp only [go_sem]
 refine W_cond rfl (fun c1 => ?_) (fun c1 => ?_)
 ·
  try simp only [nrm] at c1
  refine W_seq fun kz5 kq5 => ?_
  refine W_region [4] fun R hR => ?_
  simp only [go_sem]
  refine hR _ _ (kq5 _ _ ?_); clear hR R; try clear kq5 kz5
  try simp only [go_sem]
  refine W_ret ?_
  simp only [go_sem]
  refine ⟨.inr (by trivial), ?_⟩
  first | refine Fin_same hcl rfl (Wk_eq ?_ (by simp only [go_sem])) | refine Fin_self hcl rfl (Wk_eq ?_ (by simp only [go_sem]))
  try simp only [go_sem]
  all_goals
   first | rfl | (simp_all; done) | (simp_all; omega) | (simp only [chkBand]; (repeat' split) <;> ((first | rfl | omega | (simp_all; done) | (simp_all; omega))))
 ·
  try simp only [nrm] at c1
  refine W_skip (kq2 _ _ ?_)
  refine W_seq fun kz6 kq6 => ?_
  refine W_region [4] fun R hR => ?_
  simp only [go_sem]
  refine GCall_of (times_pc Y _ b hb) ?_
  simp only [go_sem]
  refine hR _ _ (kq6 _ _ ?_); clear hR R; try clear kq6 kz6
  try simp only [go_sem]
  refine W_ret ?_
  simp only [go_sem]
  refine ⟨.inr (by trivial), ?_⟩
  first | refine Fin_same hcl rfl (Wk_eq ?_ (by simp only [go_sem])) | refine Fin_self hcl rfl (Wk_eq ?_ (by simp only [go_sem]))
  try simp only [go_sem]
  all_goals
   first | rfl | (simp_all; done) | (simp_all; omega) | (simp only [chkBand]; (repeat' split) <;> ((first | rfl | omega | (simp_all; done) | (simp_all; omega))))
set_option maxHeartbeats 2000000 in
theorem asked_pc (Y : YEnv) (σ : Sg) (ct : City) (l : List Band) (hc : ct.Ok) (hl : BandsOk l) :
  PC Tryz.prog Y 45 [ctPV ct, bands l] σ (I (askedOf ct l)) (σ) := by
 refine PC_of_W Tryz.func45 rfl (by kernel_rfl) Tryz.ntmps45 (by simp) fun hcl hca => ?_
 have hl1 := hl.1
 have hl2 := hl.2
 obtain ⟨res, hres⟩ : ∃ r, askedOf ct l = r := ⟨_, rfl⟩
 rw [hres]
 refine W_seq fun kz1 kq1 => ?_
 refine W_region [1, 2] fun R hR => ?_
 simp only [go_sem]
 refine hR _ _ (kq1 _ _ ?_); clear hR R; try clear kq1 kz1
 try simp only [go_sem]
 refine W_seq fun kz2 kq2 => ?_
 refine W_seq fun kz3 kq3 => ?_
 refine W_region [1, 2, 5] fun R hR => ?_
 simp only [go_sem]
 refine GCall_of (bcheck_pc Y _ ct hc) ?_
 simp only [go_sem]
 refine hR _ _ (kq3 _ _ ?_); clear hR R; try clear kq3 kz3
 try simp only [go_sem]
 refine W_seq fun kz4 kq4 => ?_
 refine W_region [1, 2, 5, 12] fun R hR => ?_
 simp only [go_sem]
 refine hR _ _ (kq4 _ _ ?_); clear hR R; try clear kq4 kz4
 try simp only [go_sem]
 refine W_cond rfl (fun c1 => ?_) (fun c1 => ?_)
 ·
  try simp only [nrm] at c1
  refine W_seq fun kz5 kq5 => ?_
  refine W_region [4] fun R hR => ?_
  simp only [go_sem]
  refine hR _ _ (kq5 _ _ ?_); clear hR R; try clear kq5 kz5
  try simp only [go_sem]
  refine W_ret ?_
  simp only [go_sem]
  refine ⟨.inr (by trivial), ?_⟩
  first | refine Fin_same hcl rfl (Wk_eq ?_ (by simp only [go_sem])) | refine Fin_self hcl rfl (Wk_eq ?_ (by simp only [go_sem]))
  try simp only [go_sem]
  all_goals
   first | rfl | (simp_all; done) | (simp_all; omega) | (rw [← hres]; simp only [askedOf]; (repeat' split) <;> ((first | rfl | omega | (simp_all; done) | (simp_all; omega))))
 ·
  try simp only [nrm] at c1
  refine W_skip (kq2 _ _ ?_)
  refine W_seq fun kz6 kq6 => ?_
  refine W_seq fun kz7 kq7 => ?_
  refine W_region [2, 14, 15, 16] fun R hR => ?_
  simp only [go_sem]
  refine hR _ _ (kq7 _ _ ?_); clear hR R; try clear kq7 kz7
  try simp only [go_sem]
  refine W_block ?_
  refine W_loopS (α := Nat) (fun (i : Nat) => [(16, I i)]) (fun (i : Nat) => i ≤ l.length ∧ res = chkBands ct (l.drop i)) (fun (i : Nat) => l.length - i) (0) rfl (⟨Nat.zero_le _, by rw [← hres]; simp [askedOf, chkAll, *]⟩) ?_
  rintro i ⟨hi, hinv⟩
  refine W_seq fun kz8 kq8 => ?_
  refine W_region [2, 14, 15, 16, 17] fun R hR => ?_
  simp only [go_sem]
  refine hR _ _ (kq8 _ _ ?_); clear hR R; try clear kq8 kz8
  try simp only [go_sem]
  refine W_seq fun kz9 kq9 => ?_
  refine W_cond rfl (fun c2 => ?_) (fun c2 => ?_)
  ·
   try simp only [nrm] at c2
   have hi' : i < l.length := by first | assumption | omega
   obtain ⟨b, hx⟩ : ∃ b, l[i]? = some b := ⟨l[i], by simp [hi']⟩
   have hdrop : l.drop i = b :: l.drop (i + 1) := by
    rw [List.drop_eq_getElem_cons hi']; congr 1; exact (List.getElem?_eq_some_iff.1 hx).2
   have hbl : b ∈ l := List.mem_of_getElem? hx
   rw [hdrop] at hinv
   simp only [chkBands] at hinv
   refine W_skip (kq9 _ _ ?_)
   refine W_seq fun kz10 kq10 => ?_
   refine W_block ?_
   refine W_seq fun kz11 kq11 => ?_
   refine W_region [2, 7, 14, 15, 16] fun R hR => ?_
   simp only [go_sem, hx]
   refine hR _ _ (kq11 _ _ ?_); clear hR R; try clear kq11 kz11
   try simp only [go_sem, hx]
   refine W_seq fun kz12 kq12 => ?_
   refine W_region [2, 8, 14, 15, 16] fun R hR => ?_
   simp only [go_sem, hx]
   refine GCall_of (checkBand_pc Y _ ct b hc (hl2 b hbl)) ?_
   simp only [go_sem, hx]
   refine hR _ _ (kq12 _ _ ?_); clear hR R; try clear kq12 kz12
   try simp only [go_sem, hx]
   refine W_seq fun kz13 kq13 => ?_
   refine W_region [2, 8, 14, 15, 16, 24] fun R hR => ?_
   simp only [go_sem, hx]
   refine hR _ _ (kq13 _ _ ?_); clear hR R; try clear kq13 kz13
   try simp only [go_sem, hx]
   refine W_cond rfl (fun c3 => ?_) (fun c3 => ?_)
   ·
    try simp only [nrm] at c3
    refine W_seq fun kz14 kq14 => ?_
    refine W_region [4] fun R hR => ?_
    simp only [go_sem, hx]
    refine hR _ _ (kq14 _ _ ?_); clear hR R; try clear kq14 kz14
    try simp only [go_sem, hx]
    refine W_ret ?_
    simp only [go_sem, hx]
    refine ⟨.inr (by trivial), ?_⟩
    first | refine Fin_same hcl rfl (Wk_eq ?_ (by simp only [go_sem])) | refine Fin_self hcl rfl (Wk_eq ?_ (by simp only [go_sem]))
    try simp only [go_sem]
    all_goals
     first | rfl | (simp_all; done) | (simp_all; omega) | (rw [← hres]; simp only [askedOf]; (repeat' split) <;> ((first | rfl | omega | (simp_all; done) | (simp_all; omega))))
   ·
    try simp only [nrm] at c3
    refine W_skip (kq10 _ _ ?_)
    refine W_region [2, 14, 15, 16] fun R hR => ?_
    simp only [go_sem, hx]
    try simp (disch := omega) only [wrapI]
    refine hR _ _ ?_; clear hR R
    try simp only [go_sem, hx]
    refine ⟨i + 1, ?_, by (try simp only []); omega, ?_⟩
    ·refine Weak.trans (Weak.cutX 1 0 (by omega) (by omega) hcl (by simp only [go_sem]) (by simp only [go_sem] <;> omega)) ?_
     simp only [go_sem]
     exact Weak.eq (by first | rfl | (simp only [go_sem]; done) | (simp only [go_sem]; rfl) | (simp [go_sem]; done) | (simp [go_sem]; omega)) (by first | rfl | (simp only [go_sem]; done) | (simp [go_sem]; done))
    ·try dsimp only
     exact ⟨hi', by simp_all⟩
  ·
   try simp only [nrm] at c2
   have hdrop : l.drop i = [] := List.drop_eq_nil_of_le (by omega)
   rw [hdrop] at hinv
   simp only [chkBands] at hinv
   refine W_exit ?_
   simp only [go_sem]
   refine kq6 _ _ ?_
   refine W_seq fun kz15 kq15 => ?_
   refine W_region [4] fun R hR => ?_
   simp only [go_sem]
   refine hR _ _ (kq15 _ _ ?_); clear hR R; try clear kq15 kz15
   try simp only [go_sem]
   refine W_ret ?_
   simp only [go_sem]
   refine ⟨.inr (by trivial), ?_⟩
   first | refine Fin_same hcl rfl (Wk_eq ?_ (by simp only [go_sem])) | refine Fin_self hcl rfl (Wk_eq ?_ (by simp only [go_sem]))
   try simp only [go_sem]
   all_goals
    first | rfl | (simp_all; done) | (simp_all; omega) | (rw [← hres]; simp only [askedOf]; (repeat' split) <;> ((first | rfl | omega | (simp_all; done) | (simp_all; omega))))
set_option maxHeartbeats 2000000 in
theorem checkBands_pc (Y : YEnv) (σ : Sg) (ct : City) (l : List Band) (hc : ct.Ok) (hl : BandsOk l) :
  PC Tryz.prog Y 29 [ctPV ct, bands l] σ (I (chkAll ct l)) (σ) := by
 refine PC_of_W Tryz.func29 rfl (by kernel_rfl) Tryz.ntmps29 (by simp) fun hcl hca => ?_
 have hl1 := hl.1
 have hl2 := hl.2
 obtain ⟨res, hres⟩ : ∃ r, chkAll ct l = r := ⟨_, rfl⟩
 rw [hres]
 refine W_seq fun kz1 kq1 => ?_
 refine W_region [1, 2] fun R hR => ?_
 simp only [go_sem]
 refine hR _ _ (kq1 _ _ ?_); clear hR R; try clear kq1 kz1
 try simp only [go_sem]
 refine W_seq fun kz2 kq2 => ?_
 refine W_seq fun kz3 kq3 => ?_
 refine W_region [1, 2, 5] fun R hR => ?_
 simp only [go_sem]
 refine GCall_of (bcheck_pc Y _ ct hc) ?_
 simp only [go_sem]
 refine hR _ _ (kq3 _ _ ?_); clear hR R; try clear kq3 kz3
 try simp only [go_sem]
 refine W_seq fun kz4 kq4 => ?_
 refine W_region [1, 2, 5, 12] fun R hR => ?_
 simp only [go_sem]
 refine hR _ _ (kq4 _ _ ?_); clear hR R; try clear kq4 kz4
 try simp only [go_sem]
 refine W_cond rfl (fun c1 => ?_) (fun c1 => ?_)
 ·
  try simp only [nrm] at c1
  refine W_seq fun kz5 kq5 => ?_
  refine W_region [4] fun R hR => ?_
  simp only [go_sem]
  refine hR _ _ (kq5 _ _ ?_); clear hR R; try clear kq5 kz5
  try simp only [go_sem]
  refine W_ret ?_
  simp only [go_sem]
  refine ⟨.inr (by trivial), ?_⟩
  first | refine Fin_same hcl rfl (Wk_eq ?_ (by simp only [go_sem])) | refine Fin_self hcl rfl (Wk_eq ?_ (by simp only [go_sem]))
  try simp only [go_sem]
  all_goals
   first | rfl | (simp_all; done) | (simp_all; omega) | (rw [← hres]; simp only [chkAll]; (repeat' split) <;> ((first | rfl | omega | (simp_all; done) | (simp_all; omega))))
 ·
  try simp only [nrm] at c1
  refine W_skip (kq2 _ _ ?_)
  refine W_seq fun kz6 kq6 => ?_
  refine W_seq fun kz7 kq7 => ?_
  refine W_region [1, 2, 16] fun R hR => ?_
  simp only [go_sem]
  refine hR _ _ (kq7 _ _ ?_); clear hR R; try clear kq7 kz7
  try simp only [go_sem]
  refine W_cond rfl (fun c2 => ?_) (fun c2 => ?_)
  ·
   try simp only [nrm] at c2
   refine W_seq fun kz8 kq8 => ?_
   refine W_region [4] fun R hR => ?_
   simp only [go_sem]
   refine hR _ _ (kq8 _ _ ?_); clear hR R; try clear kq8 kz8
   try simp only [go_sem]
   refine W_ret ?_
   simp only [go_sem]
   refine ⟨.inr (by trivial), ?_⟩
   first | refine Fin_same hcl rfl (Wk_eq ?_ (by simp only [go_sem])) | refine Fin_self hcl rfl (Wk_eq ?_ (by simp only [go_sem]))
   try simp only [go_sem]
   all_goals
    first | rfl | (simp_all; done) | (simp_all; omega) | (rw [← hres]; simp only [chkAll]; (repeat' split) <;> ((first | rfl | omega | (simp_all; done) | (simp_all; omega))))
  ·
   try simp only [nrm] at c2
   refine W_skip (kq6 _ _ ?_)
   refine W_seq fun kz9 kq9 => ?_
   refine W_seq fun kz10 kq10 => ?_
   refine W_region [2, 17, 18, 19] fun R hR => ?_
   simp only [go_sem]
   refine hR _ _ (kq10 _ _ ?_); clear hR R; try clear kq10 kz10
   try simp only [go_sem]
   refine W_block ?_
   refine W_loopS (α := Nat) (fun (i : Nat) => [(19, I i)]) (fun (i : Nat) => i ≤ l.length ∧ res = chkBands ct (l.drop i)) (fun (i : Nat) => l.length - i) (0) rfl (⟨Nat.zero_le _, by rw [← hres]; simp [askedOf, chkAll, *]⟩) ?_
   rintro i ⟨hi, hinv⟩
   refine W_seq fun kz11 kq11 => ?_
   refine W_region [2, 17, 18, 19, 20] fun R hR => ?_
   simp only [go_sem]
   refine hR _ _ (kq11 _ _ ?_); clear hR R; try clear kq11 kz11
   try simp only [go_sem]
   refine W_seq fun kz12 kq12 => ?_
   refine W_cond rfl (fun c3 => ?_) (fun c3 => ?_)
   ·
    try simp only [nrm] at c3
    have hi' : i < l.length := by first | assumption | omega
    obtain ⟨b, hx⟩ : ∃ b, l[i]? = some b := ⟨l[i], by simp [hi']⟩
    have hdrop : l.drop i = b :: l.drop (i + 1) := by
     rw [List.drop_eq_getElem_cons hi']; congr 1; exact (List.getElem?_eq_some_iff.1 hx).2
    have hbl : b ∈ l := List.mem_of_getElem? hx
    rw [hdrop] at hinv
    simp only [chkBands] at hinv
    refine W_skip (kq12 _ _ ?_)
    refine W_seq fun kz13 kq13 => ?_
    refine W_block ?_
    refine W_seq fun kz14 kq14 => ?_
    refine W_region [2, 7, 17, 18, 19] fun R hR => ?_
    simp only [go_sem, hx]
    refine hR _ _ (kq14 _ _ ?_); clear hR R; try clear kq14 kz14
    try simp only [go_sem, hx]
    refine W_seq fun kz15 kq15 => ?_
    refine W_region [2, 8, 17, 18, 19] fun R hR => ?_
    simp only [go_sem, hx]
    refine GCall_of (checkBand_pc Y _ ct b hc (hl2 b hbl)) ?_
    simp only [go_sem, hx]
    refine hR _ _ (kq15 _ _ ?_); clear hR R; try clear kq15 kz15
    try simp only [go_sem, hx]
    refine W_seq fun kz16 kq16 => ?_
    refine W_region [2, 8, 17, 18, 19, 27] fun R hR => ?_
    simp only [go_sem, hx]
    refine hR _ _ (kq16 _ _ ?_); clear hR R; try clear kq16 kz16
    try simp only [go_sem, hx]
    refine W_cond rfl (fun c4 => ?_) (fun c4 => ?_)
    ·
     try simp only [nrm] at c4
     refine W_seq fun kz17 kq17 => ?_
     refine W_region [4] fun R hR => ?_
     simp only [go_sem, hx]
     refine hR _ _ (kq17 _ _ ?_); clear hR R; try clear kq17 kz17
     try simp only [go_sem, hx]
     refine W_ret ?_
     simp only [go_sem, hx]
     refine ⟨.inr (by trivial), ?_⟩
     first | refine Fin_same hcl rfl (Wk_eq ?_ (by simp only [go_sem])) | refine Fin_self hcl rfl (Wk_eq ?_ (by simp only [go_sem]))
     try simp only [go_sem]
     all_goals
      first | rfl | (simp_all; done) | (simp_all; omega) | (rw [← hres]; simp only [chkAll]; (repeat' split) <;> ((first | rfl | omega | (simp_all; done) | (simp_all; omega))))
    ·
     try simp only [nrm] at c4
     refine W_skip (kq13 _ _ ?_)
     refine W_region [2, 17, 18, 19] fun R hR => ?_
     simp only [go_sem, hx]
     try simp (disch := omega) only [wrapI]
     refine hR _ _ ?_; clear hR R
     try simp only [go_sem, hx]
     refine ⟨i + 1, ?_, by (try simp only []); omega, ?_⟩
     ·refine Weak.trans (Weak.cutX 1 0 (by omega) (by omega) hcl (by simp only [go_sem]) (by simp only [go_sem] <;> omega)) ?_
      simp only [go_sem]
      exact Weak.eq (by first | rfl | (simp only [go_sem]; done) | (simp only [go_sem]; rfl) | (simp [go_sem]; done) | (simp [go_sem]; omega)) (by first | rfl | (simp only [go_sem]; done) | (simp [go_sem]; done))
     ·try dsimp only
      exact ⟨hi', by simp_all⟩
   ·
    try simp only [nrm] at c3
    have hdrop : l.drop i = [] := List.drop_eq_nil_of_le (by omega)
    rw [hdrop] at hinv
    simp only [chkBands] at hinv
    refine W_exit ?_
    simp only [go_sem]
    refine kq9 _ _ ?_
    refine W_seq fun kz18 kq18 => ?_
    refine W_region [4] fun R hR => ?_
    simp only [go_sem]
    refine hR _ _ (kq18 _ _ ?_); clear hR R; try clear kq18 kz18
    try simp only [go_sem]
    refine W_ret ?_
    simp only [go_sem]
    refine ⟨.inr (by trivial), ?_⟩
    first | refine Fin_same hcl rfl (Wk_eq ?_ (by simp only [go_sem])) | refine Fin_self hcl rfl (Wk_eq ?_ (by simp only [go_sem]))
    try simp only [go_sem]
    all_goals
     first | rfl | (simp_all; done) | (simp_all; omega) | (rw [← hres]; simp only [chkAll]; (repeat' split) <;> ((first | rfl | omega | (simp_all; done) | (simp_all; omega))))
end Go.Proofs.YteklodljdndcoaaGreatDoor
namespace Go.Proofs.YteklodljdndcoaaGreatDoor
open Go Go.RowKit
set_option maxRecDepth 100000
theorem starts_pc (Y : YEnv) (σ : Sg) (a b c d e f : PV) : PC Tryz.prog Y 68 [.agg [a, b, c, d, e, f]] σ (.func (.func 90) [] [.ptr σ.store.length 0]) (σ.ext [some [a, b, c, d, e, f]] []) := by
 refine PC_of_W Tryz.func68 rfl (by kernel_rfl) Tryz.ntmps68 (by simp) fun hcl hca => ?_
 refine W_seq fun K1 h1 => ?_
 refine W_region [1] fun K2 h2 => ?_
 simp only [go_sem]
 refine h2 _ _ (h1 _ _ ?_); clear h1 h2 K1 K2
 refine W_seq fun K1 h1 => ?_
 refine W_region [2] fun K2 h2 => ?_
 simp only [go_sem]
 refine h2 _ _ (h1 _ _ ?_); clear h1 h2 K1 K2
 simp only [go_sem]
 refine W_ret ⟨.inr rfl, ?_⟩
 refine Fin_ext 1 0 hcl rfl (Wk.of_clean (.func _ _ _ Clean.all_nil (Clean.all_cons (.ptr _ _ (by omega)) Clean.all_nil))) ?_
 intro cs hcs p hp
 have hcs' : cs = [a, b, c, d, e, f] := by simpa using hcs
 have hp' : p ∈ [a, b, c, d, e, f] := hcs' ▸ hp
 have := hca (.agg [a, b, c, d, e, f]) (by simp)
 cases this with
 | agg _ hh => exact (hh p hp').mono (Nat.le_add_right _ _) (Nat.le_add_right _ _) (Nat.le_refl _)
theorem starts1_pc (Y : YEnv) (y id : Nat) (a b e f : PV) (lo hi : Int) (τ : Int → Sg) (hlo : -2 ^ 63 ≤ lo) (hhi : hi < 2 ^ 63 - 1) (hm : lo ≤ hi + 1)
  (hst : ∀ s, lo ≤ s → s ≤ hi + 1 → (τ s).store[id]? = some (some [a, b, .int .i64 lo, .int .i64 hi, e, f]))
  (hY : ∀ s, lo ≤ s → s ≤ hi → Y y [.int .i64 s] (τ s) true (τ (s + 1))) (hlen : (τ (hi + 1)).store.length = (τ lo).store.length) (hr : (τ (hi + 1)).rooms.length = (τ lo).rooms.length) (hy : (τ (hi + 1)).ys.length = (τ lo).ys.length)
  (hcl' : CleanSg (τ lo) → CleanSg (τ (hi + 1))) : PC Tryz.prog Y 90 [.yield y, .ptr id 0] (τ lo) (.tuple []) (τ (hi + 1)) := by
 refine PC_of_W Tryz.func90 rfl (by kernel_rfl) Tryz.ntmps90 (by simp) fun hcl hca => ?_
 refine W_seq fun K1 h1 => ?_
 refine W_region [0, 1, 3] fun K2 h2 => ?_
 have hs0 := hst lo (by omega) (by omega)
 simp only [go_sem, ldS_at hs0]
 refine h2 _ _ (h1 _ _ ?_); clear h1 h2 K1 K2
 refine W_block ?_
 simp only [go_sem]
 refine W_loopK (fun k E σ' => ∃ s, (k : Int) = hi + 1 - s ∧ lo ≤ s ∧ s ≤ hi + 1 ∧ E = [(0, .yield y), (1, .ptr id 0), (3, .int .i64 s)] ∧ σ' = τ s) (hi + 1 - lo).toNat ⟨lo, by omega, by omega, by omega, rfl, rfl⟩ ?_
 rintro k E σ' ⟨s, hk, hs1, hs2, rfl, rfl⟩
 have hs := hst s hs1 hs2
 refine W_seq fun K1 h1 => ?_
 refine W_seq fun K3 h3 => ?_
 refine W_region [0, 1, 3, 16] fun K2 h2 => ?_
 simp only [go_sem, ldS_at hs]
 refine GWant_split (fun c => ?_) (fun c => ?_)
 ·simp only [go_sem, c]
  refine GYield_of (hY s hs1 (by simpa using c)) ?_
  simp only [go_sem, c]
  refine h2 _ _ (h3 _ _ ?_); clear h2 h3 K2 K3
  simp only [go_sem]
  refine W_cond_true rfl (W_skip ?_)
  refine h1 _ _ ?_; clear h1 K1
  refine W_seq fun K1 h1 => ?_
  refine W_block (W_skip (h1 _ _ ?_)); clear h1 K1
  refine W_region [0, 1, 3] fun K2 h2 => ?_
  have hsh : s ≤ hi := by simpa using c
  simp only [go_sem]
  refine h2 _ _ ?_
  simp only [go_sem]
  rw [wrap_i64_id (by omega) (by omega)]
  exact ⟨k - 1, by omega, s + 1, by omega, by omega, by omega, rfl, rfl⟩
 ·simp only [go_sem, c]
  refine h2 _ _ (h3 _ _ ?_); clear h2 h3 K2 K3
  simp only [go_sem]
  refine W_cond_false rfl (W_exit ?_)
  simp only [go_sem]
  have : s = hi + 1 := by simp at c; omega
  subst this
  refine ⟨.inl (by trivial), Fin_end (hcl' hcl) hlen hr hy rfl (Wk.of_clean (.tuple _ Clean.all_nil))⟩
end Go.Proofs.YteklodljdndcoaaGreatDoor
namespace Go.Proofs.YteklodljdndcoaaGreatDoor
open Go Go.RowKit
set_option maxRecDepth 100000
/-- One start of the second band more. -/
def crStep (X : Int → Int → Bool) (i j : Int) (p : Bool × Bool) : Bool × Bool := (p.1 || X i j, p.2 && X i j)
def crRow (X : Int → Int → Bool) (blo bhi i : Int) (p : Bool × Bool) : Bool × Bool := upTo (crStep X i) blo (bhi + 1) p
def crAll (X : Int → Int → Bool) (alo ahi blo bhi : Int) : Bool × Bool := upTo (crRow X blo bhi) alo (ahi + 1) (false, true)
def crossOf (X : Int → Int → Bool) (alo ahi blo bhi : Int) : Int := if (crAll X alo ahi blo bhi).2 then 1 else if (crAll X alo ahi blo bhi).1 then 3 else 2
section
variable (X : Int → Int → Bool) (c0 c1 c2 c3 c4 c5 a0 a1 a4 a5 b0 b1 b4 b5 : PV) (alo ahi blo bhi : Int)
theorem cross_pc (hal : -2 ^ 63 ≤ alo) (hah : ahi < 2 ^ 63 - 1) (ham : alo ≤ ahi + 1) (hbl : -2 ^ 63 ≤ blo) (hbh : bhi < 2 ^ 63 - 1) (hbm : blo ≤ bhi + 1)
    (hX : ∀ (Y : YEnv) (σ : Sg) (i j : Int), alo ≤ i → i ≤ ahi → blo ≤ j → j ≤ bhi → PC Tryz.prog Y 69 [.agg [c0, c1, c2, c3, c4, c5], .agg [a0, a1, I alo, I ahi, a4, a5], .agg [b0, b1, I blo, I bhi, b4, b5], I i, I j] σ (.bool (X i j)) σ)
    (Y : YEnv) (σ : Sg) : PC Tryz.prog Y 46 [.agg [c0, c1, c2, c3, c4, c5], .agg [a0, a1, I alo, I ahi, a4, a5], .agg [b0, b1, I blo, I bhi, b4, b5]] σ (I (crossOf X alo ahi blo bhi)) σ := by
  refine PC_of_W Tryz.func46 rfl (by kernel_rfl) Tryz.ntmps46 (by simp) fun hcl hca => ?_
  have hcc := hca _ (List.mem_cons_self ..)
  have hac := hca _ (List.mem_cons_of_mem _ (List.mem_cons_self ..))
  have hbc := hca _ (List.mem_cons_of_mem _ (List.mem_cons_of_mem _ (List.mem_cons_self ..)))
  clear hca
  refine W_seq fun K1 h1 => ?_
  refine W_region [3, 4, 5, 6] fun R hR => ?_
  simp only [go_sem]
  refine hR _ _ (h1 _ _ ?_); clear h1 hR K1 R
  refine W_seq fun K1 h1 => ?_
  refine W_region [3, 4, 5, 6, 7, 8] fun R hR => ?_
  simp only [go_sem]
  refine hR _ _ (h1 _ _ ?_); clear h1 hR K1 R
  refine W_seq fun K1 h1 => ?_
  refine W_seq fun K2 h2 => ?_
  refine W_region [3, 4, 5, 6, 7, 8, 13] fun R hR => ?_
  simp only [go_sem]
  refine GCall_of (starts_pc Y _ _ _ _ _ _ _) ?_
  simp only [go_sem, Sg.ext_ext]
  refine hR _ _ (h2 _ _ ?_); clear hR h2 K2 R
  refine W_block ?_
  simp only [go_sem]
  -- the outer loop
  let L : Bool × Bool → List (Option (List PV)) := fun p => [some [c0, c1, c2, c3, c4, c5], some [a0, a1, I alo, I ahi, a4, a5], some [b0, b1, I blo, I bhi, b4, b5], some [.bool p.1], some [.bool p.2], some [a0, a1, I alo, I ahi, a4, a5]]
  let so : Int → Sg := fun i => σ.ext (L (upTo (crRow X blo bhi) alo i (false, true))) [] [.ready]
  have hLc : ∀ p (n r y : Nat), σ.store.length ≤ n → σ.rooms.length ≤ r → σ.ys.length ≤ y → ∀ cs, some cs ∈ L p → ∀ q, q ∈ cs → Clean n r y q := fun p n r y h1 h2 h3 =>
    CleanL_cons (hcc.cells_of h1 h2 h3) (CleanL_cons (hac.cells_of h1 h2 h3) (CleanL_cons (hbc.cells_of h1 h2 h3) (CleanL_cons (Clean.all_cons (.bool _) Clean.all_nil) (CleanL_cons (Clean.all_cons (.bool _) Clean.all_nil) (CleanL_cons (hac.cells_of h1 h2 h3) CleanL_nil)))))
  refine W_rangeFunc (gf := 90) (v := .tuple []) (s := .ready) (σ5 := so (ahi + 1)) rfl (by simp) (fun args τ b τ' => ∃ i, alo ≤ i ∧ i ≤ ahi ∧ args = [I i] ∧ b = true ∧ τ = so i ∧ τ' = so (i + 1)) ?_ ?_ ?_ ?_ ?_
  · rintro args τ b τ' ⟨i, hi1, hi2, rfl, rfl, rfl, rfl⟩
    refine ⟨rfl, ?_, ?_⟩
    · simp only [so, go_sem]
    · simp only [so, L, go_sem]
      refine W_region [3, 4, 5, 6, 7, 8, 9] fun R hR => ?_
      simp only [go_sem, putAll]
      refine hR _ _ ?_; clear hR R
      simp only [go_sem]
      -- the inner loop
      obtain ⟨p, hp⟩ : ∃ p, p = upTo (crRow X blo bhi) alo i (false, true) := ⟨_, rfl⟩
      rw [upTo_step _ hi1, ← hp]
      have hLc' : ∀ p (n r y : Nat), σ.store.length ≤ n → σ.rooms.length ≤ r → σ.ys.length ≤ y → ∀ cs, some cs ∈ (L p ++ [some [I i], some [b0, b1, I blo, I bhi, b4, b5]]) → ∀ q, q ∈ cs → Clean n r y q := fun p n r y h1 h2 h3 =>
        CleanL_cons (hcc.cells_of h1 h2 h3) (CleanL_cons (hac.cells_of h1 h2 h3) (CleanL_cons (hbc.cells_of h1 h2 h3) (CleanL_cons (Clean.all_cons (.bool _) Clean.all_nil) (CleanL_cons (Clean.all_cons (.bool _) Clean.all_nil) (CleanL_cons (hac.cells_of h1 h2 h3)
          (CleanL_cons (Clean.all_cons (.int _ _) Clean.all_nil) (CleanL_cons (hbc.cells_of h1 h2 h3) CleanL_nil)))))))
      refine W_post_weak ?_
      refine W_block ?_
      refine W_seq fun K2 h2 => ?_
      refine W_region [3, 4, 5, 6, 7, 8, 9, 16] fun R hR => ?_
      simp only [go_sem]
      refine GCall_of (starts_pc Y _ _ _ _ _ _ _) ?_
      simp only [go_sem]
      refine hR _ _ (h2 _ _ ?_); clear hR h2 K2 R
      refine W_block ?_
      simp only [go_sem]
      let si : Int → Sg := fun j => σ.ext (L (upTo (crStep X i) blo j p) ++ [some [I i], some [b0, b1, I blo, I bhi, b4, b5]]) [] [.busy, .ready]
      refine W_rangeFunc (gf := 90) (v := .tuple []) (s := .ready) (σ5 := si (bhi + 1)) rfl (by simp) (fun args τ b τ' => ∃ j, blo ≤ j ∧ j ≤ bhi ∧ args = [I j] ∧ b = true ∧ τ = si j ∧ τ' = si (j + 1)) ?_ ?_ ?_ ?_ ?_
      · rintro args τ b τ' ⟨j, hj1, hj2, rfl, rfl, rfl, rfl⟩
        refine ⟨rfl, ?_, ?_⟩
        · simp only [si, go_sem]
        · simp only [si, L, go_sem]
          refine W_region [3, 4, 5, 6, 7, 8, 9, 10] fun R hR => ?_
          simp only [go_sem, putAll]
          refine hR _ _ ?_; clear hR R
          simp only [go_sem]
          obtain ⟨q, hq⟩ : ∃ q, q = upTo (crStep X i) blo j p := ⟨_, rfl⟩
          rw [upTo_step _ hj1, ← hq]
          refine W_block ?_
          refine W_seq fun K2 h2 => ?_
          refine W_region [7, 8, 11] fun R hR => ?_
          simp only [go_sem]
          refine GCall_of (hX Y _ i j hi1 hi2 hj1 hj2) ?_
          simp only [go_sem]
          refine hR _ _ (h2 _ _ ?_); clear hR h2 K2 R
          refine W_region [] fun R hR => ?_
          simp only [go_sem]
          have fin : ∀ E, R E (σ.ext (L (crStep X i j q) ++ [some [I i], some [b0, b1, I blo, I bhi, b4, b5]]) [] [.busy, .busy]) := by
            intro E
            refine hR E _ ?_
            simp only [L, go_sem]
            refine ⟨?_, rfl, ?_⟩ <;> simp only [go_sem]
          clear hR hq
          obtain ⟨q1, q2⟩ := q
          simp only [crStep, L] at fin
          generalize X i j = x at fin ⊢
          cases q1 <;> cases q2 <;> cases x <;> simp only [go_sem] at fin ⊢ <;> exact fin _
      · have hst := starts1_pc (Y.at (σ.ys.length + 1) (fun args τ b τ' => ∃ j, blo ≤ j ∧ j ≤ bhi ∧ args = [I j] ∧ b = true ∧ τ = si j ∧ τ' = si (j + 1))) (σ.ys.length + 1) (σ.store.length + 7) b0 b1 b4 b5 blo bhi si hbl hbh hbm
          (fun s _ _ => by simp only [si, L]; exact Sg.get_ext ..) (fun s h1 h2 => by rw [YEnv.at_self]; exact ⟨s, h1, h2, rfl, rfl, rfl, rfl⟩) (by simp only [si, L, go_sem]) (by simp only [si, L, go_sem]) (by simp only [si, L, go_sem])
          (fun _ => CleanSg_ext hcl (hLc' _ _ _ _ (Nat.le_add_right _ _) (Nat.le_add_right _ _) (Nat.le_add_right _ _)))
        have e0 : si blo = σ.ext (L p ++ [some [I i], some [b0, b1, I blo, I bhi, b4, b5]]) [] [.busy, .ready] := by simp only [si]; rw [upTo_start]
        rw [e0] at hst
        simp only [L, go_sem] at hst ⊢
        exact hst
      · simp only [si, L, go_sem]
      · simp only [go_sem]
        exact CleanCut_ext hcl (by simp only [si, L, go_sem]; omega) (by simp only [si, L, go_sem, Nat.le_add_right]) (by omega) (hLc' _ _ _ _ (by simp only [si, L, go_sem]; omega) (by simp only [si, L, go_sem, Nat.le_add_right]) (by omega))
      · simp only [AfterLoop, si, L, go_sem]
        refine ⟨[], _, Weak.cutExt 6 0 (Nat.le_refl _) (Nat.le_refl _) hcl ?_ Wk.nil_get, ?_⟩
        · exact hLc _ _ _ _ (by omega) (by omega) (by omega)
        · simp only [RoundEnd, go_sem]
          simp only [so, L, crRow]
  · have hst := starts1_pc (Y.at σ.ys.length (fun args τ b τ' => ∃ i, alo ≤ i ∧ i ≤ ahi ∧ args = [I i] ∧ b = true ∧ τ = so i ∧ τ' = so (i + 1))) σ.ys.length (σ.store.length + 5) a0 a1 a4 a5 alo ahi so hal hah ham
      (fun s _ _ => by simp only [so, L]; exact Sg.get_ext ..) (fun s h1 h2 => by rw [YEnv.at_self]; exact ⟨s, h1, h2, rfl, rfl, rfl, rfl⟩) (by simp only [so, L, go_sem]) (by simp only [so, L, go_sem]) (by simp only [so, L, go_sem])
      (fun _ => CleanSg_ext hcl (hLc _ _ _ _ (Nat.le_add_right _ _) (Nat.le_add_right _ _) (Nat.le_add_right _ _)))
    have e0 : so alo = σ.ext (L (false, true)) [] [.ready] := by simp only [so]; rw [upTo_start]
    rw [e0] at hst
    simp only [L, go_sem] at hst ⊢
    exact hst
  · simp only [so, L, go_sem]
  · simp only [go_sem]
    exact CleanCut_ext hcl (by simp only [so, L, go_sem]; omega) (by simp only [so, L, go_sem, Nat.le_add_right]) (by omega) (hLc _ _ _ _ (by simp only [so, L, go_sem]; omega) (by simp only [so, L, go_sem, Nat.le_add_right]) (by omega))
  · simp only [AfterLoop, so, L, go_sem]
    refine h1 _ _ ?_; clear h1 K1
    refine W_seq fun K1 h1 => ?_
    refine W_block ?_
    refine W_seq fun K2 h2 => ?_
    refine W_region [7, 32] fun R hR => ?_
    simp only [go_sem]
    refine hR _ _ (h2 _ _ ?_); clear hR h2 K2 R
    have hres : crossOf X alo ahi blo bhi = if (crAll X alo ahi blo bhi).2 then 1 else if (crAll X alo ahi blo bhi).1 then 3 else 2 := rfl
    unfold crAll at hres
    generalize upTo (crRow X blo bhi) alo (ahi + 1) (false, true) = p at hres ⊢
    obtain ⟨p1, p2⟩ := p
    simp only [go_sem] at hres ⊢
    refine W_cond rfl (fun c => ?_) (fun c => ?_)
    · subst c
      refine W_seq fun K2 h2 => ?_
      refine W_region [6] fun R hR => ?_
      simp only [go_sem]
      refine hR _ _ (h2 _ _ ?_); clear hR h2 K2 R
      refine W_ret ?_
      simp only [go_sem]
      refine ⟨.inr (by trivial), Fin_same hcl rfl ?_⟩
      rw [hres]
      exact Wk.of_clean (.int _ _)
    · subst c
      refine W_seq fun K2 h2 => ?_
      refine W_region [34] fun R hR => ?_
      simp only [go_sem]
      refine hR _ _ (h2 _ _ ?_); clear hR h2 K2 R
      refine W_cond rfl (fun c => ?_) (fun c => ?_)
      · subst c
        refine W_seq fun K2 h2 => ?_
        refine W_region [6] fun R hR => ?_
        simp only [go_sem]
        refine hR _ _ (h2 _ _ ?_); clear hR h2 K2 R
        refine W_ret ?_
        simp only [go_sem]
        refine ⟨.inr (by trivial), Fin_same hcl rfl ?_⟩
        rw [hres]
        exact Wk.of_clean (.int _ _)
      · subst c
        refine W_skip ?_
        simp only [go_sem]
        refine h1 _ _ ?_; clear h1 K1
        refine W_seq fun K2 h2 => ?_
        refine W_region [6] fun R hR => ?_
        simp only [go_sem]
        refine hR _ _ (h2 _ _ ?_); clear hR h2 K2 R
        refine W_ret ?_
        simp only [go_sem]
        refine ⟨.inr (by trivial), Fin_same hcl rfl ?_⟩
        rw [hres]
        exact Wk.of_clean (.int _ _)
end
end Go.Proofs.YteklodljdndcoaaGreatDoor
namespace Go.Proofs.YteklodljdndcoaaGreatDoor
open Go Go.RowKit
set_option maxRecDepth 100000
structure Vis where
  lo : Int
  hi : Int
  sq : Int
def vsPV (v : Vis) : PV := .agg [I v.lo, I v.hi, I v.sq]
theorem okC_vs {xs : List Vis} : okC 3 (xs.map vsPV) = True := okC_map fun x => by simp [okC, vsPV, PV.cells, PV.scalar]
theorem roL_vs {xs : List Vis} : PV.roL (xs.map vsPV) = xs.map vsPV := roL_enc fun x => by simp only [vsPV, ro_agg, roL_cons, roL_nil, ro_int]
theorem cA_vs {a b c : Nat} {xs : List Vis} : CleanAll a b c (xs.map vsPV) = True := CleanAll_map fun x => by simp only [vsPV, go_sem]
attribute [go_sem] vsPV okC_vs roL_vs cA_vs
def visFrom (start stay : Int) : Nat → List Int → List Vis
  | _, [] => []
  | k, s :: r => ⟨start + (k : Int) * stay, start + (k : Int) * stay + stay - 1, s⟩ :: visFrom start stay (k + 1) r
def visOf (c : City) (b : Band) (start : Int) : List Vis := visFrom start b.stay 0 (sqs c b).1
theorem walkSq_len (st : List (Int × Int)) : ∀ (l : List Int) (a : Int) (out : List Int), (walkSq st l a out).1.length ≤ out.length + l.length := by
  intro l
  induction l with
  | nil => intro a out; simp [walkSq]
  | cons n r ih =>
    intro a out
    simp only [walkSq]
    split
    · simp
    · split
      · simp
      · rename_i s _
        split
        · have := ih s.2 (out ++ [s.2]); simp at this ⊢; omega
        · split
          · have := ih s.1 (out ++ [s.1]); simp at this ⊢; omega
          · simp
theorem sqs_len (c : City) (b : Band) : (sqs c b).1.length ≤ 13 ∧ (sqs c b).1.length ≤ b.path.length + 1 := by
  unfold sqs
  split
  · simp
  · split
    · simp
    · have := walkSq_len c.town.streets b.path b.first [b.first]
      simp at this
      constructor <;> omega
theorem visFrom_len (start stay : Int) : ∀ (l : List Int) (k : Nat), (visFrom start stay k l).length = l.length := by
  intro l
  induction l with
  | nil => intro k; rfl
  | cons s r ih => intro k; simp [visFrom, ih]
def Vis.Ok (v : Vis) : Prop := -2 ^ 41 ≤ v.lo ∧ v.lo ≤ 2 ^ 41 ∧ -2 ^ 41 ≤ v.hi ∧ v.hi ≤ 2 ^ 41
theorem visFrom_ok {start stay : Int} (h1 : -2 ^ 40 ≤ start) (h2 : start ≤ 2 ^ 40) (h3 : 0 ≤ stay) (h4 : stay ≤ 1000) : ∀ (l : List Int) (k : Nat), k + l.length ≤ 1000 → ∀ v, v ∈ visFrom start stay k l → v.Ok := by
  intro l
  induction l with
  | nil => intro k _ v hv; simp [visFrom] at hv
  | cons s r ih =>
    intro k hk v hv
    simp only [visFrom, List.mem_cons] at hv
    simp at hk
    rcases hv with rfl | hv
    · have := mul_bd (a := (k : Int)) (b := stay) (A := 1000) (B := 1000) (by omega) (by omega) h3 h4
      refine ⟨?_, ?_, ?_, ?_⟩ <;> simp only [] <;> omega
    · exact ih (k + 1) (by omega) v hv
set_option maxHeartbeats 2000000 in
theorem visits_pc (Y : YEnv) (σ : Sg) (ct : City) (b : Band) (start : Int) (hc : ct.Ok) (hb : b.path.length < 2 ^ 50) (h1 : -2 ^ 40 ≤ start) (h2 : start ≤ 2 ^ 40) (h3 : 0 ≤ b.stay) (h4 : b.stay ≤ 1000) :
  PC Tryz.prog Y 91 [ctPV ct, bdPV b, I start] σ (.isl ((visOf ct b start).map vsPV) .ro) (σ) := by
 refine PC_of_W Tryz.func91 rfl (by kernel_rfl) Tryz.ntmps91 (by simp) fun hcl hca => ?_
 have hl := sqs_len ct b
 refine W_seq fun kz1 kq1 => ?_
 refine W_region [2, 3, 4] fun R hR => ?_
 simp only [go_sem]
 refine hR _ _ (kq1 _ _ ?_); clear hR R; try clear kq1 kz1
 try simp only [go_sem]
 refine W_seq fun kz2 kq2 => ?_
 refine W_region [2, 4, 7] fun R hR => ?_
 simp only [go_sem]
 refine GCall_of (squares_pc Y _ ct b hc hb) ?_
 simp only [go_sem]
 refine hR _ _ (kq2 _ _ ?_); clear hR R; try clear kq2 kz2
 try simp only [go_sem]
 refine W_seq fun kz3 kq3 => ?_
 refine W_region [2, 4, 7, 9] fun R hR => ?_
 simp only [go_sem]
 refine hR _ _ (kq3 _ _ ?_); clear hR R; try clear kq3 kz3
 try simp only [go_sem]
 refine W_seq fun kz4 kq4 => ?_
 refine W_seq fun kz5 kq5 => ?_
 refine W_region [2, 4, 9, 19, 20, 21] fun R hR => ?_
 simp only [go_sem]
 refine hR _ _ (kq5 _ _ ?_); clear hR R; try clear kq5 kz5
 try simp only [go_sem]
 refine W_block ?_
 refine W_weak (Weak.room (t := 9) (es := 3) rfl (by simp)) ?_
 refine W_weak (Weak.keep [2, 4, 9, 19, 20, 21]) ?_
 simp only [go_sem]
 refine W_loopT (α := Nat × (List Vis)) (fun ⟨i, out⟩ => [(9, .isl (out.map vsPV) (.tok σ.rooms.length out.length 3)), (21, I i)]) (fun ⟨i, out⟩ => σ.ext [some (ctCells ct), some (bdCells b)] [out.length]) (fun ⟨i, out⟩ => i ≤ (sqs ct b).1.length ∧ out.length = i ∧ visOf ct b start = out ++ visFrom start b.stay i ((sqs ct b).1.drop i)) (fun ⟨i, out⟩ => (sqs ct b).1.length - i) ((0, [])) rfl (by first | rfl | (simp only [go_sem]; done) | (simp only [go_sem]; rfl)) (⟨Nat.zero_le _, rfl, rfl⟩) ?_
 rintro ⟨i, out⟩ ⟨hi, ho, hinv⟩
 have hm := mul_bd (a := (i : Int)) (b := b.stay) (A := 13) (B := 1000) (by omega) (by omega) h3 h4
 refine W_seq fun kz6 kq6 => ?_
 refine W_region [2, 4, 9, 19, 20, 21, 22] fun R hR => ?_
 simp only [go_sem]
 refine hR _ _ (kq6 _ _ ?_); clear hR R; try clear kq6 kz6
 try simp only [go_sem]
 refine W_seq fun kz7 kq7 => ?_
 refine W_cond rfl (fun c1 => ?_) (fun c1 => ?_)
 ·
  try simp only [nrm] at c1
  have hi' : i < (sqs ct b).1.length := by first | assumption | omega
  obtain ⟨s, hx⟩ : ∃ s, (sqs ct b).1[i]? = some s := ⟨(sqs ct b).1[i], by simp [hi']⟩
  have hdrop : (sqs ct b).1.drop i = s :: (sqs ct b).1.drop (i + 1) := by
   rw [List.drop_eq_getElem_cons hi']; congr 1; exact (List.getElem?_eq_some_iff.1 hx).2
  rw [hdrop] at hinv
  simp only [visFrom] at hinv
  refine W_skip (kq7 _ _ ?_)
  refine W_seq fun kz8 kq8 => ?_
  refine W_block ?_
  refine W_seq fun kz9 kq9 => ?_
  refine W_region [2, 4, 9, 10, 11, 19, 20, 21] fun R hR => ?_
  simp only [go_sem, hx]
  refine hR _ _ (kq9 _ _ ?_); clear hR R; try clear kq9 kz9
  try simp only [go_sem, hx]
  refine W_seq fun kz10 kq10 => ?_
  refine W_region [2, 4, 9, 11, 12, 19, 20, 21] fun R hR => ?_
  simp only [go_sem, hx]
  try simp (disch := omega) only [wrapI]
  refine hR _ _ (kq10 _ _ ?_); clear hR R; try clear kq10 kz10
  try simp only [go_sem, hx]
  refine W_region [2, 4, 9, 19, 20, 21] fun R hR => ?_
  simp only [go_sem, hx]
  simp (disch := first | omega | (simp only [go_sem] <;> omega)) only [wrapI, appX_exact, appX_tok]
  try simp only [go_sem, hx]
  refine hR _ _ (kq8 _ _ ?_); clear hR R; try clear kq8 kz8
  try simp only [go_sem, hx]
  refine W_region [2, 4, 9, 19, 20, 21] fun R hR => ?_
  simp only [go_sem, hx]
  try simp (disch := omega) only [wrapI]
  refine hR _ _ ?_; clear hR R
  try simp only [go_sem, hx]
  refine ⟨(i + 1, out ++ [⟨start + (i : Int) * b.stay, start + (i : Int) * b.stay + b.stay - 1, s⟩]), ?_, by (try simp only []); omega, ?_⟩
  ·first | exact Weak.refl | exact Weak.eq (by first | rfl | (simp only [go_sem]; done) | (simp only [go_sem]; rfl) | (simp [go_sem]; done) | (simp [go_sem]; omega)) (by first | rfl | (simp only [go_sem]; done) | (simp [go_sem]; done))
  ·try dsimp only
   exact ⟨hi', by simp [ho], by rw [hinv]; simp⟩
 ·
  try simp only [nrm] at c1
  have hdrop : (sqs ct b).1.drop i = [] := List.drop_eq_nil_of_le (by omega)
  rw [hdrop] at hinv
  simp only [visFrom, List.append_nil] at hinv
  refine W_exit ?_
  simp only [go_sem]
  refine kq4 _ _ ?_
  refine W_seq fun kz11 kq11 => ?_
  refine W_region [6] fun R hR => ?_
  simp only [go_sem]
  refine hR _ _ (kq11 _ _ ?_); clear hR R; try clear kq11 kz11
  try simp only [go_sem]
  refine W_ret ?_
  simp only [go_sem]
  refine ⟨.inr (by trivial), ?_⟩
  refine Fin_same hcl rfl (Wk.ro (by simp only [go_sem]) ?_)
  try simp only [go_sem]
  all_goals
   rw [hinv]
def nearOf (brk : Int) (a b : Vis) : Bool :=
  if a.sq ≠ b.sq then false else if b.lo < a.lo then (decide (a.lo ≤ b.hi) || decide (a.lo - (b.hi + 1) < brk)) else (decide (b.lo ≤ a.hi) || decide (b.lo - (a.hi + 1) < brk))
set_option maxHeartbeats 2000000 in
theorem near_pc (Y : YEnv) (σ : Sg) (ct : City) (a b : Vis) (ha : a.Ok) (hb : b.Ok) :
  PC Tryz.prog Y 92 [ctPV ct, vsPV a, vsPV b] σ (.bool (nearOf ct.brk a b)) (σ) := by
 refine PC_of_W Tryz.func92 rfl (by kernel_rfl) Tryz.ntmps92 (by simp) fun hcl hca => ?_
 obtain ⟨ha1, ha2, ha3, ha4⟩ := ha
 obtain ⟨hb1, hb2, hb3, hb4⟩ := hb
 refine W_seq fun kz1 kq1 => ?_
 refine W_region [3, 4, 5] fun R hR => ?_
 simp only [go_sem]
 refine hR _ _ (kq1 _ _ ?_); clear hR R; try clear kq1 kz1
 try simp only [go_sem]
 refine W_seq fun kz2 kq2 => ?_
 refine W_seq fun kz3 kq3 => ?_
 refine W_region [3, 4, 5, 11] fun R hR => ?_
 simp only [go_sem]
 refine hR _ _ (kq3 _ _ ?_); clear hR R; try clear kq3 kz3
 try simp only [go_sem]
 refine W_cond rfl (fun c1 => ?_) (fun c1 => ?_)
 ·
  try simp only [nrm] at c1
  refine W_seq fun kz4 kq4 => ?_
  refine W_region [6] fun R hR => ?_
  simp only [go_sem]
  refine hR _ _ (kq4 _ _ ?_); clear hR R; try clear kq4 kz4
  try simp only [go_sem]
  refine W_ret ?_
  simp only [go_sem]
  refine ⟨.inr (by trivial), ?_⟩
  first | refine Fin_same hcl rfl (Wk_eq ?_ (by simp only [go_sem])) | refine Fin_self hcl rfl (Wk_eq ?_ (by simp only [go_sem]))
  try simp only [go_sem]
  all_goals
   simp only [nearOf, ite_not]; (repeat' split) <;> first | rfl | omega | (simp; omega) | (simp_all; done) | (simp_all; omega)
 ·
  try simp only [nrm] at c1
  refine W_skip (kq2 _ _ ?_)
  refine W_seq fun kz5 kq5 => ?_
  refine W_seq fun kz6 kq6 => ?_
  refine W_region [3, 4, 5, 18] fun R hR => ?_
  simp only [go_sem]
  refine hR _ _ (kq6 _ _ ?_); clear hR R; try clear kq6 kz6
  try simp only [go_sem]
  refine W_cond rfl (fun c2 => ?_) (fun c2 => ?_)
  ·
   try simp only [nrm] at c2
   refine W_region [3, 4, 5] fun R hR => ?_
   simp only [go_sem]
   refine hR _ _ (kq5 _ _ ?_); clear hR R; try clear kq5 kz5
   try simp only [go_sem]
   refine W_seq fun kz7 kq7 => ?_
   refine W_region [6] fun R hR => ?_
   simp only [go_sem]
   refine GWant_split (fun g1 => ?_) (fun g1 => ?_)
   ·try simp only [Bool.not_eq_true', Bool.not_eq_false'] at g1
    have n1 := g1; try simp only [nrm] at n1
    simp only [go_sem, g1]
    try simp (disch := omega) only [wrapI]
    refine hR _ _ (kq7 _ _ ?_); clear hR R; try clear kq7 kz7
    try simp only [go_sem]
    refine W_ret ?_
    simp only [go_sem]
    refine ⟨.inr (by trivial), ?_⟩
    first | refine Fin_same hcl rfl (Wk_eq ?_ (by simp only [go_sem])) | refine Fin_self hcl rfl (Wk_eq ?_ (by simp only [go_sem]))
    try simp only [go_sem]
    all_goals
     simp only [nearOf, ite_not]; (repeat' split) <;> first | rfl | omega | (simp; omega) | (simp_all; done) | (simp_all; omega)
   ·try simp only [Bool.not_eq_true', Bool.not_eq_false'] at g1
    have n1 := g1; try simp only [nrm] at n1
    simp only [go_sem, g1]
    try simp (disch := omega) only [wrapI]
    refine hR _ _ (kq7 _ _ ?_); clear hR R; try clear kq7 kz7
    try simp only [go_sem]
    refine W_ret ?_
    simp only [go_sem]
    refine ⟨.inr (by trivial), ?_⟩
    first | refine Fin_same hcl rfl (Wk_eq ?_ (by simp only [go_sem])) | refine Fin_self hcl rfl (Wk_eq ?_ (by simp only [go_sem]))
    try simp only [go_sem]
    all_goals
     simp only [nearOf, ite_not]; (repeat' split) <;> first | rfl | omega | (simp; omega) | (simp_all; done) | (simp_all; omega)
  ·
   try simp only [nrm] at c2
   refine W_skip (kq5 _ _ ?_)
   refine W_seq fun kz8 kq8 => ?_
   refine W_region [6] fun R hR => ?_
   simp only [go_sem]
   refine GWant_split (fun g2 => ?_) (fun g2 => ?_)
   ·try simp only [Bool.not_eq_true', Bool.not_eq_false'] at g2
    have n2 := g2; try simp only [nrm] at n2
    simp only [go_sem, g2]
    try simp (disch := omega) only [wrapI]
    refine hR _ _ (kq8 _ _ ?_); clear hR R; try clear kq8 kz8
    try simp only [go_sem]
    refine W_ret ?_
    simp only [go_sem]
    refine ⟨.inr (by trivial), ?_⟩
    first | refine Fin_same hcl rfl (Wk_eq ?_ (by simp only [go_sem])) | refine Fin_self hcl rfl (Wk_eq ?_ (by simp only [go_sem]))
    try simp only [go_sem]
    all_goals
     simp only [nearOf, ite_not]; (repeat' split) <;> first | rfl | omega | (simp; omega) | (simp_all; done) | (simp_all; omega)
   ·try simp only [Bool.not_eq_true', Bool.not_eq_false'] at g2
    have n2 := g2; try simp only [nrm] at n2
    simp only [go_sem, g2]
    try simp (disch := omega) only [wrapI]
    refine hR _ _ (kq8 _ _ ?_); clear hR R; try clear kq8 kz8
    try simp only [go_sem]
    refine W_ret ?_
    simp only [go_sem]
    refine ⟨.inr (by trivial), ?_⟩
    first | refine Fin_same hcl rfl (Wk_eq ?_ (by simp only [go_sem])) | refine Fin_self hcl rfl (Wk_eq ?_ (by simp only [go_sem]))
    try simp only [go_sem]
    all_goals
     simp only [nearOf, ite_not]; (repeat' split) <;> first | rfl | omega | (simp; omega) | (simp_all; done) | (simp_all; omega)
/-- The second band's visits, against one of the first band. -/
def crIn (brk : Int) (pa pb : List Int) (i : Nat) (v : Vis) : Nat → List Vis → Bool
  | _, [] => false
  | k, w :: r => if nearOf brk v w = true then true else if 0 < i ∧ 0 < k ∧ v.lo = w.lo ∧ pa[i - 1]? = pb[k - 1]? then true else crIn brk pa pb i v (k + 1) r
def crOut (brk : Int) (pa pb : List Int) (two : List Vis) : Nat → List Vis → Bool
  | _, [] => false
  | i, v :: r => if crIn brk pa pb i v 0 two = true then true else crOut brk pa pb two (i + 1) r
def crossing (c : City) (a b : Band) (m n : Int) : Bool := crOut c.brk a.path b.path (visOf c b n) 0 (visOf c a m)
set_option maxHeartbeats 2000000 in
theorem crosses_pc (Y : YEnv) (σ : Sg) (ct : City) (a b : Band) (m n : Int) (hc : ct.Ok) (ha : a.path.length < 2 ^ 50) (hb : b.path.length < 2 ^ 50) (h1 : -2 ^ 40 ≤ m) (h2 : m ≤ 2 ^ 40) (h3 : 0 ≤ a.stay) (h4 : a.stay ≤ 1000)
  (h5 : -2 ^ 40 ≤ n) (h6 : n ≤ 2 ^ 40) (h7 : 0 ≤ b.stay) (h8 : b.stay ≤ 1000) :
  PC Tryz.prog Y 69 [ctPV ct, bdPV a, bdPV b, I m, I n] σ (.bool (crossing ct a b m n)) (σ) := by
 refine PC_of_W Tryz.func69 rfl (by kernel_rfl) Tryz.ntmps69 (by simp) fun hcl hca => ?_
 have la := sqs_len ct a
 have lb := sqs_len ct b
 obtain ⟨one, hone⟩ : ∃ l, l = visOf ct a m := ⟨_, rfl⟩
 obtain ⟨two, htwo⟩ : ∃ l, l = visOf ct b n := ⟨_, rfl⟩
 have lo : one.length = (sqs ct a).1.length := by rw [hone]; exact visFrom_len ..
 have lt : two.length = (sqs ct b).1.length := by rw [htwo]; exact visFrom_len ..
 have oo : ∀ v, v ∈ one → v.Ok := by rw [hone]; exact visFrom_ok h1 h2 h3 h4 _ _ (by omega)
 have ot : ∀ v, v ∈ two → v.Ok := by rw [htwo]; exact visFrom_ok h5 h6 h7 h8 _ _ (by omega)
 rw [show crossing ct a b m n = crOut ct.brk a.path b.path two 0 one by rw [hone, htwo]; rfl]
 obtain ⟨res, hres⟩ : ∃ r, crOut ct.brk a.path b.path two 0 one = r := ⟨_, rfl⟩
 rw [hres]
 refine W_seq fun kz1 kq1 => ?_
 refine W_region [3, 4, 5, 6, 7] fun R hR => ?_
 simp only [go_sem]
 refine hR _ _ (kq1 _ _ ?_); clear hR R; try clear kq1 kz1
 try simp only [go_sem]
 refine W_seq fun kz2 kq2 => ?_
 refine W_draw [5, 6, 7, 11, 12] [0, 1, 2, 3, 4, 5, 6, 7, 8, 9] [(4, 3), (5, 3), (6, 3)] [[], [], [], [0, 1, 2], [], [], [], [0, 1, 2, 3, 4, 5, 6], [0, 1, 2, 3, 4, 5, 6, 7], [0, 1, 2, 3, 4, 5, 6, 7, 8]] mixed (by kernel_rfl) fun R hR => ?_
 simp only [go_sem]
 refine GCall_of (PC.val (v' := .isl (one.map vsPV) .ro) (visits_pc Y _ ct a m hc ha h1 h2 h3 h4) (by rw [hone])) ?_
 simp only [go_sem]
 refine GCall_of (PC.val (v' := .isl (two.map vsPV) .ro) (visits_pc Y _ ct b n hc hb h5 h6 h7 h8) (by rw [htwo])) ?_
 simp only [go_sem]
 refine hR _ _ (kq2 _ _ ?_); clear hR R; try clear kq2 kz2
 try simp only [go_sem]
 refine W_seq fun kz3 kq3 => ?_
 refine W_seq fun kz4 kq4 => ?_
 refine W_region [5, 6, 7, 12, 25, 26, 27] fun R hR => ?_
 simp only [go_sem]
 refine hR _ _ (kq4 _ _ ?_); clear hR R; try clear kq4 kz4
 try simp only [go_sem]
 refine W_block ?_
 refine W_loopS (α := Nat) (fun (i : Nat) => [(27, I i)]) (fun (i : Nat) => i ≤ one.length ∧ res = crOut ct.brk a.path b.path two i (one.drop i)) (fun (i : Nat) => one.length - i) (0) rfl (⟨Nat.zero_le _, hres.symm⟩) ?_
 rintro i ⟨hi, hinv⟩
 refine W_seq fun kz5 kq5 => ?_
 refine W_region [5, 6, 7, 12, 25, 26, 27, 28] fun R hR => ?_
 simp only [go_sem]
 refine hR _ _ (kq5 _ _ ?_); clear hR R; try clear kq5 kz5
 try simp only [go_sem]
 refine W_seq fun kz6 kq6 => ?_
 refine W_cond rfl (fun c1 => ?_) (fun c1 => ?_)
 ·
  try simp only [nrm] at c1
  have hi' : i < one.length := by first | assumption | omega
  obtain ⟨v, hx⟩ : ∃ v, one[i]? = some v := ⟨one[i], by simp [hi']⟩
  have hdrop : one.drop i = v :: one.drop (i + 1) := by
   rw [List.drop_eq_getElem_cons hi']; congr 1; exact (List.getElem?_eq_some_iff.1 hx).2
  rw [hdrop] at hinv
  simp only [crOut] at hinv
  refine W_skip (kq6 _ _ ?_)
  refine W_seq fun kz7 kq7 => ?_
  refine W_block ?_
  refine W_seq fun kz8 kq8 => ?_
  refine W_region [5, 6, 7, 12, 13, 14, 25, 26, 27] fun R hR => ?_
  simp only [go_sem, hx]
  refine hR _ _ (kq8 _ _ ?_); clear hR R; try clear kq8 kz8
  try simp only [go_sem, hx]
  refine W_seq fun kz9 kq9 => ?_
  refine W_region [5, 6, 7, 12, 13, 14, 25, 26, 27, 32, 33, 34] fun R hR => ?_
  simp only [go_sem, hx]
  refine hR _ _ (kq9 _ _ ?_); clear hR R; try clear kq9 kz9
  try simp only [go_sem, hx]
  refine W_block ?_
  refine W_loopS (α := Nat) (fun (k : Nat) => [(34, I k)]) (fun (k : Nat) => k ≤ two.length ∧ crIn ct.brk a.path b.path i v 0 two = crIn ct.brk a.path b.path i v k (two.drop k)) (fun (k : Nat) => two.length - k) (0) rfl (⟨Nat.zero_le _, rfl⟩) ?_
  rintro k ⟨hk, hin⟩
  refine W_seq fun kz10 kq10 => ?_
  refine W_region [5, 6, 7, 12, 13, 14, 25, 26, 27, 32, 33, 34, 35] fun R hR => ?_
  simp only [go_sem, hx]
  refine hR _ _ (kq10 _ _ ?_); clear hR R; try clear kq10 kz10
  try simp only [go_sem, hx]
  refine W_seq fun kz11 kq11 => ?_
  refine W_cond rfl (fun c2 => ?_) (fun c2 => ?_)
  ·
   try simp only [nrm] at c2
   have hk' : k < two.length := by first | assumption | omega
   obtain ⟨w, hy⟩ : ∃ w, two[k]? = some w := ⟨two[k], by simp [hk']⟩
   have hdrop2 : two.drop k = w :: two.drop (k + 1) := by
    rw [List.drop_eq_getElem_cons hk']; congr 1; exact (List.getElem?_eq_some_iff.1 hy).2
   rw [hdrop2] at hin
   simp only [crIn] at hin
   refine W_skip (kq11 _ _ ?_)
   refine W_seq fun kz12 kq12 => ?_
   refine W_block ?_
   refine W_seq fun kz13 kq13 => ?_
   refine W_region [5, 6, 7, 12, 13, 14, 15, 16, 25, 26, 27, 32, 33, 34] fun R hR => ?_
   simp only [go_sem, hx, hy]
   refine hR _ _ (kq13 _ _ ?_); clear hR R; try clear kq13 kz13
   try simp only [go_sem, hx, hy]
   refine W_seq fun kz14 kq14 => ?_
   refine W_seq fun kz15 kq15 => ?_
   refine W_region [5, 6, 7, 12, 13, 14, 15, 16, 25, 26, 27, 32, 33, 34, 42] fun R hR => ?_
   simp only [go_sem, hx, hy]
   refine GCall_of (near_pc Y _ ct v w (oo v (List.mem_of_getElem? hx)) (ot w (List.mem_of_getElem? hy))) ?_
   simp only [go_sem, hx, hy]
   refine hR _ _ (kq15 _ _ ?_); clear hR R; try clear kq15 kz15
   try simp only [go_sem, hx, hy]
   refine W_cond rfl (fun c3 => ?_) (fun c3 => ?_)
   ·
    try simp only [nrm] at c3
    refine W_seq fun kz16 kq16 => ?_
    refine W_region [10] fun R hR => ?_
    simp only [go_sem, hx, hy]
    refine hR _ _ (kq16 _ _ ?_); clear hR R; try clear kq16 kz16
    try simp only [go_sem, hx, hy]
    refine W_ret ?_
    simp only [go_sem, hx, hy]
    refine ⟨.inr (by trivial), ?_⟩
    first | refine Fin_same hcl rfl (Wk_eq ?_ (by simp only [go_sem])) | refine Fin_self hcl rfl (Wk_eq ?_ (by simp only [go_sem]))
    try simp only [go_sem]
    all_goals
     first | rfl | (simp_all; done) | (simp_all; omega)
   ·
    try simp only [nrm] at c3
    refine W_skip (kq14 _ _ ?_)
    refine W_seq fun kz17 kq17 => ?_
    have hp1 : 0 < i → ∃ x, a.path[i - 1]? = some x := fun h => ⟨a.path[i - 1]'(by omega), by simp⟩
    have hp2 : 0 < k → ∃ x, b.path[k - 1]? = some x := fun h => ⟨b.path[k - 1]'(by omega), by simp⟩
    refine W_draw [5, 6, 7, 12, 13, 14, 25, 26, 27, 32, 33, 34, 72] [0, 1, 2, 3, 4, 5, 6, 7, 8, 9, 10, 11, 12, 13, 14, 15, 16, 17, 18, 19, 20, 21, 22, 23, 24, 25, 26, 27, 28, 29] [] [[], [0], [0, 1], [0, 1, 2], [0, 1, 2, 3], [0, 1, 2, 3, 4], [0, 1, 2, 3, 4, 5], [0, 1, 2, 3, 4, 5, 6], [0, 1, 2, 3, 4, 5, 6, 7], [0, 1, 2, 3, 4, 5, 6, 7, 8], [0, 1, 2, 3, 4, 5, 6], [0, 1, 2, 3, 4, 5, 6, 10], [0, 1, 2, 3, 4, 5, 6, 10, 11], [0, 1, 2, 3, 4, 5, 6, 7, 8, 9, 10, 11, 12], [0, 1, 2, 3, 4, 5, 6, 7, 8, 9, 10, 11, 12, 13], [0, 1, 2, 3, 4, 5, 6, 7, 8, 9, 10, 11, 12, 13, 14], [0, 1, 2, 3, 4, 5, 6, 7, 8, 9, 10, 11, 12, 13, 14, 15], [0, 1, 2, 3, 4, 5, 6, 7, 8, 9, 10, 11, 12, 13, 14, 15, 16], [0, 1, 2, 3, 4, 5, 6, 7, 8, 9, 10, 11, 12, 13, 14, 15], [0, 1, 2, 3, 4, 5, 6, 7, 8, 9, 10, 11, 12, 13, 14, 15, 18], [0, 1, 2, 3, 4, 5, 6, 7, 8, 9, 10, 11, 12, 13, 14, 15, 16, 17, 18, 19], [0, 1, 2, 3, 4, 5, 6, 7, 8, 9, 10, 11, 12, 13, 14, 15, 16, 17, 18, 19, 20], [0, 1, 2, 3, 4, 5, 6, 7, 8, 9, 10, 11, 12, 13, 14, 15], [0, 1, 2, 3, 4, 5, 6, 7, 8, 9, 10, 11, 12, 13, 14, 15, 22], [0, 1, 2, 3, 4, 5, 6, 7, 8, 9, 10, 11, 12, 13, 14, 15], [0, 1, 2, 3, 4, 5, 6, 7, 8, 9, 10, 11, 12, 13, 14, 15, 24], [0, 1, 2, 3, 4, 5, 6, 7, 8, 9, 10, 11, 12, 13, 14, 15, 22, 23, 24, 25], [0, 1, 2, 3, 4, 5, 6, 7, 8, 9, 10, 11, 12, 13, 14, 15, 22, 23, 24, 25, 26], [0, 1, 2, 3, 4, 5, 6, 7, 8, 9, 10, 11, 12, 13, 14, 15, 16, 17, 18, 19, 20, 21, 22, 23, 24, 25, 26, 27], [0, 1, 2, 3, 4, 5, 6, 7, 8, 9, 10, 11, 12, 13, 14, 15, 16, 17, 18, 19, 20, 21, 22, 23, 24, 25, 26, 27, 28]] mixed (by kernel_rfl) fun R hR => ?_
    simp only [go_sem, hx, hy]
    refine GWant_split (fun g1 => ?_) (fun g1 => ?_)
    ·try simp only [Bool.not_eq_true', Bool.not_eq_false'] at g1
     have n1 := g1; try simp only [nrm] at n1
     simp only [go_sem, hx, hy, g1]
     refine GWant_split (fun g2 => ?_) (fun g2 => ?_)
     ·try simp only [Bool.not_eq_true', Bool.not_eq_false'] at g2
      have n2 := g2; try simp only [nrm] at n2
      simp only [go_sem, hx, hy, g2]
      refine GWant_split (fun g3 => ?_) (fun g3 => ?_)
      ·try simp only [Bool.not_eq_true', Bool.not_eq_false'] at g3
       have n3 := g3; try simp only [nrm] at n3
       obtain ⟨x1, hx1⟩ := hp1 (by omega)
       obtain ⟨y1, hy1⟩ := hp2 (by omega)
       have e1 : ((i : Int) - 1).toNat = i - 1 := by omega
       have e2 : ((k : Int) - 1).toNat = k - 1 := by omega
       have e3 : (0 : Int) ≤ (i : Int) - 1 := by omega
       have e4 : (0 : Int) ≤ (k : Int) - 1 := by omega
       have w1 : IntKind.i64.wrap ((i : Int) - 1) = (i : Int) - 1 := wrapI (by omega) (by omega)
       have w2 : IntKind.i64.wrap ((k : Int) - 1) = (k : Int) - 1 := wrapI (by omega) (by omega)
       simp only [go_sem, hx, hy, w1, w2, e1, e2, e3, e4, hx1, hy1, g3]
       try simp (disch := omega) only [wrapI]
       refine hR _ _ (kq17 _ _ ?_); clear hR R; try clear kq17 kz17
       try simp only [go_sem, hx, hy, w1, w2, e1, e2, e3, e4, hx1, hy1]
       refine W_cond rfl (fun c4 => ?_) (fun c4 => ?_)
       ·
        try simp only [nrm] at c4
        refine W_seq fun kz18 kq18 => ?_
        refine W_region [10] fun R hR => ?_
        simp only [go_sem, hx, hy, w1, w2, e1, e2, e3, e4, hx1, hy1]
        refine hR _ _ (kq18 _ _ ?_); clear hR R; try clear kq18 kz18
        try simp only [go_sem, hx, hy, w1, w2, e1, e2, e3, e4, hx1, hy1]
        refine W_ret ?_
        simp only [go_sem, hx, hy, w1, w2, e1, e2, e3, e4, hx1, hy1]
        refine ⟨.inr (by trivial), ?_⟩
        first | refine Fin_same hcl rfl (Wk_eq ?_ (by simp only [go_sem])) | refine Fin_self hcl rfl (Wk_eq ?_ (by simp only [go_sem]))
        try simp only [go_sem]
        all_goals
         first | rfl | (simp_all; done) | (simp_all; omega)
       ·
        try simp only [nrm] at c4
        refine W_skip (kq12 _ _ ?_)
        refine W_region [5, 6, 7, 12, 13, 14, 25, 26, 27, 32, 33, 34] fun R hR => ?_
        simp only [go_sem, hx, hy, w1, w2, e1, e2, e3, e4, hx1, hy1]
        try simp (disch := omega) only [wrapI]
        refine hR _ _ ?_; clear hR R
        try simp only [go_sem, hx, hy, w1, w2, e1, e2, e3, e4, hx1, hy1]
        refine ⟨k + 1, ?_, by (try simp only []); omega, ?_⟩
        ·refine Weak.trans (Weak.cutX 4 0 (by omega) (by omega) hcl (by simp only [go_sem]) (by simp only [go_sem] <;> omega)) ?_
         simp only [go_sem]
         exact Weak.eq (by first | rfl | (simp only [go_sem]; done) | (simp only [go_sem]; rfl) | (simp [go_sem]; done) | (simp [go_sem]; omega)) (by first | rfl | (simp only [go_sem]; done) | (simp [go_sem]; done))
        ·try dsimp only
         refine ⟨hk', ?_⟩
         rw [hin, if_neg (by simp [c3]), if_neg (by first | omega | (rw [hx1, hy1]; intro h; simp at h; omega))]
      ·try simp only [Bool.not_eq_true', Bool.not_eq_false'] at g3
       have n3 := g3; try simp only [nrm] at n3
       simp only [go_sem, hx, hy, g3]
       try simp (disch := omega) only [wrapI]
       refine hR _ _ (kq17 _ _ ?_); clear hR R; try clear kq17 kz17
       try simp only [go_sem, hx, hy]
       refine W_cond_false rfl ?_
       refine W_skip (kq12 _ _ ?_)
       refine W_region [5, 6, 7, 12, 13, 14, 25, 26, 27, 32, 33, 34] fun R hR => ?_
       simp only [go_sem, hx, hy]
       try simp (disch := omega) only [wrapI]
       refine hR _ _ ?_; clear hR R
       try simp only [go_sem, hx, hy]
       refine ⟨k + 1, ?_, by (try simp only []); omega, ?_⟩
       ·refine Weak.trans (Weak.cutX 4 0 (by omega) (by omega) hcl (by simp only [go_sem]) (by simp only [go_sem] <;> omega)) ?_
        simp only [go_sem]
        exact Weak.eq (by first | rfl | (simp only [go_sem]; done) | (simp only [go_sem]; rfl) | (simp [go_sem]; done) | (simp [go_sem]; omega)) (by first | rfl | (simp only [go_sem]; done) | (simp [go_sem]; done))
       ·try dsimp only
        refine ⟨hk', ?_⟩
        rw [hin, if_neg (by simp [c3]), if_neg (by first | omega | (rw [hx1, hy1]; intro h; simp at h; omega))]
     ·try simp only [Bool.not_eq_true', Bool.not_eq_false'] at g2
      have n2 := g2; try simp only [nrm] at n2
      simp only [go_sem, hx, hy, g2]
      try simp (disch := omega) only [wrapI]
      refine hR _ _ (kq17 _ _ ?_); clear hR R; try clear kq17 kz17
      try simp only [go_sem, hx, hy]
      refine W_cond_false rfl ?_
      refine W_skip (kq12 _ _ ?_)
      refine W_region [5, 6, 7, 12, 13, 14, 25, 26, 27, 32, 33, 34] fun R hR => ?_
      simp only [go_sem, hx, hy]
      try simp (disch := omega) only [wrapI]
      refine hR _ _ ?_; clear hR R
      try simp only [go_sem, hx, hy]
      refine ⟨k + 1, ?_, by (try simp only []); omega, ?_⟩
      ·refine Weak.trans (Weak.cutX 4 0 (by omega) (by omega) hcl (by simp only [go_sem]) (by simp only [go_sem] <;> omega)) ?_
       simp only [go_sem]
       exact Weak.eq (by first | rfl | (simp only [go_sem]; done) | (simp only [go_sem]; rfl) | (simp [go_sem]; done) | (simp [go_sem]; omega)) (by first | rfl | (simp only [go_sem]; done) | (simp [go_sem]; done))
      ·try dsimp only
       refine ⟨hk', ?_⟩
       rw [hin, if_neg (by simp [c3]), if_neg (by first | omega | (rw [hx1, hy1]; intro h; simp at h; omega))]
    ·try simp only [Bool.not_eq_true', Bool.not_eq_false'] at g1
     have n1 := g1; try simp only [nrm] at n1
     simp only [go_sem, hx, hy, g1]
     try simp (disch := omega) only [wrapI]
     refine hR _ _ (kq17 _ _ ?_); clear hR R; try clear kq17 kz17
     try simp only [go_sem, hx, hy]
     refine W_cond_false rfl ?_
     refine W_skip (kq12 _ _ ?_)
     refine W_region [5, 6, 7, 12, 13, 14, 25, 26, 27, 32, 33, 34] fun R hR => ?_
     simp only [go_sem, hx, hy]
     try simp (disch := omega) only [wrapI]
     refine hR _ _ ?_; clear hR R
     try simp only [go_sem, hx, hy]
     refine ⟨k + 1, ?_, by (try simp only []); omega, ?_⟩
     ·refine Weak.trans (Weak.cutX 4 0 (by omega) (by omega) hcl (by simp only [go_sem]) (by simp only [go_sem] <;> omega)) ?_
      simp only [go_sem]
      exact Weak.eq (by first | rfl | (simp only [go_sem]; done) | (simp only [go_sem]; rfl) | (simp [go_sem]; done) | (simp [go_sem]; omega)) (by first | rfl | (simp only [go_sem]; done) | (simp [go_sem]; done))
     ·try dsimp only
      refine ⟨hk', ?_⟩
      rw [hin, if_neg (by simp [c3]), if_neg (by first | omega | (rw [hx1, hy1]; intro h; simp at h; omega))]
  ·
   try simp only [nrm] at c2
   have hdrop2 : two.drop k = [] := List.drop_eq_nil_of_le (by omega)
   rw [hdrop2] at hin
   simp only [crIn] at hin
   have hinner := hin
   refine W_exit ?_
   simp only [go_sem, hx]
   refine kq7 _ _ ?_
   refine W_region [5, 6, 7, 12, 25, 26, 27] fun R hR => ?_
   simp only [go_sem, hx]
   try simp (disch := omega) only [wrapI]
   refine hR _ _ ?_; clear hR R
   try simp only [go_sem, hx]
   refine ⟨i + 1, ?_, by (try simp only []); omega, ?_⟩
   ·refine Weak.trans (Weak.cutX 3 0 (by omega) (by omega) hcl (by simp only [go_sem]) (by simp only [go_sem] <;> omega)) ?_
    simp only [go_sem]
    exact Weak.eq (by first | rfl | (simp only [go_sem]; done) | (simp only [go_sem]; rfl) | (simp [go_sem]; done) | (simp [go_sem]; omega)) (by first | rfl | (simp only [go_sem]; done) | (simp [go_sem]; done))
   ·try dsimp only
    exact ⟨hi', by rw [hinv, if_neg (by simp [hinner])]⟩
 ·
  try simp only [nrm] at c1
  have hdrop : one.drop i = [] := List.drop_eq_nil_of_le (by omega)
  rw [hdrop] at hinv
  simp only [crOut] at hinv
  refine W_exit ?_
  simp only [go_sem]
  refine kq3 _ _ ?_
  refine W_seq fun kz19 kq19 => ?_
  refine W_region [10] fun R hR => ?_
  simp only [go_sem]
  refine hR _ _ (kq19 _ _ ?_); clear hR R; try clear kq19 kz19
  try simp only [go_sem]
  refine W_ret ?_
  simp only [go_sem]
  refine ⟨.inr (by trivial), ?_⟩
  first | refine Fin_same hcl rfl (Wk_eq ?_ (by simp only [go_sem])) | refine Fin_self hcl rfl (Wk_eq ?_ (by simp only [go_sem]))
  try simp only [go_sem]
  all_goals
   first | rfl | (simp_all; done) | (simp_all; omega)
end Go.Proofs.YteklodljdndcoaaGreatDoor
namespace Go.Proofs.YteklodljdndcoaaGreatDoor
open Go Go.RowKit
set_option maxRecDepth 100000
theorem timesOf_ok {b : Band} (h : timesOf b = 0) : 0 ≤ b.lo ∧ b.lo ≤ b.hi ∧ b.hi ≤ 720 ∧ b.hi - b.lo ≤ 30 ∧ 1 ≤ b.stay ∧ b.stay ≤ 120 ∧ 0 ≤ b.people ∧ b.people ≤ 1000000 ∧ b.hi + b.stay * ((b.path.length : Int) + 1) ≤ 720 := by
  unfold timesOf at h
  split at h <;> try (simp at h; done)
  split at h <;> try (simp at h; done)
  split at h <;> try (simp at h; done)
  split at h <;> try (simp at h; done)
  split at h <;> try (simp at h; done)
  split at h <;> try (simp at h; done)
  split at h <;> try (simp at h; done)
  simp only [Bool.not_eq_false, inR_true] at *
  omega
theorem chkBand_ok {c : City} {b : Band} (h : chkBand c b = 0) : (sqs c b).2 = 0 ∧ timesOf b = 0 := by
  unfold chkBand at h
  split at h
  · exact absurd h ‹_›
  · exact ⟨by simp_all, h⟩
theorem chkBands_ok {c : City} : ∀ {l : List Band}, chkBands c l = 0 → ∀ b, b ∈ l → chkBand c b = 0 := by
  intro l
  induction l with
  | nil => intro _ b hb; cases hb
  | cons a l ih =>
    intro h b hb
    simp only [chkBands] at h
    split at h
    · exact absurd h ‹_›
    · rcases List.mem_cons.1 hb with rfl | hb
      · simp_all
      · exact ih h b hb
theorem askedOf_ok {c : City} {l : List Band} (h : askedOf c l = 0) : chkCity c = 0 ∧ chkBands c l = 0 := by
  unfold askedOf at h
  split at h
  · exact absurd h ‹_›
  · exact ⟨by simp_all, h⟩
theorem chkAll_ok {c : City} {l : List Band} (h : chkAll c l = 0) : chkCity c = 0 ∧ l.length ≤ 10 ∧ chkBands c l = 0 := by
  unfold chkAll at h
  split at h
  · exact absurd h ‹_›
  · split at h
    · simp at h
    · exact ⟨by simp_all, by omega, h⟩
/-- What is asked of two bands' cross. -/
def crossVal (c : City) (a b : Band) : Int := crossOf (crossing c a b) a.lo a.hi b.lo b.hi
def crossAns (c : City) (a b : Band) : Int × Int := if askedOf c [a, b] ≠ 0 then (0, askedOf c [a, b]) else (crossVal c a b, 0)
theorem bcross_pc (Y : YEnv) (σ : Sg) (ct : City) (a b : Band) (hc : ct.Ok) (ha : a.path.length < 2 ^ 50) (hb : b.path.length < 2 ^ 50) (ta : timesOf a = 0) (tb : timesOf b = 0) :
    PC Tryz.prog Y 46 [ctPV ct, bdPV a, bdPV b] σ (I (crossVal ct a b)) σ := by
  obtain ⟨a1, a2, a3, a4, a5, a6, a7, a8, a9⟩ := timesOf_ok ta
  obtain ⟨b1, b2, b3, b4, b5, b6, b7, b8, b9⟩ := timesOf_ok tb
  exact cross_pc (crossing ct a b) (ints ct.town.rooms) (.isl (ct.town.streets.map stPV) .ro) (.isl (ct.town.groups.map grPV) .ro) (I ct.town.steps) (I ct.brk) (ints ct.sleep) (I a.first) (ints a.path) (I a.stay) (I a.people) (I b.first) (ints b.path) (I b.stay) (I b.people) a.lo a.hi b.lo b.hi
    (by omega) (by omega) (by omega) (by omega) (by omega) (by omega)
    (fun Y σ i j h1 h2 h3 h4 => crosses_pc Y σ ct a b i j hc ha hb (by omega) (by omega) (by omega) (by omega) (by omega) (by omega) (by omega) (by omega)) Y σ
set_option maxHeartbeats 2000000 in
theorem bCross_pc (Y : YEnv) (σ : Sg) (ct : City) (a b : Band) (hc : ct.Ok) (ha : a.path.length < 2 ^ 50) (hb : b.path.length < 2 ^ 50) :
  PC Tryz.prog Y 19 [ctPV ct, bdPV a, bdPV b] σ (.tuple [I (crossAns ct a b).1, I (crossAns ct a b).2]) (σ) := by
 refine PC_of_W Tryz.func19 rfl (by kernel_rfl) Tryz.ntmps19 (by simp) fun hcl hca => ?_
 refine W_seq fun kz1 kq1 => ?_
 refine W_region [3, 4, 5] fun R hR => ?_
 simp only [go_sem]
 refine hR _ _ (kq1 _ _ ?_); clear hR R; try clear kq1 kz1
 try simp only [go_sem]
 refine W_seq fun kz2 kq2 => ?_
 refine W_seq fun kz3 kq3 => ?_
 refine W_region [3, 4, 5, 8] fun R hR => ?_
 simp only [go_sem]
 refine GCall_of (PC.ofRo (asked_pc Y _ ct [a, b] hc ⟨by simp, fun x hx => by simp at hx; rcases hx with rfl | rfl <;> assumption⟩) (by simp only [go_sem] <;> rfl)) ?_
 simp only [go_sem]
 refine hR _ _ (kq3 _ _ ?_); clear hR R; try clear kq3 kz3
 try simp only [go_sem]
 refine W_seq fun kz4 kq4 => ?_
 refine W_region [3, 4, 5, 8, 15] fun R hR => ?_
 simp only [go_sem]
 refine hR _ _ (kq4 _ _ ?_); clear hR R; try clear kq4 kz4
 try simp only [go_sem]
 refine W_cond rfl (fun c1 => ?_) (fun c1 => ?_)
 ·
  try simp only [nrm] at c1
  refine W_seq fun kz5 kq5 => ?_
  refine W_region [6, 7] fun R hR => ?_
  simp only [go_sem]
  refine hR _ _ (kq5 _ _ ?_); clear hR R; try clear kq5 kz5
  try simp only [go_sem]
  refine W_ret ?_
  simp only [go_sem]
  refine ⟨.inr (by trivial), ?_⟩
  first | refine Fin_same hcl rfl (Wk_eq ?_ (by simp only [go_sem])) | refine Fin_self hcl rfl (Wk_eq ?_ (by simp only [go_sem]))
  try simp only [go_sem]
  all_goals
   simp [crossAns, c1]
 ·
  try simp only [nrm] at c1
  have tc : timesOf a = 0 ∧ timesOf b = 0 := by
   have h := chkBands_ok (askedOf_ok c1).2
   exact ⟨(chkBand_ok (h a (by simp))).2, (chkBand_ok (h b (by simp))).2⟩
  refine W_skip (kq2 _ _ ?_)
  refine W_seq fun kz6 kq6 => ?_
  refine W_region [6, 7] fun R hR => ?_
  simp only [go_sem]
  refine GCall_of (bcross_pc Y _ ct a b hc ha hb tc.1 tc.2) ?_
  simp only [go_sem]
  refine hR _ _ (kq6 _ _ ?_); clear hR R; try clear kq6 kz6
  try simp only [go_sem]
  refine W_ret ?_
  simp only [go_sem]
  refine ⟨.inr (by trivial), ?_⟩
  first | refine Fin_same hcl rfl (Wk_eq ?_ (by simp only [go_sem])) | refine Fin_self hcl rfl (Wk_eq ?_ (by simp only [go_sem]))
  try simp only [go_sem]
  all_goals
   simp [crossAns, c1]
/-- In minute t of the night, may a band be in a square? Its k-th visits are looked at, from k on. -/
def hFrom (b : Band) (sq : Int) (t : Int) : Nat → List Int → Bool
  | _, [] => false
  | k, s :: r => (decide (s = sq) && decide (b.lo + (k : Int) * b.stay ≤ t) && decide (t ≤ b.hi + (k : Int) * b.stay + b.stay - 1)) || hFrom b sq t (k + 1) r
def heardB (c : City) (b : Band) (sq : Int) (t : Int) : Bool := hFrom b sq t 0 (sqs c b).1
def loudAt (c : City) (l : List Band) (sq : Int) (t : Int) : Bool := l.any fun b => heardB c b sq t
/-- The minutes of a night. -/
def tab (f : Int → Bool) : List PV := (List.range 720).map fun t : Nat => .bool (f t)
theorem tab_len (f : Int → Bool) : (tab f).length = 720 := by simp [tab]
theorem tab_get (f : Int → Bool) {t : Nat} (h : t < 720) : (tab f)[t]? = some (.bool (f t)) := by simp [tab, h]
theorem tab_set (f : Int → Bool) {t : Nat} (h : t < 720) : (tab f).set t (.bool true) = tab fun s => f s || decide (s = (t : Int)) := by
  refine List.ext_getElem? fun i => ?_
  rw [List.getElem?_set]
  by_cases hi : i < 720
  · by_cases ht : t = i
    · subst ht; rw [if_pos rfl, if_pos (by rw [tab_len]; exact h), tab_get (fun s => f s || decide (s = (t : Int))) hi]; simp
    · rw [if_neg ht, tab_get (fun s => f s || decide (s = (t : Int))) hi, tab_get f hi]
      have : decide ((i : Int) = (t : Int)) = false := by simp; omega
      simp only [this, Bool.or_false]
  · rw [List.getElem?_eq_none (l := tab fun s => f s || decide (s = (t : Int))) (by rw [tab_len]; omega)]
    rw [if_neg (by omega), List.getElem?_eq_none (by rw [tab_len]; omega)]
theorem tab_none : List.replicate 720 (PV.bool false) = tab fun _ => false := by
  refine List.ext_getElem? fun i => ?_
  rw [List.getElem?_replicate]
  by_cases hi : i < 720
  · rw [if_pos hi, tab_get (fun _ => false) hi]
  · rw [if_neg hi, List.getElem?_eq_none (by rw [tab_len]; omega)]
theorem clean_tab {a b c : Nat} (f : Int → Bool) : CleanAll a b c (tab f) = True := eq_true fun p hp => by
  unfold tab at hp
  obtain ⟨t, _, rfl⟩ := List.mem_map.1 hp
  exact .bool _
theorem put_tab (f : Int → Bool) (t : Nat) : putCells (tab f) t [PV.bool true] = (tab f).set t (.bool true) := by simp [putCells]
attribute [go_sem] clean_tab tab_len
theorem visFrom_get (start stay : Int) : ∀ (l : List Int) (k i : Nat), (visFrom start stay k l)[i]? = (l[i]?).map fun s => ⟨start + ((k + i : Nat) : Int) * stay, start + ((k + i : Nat) : Int) * stay + stay - 1, s⟩ := by
  intro l
  induction l with
  | nil => intro k i; simp [visFrom]
  | cons s r ih =>
    intro k i
    cases i with
    | zero => simp [visFrom]
    | succ i =>
      simp only [visFrom, List.getElem?_cons_succ]
      rw [ih]
      rw [show k + 1 + i = k + (i + 1) by omega]
end Go.Proofs.YteklodljdndcoaaGreatDoor
namespace Go.Proofs.YteklodljdndcoaaGreatDoor
open Go Go.RowKit
set_option maxRecDepth 100000
theorem rep_tab : rep 720 (PV.bool false) = tab fun _ => false := tab_none
theorem tab_put (h : Int → Bool) {m : Int} (h0 : 0 ≤ m) (h1 : m < 720) : putCells (tab h) m.toNat [PV.bool true] = tab fun s => h s || decide (s = m) := by
  rw [put_tab, tab_set h (by omega), Int.toNat_of_nonneg h0]
theorem putCells_full : ∀ (ds cs : List PV), cs.length = ds.length → putCells cs 0 ds = ds := by
  have key : ∀ (ds cs pre : List PV), cs.length = ds.length → putCells (pre ++ cs) pre.length ds = pre ++ ds := by
    intro ds
    induction ds with
    | nil => intro cs pre h; cases cs <;> simp_all [putCells]
    | cons d ds ih =>
      intro cs pre h
      cases cs with
      | nil => simp at h
      | cons c cs =>
        simp only [putCells]
        have e : (pre ++ c :: cs).set pre.length d = (pre ++ [d]) ++ cs := by simp [List.set_append]
        rw [e]
        have := ih cs (pre ++ [d]) (by simpa using h)
        simp only [List.length_append, List.length_cons, List.length_nil, Nat.zero_add] at this
        rw [this]
        simp
  intro ds cs h
  exact key ds cs [] h
theorem put_full (f g : Int → Bool) : putCells (tab f) 0 (tab g) = tab g := putCells_full _ _ (by rw [tab_len, tab_len])
theorem tab_take (f : Int → Bool) : (tab f).take 720 = tab f := List.take_of_length_le (by rw [tab_len]; omega)
theorem tab_scalar (f : Int → Bool) : (tab f).all PV.scalar = true := by
  rw [List.all_eq_true]
  intro p hp
  unfold tab at hp
  obtain ⟨t, _, rfl⟩ := List.mem_map.1 hp
  rfl
attribute [go_sem] rep_tab put_full tab_take tab_scalar
theorem hFrom_snoc (b : Band) (sq t s : Int) : ∀ (l : List Int) (k : Nat), hFrom b sq t k (l ++ [s]) =
    (hFrom b sq t k l || (decide (s = sq) && decide (b.lo + ((k + l.length : Nat) : Int) * b.stay ≤ t) && decide (t ≤ b.hi + ((k + l.length : Nat) : Int) * b.stay + b.stay - 1))) := by
  intro l
  induction l with
  | nil => intro k; simp [hFrom]
  | cons a r ih =>
    intro k
    simp only [List.cons_append, hFrom, List.length_cons]
    rw [ih, show k + 1 + r.length = k + (r.length + 1) by omega, Bool.or_assoc]
theorem take_snoc {α : Type} {l : List α} {i : Nat} {x : α} (h : l[i]? = some x) : l.take (i + 1) = l.take i ++ [x] := by
  rw [List.take_add_one, h]; rfl
theorem loudAt_snoc (c : City) (l : List Band) (b : Band) (sq t : Int) : loudAt c (l ++ [b]) sq t = (loudAt c l sq t || heardB c b sq t) := by simp [loudAt]
set_option maxHeartbeats 2000000 in
theorem loudness_pc (Y : YEnv) (σ : Sg) (ct : City) (l : List Band) (sq : Int) (hc : ct.Ok) (hl : BandsOk l) (hv : ∀ b, b ∈ l → chkBand ct b = 0) :
  PC Tryz.prog Y 70 [ctPV ct, bands l, I sq] σ (.agg (tab fun t => loudAt ct l sq t)) (σ) := by
 refine PC_of_W Tryz.func70 rfl (by kernel_rfl) Tryz.ntmps70 (by simp) fun hcl hca => ?_
 have hl1 := hl.1
 have hl2 := hl.2
 refine W_seq fun kz1 kq1 => ?_
 refine W_region [1, 2, 3, 6] fun R hR => ?_
 simp only [go_sem, rep_tab]
 refine hR _ _ (kq1 _ _ ?_); clear hR R; try clear kq1 kz1
 try simp only [go_sem, rep_tab]
 refine W_seq fun kz2 kq2 => ?_
 refine W_region [1, 2, 3, 6, 7] fun R hR => ?_
 simp only [go_sem, rep_tab]
 refine hR _ _ (kq2 _ _ ?_); clear hR R; try clear kq2 kz2
 try simp only [go_sem, rep_tab]
 refine W_seq fun kz3 kq3 => ?_
 refine W_seq fun kz4 kq4 => ?_
 refine W_region [2, 3, 6, 7, 15, 16, 17] fun R hR => ?_
 simp only [go_sem, rep_tab]
 refine hR _ _ (kq4 _ _ ?_); clear hR R; try clear kq4 kz4
 try simp only [go_sem, rep_tab]
 refine W_block ?_
 refine W_loopT (α := Nat × (Int → Bool)) (fun ⟨i, f⟩ => [(17, I i)]) (fun ⟨i, f⟩ => σ.ext [some (ctCells ct), some (tab fun _ => false), some (tab f)] []) (fun ⟨i, f⟩ => i ≤ l.length ∧ ∀ t, f t = loudAt ct (l.take i) sq t) (fun ⟨i, f⟩ => l.length - i) ((0, fun _ => false)) rfl (by first | rfl | (simp only [go_sem]; done) | (simp only [go_sem]; rfl)) (⟨Nat.zero_le _, fun t => rfl⟩) ?_
 rintro ⟨i, f⟩ ⟨hi, hf⟩
 refine W_seq fun kz5 kq5 => ?_
 refine W_region [2, 3, 6, 7, 15, 16, 17, 18] fun R hR => ?_
 simp only [go_sem, rep_tab]
 refine hR _ _ (kq5 _ _ ?_); clear hR R; try clear kq5 kz5
 try simp only [go_sem, rep_tab]
 refine W_seq fun kz6 kq6 => ?_
 refine W_cond rfl (fun c1 => ?_) (fun c1 => ?_)
 ·
  try simp only [nrm] at c1
  have hi' : i < l.length := by first | assumption | omega
  obtain ⟨b, hx⟩ : ∃ b, l[i]? = some b := ⟨l[i], by simp [hi']⟩
  have hdrop : l.drop i = b :: l.drop (i + 1) := by
   rw [List.drop_eq_getElem_cons hi']; congr 1; exact (List.getElem?_eq_some_iff.1 hx).2
  have hbl : b ∈ l := List.mem_of_getElem? hx
  have htk := take_snoc hx
  obtain ⟨b1, b2, b3, b4, b5, b6, b7, b8, b9⟩ := timesOf_ok (chkBand_ok (hv b hbl)).2
  have hsl := sqs_len ct b
  have hp := hl2 b hbl
  have hlf : (visOf ct b b.lo).length = (sqs ct b).1.length := visFrom_len ..
  refine W_skip (kq6 _ _ ?_)
  refine W_seq fun kz7 kq7 => ?_
  refine W_block ?_
  refine W_seq fun kz8 kq8 => ?_
  refine W_region [2, 3, 6, 7, 9, 15, 16, 17] fun R hR => ?_
  simp only [go_sem, rep_tab, hx]
  refine hR _ _ (kq8 _ _ ?_); clear hR R; try clear kq8 kz8
  try simp only [go_sem, rep_tab, hx]
  refine W_seq fun kz9 kq9 => ?_
  refine W_draw [2, 3, 6, 7, 10, 11, 15, 16, 17] [0, 1, 2, 3, 4, 5, 6, 7, 8, 9, 10, 11, 12, 13] [(6, 5), (7, 5), (8, 5), (9, 5), (10, 5)] [[], [], [], [2], [2, 3], [0, 1, 2, 3, 4], [], [], [], [8], [8, 9], [0, 1, 2, 3, 4, 5, 6, 7, 8, 9, 10], [0, 1, 2, 3, 4, 5, 6, 7, 8, 9, 10, 11], [0, 1, 2, 3, 4, 5, 6, 7, 8, 9, 10, 11, 12]] mixed (by kernel_rfl) fun R hR => ?_
  simp only [go_sem, rep_tab, hx]
  refine GCall_of (visits_pc Y _ ct b b.lo hc hp (by omega) (by omega) (by omega) (by omega)) ?_
  simp only [go_sem, rep_tab, hx]
  refine GCall_of (visits_pc Y _ ct b b.hi hc hp (by omega) (by omega) (by omega) (by omega)) ?_
  simp only [go_sem, rep_tab, hx]
  refine hR _ _ (kq9 _ _ ?_); clear hR R; try clear kq9 kz9
  try simp only [go_sem, rep_tab, hx]
  refine W_seq fun kz10 kq10 => ?_
  refine W_region [2, 3, 6, 7, 11, 15, 16, 17, 33, 34, 35] fun R hR => ?_
  simp only [go_sem, rep_tab, hx]
  refine hR _ _ (kq10 _ _ ?_); clear hR R; try clear kq10 kz10
  try simp only [go_sem, rep_tab, hx]
  refine W_block ?_
  refine W_loopT (α := Nat × (Int → Bool)) (fun ⟨k, g⟩ => [(35, I k)]) (fun ⟨k, g⟩ => σ.ext [some (ctCells ct), some (tab fun _ => false), some (tab g), some (bdCells b)] []) (fun ⟨k, g⟩ => k ≤ (sqs ct b).1.length ∧ ∀ t, g t = (f t || hFrom b sq t 0 ((sqs ct b).1.take k))) (fun ⟨k, g⟩ => (sqs ct b).1.length - k) ((0, f)) rfl (by first | rfl | (simp only [go_sem]; done) | (simp only [go_sem]; rfl)) (⟨Nat.zero_le _, fun t => by simp [hFrom]⟩) ?_
  rintro ⟨k, g⟩ ⟨hk, hg⟩
  refine W_seq fun kz11 kq11 => ?_
  refine W_region [2, 3, 6, 7, 11, 15, 16, 17, 33, 34, 35, 36] fun R hR => ?_
  simp only [go_sem, rep_tab, hx]
  refine hR _ _ (kq11 _ _ ?_); clear hR R; try clear kq11 kz11
  try simp only [go_sem, rep_tab, hx]
  refine W_seq fun kz12 kq12 => ?_
  refine W_cond rfl (fun c2 => ?_) (fun c2 => ?_)
  ·
   try simp only [nrm] at c2
   have hk' : k < (visOf ct b b.lo).length := by first | assumption | omega
   obtain ⟨s, hs⟩ : ∃ s, (sqs ct b).1[k]? = some s := ⟨(sqs ct b).1[k]'(by omega), by simp⟩
   have htk2 := take_snoc hs
   have hy : (visOf ct b b.lo)[k]? = some ⟨b.lo + (k : Int) * b.stay, b.lo + (k : Int) * b.stay + b.stay - 1, s⟩ := by unfold visOf; rw [visFrom_get, hs]; simp
   have hz : (visOf ct b b.hi)[k]? = some ⟨b.hi + (k : Int) * b.stay, b.hi + (k : Int) * b.stay + b.stay - 1, s⟩ := by unfold visOf; rw [visFrom_get, hs]; simp
   have hmu := mul_bd (a := (k : Int)) (b := b.stay) (A := 13) (B := 120) (by omega) (by omega) (by omega) (by omega)
   have hm9 : (k : Int) * b.stay + b.stay ≤ b.stay * ((b.path.length : Int) + 1) := by
    have := Int.mul_le_mul_of_nonneg_right (show (k : Int) + 1 ≤ (b.path.length : Int) + 1 by omega) (show 0 ≤ b.stay by omega)
    rw [Int.add_mul, Int.one_mul] at this
    rw [Int.mul_comm b.stay]
    exact this
   refine W_skip (kq12 _ _ ?_)
   refine W_seq fun kz13 kq13 => ?_
   refine W_block ?_
   refine W_seq fun kz14 kq14 => ?_
   refine W_region [2, 3, 6, 7, 11, 12, 13, 15, 16, 17, 33, 34, 35] fun R hR => ?_
   simp only [go_sem, rep_tab, hx, hy]
   refine hR _ _ (kq14 _ _ ?_); clear hR R; try clear kq14 kz14
   try simp only [go_sem, rep_tab, hx, hy]
   refine W_seq fun kz15 kq15 => ?_
   refine W_region [2, 3, 6, 7, 11, 12, 13, 14, 15, 16, 17, 33, 34, 35] fun R hR => ?_
   simp only [go_sem, rep_tab, hx, hy]
   refine hR _ _ (kq15 _ _ ?_); clear hR R; try clear kq15 kz15
   try simp only [go_sem, rep_tab, hx, hy]
   refine W_block ?_
   refine W_loopT (α := Int × (Int → Bool)) (fun ⟨m, h⟩ => [(14, I m)]) (fun ⟨m, h⟩ => σ.ext [some (ctCells ct), some (tab fun _ => false), some (tab h), some (bdCells b), some [I (b.lo + (k : Int) * b.stay), I (b.lo + (k : Int) * b.stay + b.stay - 1), I s]] []) (fun ⟨m, h⟩ => b.lo + (k : Int) * b.stay ≤ m ∧ m ≤ b.hi + (k : Int) * b.stay + b.stay ∧ ∀ t, h t = (g t || (decide (s = sq) && decide (b.lo + (k : Int) * b.stay ≤ t) && decide (t < m)))) (fun ⟨m, h⟩ => (b.hi + (k : Int) * b.stay + b.stay - m).toNat) ((b.lo + (k : Int) * b.stay, g)) rfl (by first | rfl | (simp only [go_sem]; done) | (simp only [go_sem]; rfl)) (⟨Int.le_refl _, by (try dsimp only); omega, fun t => by simp; omega⟩) ?_
   rintro ⟨m, h⟩ ⟨hm1, hm2, hh⟩
   refine W_seq fun kz16 kq16 => ?_
   refine W_seq fun kz17 kq17 => ?_
   refine W_region [2, 3, 6, 7, 11, 12, 13, 14, 15, 16, 17, 33, 34, 35, 56] fun R hR => ?_
   simp only [go_sem, rep_tab, hx, hy, hz]
   refine GWant_split (fun g1 => ?_) (fun g1 => ?_)
   ·try simp only [Bool.not_eq_true', Bool.not_eq_false'] at g1
    have n1 := g1; try simp only [nrm] at n1
    simp only [go_sem, rep_tab, hx, hy, hz, g1]
    refine hR _ _ (kq17 _ _ ?_); clear hR R; try clear kq17 kz17
    try simp only [go_sem, rep_tab, hx, hy, hz]
    refine W_cond rfl (fun c3 => ?_) (fun c3 => ?_)
    ·
     try simp only [nrm] at c3
     refine W_skip (kq16 _ _ ?_)
     refine W_seq fun kz18 kq18 => ?_
     refine W_block ?_
     have hmx0 : 0 ≤ m := by omega
     have hmx1 : m < 720 := by omega
     have hmx2 : m.toNat + 1 ≤ 720 := by omega
     refine W_region [2, 3, 6, 7, 11, 12, 13, 14, 15, 16, 17, 33, 34, 35] fun R hR => ?_
     simp only [go_sem, rep_tab, hx, hy, hz, hmx0, hmx1, hmx2, tab_put h hmx0 hmx1, Nat.mul_one]
     refine hR _ _ (kq18 _ _ ?_); clear hR R; try clear kq18 kz18
     try simp only [go_sem, rep_tab, hx, hy, hz]
     refine W_region [2, 3, 6, 7, 11, 12, 13, 14, 15, 16, 17, 33, 34, 35] fun R hR => ?_
     simp only [go_sem, rep_tab, hx, hy, hz]
     try simp (disch := omega) only [wrapI]
     refine hR _ _ ?_; clear hR R
     try simp only [go_sem, rep_tab, hx, hy, hz]
     refine ⟨(m + 1, fun t => h t || decide (t = m)), ?_, by (try simp only []); omega, ?_⟩
     ·first | exact Weak.refl | exact Weak.eq (by first | rfl | (simp only [go_sem]; done) | (simp only [go_sem]; rfl) | (simp [go_sem]; done) | (simp [go_sem]; omega)) (by first | rfl | (simp only [go_sem]; done) | (simp [go_sem]; done))
     ·try dsimp only
      exact ⟨by omega, by omega, fun t => by rw [hh]; rw [Bool.eq_iff_iff]; cases g t <;> simp [c3] <;> omega⟩
    ·
     try simp only [nrm] at c3
     refine W_exit ?_
     simp only [go_sem, rep_tab, hx, hy, hz]
     refine kq13 _ _ ?_
     refine W_region [2, 3, 6, 7, 11, 15, 16, 17, 33, 34, 35] fun R hR => ?_
     simp only [go_sem, rep_tab, hx, hy, hz]
     try simp (disch := omega) only [wrapI]
     refine hR _ _ ?_; clear hR R
     try simp only [go_sem, rep_tab, hx, hy, hz]
     refine ⟨(k + 1, h), ?_, by (try simp only []); omega, ?_⟩
     ·refine Weak.trans (Weak.cutX 4 0 (by omega) (by omega) hcl (by simp only [go_sem]) (by simp only [go_sem] <;> omega)) ?_
      simp only [go_sem]
      exact Weak.eq (by first | rfl | (simp only [go_sem]; done) | (simp only [go_sem]; rfl) | (simp [go_sem]; done) | (simp [go_sem]; omega)) (by first | rfl | (simp only [go_sem]; done) | (simp [go_sem]; done))
     ·try dsimp only
      refine ⟨by omega, fun t => ?_⟩
      rw [htk2, hFrom_snoc, ← Bool.or_assoc, ← hg, hh]
      have e : 0 + ((sqs ct b).1.take k).length = k := by simp; omega
      rw [e]
      congr 1
      rw [Bool.and_assoc, Bool.and_assoc]
      by_cases hss : s = sq
      ·rw [decide_eq_true hss]
       rw [Bool.eq_iff_iff]; simp; omega
      ·rw [decide_eq_false hss]; rfl
   ·try simp only [Bool.not_eq_true', Bool.not_eq_false'] at g1
    have n1 := g1; try simp only [nrm] at n1
    simp only [go_sem, rep_tab, hx, hy, hz, g1]
    refine hR _ _ (kq17 _ _ ?_); clear hR R; try clear kq17 kz17
    try simp only [go_sem, rep_tab, hx, hy, hz]
    refine W_cond_false rfl ?_
    refine W_exit ?_
    simp only [go_sem, rep_tab, hx, hy, hz]
    refine kq13 _ _ ?_
    refine W_region [2, 3, 6, 7, 11, 15, 16, 17, 33, 34, 35] fun R hR => ?_
    simp only [go_sem, rep_tab, hx, hy, hz]
    try simp (disch := omega) only [wrapI]
    refine hR _ _ ?_; clear hR R
    try simp only [go_sem, rep_tab, hx, hy, hz]
    refine ⟨(k + 1, h), ?_, by (try simp only []); omega, ?_⟩
    ·refine Weak.trans (Weak.cutX 4 0 (by omega) (by omega) hcl (by simp only [go_sem]) (by simp only [go_sem] <;> omega)) ?_
     simp only [go_sem]
     exact Weak.eq (by first | rfl | (simp only [go_sem]; done) | (simp only [go_sem]; rfl) | (simp [go_sem]; done) | (simp [go_sem]; omega)) (by first | rfl | (simp only [go_sem]; done) | (simp [go_sem]; done))
    ·try dsimp only
     refine ⟨by omega, fun t => ?_⟩
     rw [htk2, hFrom_snoc, ← Bool.or_assoc, ← hg, hh]
     have e : 0 + ((sqs ct b).1.take k).length = k := by simp; omega
     rw [e]
     congr 1
     rw [Bool.and_assoc, Bool.and_assoc]
     by_cases hss : s = sq
     ·rw [decide_eq_true hss]
      rw [Bool.eq_iff_iff]; simp; omega
     ·rw [decide_eq_false hss]; rfl
  ·
   try simp only [nrm] at c2
   have hke : k = (sqs ct b).1.length := by omega
   subst hke
   rw [List.take_length] at hg
   refine W_exit ?_
   simp only [go_sem, rep_tab, hx]
   refine kq7 _ _ ?_
   refine W_region [2, 3, 6, 7, 15, 16, 17] fun R hR => ?_
   simp only [go_sem, rep_tab, hx]
   try simp (disch := omega) only [wrapI]
   refine hR _ _ ?_; clear hR R
   try simp only [go_sem, rep_tab, hx]
   refine ⟨(i + 1, g), ?_, by (try simp only []); omega, ?_⟩
   ·refine Weak.trans (Weak.cutX 3 0 (by omega) (by omega) hcl (by simp only [go_sem]) (by simp only [go_sem] <;> omega)) ?_
    simp only [go_sem]
    exact Weak.eq (by first | rfl | (simp only [go_sem]; done) | (simp only [go_sem]; rfl) | (simp [go_sem]; done) | (simp [go_sem]; omega)) (by first | rfl | (simp only [go_sem]; done) | (simp [go_sem]; done))
   ·try dsimp only
    exact ⟨hi', fun t => by rw [hg, hf, htk, loudAt_snoc]; rfl⟩
 ·
  try simp only [nrm] at c1
  have hie : i = l.length := by omega
  subst hie
  rw [List.take_length] at hf
  refine W_exit ?_
  simp only [go_sem, rep_tab]
  refine kq3 _ _ ?_
  refine W_seq fun kz19 kq19 => ?_
  refine W_region [6] fun R hR => ?_
  simp only [go_sem, rep_tab]
  refine hR _ _ (kq19 _ _ ?_); clear hR R; try clear kq19 kz19
  try simp only [go_sem, rep_tab]
  refine W_ret ?_
  simp only [go_sem, rep_tab]
  refine ⟨.inr (by trivial), ?_⟩
  first | refine Fin_same hcl (by show resPV Tryz.prog _ _ [.cell 6 120] = some _; simp only [resPV, go_sem]; rfl) (Wk_eq ?_ (by simp only [go_sem])) | refine Fin_same hcl rfl (Wk_eq ?_ (by simp only [go_sem]))
  try simp only [go_sem]
  all_goals
   rw [show f = fun t => loudAt ct l sq t from funext hf]
end Go.Proofs.YteklodljdndcoaaGreatDoor
namespace Go.Proofs.YteklodljdndcoaaGreatDoor
open Go Go.RowKit
set_option maxRecDepth 100000
/-- The longest silent run so far: from, how many, and the run at work. -/
def slStep (f : Int → Bool) (t : Nat) (s : Int × Int × Int) : Int × Int × Int :=
  if s.2.1 < (if f t then 0 else s.2.2 + 1) then ((t : Int) - (if f t then 0 else s.2.2 + 1) + 1, (if f t then 0 else s.2.2 + 1), (if f t then 0 else s.2.2 + 1)) else (s.1, s.2.1, if f t then 0 else s.2.2 + 1)
def slRun (f : Int → Bool) : Nat → Int × Int × Int
  | 0 => (0, 0, 0)
  | t + 1 => slStep f t (slRun f t)
def sleepOf (f : Int → Bool) : Int × Int := ((slRun f 720).1, (slRun f 720).2.1)
theorem slRun_bd (f : Int → Bool) : ∀ t : Nat, 0 ≤ (slRun f t).1 ∧ (slRun f t).1 ≤ t ∧ 0 ≤ (slRun f t).2.1 ∧ (slRun f t).2.1 ≤ t ∧ 0 ≤ (slRun f t).2.2 ∧ (slRun f t).2.2 ≤ t := by
  intro t
  induction t with
  | zero => simp [slRun]
  | succ t ih =>
    rcases h : slRun f t with ⟨a, b, c⟩
    rw [h] at ih
    simp only [slRun, slStep, h]
    simp only at ih
    split <;> split <;> simp only [] <;> omega
set_option maxHeartbeats 2000000 in
theorem bsleep_pc (Y : YEnv) (σ : Sg) (ct : City) (l : List Band) (sq : Int) (hc : ct.Ok) (hl : BandsOk l) (hv : ∀ b, b ∈ l → chkBand ct b = 0) :
  PC Tryz.prog Y 48 [ctPV ct, bands l, I sq] σ (.tuple [I (sleepOf (loudAt ct l sq)).1, I (sleepOf (loudAt ct l sq)).2]) (σ) := by
 refine PC_of_W Tryz.func48 rfl (by kernel_rfl) Tryz.ntmps48 (by simp) fun hcl hca => ?_
 obtain ⟨f, hf⟩ : ∃ f, f = loudAt ct l sq := ⟨_, rfl⟩
 rw [← hf]
 refine W_seq fun kz1 kq1 => ?_
 refine W_region [1, 2, 3, 6, 7] fun R hR => ?_
 simp only [go_sem]
 refine hR _ _ (kq1 _ _ ?_); clear hR R; try clear kq1 kz1
 try simp only [go_sem]
 refine W_seq fun kz2 kq2 => ?_
 refine W_region [1, 2, 3, 6, 7, 8] fun R hR => ?_
 simp only [go_sem]
 refine hR _ _ (kq2 _ _ ?_); clear hR R; try clear kq2 kz2
 try simp only [go_sem]
 refine W_seq fun kz3 kq3 => ?_
 refine W_seq fun kz4 kq4 => ?_
 refine W_region [6, 7, 8, 14, 15] fun R hR => ?_
 simp only [go_sem]
 refine GCall_of (PC.val (v' := .agg (tab f)) (loudness_pc Y _ ct l sq hc hl hv) (by rw [hf])) ?_
 simp only [go_sem]
 refine hR _ _ (kq4 _ _ ?_); clear hR R; try clear kq4 kz4
 try simp only [go_sem]
 refine W_block ?_
 refine W_loopS (α := Nat × Int × Int × Int) (fun ⟨t, frm, many, run⟩ => [(6, I frm), (7, I many), (8, I run), (15, I t)]) (fun ⟨t, frm, many, run⟩ => t ≤ 720 ∧ slRun f t = (frm, many, run)) (fun ⟨t, frm, many, run⟩ => 720 - t) ((0, 0, 0, 0)) rfl (⟨Nat.zero_le _, rfl⟩) ?_
 rintro ⟨t, frm, many, run⟩ ⟨hi, hr⟩
 clear hf
 have hb := slRun_bd f t
 rw [hr] at hb
 dsimp only at hb
 obtain ⟨hb1, hb2, hb3, hb4, hb5, hb6⟩ := hb
 refine W_seq fun kz5 kq5 => ?_
 refine W_region [6, 7, 8, 14, 15, 16] fun R hR => ?_
 simp only [go_sem]
 refine hR _ _ (kq5 _ _ ?_); clear hR R; try clear kq5 kz5
 try simp only [go_sem]
 refine W_seq fun kz6 kq6 => ?_
 refine W_cond rfl (fun c1 => ?_) (fun c1 => ?_)
 ·
  try simp only [nrm] at c1
  have ht : t < 720 := by omega
  have hs : slRun f (t + 1) = slStep f t (frm, many, run) := by rw [← hr]; rfl
  have hz : (0 : Int) ≤ (t : Int) := by omega
  have hy : (t : Int) < 720 := by omega
  refine W_skip (kq6 _ _ ?_)
  refine W_seq fun kz7 kq7 => ?_
  refine W_block ?_
  refine W_seq fun kz8 kq8 => ?_
  refine W_region [6, 7, 8, 9, 10, 14, 15] fun R hR => ?_
  simp only [go_sem, hz, hy, ht, tab_get f ht]
  refine hR _ _ (kq8 _ _ ?_); clear hR R; try clear kq8 kz8
  try simp only [go_sem]
  refine W_seq fun kz9 kq9 => ?_
  refine W_region [6, 7, 8, 9, 10, 14, 15] fun R hR => ?_
  simp only [go_sem]
  try simp (disch := omega) only [wrapI]
  refine hR _ _ (kq9 _ _ ?_); clear hR R; try clear kq9 kz9
  try simp only [go_sem]
  refine W_seq fun kz10 kq10 => ?_
  refine W_seq fun kz11 kq11 => ?_
  refine W_region [6, 7, 8, 9, 14, 15, 21] fun R hR => ?_
  simp only [go_sem]
  refine hR _ _ (kq11 _ _ ?_); clear hR R; try clear kq11 kz11
  try simp only [go_sem]
  refine W_cond rfl (fun c2 => ?_) (fun c2 => ?_)
  ·
   try simp only [nrm] at c2
   refine W_region [6, 7, 8, 9, 14, 15] fun R hR => ?_
   simp only [go_sem]
   refine hR _ _ (kq10 _ _ ?_); clear hR R; try clear kq10 kz10
   try simp only [go_sem]
   refine W_seq fun kz12 kq12 => ?_
   refine W_region [6, 7, 8, 9, 14, 15, 24] fun R hR => ?_
   simp only [go_sem]
   refine hR _ _ (kq12 _ _ ?_); clear hR R; try clear kq12 kz12
   try simp only [go_sem]
   refine W_cond rfl (fun c3 => ?_) (fun c3 => ?_)
   ·
    try simp only [nrm] at c3
    exfalso
    omega
   ·
    try simp only [nrm] at c3
    refine W_skip (kq7 _ _ ?_)
    refine W_region [6, 7, 8, 14, 15] fun R hR => ?_
    simp only [go_sem]
    try simp (disch := omega) only [wrapI]
    refine hR _ _ ?_; clear hR R
    try simp only [go_sem]
    refine ⟨(t + 1, frm, many, 0), ?_, by (try simp only []); omega, ?_⟩
    ·first | exact Weak.refl | exact Weak.eq (by first | rfl | (simp only [go_sem]; done) | (simp only [go_sem]; rfl) | (simp [go_sem]; done) | (simp [go_sem]; omega)) (by first | rfl | (simp only [go_sem]; done) | (simp [go_sem]; done))
    ·try dsimp only
     refine ⟨by omega, ?_⟩
     rw [hs]
     simp [slStep, *]
     try omega
  ·
   try simp only [nrm] at c2
   refine W_skip (kq10 _ _ ?_)
   refine W_seq fun kz13 kq13 => ?_
   refine W_region [6, 7, 8, 9, 14, 15, 24] fun R hR => ?_
   simp only [go_sem]
   refine hR _ _ (kq13 _ _ ?_); clear hR R; try clear kq13 kz13
   try simp only [go_sem]
   refine W_cond rfl (fun c4 => ?_) (fun c4 => ?_)
   ·
    try simp only [nrm] at c4
    refine W_region [6, 7, 8, 14, 15] fun R hR => ?_
    simp only [go_sem]
    try simp (disch := omega) only [wrapI]
    refine hR _ _ (kq7 _ _ ?_); clear hR R; try clear kq7 kz7
    try simp only [go_sem]
    refine W_region [6, 7, 8, 14, 15] fun R hR => ?_
    simp only [go_sem]
    try simp (disch := omega) only [wrapI]
    refine hR _ _ ?_; clear hR R
    try simp only [go_sem]
    refine ⟨(t + 1, (t : Int) - (run + 1) + 1, run + 1, run + 1), ?_, by (try simp only []); omega, ?_⟩
    ·first | exact Weak.refl | exact Weak.eq (by first | rfl | (simp only [go_sem]; done) | (simp only [go_sem]; rfl) | (simp [go_sem]; done) | (simp [go_sem]; omega)) (by first | rfl | (simp only [go_sem]; done) | (simp [go_sem]; done))
    ·try dsimp only
     refine ⟨by omega, ?_⟩
     rw [hs]
     simp [slStep, *]
     try omega
   ·
    try simp only [nrm] at c4
    refine W_skip (kq7 _ _ ?_)
    refine W_region [6, 7, 8, 14, 15] fun R hR => ?_
    simp only [go_sem]
    try simp (disch := omega) only [wrapI]
    refine hR _ _ ?_; clear hR R
    try simp only [go_sem]
    refine ⟨(t + 1, frm, many, run + 1), ?_, by (try simp only []); omega, ?_⟩
    ·first | exact Weak.refl | exact Weak.eq (by first | rfl | (simp only [go_sem]; done) | (simp only [go_sem]; rfl) | (simp [go_sem]; done) | (simp [go_sem]; omega)) (by first | rfl | (simp only [go_sem]; done) | (simp [go_sem]; done))
    ·try dsimp only
     refine ⟨by omega, ?_⟩
     rw [hs]
     simp [slStep, *]
     try omega
 ·
  try simp only [nrm] at c1
  have hte : t = 720 := by omega
  subst hte
  refine W_exit ?_
  simp only [go_sem]
  refine kq3 _ _ ?_
  refine W_seq fun kz14 kq14 => ?_
  refine W_region [6, 7] fun R hR => ?_
  simp only [go_sem]
  refine hR _ _ (kq14 _ _ ?_); clear hR R; try clear kq14 kz14
  try simp only [go_sem]
  refine W_ret ?_
  simp only [go_sem]
  refine ⟨.inr (by trivial), ?_⟩
  first | refine Fin_same hcl rfl (Wk_eq ?_ (by simp only [go_sem])) | refine Fin_self hcl rfl (Wk_eq ?_ (by simp only [go_sem]))
  try simp only [go_sem]
  all_goals
   simp [sleepOf, hr]
def sleepAns (c : City) (l : List Band) (sq : Int) : Int × Int × Int :=
  if chkAll c l ≠ 0 then (0, 0, chkAll c l) else if inR sq 0 ((c.town.rooms.length : Int) - 1) = false then (0, 0, 7) else ((sleepOf (loudAt c l sq)).1, (sleepOf (loudAt c l sq)).2, 0)
set_option maxHeartbeats 2000000 in
theorem bSleep_pc (Y : YEnv) (σ : Sg) (ct : City) (l : List Band) (sq : Int) (hc : ct.Ok) (hl : BandsOk l) :
  PC Tryz.prog Y 21 [ctPV ct, bands l, I sq] σ (.tuple [I (sleepAns ct l sq).1, I (sleepAns ct l sq).2.1, I (sleepAns ct l sq).2.2]) (σ) := by
 refine PC_of_W Tryz.func21 rfl (by kernel_rfl) Tryz.ntmps21 (by simp) fun hcl hca => ?_
 have hr := hc.hr
 refine W_seq fun kz1 kq1 => ?_
 refine W_region [1, 2, 3] fun R hR => ?_
 simp only [go_sem]
 refine hR _ _ (kq1 _ _ ?_); clear hR R; try clear kq1 kz1
 try simp only [go_sem]
 refine W_seq fun kz2 kq2 => ?_
 refine W_seq fun kz3 kq3 => ?_
 refine W_region [1, 2, 3, 9] fun R hR => ?_
 simp only [go_sem]
 refine GCall_of (checkBands_pc Y _ ct l hc hl) ?_
 simp only [go_sem]
 refine hR _ _ (kq3 _ _ ?_); clear hR R; try clear kq3 kz3
 try simp only [go_sem]
 refine W_seq fun kz4 kq4 => ?_
 refine W_region [1, 2, 3, 9, 14] fun R hR => ?_
 simp only [go_sem]
 refine hR _ _ (kq4 _ _ ?_); clear hR R; try clear kq4 kz4
 try simp only [go_sem]
 refine W_cond rfl (fun c1 => ?_) (fun c1 => ?_)
 ·
  try simp only [nrm] at c1
  refine W_seq fun kz5 kq5 => ?_
  refine W_region [6, 7, 8] fun R hR => ?_
  simp only [go_sem]
  refine hR _ _ (kq5 _ _ ?_); clear hR R; try clear kq5 kz5
  try simp only [go_sem]
  refine W_ret ?_
  simp only [go_sem]
  refine ⟨.inr (by trivial), ?_⟩
  first | refine Fin_same hcl rfl (Wk_eq ?_ (by simp only [go_sem])) | refine Fin_self hcl rfl (Wk_eq ?_ (by simp only [go_sem]))
  try simp only [go_sem]
  all_goals
   simp [sleepAns, c1, *]
 ·
  try simp only [nrm] at c1
  refine W_skip (kq2 _ _ ?_)
  refine W_seq fun kz6 kq6 => ?_
  refine W_seq fun kz7 kq7 => ?_
  refine W_region [1, 2, 3, 23] fun R hR => ?_
  simp only [go_sem]
  try simp (disch := omega) only [wrapI]
  refine GCall_of (in_pc Y _ sq 0 _) ?_
  simp only [go_sem]
  try simp (disch := omega) only [wrapI]
  refine hR _ _ (kq7 _ _ ?_); clear hR R; try clear kq7 kz7
  try simp only [go_sem]
  refine W_cond rfl (fun c2 => ?_) (fun c2 => ?_)
  ·
   try simp only [nrm] at c2
   refine W_seq fun kz8 kq8 => ?_
   refine W_region [6, 7, 8] fun R hR => ?_
   simp only [go_sem]
   refine hR _ _ (kq8 _ _ ?_); clear hR R; try clear kq8 kz8
   try simp only [go_sem]
   refine W_ret ?_
   simp only [go_sem]
   refine ⟨.inr (by trivial), ?_⟩
   first | refine Fin_same hcl rfl (Wk_eq ?_ (by simp only [go_sem])) | refine Fin_self hcl rfl (Wk_eq ?_ (by simp only [go_sem]))
   try simp only [go_sem]
   all_goals
    simp [sleepAns, c1, *]
  ·
   try simp only [nrm] at c2
   refine W_skip (kq6 _ _ ?_)
   refine W_seq fun kz9 kq9 => ?_
   refine W_region [6, 7] fun R hR => ?_
   simp only [go_sem]
   refine GCall_of (bsleep_pc Y _ ct l sq hc hl (chkBands_ok (chkAll_ok c1).2.2)) ?_
   simp only [go_sem]
   refine hR _ _ (kq9 _ _ ?_); clear hR R; try clear kq9 kz9
   try simp only [go_sem]
   refine W_seq fun kz10 kq10 => ?_
   refine W_region [6, 7, 8] fun R hR => ?_
   simp only [go_sem]
   refine hR _ _ (kq10 _ _ ?_); clear hR R; try clear kq10 kz10
   try simp only [go_sem]
   refine W_ret ?_
   simp only [go_sem]
   refine ⟨.inr (by trivial), ?_⟩
   first | refine Fin_same hcl rfl (Wk_eq ?_ (by simp only [go_sem])) | refine Fin_self hcl rfl (Wk_eq ?_ (by simp only [go_sem]))
   try simp only [go_sem]
   all_goals
    simp [sleepAns, c1, *]
set_option maxHeartbeats 2000000 in
theorem EqInts_pc (Y : YEnv) (σ : Sg) (xs ys : List Int) (o o2 : Own) (hx : xs.length < 2 ^ 50) :
  PC Tryz.prog Y 42 [.isl (xs.map I) o, .isl (ys.map I) o2] σ (.bool (decide (xs = ys))) (σ) := by
 refine PC_of_W Tryz.func42 rfl (by kernel_rfl) Tryz.ntmps42 (by simp) fun hcl hca => ?_
 refine W_seq fun kz1 kq1 => ?_
 refine W_region [0, 1] fun R hR => ?_
 simp only [go_sem]
 refine hR _ _ (kq1 _ _ ?_); clear hR R; try clear kq1 kz1
 try simp only [go_sem]
 refine W_seq fun kz2 kq2 => ?_
 refine W_seq fun kz3 kq3 => ?_
 refine W_region [0, 1, 10] fun R hR => ?_
 simp only [go_sem]
 refine hR _ _ (kq3 _ _ ?_); clear hR R; try clear kq3 kz3
 try simp only [go_sem]
 refine W_cond rfl (fun c1 => ?_) (fun c1 => ?_)
 ·
  try simp only [nrm] at c1
  refine W_seq fun kz4 kq4 => ?_
  refine W_region [4] fun R hR => ?_
  simp only [go_sem]
  refine hR _ _ (kq4 _ _ ?_); clear hR R; try clear kq4 kz4
  try simp only [go_sem]
  refine W_ret ?_
  simp only [go_sem]
  refine ⟨.inr (by trivial), ?_⟩
  first | refine Fin_same hcl rfl (Wk_eq ?_ (by simp only [go_sem])) | refine Fin_self hcl rfl (Wk_eq ?_ (by simp only [go_sem]))
  try simp only [go_sem]
  all_goals
   simp; intro h; subst h; exact c1 rfl
 ·
  try simp only [nrm] at c1
  refine W_skip (kq2 _ _ ?_)
  refine W_seq fun kz5 kq5 => ?_
  refine W_seq fun kz6 kq6 => ?_
  refine W_region [0, 1, 5] fun R hR => ?_
  simp only [go_sem]
  refine hR _ _ (kq6 _ _ ?_); clear hR R; try clear kq6 kz6
  try simp only [go_sem]
  refine W_block ?_
  refine W_loopS (α := Nat) (fun (i : Nat) => [(5, I i)]) (fun (i : Nat) => i ≤ xs.length ∧ xs.take i = ys.take i) (fun (i : Nat) => xs.length - i) (0) rfl (⟨Nat.zero_le _, rfl⟩) ?_
  rintro i ⟨hi, ht⟩
  refine W_seq fun kz7 kq7 => ?_
  refine W_seq fun kz8 kq8 => ?_
  refine W_region [0, 1, 5, 14] fun R hR => ?_
  simp only [go_sem]
  refine hR _ _ (kq8 _ _ ?_); clear hR R; try clear kq8 kz8
  try simp only [go_sem]
  refine W_cond rfl (fun c2 => ?_) (fun c2 => ?_)
  ·
   try simp only [nrm] at c2
   have hi' : i < xs.length := by first | assumption | omega
   obtain ⟨x, hxi⟩ : ∃ x, xs[i]? = some x := ⟨xs[i], by simp⟩
   obtain ⟨y, hyi⟩ : ∃ y, ys[i]? = some y := ⟨ys[i]'(by omega), by simp⟩
   refine W_skip (kq7 _ _ ?_)
   refine W_seq fun kz9 kq9 => ?_
   refine W_block ?_
   refine W_seq fun kz10 kq10 => ?_
   refine W_draw [0, 1, 5, 25] [0, 1, 2, 3, 4, 5, 6, 7, 8] [] [[], [], [0, 1], [0, 1, 2], [], [], [4, 5], [4, 5, 6], [0, 1, 2, 3, 4, 5, 6, 7]] mixed (by kernel_rfl) fun R hR => ?_
   simp only [go_sem, hxi, hyi]
   refine hR _ _ (kq10 _ _ ?_); clear hR R; try clear kq10 kz10
   try simp only [go_sem, hxi, hyi]
   refine W_cond rfl (fun c3 => ?_) (fun c3 => ?_)
   ·
    try simp only [nrm] at c3
    refine W_seq fun kz11 kq11 => ?_
    refine W_region [4] fun R hR => ?_
    simp only [go_sem, hxi, hyi]
    refine hR _ _ (kq11 _ _ ?_); clear hR R; try clear kq11 kz11
    try simp only [go_sem, hxi, hyi]
    refine W_ret ?_
    simp only [go_sem, hxi, hyi]
    refine ⟨.inr (by trivial), ?_⟩
    first | refine Fin_same hcl rfl (Wk_eq ?_ (by simp only [go_sem])) | refine Fin_self hcl rfl (Wk_eq ?_ (by simp only [go_sem]))
    try simp only [go_sem]
    all_goals
     simp; intro h; subst h; rw [hxi] at hyi; injection hyi with h; exact c3 h
   ·
    try simp only [nrm] at c3
    refine W_skip (kq9 _ _ ?_)
    refine W_region [0, 1, 5] fun R hR => ?_
    simp only [go_sem, hxi, hyi]
    try simp (disch := omega) only [wrapI]
    refine hR _ _ ?_; clear hR R
    try simp only [go_sem, hxi, hyi]
    refine ⟨i + 1, ?_, by (try simp only []); omega, ?_⟩
    ·first | exact Weak.refl | exact Weak.eq (by first | rfl | (simp only [go_sem]; done) | (simp only [go_sem]; rfl) | (simp [go_sem]; done) | (simp [go_sem]; omega)) (by first | rfl | (simp only [go_sem]; done) | (simp [go_sem]; done))
    ·try dsimp only
     exact ⟨hi', by rw [List.take_add_one, List.take_add_one, ht, hxi, hyi, c3]⟩
  ·
   try simp only [nrm] at c2
   have hie : i = xs.length := by omega
   subst hie
   have hxy : xs = ys := by rw [List.take_length] at ht; rw [c1, List.take_length] at ht; exact ht
   refine W_exit ?_
   simp only [go_sem]
   refine kq5 _ _ ?_
   refine W_seq fun kz12 kq12 => ?_
   refine W_region [4] fun R hR => ?_
   simp only [go_sem]
   refine hR _ _ (kq12 _ _ ?_); clear hR R; try clear kq12 kz12
   try simp only [go_sem]
   refine W_ret ?_
   simp only [go_sem]
   refine ⟨.inr (by trivial), ?_⟩
   first | refine Fin_same hcl rfl (Wk_eq ?_ (by simp only [go_sem])) | refine Fin_self hcl rfl (Wk_eq ?_ (by simp only [go_sem]))
   try simp only [go_sem]
   all_goals
    simp [hxy]
end Go.Proofs.YteklodljdndcoaaGreatDoor
