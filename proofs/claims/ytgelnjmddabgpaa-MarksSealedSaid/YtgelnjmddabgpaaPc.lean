/-
  Loops that count down; ends that leave something new.
  Cleanness of what was added; folds over ranges of numbers.
  A slice without spare room gets a room; a value's owner is forgotten.
  Loops over a state of plain values; cleanness, loads of rows and variables that were there before, by simp.
  Regions whose ways meet again; sums that fit.
  The types of this seat's program, as the pure reading asks of them.
  What the operations do at this seat's types.
  The rules by which a walk is worked out.
  A variable's slice without spare room gets a room; what is read of a variable may be told otherwise.
  The owner of a slice in a variable is forgotten.
  A slice is held against nil: the answer is open where the slice is empty.
  Slices of slices: what goes in front is cut off.
  Slices that grow in place: operations without types; a variable moved to another number; a variable that is never written again.
  Maps as lists of keys with their values, without the program's types.
  The data of the laws, read: scales, envelopes, nights, standings; rows of things.
  What the arguments of the laws are read as: numbers, lists of numbers.
  Slices made at once, written and then frozen; rows of numbers written at a place.
  Variables renumbered: the live ones, in a new order; whatever speaks of them follows.
  Slices that grow in place, in a variable's cell; a row sorted or written anew by the library.
  What the functions of marks compute, in plain Lean.
  Facts of this seat's types for slices that grow in place.
  Conversions at this seat's types; shifts; pointers that are not nil.
  Parts of slices at this seat's types.
  Facts of this seat's types for maps and made slices.
-/
import Derived.Test.YtgelnjmddabgpaaPb
import Derived.CallsIn
import Derived.RangeFuncLeaves
import Derived.RangeFuncRecord
import Derived.OrdersIn
import Derived.Below
import Derived.Laws.World
import Derived.Laws.StructEq
import Derived.Laws.Append
import Derived.MapKept
import Derived.ProofKit
import Derived.Carry
import Derived.Handed
import Derived.ChangeCalls
import Derived.RangeFuncIn
import Derived.RangeFuncNested
import Derived.Test.YtgelnjmddabgpaaProg
import Derived.KernelRfl
import Derived.IntWalk
import Derived.Test.YtgelnjmddabgpaaRows
import Derived.Sort.OwnSortedInts
import Derived.Lib.SlicesCompact
import Derived.Shelf.Sort.Plain
import Derived.Shelf.Slices.In.SortNone
import Derived.Shelf.Small.Bits
import Derived.JoinedOf
set_option linter.unusedSimpArgs false
set_option linter.unusedVariables false
namespace Go.Proofs.Ytgelnjmddabgpaa
open Go Go.RowKit
theorem least (p : Nat → Prop) (h : ∃ n, p n) : ∃ n, p n ∧ ∀ m, p m → n ≤ m := by
  obtain ⟨n, hn⟩ := h
  induction n using Nat.strongRecOn with
  | _ n ih =>
    by_cases h : ∃ m, m < n ∧ p m
    · obtain ⟨m, hm, hp⟩ := h
      exact ih m hm hp
    · exact ⟨n, hn, fun m hm => Nat.le_of_not_lt fun hlt => h ⟨m, hlt, hm⟩⟩
section
variable {P : Program} {Y : YEnv} {N : Nat} {rd : Option Nat} {lo : Nat × Nat} {E : Env} {σ : Sg} {Q : Exit → Env → Sg → Prop}
open Classical in
theorem W_loopK {c : Code} (I : Nat → Env → Sg → Prop) (k : Nat) (h0 : I k E σ)
    (round : ∀ k E σ, I k E σ → W P Y N rd lo c E σ (Seq (fun E' σ' => ∃ k', k' < k ∧ I k' E' σ') Q)) : W P Y N rd lo (.loop c) E σ Q := by
  refine W_loop (fun E σ => ∃ k, I k E σ) (fun E σ => if h : ∃ k, I k E σ then Classical.choose (least (fun k => I k E σ) h) else 0) ⟨k, h0⟩ fun E σ h => ?_
  refine W_mono (round _ E σ (Classical.choose_spec (least (fun k => I k E σ) h)).1) fun ex E' σ' hq => ?_
  cases ex with
  | normal =>
    obtain ⟨k', hk, hI⟩ := hq
    have h' : ∃ k, I k E' σ' := ⟨k', hI⟩
    refine ⟨h', ?_⟩
    rw [dif_pos h', dif_pos h]
    exact Nat.lt_of_le_of_lt ((Classical.choose_spec (least (fun k => I k E' σ') h')).2 k' hI) hk
  | _ => exact hq
end
theorem Clean.all_nil {a b c : Nat} : ∀ p, p ∈ ([] : List PV) → Clean a b c p := fun p h => by cases h
theorem Clean.all_cons {a b c : Nat} {q : PV} {l : List PV} (h : Clean a b c q) (k : ∀ p, p ∈ l → Clean a b c p) : ∀ p, p ∈ q :: l → Clean a b c p := fun p hp => by
  rcases List.mem_cons.1 hp with rfl | hp
  · exact h
  · exact k p hp
theorem Clean.ints {a b c : Nat} (xs : List Int) (o : Own) (ho : ∀ r n es, o = .tok r n es → r < b) : Clean a b c (.isl (xs.map I) o) :=
  .isl _ _ (fun e he => by obtain ⟨n, _, rfl⟩ := List.mem_map.1 he; exact .int _ _) ho
/-- A function that leaves new variables behind. -/
theorem Fin_ext {P : Program} {fn : Func} {σ : Sg} {l : List (Option (List PV))} {rm : List Nat} {E : Env} {rs : List PV} {v : PV} (k j : Nat) (hcl : CleanSg σ)
    (hr : resPV P (σ.ext l rm) E fn.results.toList = some rs)
    (hv : Wk (σ.store.length + k) (σ.rooms.length + j) σ.ys.length (oneOr rs) v)
    (hc : ∀ cs, some cs ∈ l.take k → ∀ p, p ∈ cs → Clean (σ.store.length + k) (σ.rooms.length + j) σ.ys.length p) : Fin P fn σ v (σ.ext (l.take k) (rm.take j)) E (σ.ext l rm) := by
  refine ⟨rs, _, _, hr, Nat.le_add_right _ _, Nat.le_add_right _ _, hv, (Sg.cut_ext σ l rm k j).symm, fun id cs hid hcs p hp => ?_, by simp [Sg.ext]⟩
  have hcs' : (σ.store ++ l)[id]? = some (some cs) := hcs
  by_cases h : id < σ.store.length
  · rw [List.getElem?_append_left h] at hcs'
    exact (hcl id cs h hcs' p hp).mono (Nat.le_add_right _ _) (Nat.le_add_right _ _) (Nat.le_refl _)
  · rw [List.getElem?_append_right (by omega)] at hcs'
    refine hc cs ?_ p hp
    refine List.mem_of_getElem? (i := id - σ.store.length) ?_
    rw [List.getElem?_take_of_lt (by omega)]
    exact hcs'
/-- In a state of which nothing was added. -/
theorem Fin_end {P : Program} {fn : Func} {σ σ' : Sg} {E : Env} {rs : List PV} {v : PV} (hcl : CleanSg σ') (h1 : σ'.store.length = σ.store.length) (h2 : σ'.rooms.length = σ.rooms.length) (h3 : σ'.ys.length = σ.ys.length)
    (hr : resPV P σ' E fn.results.toList = some rs) (hv : Wk σ.store.length σ.rooms.length σ.ys.length (oneOr rs) v) : Fin P fn σ v σ' E σ' := by
  refine ⟨rs, _, _, hr, Nat.le_refl _, Nat.le_refl _, hv, ?_, ?_, h3⟩
  · rw [← h1, ← h2, ← h3]; simp [Sg.cut]
  · unfold CleanSg at hcl; rw [h1, h2, h3] at hcl; exact hcl
end Go.Proofs.Ytgelnjmddabgpaa
namespace Go.Proofs.Ytgelnjmddabgpaa
open Go Go.RowKit
theorem CleanCut_ext {σ : Sg} {l : List (Option (List PV))} {rm : List Nat} {ys : List LState} {nb nr ny : Nat} (hcl : CleanSg σ) (hb : σ.store.length ≤ nb) (hr : σ.rooms.length ≤ nr) (hy : σ.ys.length ≤ ny)
    (h : ∀ cs, some cs ∈ l → ∀ p, p ∈ cs → Clean nb nr ny p) : CleanCut (σ.ext l rm ys) nb nr ny := by
  intro id cs _ hcs p hp
  have hcs' : (σ.store ++ l)[id]? = some (some cs) := hcs
  by_cases hid : id < σ.store.length
  · rw [List.getElem?_append_left hid] at hcs'
    exact (hcl id cs hid hcs' p hp).mono hb hr hy
  · rw [List.getElem?_append_right (by omega)] at hcs'
    exact h cs (List.mem_of_getElem? hcs') p hp
theorem CleanSg_ext {σ : Sg} {l : List (Option (List PV))} {rm : List Nat} {ys : List LState} (hcl : CleanSg σ) (h : ∀ cs, some cs ∈ l → ∀ p, p ∈ cs → Clean (σ.store.length + l.length) (σ.rooms.length + rm.length) (σ.ys.length + ys.length) p) :
    CleanSg (σ.ext l rm ys) := by
  unfold CleanSg
  rw [Sg.len_ext, Sg.rooms_ext, Sg.ys_ext]
  exact CleanCut_ext hcl (Nat.le_add_right _ _) (Nat.le_add_right _ _) (Nat.le_add_right _ _) h
/-- All of it is old, or plain. -/
theorem CleanL_nil {a b c : Nat} : ∀ cs, some cs ∈ ([] : List (Option (List PV))) → ∀ p, p ∈ cs → Clean a b c p := fun cs h => by cases h
theorem CleanL_cons {a b c : Nat} {ds : List PV} {l : List (Option (List PV))} (h : ∀ p, p ∈ ds → Clean a b c p) (k : ∀ cs, some cs ∈ l → ∀ p, p ∈ cs → Clean a b c p) : ∀ cs, some cs ∈ some ds :: l → ∀ p, p ∈ cs → Clean a b c p := by
  intro cs hcs
  rcases List.mem_cons.1 hcs with e | e
  · injection e with e; subst e; exact h
  · exact k cs e
/-- Cut back to what was there before. -/
theorem Weak.cutExt {N : Nat} {lo : Nat × Nat} {E E' : Env} {σ : Sg} {l : List (Option (List PV))} {rm : List Nat} {ys : List LState} (k j : Nat) (h1 : lo.1 ≤ σ.store.length + k) (h2 : lo.2 ≤ σ.rooms.length + j) (hcl : CleanSg σ)
    (hc : ∀ cs, some cs ∈ l.take k → ∀ p, p ∈ cs → Clean (σ.store.length + k) (σ.rooms.length + j) (σ.ys.length + ys.length) p)
    (hE : ∀ t, Wk (σ.store.length + k) (σ.rooms.length + j) (σ.ys.length + ys.length) (E.get t) (E'.get t)) : Weak N lo E (σ.ext l rm ys) E' (σ.ext (l.take k) (rm.take j) ys) := by
  have := Weak.cut (N := N) (lo := lo) (E := E) (E' := E') (σ := σ.ext l rm ys) (σ.store.length + k) (σ.rooms.length + j) h1 h2 (by rw [Sg.ys_ext]; exact hE) (by
    rw [Sg.ys_ext]
    intro id cs hid hcs p hp
    have hcs' : (σ.store ++ l)[id]? = some (some cs) := hcs
    by_cases h : id < σ.store.length
    · rw [List.getElem?_append_left h] at hcs'
      exact (hcl id cs h hcs' p hp).mono (Nat.le_add_right _ _) (Nat.le_add_right _ _) (Nat.le_add_right _ _)
    · rw [List.getElem?_append_right (by omega)] at hcs'
      refine hc cs ?_ p hp
      refine List.mem_of_getElem? (i := id - σ.store.length) ?_
      rw [List.getElem?_take_of_lt (by omega)]
      exact hcs')
  rw [Sg.ys_ext, Sg.cut_exty, List.take_length] at this
  exact this
theorem Wk.nil_get {a b c : Nat} {E : Env} : ∀ t, Wk a b c (E.get t) (Env.get [] t) := fun _ _ _ _ => .undef _
end Go.Proofs.Ytgelnjmddabgpaa
namespace Go.Proofs.Ytgelnjmddabgpaa
open Go Go.RowKit
theorem Weak.room {N : Nat} {lo : Nat × Nat} {E : Env} {σ : Sg} {t es : Nat} {l : List PV} (ht : E.get t = .isl l .exact) (hes : ∀ q, q ∈ l → q.cells.length = es) :
    Weak N lo E σ ((t, .isl l (.tok σ.rooms.length l.length es)) :: E) (σ.pushRoom l.length) := by
  intro Ψ0 Ψ D a w hb le hr
  have hv := hr.env t
  rw [ht] at hv
  have fin : ∀ x : Option (Nat × Nat × Nat × Nat), (∀ b e c s, x = some (b, e, c, s) → ¬ e < c) → (∀ Ψ', Ψ.le Ψ' → Ψ'.hist σ.rooms.length l.length = some x → VR Ψ' (.isl l (.tok σ.rooms.length l.length es)) (a.tmps.getD t undef)) →
      ∃ Ψ', Ψ0.le Ψ' ∧ Rel N D Ψ' ((t, .isl l (.tok σ.rooms.length l.length es)) :: E) (σ.pushRoom l.length) a w := by
    intro x hx hvr
    obtain ⟨le', hs'⟩ := hr.sg.newRoom l.length x (fun b e c s hh hlt => absurd hlt (hx b e c s hh))
    refine ⟨_, le.trans le', hr.size, fun t' => ?_, hs', fun d hd => le'.ds _ (hr.dsub d hd), ?_⟩
    · simp only [Env.get]
      split
      · rename_i e; subst e
        exact hvr _ le' (by simp [Ty.addHist])
      · exact (hr.env t').mono le'
    · obtain ⟨rs, r1, r2, r3⟩ := hr.defs
      exact ⟨rs, r1, r2, fun r hm => ⟨le'.ds _ (r3 r hm).1, (r3 r hm).2⟩⟩
  generalize hx : a.tmps.getD t undef = x at hv fin
  cases hv with
  | islnil _ a0 _ => exact fin none (fun b e c s h => by cases h) fun Ψ' _ hh => .islnil _ a0 ⟨_, hh⟩
  | isl es0 _ _ b o cap vals hs h1 h2 hc ho =>
    have hcap : cap = l.length := ho
    subst hcap
    refine fin (some (b, o + l.length * es, o + l.length * es, es)) (fun b e c s h => by injection h with h; injection h with _ h; injection h with h1 h; injection h with h2 _; omega) fun Ψ' le' hh => ?_
    by_cases hl : l = []
    · subst hl
      exact .isl es [] _ b o 0 vals (fun k e h => by simp at h) (fun k e j p h => by simp at h) (fun k e j p h => by simp at h) (Nat.le_refl _) ⟨rfl, hh⟩
    · have : es0 = es := by
        cases l with
        | nil => exact absurd rfl hl
        | cons q l => rw [← hs 0 q rfl]; exact hes q (by simp)
      subst this
      exact .isl es0 l _ b o _ vals hs (fun k e j p q1 q2 => le'.imm _ _ _ (h1 k e j p q1 q2)) (fun k e j p q1 q2 => (h2 k e j p q1 q2).mono le') (Nat.le_refl _) ⟨rfl, hh⟩
theorem Weak.keep {N : Nat} {lo : Nat × Nat} {E : Env} {σ : Sg} (ks : List Nat) : Weak N lo E σ (keep ks E) σ := fun _ Ψ _ _ _ _ le hr => ⟨Ψ, le, hr.keep ks⟩
theorem cleanE_nil {a b c : Nat} : ∀ kv, kv ∈ ([] : Env) → Clean a b c kv.2 := fun kv h => by cases h
theorem cleanE_cons {a b c t : Nat} {v : PV} {E : Env} (h : Clean a b c v) (k : ∀ kv, kv ∈ E → Clean a b c kv.2) : ∀ kv, kv ∈ (t, v) :: E → Clean a b c kv.2 := fun kv hk => by
  rcases List.mem_cons.1 hk with rfl | hk
  · exact h
  · exact k kv hk
theorem Wk.env {a b c : Nat} : ∀ {E : Env}, (∀ kv, kv ∈ E → Clean a b c kv.2) → ∀ t, Wk a b c (E.get t) (E.get t) := by
  intro E
  induction E with
  | nil => intro _ t; exact Wk.of_clean .undef
  | cons kv E ih =>
    intro h t
    obtain ⟨k, v⟩ := kv
    simp only [Env.get]
    split
    · exact Wk.of_clean (h (k, v) (List.mem_cons_self ..))
    · exact ih (fun kv hk => h kv (List.mem_cons_of_mem _ hk)) t
end Go.Proofs.Ytgelnjmddabgpaa
namespace Go.Proofs.Ytgelnjmddabgpaa
open Go Go.RowKit
def setE1 (t : Nat) (v : PV) : Env → Env
  | [] => []
  | (k, x) :: E => if k = t then (k, v) :: E else (k, x) :: setE1 t v E
def setE : Env → Env → Env
  | E, [] => E
  | E, (t, v) :: u => setE (setE1 t v E) u
theorem setE_nil (E : Env) : setE E [] = E := rfl
theorem setE_cons (E : Env) (t : Nat) (v : PV) (u : Env) : setE E ((t, v) :: u) = setE (setE1 t v E) u := rfl
theorem setE1_nil (t : Nat) (v : PV) : setE1 t v [] = [] := rfl
theorem setE1_cons (t k : Nat) (v x : PV) (E : Env) : setE1 t v ((k, x) :: E) = if k = t then (k, v) :: E else (k, x) :: setE1 t v E := rfl
section
variable {P : Program} {Y : YEnv} {N : Nat} {rd : Option Nat} {lo : Nat × Nat} {E : Env} {σ : Sg} {Q : Exit → Env → Sg → Prop}
theorem W_loopT {α : Type} {c : Code} (upd : α → Env) (st : α → Sg) (Inv : α → Prop) (μ : α → Nat) (s0 : α) (hE : setE E (upd s0) = E) (hσ : st s0 = σ) (h0 : Inv s0)
    (round : ∀ s, Inv s → W P Y N rd lo c (setE E (upd s)) (st s) (Seq (fun E' σ' => ∃ s', Weak N lo E' σ' (setE E (upd s')) (st s') ∧ μ s' < μ s ∧ Inv s') Q)) : W P Y N rd lo (.loop c) E σ Q := by
  refine W_loopK (fun k E' σ' => ∃ s, k = μ s ∧ Inv s ∧ setE E (upd s) = E' ∧ st s = σ') (μ s0) ⟨s0, rfl, h0, hE, hσ⟩ ?_
  rintro k E' σ' ⟨s, rfl, hi, rfl, rfl⟩
  refine W_post_weak (W_mono (round s hi) ?_)
  intro ex E1 σ1 h
  cases ex with
  | normal =>
    obtain ⟨s', hw, hm, hi'⟩ := h
    exact ⟨_, _, hw, μ s', hm, s', rfl, hi', rfl, rfl⟩
  | _ => exact ⟨_, _, Weak.refl, h⟩
theorem W_loopS {α : Type} {c : Code} (upd : α → Env) (Inv : α → Prop) (μ : α → Nat) (s0 : α) (hE : setE E (upd s0) = E) (h0 : Inv s0)
    (round : ∀ s, Inv s → W P Y N rd lo c (setE E (upd s)) σ (Seq (fun E' σ' => ∃ s', Weak N lo E' σ' (setE E (upd s')) σ ∧ μ s' < μ s ∧ Inv s') Q)) : W P Y N rd lo (.loop c) E σ Q :=
  W_loopT upd (fun _ => σ) Inv μ s0 hE rfl h0 round
theorem Weak.eq {E E' : Env} {σ σ' : Sg} (h : E = E') (k : σ = σ') : Weak N lo E σ E' σ' := by subst h k; exact Weak.refl
end
def CleanAll (a b c : Nat) (l : List PV) : Prop := ∀ p, p ∈ l → Clean a b c p
def CleanLs (a b c : Nat) (l : List (Option (List PV))) : Prop := ∀ cs, some cs ∈ l → ∀ p, p ∈ cs → Clean a b c p
def CleanEs (a b c : Nat) (E : Env) : Prop := ∀ kv, kv ∈ E → Clean a b c kv.2
def OwnLt (b : Nat) (o : Own) : Prop := ∀ r n es, o = .tok r n es → r < b
section
variable {a b c : Nat}
theorem CleanAll_nil : CleanAll a b c [] = True := eq_true Clean.all_nil
theorem CleanAll_cons {p : PV} {l : List PV} : CleanAll a b c (p :: l) = (Clean a b c p ∧ CleanAll a b c l) := by simp [CleanAll]
theorem CleanAll_append {l m : List PV} : CleanAll a b c (l ++ m) = (CleanAll a b c l ∧ CleanAll a b c m) := by
  simp only [CleanAll, List.mem_append]
  exact propext ⟨fun h => ⟨fun p hp => h p (.inl hp), fun p hp => h p (.inr hp)⟩, fun h p hp => hp.elim (h.1 p) (h.2 p)⟩
theorem CleanLs_nil : CleanLs a b c [] = True := eq_true CleanL_nil
theorem CleanLs_cons {cs : List PV} {l : List (Option (List PV))} : CleanLs a b c (some cs :: l) = (CleanAll a b c cs ∧ CleanLs a b c l) := by
  refine propext ⟨fun h => ⟨h cs (List.mem_cons_self ..), fun ds hd => h ds (List.mem_cons_of_mem _ hd)⟩, fun h => CleanL_cons h.1 h.2⟩
theorem CleanEs_nil : CleanEs a b c [] = True := eq_true cleanE_nil
theorem CleanEs_cons {t : Nat} {v : PV} {E : Env} : CleanEs a b c ((t, v) :: E) = (Clean a b c v ∧ CleanEs a b c E) := by
  refine propext ⟨fun h => ⟨h (t, v) (List.mem_cons_self ..), fun ds hd => h ds (List.mem_cons_of_mem _ hd)⟩, fun h => cleanE_cons h.1 h.2⟩
theorem OwnLt_ro : OwnLt b .ro = True := eq_true fun r n es e => by cases e
theorem OwnLt_exact : OwnLt b .exact = True := eq_true fun r n es e => by cases e
theorem OwnLt_tok {r n es : Nat} : OwnLt b (.tok r n es) = (r < b) := propext ⟨fun h => h r n es rfl, fun h r' n' es' e => by cases e; exact h⟩
theorem Cl_undef : Clean a b c .undef = True := eq_true .undef
theorem Cl_bool {x : Bool} : Clean a b c (.bool x) = True := eq_true (.bool _)
theorem Cl_int {k : IntKind} {x : Int} : Clean a b c (.int k x) = True := eq_true (.int _ _)
theorem Cl_str {x : ByteArray} : Clean a b c (.str x) = True := eq_true (.str _)
theorem Cl_nilptr : Clean a b c .nilptr = True := eq_true .nilptr
theorem Cl_nilsl : Clean a b c .nilsl = True := eq_true .nilsl
theorem Cl_nilfunc : Clean a b c .nilfunc = True := eq_true .nilfunc
theorem Cl_niliface : Clean a b c .niliface = True := eq_true .niliface
theorem Cl_ptr {id off : Nat} : Clean a b c (.ptr id off) = (id < a) := propext ⟨fun h => by cases h; assumption, fun h => .ptr _ _ h⟩
theorem Cl_msl {id off len : Nat} : Clean a b c (.msl id off len) = (id < a) := propext ⟨fun h => by cases h; assumption, fun h => .msl _ _ _ h⟩
theorem Cl_yield {y : Nat} : Clean a b c (.yield y) = (y < c) := propext ⟨fun h => by cases h; assumption, fun h => .yield _ h⟩
theorem Cl_eptr {es : Nat} {l : List PV} {i off : Nat} : Clean a b c (.eptr es l i off) = CleanAll a b c l := propext ⟨fun h => by cases h; assumption, fun h => .eptr _ _ _ _ h⟩
theorem Cl_isl {l : List PV} {o : Own} : Clean a b c (.isl l o) = (CleanAll a b c l ∧ OwnLt b o) := propext ⟨fun h => by cases h; exact ⟨‹_›, ‹_›⟩, fun h => .isl _ _ h.1 h.2⟩
theorem Cl_agg {l : List PV} : Clean a b c (.agg l) = CleanAll a b c l := propext ⟨fun h => by cases h; assumption, fun h => .agg _ h⟩
theorem Cl_tuple {l : List PV} : Clean a b c (.tuple l) = CleanAll a b c l := propext ⟨fun h => by cases h; assumption, fun h => .tuple _ h⟩
theorem Cl_func {fn : Fn} {l m : List PV} : Clean a b c (.func fn l m) = (CleanAll a b c l ∧ CleanAll a b c m) := propext ⟨fun h => by cases h; exact ⟨‹_›, ‹_›⟩, fun h => .func _ _ _ h.1 h.2⟩
theorem CleanAll_ints {xs : List Int} : CleanAll a b c (xs.map I) = True := eq_true fun p hp => by obtain ⟨x, _, rfl⟩ := List.mem_map.1 hp; exact .int _ _
theorem CleanAll_map {α : Type} {f : α → PV} {xs : List α} (h : ∀ x, Clean a b c (f x)) : CleanAll a b c (xs.map f) = True := eq_true fun p hp => by obtain ⟨x, _, rfl⟩ := List.mem_map.1 hp; exact h x
end
attribute [go_sem] CleanAll_nil CleanAll_cons CleanAll_append CleanLs_nil CleanLs_cons CleanEs_nil CleanEs_cons OwnLt_ro OwnLt_exact OwnLt_tok Cl_undef Cl_bool Cl_int Cl_str Cl_nilptr Cl_nilsl Cl_nilfunc Cl_niliface Cl_ptr Cl_msl Cl_yield Cl_eptr Cl_isl Cl_agg Cl_tuple Cl_func CleanAll_ints
attribute [go_sem] setE_nil setE_cons setE1_nil setE1_cons
theorem Weak.cutX {N : Nat} {lo : Nat × Nat} {E : Env} {σ : Sg} {l : List (Option (List PV))} {rm : List Nat} {ys : List LState} (k j : Nat) (h1 : lo.1 ≤ σ.store.length + k) (h2 : lo.2 ≤ σ.rooms.length + j) (hcl : CleanSg σ)
    (hc : CleanLs (σ.store.length + k) (σ.rooms.length + j) (σ.ys.length + ys.length) (l.take k)) (hE : CleanEs (σ.store.length + k) (σ.rooms.length + j) (σ.ys.length + ys.length) E) :
    Weak N lo E (σ.ext l rm ys) E (σ.ext (l.take k) (rm.take j) ys) := Weak.cutExt k j h1 h2 hcl hc (Wk.env hE)
theorem Wk_eq {a b c : Nat} {p q : PV} (h : p = q) (hc : Clean a b c q) : Wk a b c p q := by subst h; exact Wk.of_clean hc
section
variable {α : Type} {f : α → PV} {xs : List α} {c k i off : Nat} {n : Int}
theorem iaX_m (f : α → PV) (xs : List α) : iaX c (xs.map f) n = if 0 ≤ n then (xs[n.toNat]?).bind fun x => if (f x).cells.length = c then some (.eptr c (xs.map f) n.toNat 0) else none else none := by
  unfold iaX
  by_cases h : 0 ≤ n
  · by_cases h2 : n.toNat < xs.length
    · rw [if_pos ⟨h, by simp; omega⟩, if_pos h]
      simp [h2]
    · rw [if_neg (fun h' => h2 (by have := h'.2; simp at this; omega)), if_pos h]
      rw [List.getElem?_eq_none (by omega)]
      rfl
  · rw [if_neg (fun h' => h h'.1), if_neg h]
theorem elS_m (f : α → PV) (xs : List α) : elS (xs.map f) i off = (xs[i]?).bind fun x => (f x).cells[off]? := by
  simp only [elS, List.getElem?_map]
  cases xs[i]? <;> rfl
theorem elA_m (f : α → PV) (xs : List α) : elA k (xs.map f) i off = (xs[i]?).bind fun x => if off + k ≤ (f x).cells.length then some (.agg (((f x).cells.drop off).take k)) else none := by
  simp only [elA, List.getElem?_map]
  cases xs[i]? <;> rfl
end
theorem bindSome {α β : Type} (x : α) (f : α → Option β) : (some x).bind f = f x := rfl
theorem bindNone {α β : Type} (f : α → Option β) : (none : Option α).bind f = none := rfl
attribute [go_sem] appendAny_isl appendAny_gsl appendAny_gnil
attribute [go_sem] iaX_m elS_m elA_m bindSome bindNone Int.natCast_nonneg Int.toNat_natCast
section
variable {σ : Sg} {d : Nat} {cs cs' : List PV} {l : List (Option (List PV))} {rm : List Nat} {ys : List LState} {k j off : Nat}
theorem sv_len : (σ.setVar d cs).store.length = σ.store.length := by simp [Sg.setVar]
theorem sv_rooms : (σ.setVar d cs).rooms = σ.rooms := rfl
theorem sv_ys : (σ.setVar d cs).ys = σ.ys := rfl
theorem sv_sv : (σ.setVar d cs).setVar d cs' = σ.setVar d cs' := by simp [Sg.setVar]
theorem sv_get (h : d < σ.store.length) : (σ.setVar d cs).store[d]? = some (some cs) := by simp [Sg.setVar, h]
theorem ext_get (h : d < σ.store.length) : (σ.ext l rm ys).store[d]? = σ.store[d]? := by
  show (σ.store ++ l)[d]? = _
  rw [List.getElem?_append_left h]
theorem sv_ext (h : d < σ.store.length) : (σ.ext l rm ys).setVar d cs = (σ.setVar d cs).ext l rm ys := by
  simp [Sg.setVar, Sg.ext, List.set_append_left _ _ h]
theorem ldS_sv (h : d < σ.store.length) : ldS (σ.setVar d cs) d off = cs[off]? := ldS_at (sv_get h)
theorem stX_sv (h : d < σ.store.length) (p : PV) : stX k (σ.setVar d cs) d off p = if defd p && p.cells.all PV.scalar && (p.cells.length == k) && decide (off + p.cells.length ≤ cs.length) then some (σ.setVar d (putCells cs off p.cells)) else none := by
  rw [stX_at (sv_get h), sv_sv]
theorem ldS_svx : ldS ((σ.setVar d cs).ext l rm ys) (σ.store.length + j) off = match l[j]? with | some (some cs) => cs[off]? | _ => none := by
  rw [← sv_len (d := d) (cs := cs)]; exact ldS_ext ..
theorem ldS_svx0 : ldS ((σ.setVar d cs).ext l rm ys) σ.store.length off = match l[0]? with | some (some cs) => cs[off]? | _ => none := by
  rw [← sv_len (d := d) (cs := cs)]; exact ldS_ext0 ..
theorem ldA_svx : ldA k ((σ.setVar d cs).ext l rm ys) (σ.store.length + j) off = match l[j]? with | some (some cs) => if off + k ≤ cs.length then some (.agg ((cs.drop off).take k)) else none | _ => none := by
  rw [← sv_len (d := d) (cs := cs)]; exact ldA_ext ..
theorem ldA_svx0 : ldA k ((σ.setVar d cs).ext l rm ys) σ.store.length off = match l[0]? with | some (some cs) => if off + k ≤ cs.length then some (.agg ((cs.drop off).take k)) else none | _ => none := by
  rw [← sv_len (d := d) (cs := cs)]; exact ldA_ext0 ..
theorem stX_svx (p : PV) : stX k ((σ.setVar d cs).ext l rm ys) (σ.store.length + j) off p = match l[j]? with
    | some (some ds) => if defd p && p.cells.all PV.scalar && (p.cells.length == k) && decide (off + p.cells.length ≤ ds.length) then some ((σ.setVar d cs).ext (l.set j (some (putCells ds off p.cells))) rm ys) else none
    | _ => none := by
  rw [← sv_len (d := d) (cs := cs)]; exact stX_ext ..
theorem stX_svx0 (p : PV) : stX k ((σ.setVar d cs).ext l rm ys) σ.store.length off p = match l[0]? with
    | some (some ds) => if defd p && p.cells.all PV.scalar && (p.cells.length == k) && decide (off + p.cells.length ≤ ds.length) then some ((σ.setVar d cs).ext (l.set 0 (some (putCells ds off p.cells))) rm ys) else none
    | _ => none := by
  rw [← sv_len (d := d) (cs := cs)]; exact stX_ext0 ..
theorem setVar_ext (cs : List PV) : (σ.ext l rm ys).setVar (σ.store.length + j) cs = σ.ext (l.set j (some cs)) rm ys := Sg.set_ext σ l rm ys j cs
theorem setVar_ext0 (cs : List PV) : (σ.ext l rm ys).setVar σ.store.length cs = σ.ext (l.set 0 (some cs)) rm ys := Sg.set_ext0 σ l rm ys cs
theorem setVar_svx (cs' : List PV) : ((σ.setVar d cs).ext l rm ys).setVar (σ.store.length + j) cs' = (σ.setVar d cs).ext (l.set j (some cs')) rm ys := by
  rw [← sv_len (d := d) (cs := cs)]; exact setVar_ext cs'
theorem setVar_svx0 (cs' : List PV) : ((σ.setVar d cs).ext l rm ys).setVar σ.store.length cs' = (σ.setVar d cs).ext (l.set 0 (some cs')) rm ys := by
  rw [← sv_len (d := d) (cs := cs)]; exact setVar_ext0 cs'
theorem lt_of_get {x : Option (List PV)} (h : σ.store[d]? = some x) : d < σ.store.length := (List.getElem?_eq_some_iff.1 h).1
end
attribute [go_sem] sv_len sv_rooms sv_ys sv_sv ldS_svx ldS_svx0 ldA_svx ldA_svx0 stX_svx stX_svx0 setVar_ext setVar_ext0 setVar_svx setVar_svx0
theorem CleanSg_set {σ : Sg} {d : Nat} {cs : List PV} (h : CleanSg σ) (hc : CleanAll σ.store.length σ.rooms.length σ.ys.length cs) : CleanSg (σ.setVar d cs) := by
  unfold CleanSg
  rw [sv_len, sv_rooms, sv_ys]
  intro id ds hid hds p hp
  by_cases hd : d = id
  · subst hd
    have hds' : (σ.store.set d (some cs))[d]? = some (some ds) := hds
    rw [List.getElem?_set_self hid] at hds'
    injection hds' with e
    injection e with e
    subst e
    exact hc p hp
  · have hds' : (σ.store.set d (some cs))[id]? = some (some ds) := hds
    rw [List.getElem?_set_ne hd] at hds'
    exact h id ds hid hds' p hp
/-- The end of a function that set a variable that was there before. -/
theorem Fin_set {P : Program} {fn : Func} {σ : Sg} {d : Nat} {cs : List PV} {l : List (Option (List PV))} {rm : List Nat} {E : Env} {rs : List PV} {v : PV} (hcl : CleanSg σ) (hc : CleanAll σ.store.length σ.rooms.length σ.ys.length cs)
    (hr : resPV P ((σ.setVar d cs).ext l rm) E fn.results.toList = some rs)
    (hv : Wk σ.store.length σ.rooms.length σ.ys.length (oneOr rs) v) : Fin P fn σ v (σ.setVar d cs) E ((σ.setVar d cs).ext l rm) := by
  have hcl' := CleanSg_set (d := d) hcl hc
  refine ⟨rs, _, _, hr, Nat.le_refl _, Nat.le_refl _, hv, ?_, fun id ds hid hds p hp => ?_, by simp [Sg.ext, Sg.setVar]⟩
  · have := Sg.cut_ext0 (σ.setVar d cs) l rm
    rw [sv_len, sv_rooms, sv_ys] at this
    exact this.symm
  · have hc' : ((σ.setVar d cs).store ++ l)[id]? = some (some ds) := hds
    rw [List.getElem?_append_left (by rw [sv_len]; exact hid)] at hc'
    have := hcl' id ds (by rw [sv_len]; exact hid) hc' p hp
    rw [sv_len, sv_rooms, sv_ys] at this
    exact this
theorem Fin_set0 {P : Program} {fn : Func} {σ : Sg} {d : Nat} {cs : List PV} {E : Env} {rs : List PV} {v : PV} (hcl : CleanSg σ) (hc : CleanAll σ.store.length σ.rooms.length σ.ys.length cs)
    (hr : resPV P (σ.setVar d cs) E fn.results.toList = some rs)
    (hv : Wk σ.store.length σ.rooms.length σ.ys.length (oneOr rs) v) : Fin P fn σ v (σ.setVar d cs) E (σ.setVar d cs) := by
  have := Fin_set (l := []) (rm := []) hcl hc (by rw [Sg.ext_nil]; exact hr) hv
  rw [Sg.ext_nil] at this
  exact this
end Go.Proofs.Ytgelnjmddabgpaa
namespace Go.Proofs.Ytgelnjmddabgpaa
open Go Go.RowKit
theorem W_regionJ {P : Program} {Y : YEnv} {N : Nat} {rd : Option Nat} {lo : Nat × Nat} {id : Nat} {ops : Array Oper} {E : Env} {σ : Sg} {Q : Exit → Env → Sg → Prop} (ks : List Nat) (upd : Env)
    (rest : Q .normal (keep ks (upd ++ E)) σ) (h : ∀ K : Env → Sg → Prop, (∀ E', keep ks E' = keep ks (upd ++ E) → K E' σ) → GL P Y N ops ops.toList E σ K) : W P Y N rd lo (.region id ops false) E σ Q :=
  W_region ks fun K hK => h K fun E' e => hK E' σ (by rw [e]; exact rest)
theorem wrapI {n : Int} (h1 : -9223372036854775808 ≤ n) (h2 : n ≤ 9223372036854775807) : IntKind.i64.wrap n = n := wrap_i64_id (by omega) (by omega)
/-- How a test is read. -/
theorem nrm : (∀ (p : Prop) [Decidable p], (decide p = true) = p) ∧ (∀ (p : Prop) [Decidable p], (decide p = false) = ¬p) ∧ (∀ b : Bool, ((!b) = true) = (b = false)) ∧ (∀ b : Bool, ((!b) = false) = (b = true)) ∧
    (∀ a b : Nat, ((a : Int) = (b : Int)) = (a = b)) ∧ (∀ a b : Nat, ((a : Int) < (b : Int)) = (a < b)) ∧ (∀ a b : Nat, ((a : Int) ≤ (b : Int)) = (a ≤ b)) ∧
    (∀ a b : Int, ((a != b) = true) = (¬ a = b)) ∧ (∀ a b : Int, ((a != b) = false) = (a = b)) ∧ (∀ a b : Int, ((a == b) = true) = (a = b)) ∧ (∀ a b : Int, ((a == b) = false) = (¬ a = b)) ∧
    (∀ b : Bool, (¬ b = true) = (b = false)) ∧ (∀ b : Bool, (¬ b = false) = (b = true)) := by
  refine ⟨fun p _ => by simp, fun p _ => by simp, fun b => by simp, fun b => by simp, fun a b => propext Int.natCast_inj, fun a b => propext Int.ofNat_lt, fun a b => propext Int.ofNat_le, fun a b => by simp, fun a b => by simp, fun a b => by simp, fun a b => by simp, fun b => by simp, fun b => by simp⟩
def okC (c : Nat) (m : List PV) : Prop := (m.all fun q => (q.cells.length == c) && q.cells.all PV.scalar) = true
theorem okC_nil {c : Nat} : okC c [] = True := eq_true rfl
theorem okC_cons {c : Nat} {q : PV} {m : List PV} : okC c (q :: m) = ((q.cells.length = c ∧ q.cells.all PV.scalar = true) ∧ okC c m) := by simp [okC]
theorem okC_append {c : Nat} {l m : List PV} : okC c (l ++ m) = (okC c l ∧ okC c m) := by simp [okC]
theorem okC_ints {xs : List Int} : okC 1 (xs.map I) = True := eq_true (by simp [okC, PV.cells, PV.scalar])
theorem okC_map {α : Type} {c : Nat} {f : α → PV} {xs : List α} (h : ∀ x, okC c [f x]) : okC c (xs.map f) = True := eq_true (by
  unfold okC at h ⊢
  rw [List.all_eq_true]
  intro q hq
  obtain ⟨x, _, rfl⟩ := List.mem_map.1 hq
  simpa using h x)
theorem okC_len {c : Nat} {m : List PV} (h : okC c m) : (m.all fun q => q.cells.length == c) = true := by
  unfold okC at h
  rw [List.all_eq_true] at h ⊢
  intro q hq
  have := h q hq
  simp only [Bool.and_eq_true] at this
  exact this.1
theorem appX_exact {c b : Nat} {σ : Sg} {l m : List PV} (hm : okC c m) (hl : okC c l) (hs : (l.length + m.length) * b ≤ 140737488355328) :
    appX c b σ l .exact m = some (.isl (l ++ m) (.tok σ.rooms.length (l.length + m.length) c), σ.pushRoom (l.length + m.length)) := by
  have hm' : (m.all fun q => (q.cells.length == c) && q.cells.all PV.scalar) = true := hm
  unfold appX
  rw [hm', okC_len hl]
  simp [hs]
theorem appX_tok {c b : Nat} {σ : Sg} {l m : List PV} {r n : Nat} (hm : okC c m) (hr : σ.rooms[r]? = some n) (hs : (l.length + m.length) * b ≤ 140737488355328) :
    appX c b σ l (.tok r n c) m = some (.isl (l ++ m) (.tok r (n + m.length) c), σ.setRoom r (n + m.length)) := by
  have hm' : (m.all fun q => (q.cells.length == c) && q.cells.all PV.scalar) = true := hm
  unfold appX
  rw [hm']
  simp [hs, hr]
section
variable {σ : Sg} {d : Nat} {cs : List PV} {l : List (Option (List PV))} {rm : List Nat} {ys : List LState} {j n : Nat}
theorem room_svx : ((σ.setVar d cs).ext l rm ys).rooms[σ.rooms.length + j]? = rm[j]? := Sg.room_ext (σ.setVar d cs) l rm ys j
theorem room_svx0 : ((σ.setVar d cs).ext l rm ys).rooms[σ.rooms.length]? = rm[0]? := Sg.room_ext0 (σ.setVar d cs) l rm ys
theorem setRoom_svx : ((σ.setVar d cs).ext l rm ys).setRoom (σ.rooms.length + j) n = (σ.setVar d cs).ext l (rm.set j n) ys := Sg.setRoom_ext (σ.setVar d cs) l rm ys j n
theorem setRoom_svx0 : ((σ.setVar d cs).ext l rm ys).setRoom σ.rooms.length n = (σ.setVar d cs).ext l (rm.set 0 n) ys := Sg.setRoom_ext0 (σ.setVar d cs) l rm ys n
end
attribute [go_sem] bsX okC_nil okC_cons okC_append okC_ints Sg.room_ext Sg.room_ext0 Sg.setRoom_ext Sg.setRoom_ext0 room_svx room_svx0 setRoom_svx setRoom_svx0
theorem ro_isl {l : List PV} {o : Own} : (PV.isl l o).ro = .isl (PV.roL l) .ro := by simp only [PV.ro]
theorem ro_agg {l : List PV} : (PV.agg l).ro = .agg (PV.roL l) := by simp only [PV.ro]
theorem ro_tuple {l : List PV} : (PV.tuple l).ro = .tuple (PV.roL l) := by simp only [PV.ro]
theorem ro_int {k : IntKind} {n : Int} : (PV.int k n).ro = .int k n := by simp only [PV.ro]
theorem ro_bool {b : Bool} : (PV.bool b).ro = .bool b := by simp only [PV.ro]
theorem ro_str {b : ByteArray} : (PV.str b).ro = .str b := by simp only [PV.ro]
theorem ro_ptr {i o : Nat} : (PV.ptr i o).ro = .ptr i o := by simp only [PV.ro]
theorem roL_nil : PV.roL [] = [] := by simp only [PV.roL]
theorem roL_cons {p : PV} {l : List PV} : PV.roL (p :: l) = p.ro :: PV.roL l := by simp only [PV.roL]
theorem roL_append {l m : List PV} : PV.roL (l ++ m) = PV.roL l ++ PV.roL m := by simp only [PV.roL_map, List.map_append]
theorem roL_ints {xs : List Int} : PV.roL (xs.map I) = xs.map I := by simp [PV.roL_map, PV.ro]
theorem roL_enc {α : Type} {f : α → PV} {xs : List α} (h : ∀ x, (f x).ro = f x) : PV.roL (xs.map f) = xs.map f := by simp [PV.roL_map, h]
attribute [go_sem] ro_isl ro_agg ro_tuple ro_int ro_bool ro_str ro_ptr roL_nil roL_cons roL_append roL_ints oneOr
theorem PC.val {P : Program} {Y : YEnv} {f : FuncId} {args : List PV} {σ σ' : Sg} {v v' : PV} (h : PC P Y f args σ v σ') (e : v = v') : PC P Y f args σ v' σ' := by subst e; exact h
/-- The same value n times. -/
def rep (n : Nat) (v : PV) : List PV := List.replicate n v
theorem rep_len (n : Nat) (v : PV) : (rep n v).length = n := by simp [rep]
theorem ixS_of {P : Program} {t e : TypeId} {d : TypeDesc} {len : Nat} (h : P.underlying t = some (.array len e)) (he : P.underlying e = some d) (ha : isAggD d = false) (hc : P.cellsOf e = 1) (kd : IntKind) (n : Int) {cs : List PV} :
    indexPV P t (.agg cs) (.int kd n) = if 0 ≤ n ∧ n < (len : Int) then cs[n.toNat]? else none := by
  simp [indexPV, h, he, hc, partPV, ha]
attribute [go_sem] st List.reverse_cons List.reverse_nil bldX bne_self_eq_false iaM rep_len Int.cast_ofNat_Int List.getElem?_nil List.map_append List.length_append
end Go.Proofs.Ytgelnjmddabgpaa
namespace Go.Proofs.Ytgelnjmddabgpaa
open Go
theorem cells2 : Try.prog.cellsOf 2 = 1 := by kernel_rfl
theorem zero2 : zeroPV Try.prog 2 = some [.int .i64 0] := by kernel_rfl
theorem cells3 : Try.prog.cellsOf 3 = 1 := by kernel_rfl
theorem bytes3 : Try.prog.bytesOf 3 = 8 := by kernel_rfl
theorem zero3 : zeroPV Try.prog 3 = some [.int .i64 0] := by kernel_rfl
theorem cells4 : Try.prog.cellsOf 4 = 1 := by kernel_rfl
theorem bytes4 : Try.prog.bytesOf 4 = 1 := by kernel_rfl
theorem zero4 : zeroPV Try.prog 4 = some [.bool false] := by kernel_rfl
theorem cells5 : Try.prog.cellsOf 5 = 1 := by kernel_rfl
theorem zero5 : zeroPV Try.prog 5 = some [.int .u8 0] := by kernel_rfl
theorem cells9 : Try.prog.cellsOf 9 = 1 := by kernel_rfl
theorem zero9 : zeroPV Try.prog 9 = some [.str .empty] := by kernel_rfl
theorem cells22 : Try.prog.cellsOf 22 = 1 := by kernel_rfl
theorem bytes22 : Try.prog.bytesOf 22 = 24 := by kernel_rfl
theorem zero22 : zeroPV Try.prog 22 = some [.isl [] .exact] := by kernel_rfl
theorem cells23 : Try.prog.cellsOf 23 = 1 := by kernel_rfl
theorem zero23 : zeroPV Try.prog 23 = some [.nilptr] := by kernel_rfl
theorem cells25 : Try.prog.cellsOf 25 = 7 := by kernel_rfl
theorem zero25 : zeroPV Try.prog 25 = some [.int .i64 0, .int .i64 0, .int .i64 0, .int .i64 0, .int .i64 0, .int .i64 0, .isl [] .exact] := by kernel_rfl
theorem cells26 : Try.prog.cellsOf 26 = 7 := by kernel_rfl
theorem zero26 : zeroPV Try.prog 26 = some [.int .i64 0, .int .i64 0, .int .i64 0, .int .i64 0, .int .i64 0, .int .i64 0, .isl [] .exact] := by kernel_rfl
theorem cells28 : Try.prog.cellsOf 28 = 1 := by kernel_rfl
theorem zero28 : zeroPV Try.prog 28 = some [.isl [] .exact] := by kernel_rfl
theorem cells29 : Try.prog.cellsOf 29 = 1 := by kernel_rfl
theorem zero29 : zeroPV Try.prog 29 = some [.isl [] .exact] := by kernel_rfl
theorem cells30 : Try.prog.cellsOf 30 = 1 := by kernel_rfl
theorem zero30 : zeroPV Try.prog 30 = some [.isl [] .exact] := by kernel_rfl
theorem cells31 : Try.prog.cellsOf 31 = 3 := by kernel_rfl
theorem zero31 : zeroPV Try.prog 31 = some [.isl [] .exact, .isl [] .exact, .isl [] .exact] := by kernel_rfl
theorem cells32 : Try.prog.cellsOf 32 = 3 := by kernel_rfl
theorem zero32 : zeroPV Try.prog 32 = some [.isl [] .exact, .isl [] .exact, .isl [] .exact] := by kernel_rfl
theorem cells36 : Try.prog.cellsOf 36 = 4 := by kernel_rfl
theorem zero36 : zeroPV Try.prog 36 = some [.int .i64 0, .int .i64 0, .isl [] .exact, .int .i64 0] := by kernel_rfl
theorem cells37 : Try.prog.cellsOf 37 = 4 := by kernel_rfl
theorem bytes37 : Try.prog.bytesOf 37 = 48 := by kernel_rfl
theorem zero37 : zeroPV Try.prog 37 = some [.int .i64 0, .int .i64 0, .isl [] .exact, .int .i64 0] := by kernel_rfl
theorem cells39 : Try.prog.cellsOf 39 = 2 := by kernel_rfl
theorem zero39 : zeroPV Try.prog 39 = some [.int .i64 0, .int .i64 0] := by kernel_rfl
theorem cells40 : Try.prog.cellsOf 40 = 2 := by kernel_rfl
theorem bytes40 : Try.prog.bytesOf 40 = 16 := by kernel_rfl
theorem zero40 : zeroPV Try.prog 40 = some [.int .i64 0, .int .i64 0] := by kernel_rfl
theorem cells41 : Try.prog.cellsOf 41 = 2 := by kernel_rfl
theorem zero41 : zeroPV Try.prog 41 = some [.int .i64 0, .int .i64 0] := by kernel_rfl
theorem cells42 : Try.prog.cellsOf 42 = 2 := by kernel_rfl
theorem bytes42 : Try.prog.bytesOf 42 = 16 := by kernel_rfl
theorem zero42 : zeroPV Try.prog 42 = some [.int .i64 0, .int .i64 0] := by kernel_rfl
theorem cells43 : Try.prog.cellsOf 43 = 1 := by kernel_rfl
theorem zero43 : zeroPV Try.prog 43 = some [.isl [] .exact] := by kernel_rfl
theorem cells44 : Try.prog.cellsOf 44 = 1 := by kernel_rfl
theorem zero44 : zeroPV Try.prog 44 = some [.int .i64 0] := by kernel_rfl
theorem cells47 : Try.prog.cellsOf 47 = 2 := by kernel_rfl
theorem zero47 : zeroPV Try.prog 47 = some [.int .i64 0, .int .i64 0] := by kernel_rfl
theorem cells48 : Try.prog.cellsOf 48 = 2 := by kernel_rfl
theorem bytes48 : Try.prog.bytesOf 48 = 16 := by kernel_rfl
theorem zero48 : zeroPV Try.prog 48 = some [.int .i64 0, .int .i64 0] := by kernel_rfl
theorem cells51 : Try.prog.cellsOf 51 = 1 := by kernel_rfl
theorem zero51 : zeroPV Try.prog 51 = some [.isl [] .exact] := by kernel_rfl
theorem cells58 : Try.prog.cellsOf 58 = 3 := by kernel_rfl
theorem zero58 : zeroPV Try.prog 58 = some [.int .i64 0, .int .i64 0, .isl [] .exact] := by kernel_rfl
theorem cells59 : Try.prog.cellsOf 59 = 3 := by kernel_rfl
theorem bytes59 : Try.prog.bytesOf 59 = 40 := by kernel_rfl
theorem zero59 : zeroPV Try.prog 59 = some [.int .i64 0, .int .i64 0, .isl [] .exact] := by kernel_rfl
theorem cells72 : Try.prog.cellsOf 72 = 1 := by kernel_rfl
theorem bytes72 : Try.prog.bytesOf 72 = 24 := by kernel_rfl
theorem zero72 : zeroPV Try.prog 72 = some [.isl [] .exact] := by kernel_rfl
theorem cells75 : Try.prog.cellsOf 75 = 1 := by kernel_rfl
theorem zero75 : zeroPV Try.prog 75 = some [.isl [] .exact] := by kernel_rfl
theorem cells81 : Try.prog.cellsOf 81 = 1 := by kernel_rfl
theorem zero81 : zeroPV Try.prog 81 = some [.int .u64 0] := by kernel_rfl
theorem cells82 : Try.prog.cellsOf 82 = 1 := by kernel_rfl
theorem zero82 : zeroPV Try.prog 82 = some [.int .u64 0] := by kernel_rfl
theorem cells83 : Try.prog.cellsOf 83 = 1 := by kernel_rfl
theorem zero83 : zeroPV Try.prog 83 = some [.int .u64 0] := by kernel_rfl
theorem cells85 : Try.prog.cellsOf 85 = 1 := by kernel_rfl
theorem zero85 : zeroPV Try.prog 85 = some [.int .u64 0] := by kernel_rfl
theorem cells86 : Try.prog.cellsOf 86 = 1 := by kernel_rfl
theorem zero86 : zeroPV Try.prog 86 = some [.nilmap] := by kernel_rfl
theorem cells87 : Try.prog.cellsOf 87 = 1 := by kernel_rfl
theorem zero87 : zeroPV Try.prog 87 = some [.nilmap] := by kernel_rfl
theorem cells92 : Try.prog.cellsOf 92 = 1 := by kernel_rfl
theorem zero92 : zeroPV Try.prog 92 = some [.isl [] .exact] := by kernel_rfl
theorem cells93 : Try.prog.cellsOf 93 = 1 := by kernel_rfl
theorem zero93 : zeroPV Try.prog 93 = some [.isl [] .exact] := by kernel_rfl
theorem cells96 : Try.prog.cellsOf 96 = 1 := by kernel_rfl
theorem zero96 : zeroPV Try.prog 96 = some [.nilfunc] := by kernel_rfl
theorem cells103 : Try.prog.cellsOf 103 = 2 := by kernel_rfl
theorem zero103 : zeroPV Try.prog 103 = some [.int .i64 0, .int .i64 0] := by kernel_rfl
theorem cells104 : Try.prog.cellsOf 104 = 2 := by kernel_rfl
theorem zero104 : zeroPV Try.prog 104 = some [.int .i64 0, .int .i64 0] := by kernel_rfl
theorem cells107 : Try.prog.cellsOf 107 = 1 := by kernel_rfl
theorem zero107 : zeroPV Try.prog 107 = some [.nilmap] := by kernel_rfl
theorem cells112 : Try.prog.cellsOf 112 = 1 := by kernel_rfl
theorem zero112 : zeroPV Try.prog 112 = some [.isl [] .exact] := by kernel_rfl
theorem cells113 : Try.prog.cellsOf 113 = 1 := by kernel_rfl
theorem zero113 : zeroPV Try.prog 113 = some [.nilfunc] := by kernel_rfl
theorem cells117 : Try.prog.cellsOf 117 = 1 := by kernel_rfl
theorem bytes117 : Try.prog.bytesOf 117 = 8 := by kernel_rfl
theorem zero117 : zeroPV Try.prog 117 = some [.nilfunc] := by kernel_rfl
theorem cells118 : Try.prog.cellsOf 118 = 1 := by kernel_rfl
theorem zero118 : zeroPV Try.prog 118 = some [.isl [] .exact] := by kernel_rfl
theorem cells128 : Try.prog.cellsOf 128 = 5 := by kernel_rfl
theorem zero128 : zeroPV Try.prog 128 = some [.int .i64 0, .int .i64 0, .int .i64 0, .int .i64 0, .int .i64 0] := by kernel_rfl
theorem cells129 : Try.prog.cellsOf 129 = 5 := by kernel_rfl
theorem zero129 : zeroPV Try.prog 129 = some [.int .i64 0, .int .i64 0, .int .i64 0, .int .i64 0, .int .i64 0] := by kernel_rfl
theorem cells132 : Try.prog.cellsOf 132 = 1 := by kernel_rfl
theorem zero132 : zeroPV Try.prog 132 = some [.nilfunc] := by kernel_rfl
theorem cells135 : Try.prog.cellsOf 135 = 1 := by kernel_rfl
theorem zero135 : zeroPV Try.prog 135 = some [.int .i64 0] := by kernel_rfl
theorem cells143 : Try.prog.cellsOf 143 = 1 := by kernel_rfl
theorem zero143 : zeroPV Try.prog 143 = some [.int .u32 0] := by kernel_rfl
theorem cells148 : Try.prog.cellsOf 148 = 1 := by kernel_rfl
theorem zero148 : zeroPV Try.prog 148 = some [.int .u64 0] := by kernel_rfl
theorem cells151 : Try.prog.cellsOf 151 = 1 := by kernel_rfl
theorem zero151 : zeroPV Try.prog 151 = some [.nilptr] := by kernel_rfl
theorem cells155 : Try.prog.cellsOf 155 = 1 := by kernel_rfl
theorem zero155 : zeroPV Try.prog 155 = some [.nilptr] := by kernel_rfl
theorem cells168 : Try.prog.cellsOf 168 = 4 := by kernel_rfl
theorem zero168 : zeroPV Try.prog 168 = some [.nilptr, .nilptr, .nilptr, .str .empty] := by kernel_rfl
theorem cells169 : Try.prog.cellsOf 169 = 4 := by kernel_rfl
theorem zero169 : zeroPV Try.prog 169 = some [.nilptr, .nilptr, .nilptr, .str .empty] := by kernel_rfl
theorem cells170 : Try.prog.cellsOf 170 = 0 := by kernel_rfl
theorem zero170 : zeroPV Try.prog 170 = some [] := by kernel_rfl
theorem cells171 : Try.prog.cellsOf 171 = 0 := by kernel_rfl
theorem zero171 : zeroPV Try.prog 171 = some [] := by kernel_rfl
theorem cells172 : Try.prog.cellsOf 172 = 0 := by kernel_rfl
theorem zero172 : zeroPV Try.prog 172 = some [] := by kernel_rfl
theorem cells173 : Try.prog.cellsOf 173 = 1 := by kernel_rfl
theorem zero173 : zeroPV Try.prog 173 = some [.int .u8 0] := by kernel_rfl
theorem cells174 : Try.prog.cellsOf 174 = 1 := by kernel_rfl
theorem zero174 : zeroPV Try.prog 174 = some [.int .u8 0] := by kernel_rfl
theorem cells176 : Try.prog.cellsOf 176 = 1 := by kernel_rfl
theorem zero176 : zeroPV Try.prog 176 = some [.nilptr] := by kernel_rfl
theorem cells177 : Try.prog.cellsOf 177 = 1 := by kernel_rfl
theorem zero177 : zeroPV Try.prog 177 = some [.int .i32 0] := by kernel_rfl
theorem cells178 : Try.prog.cellsOf 178 = 1 := by kernel_rfl
theorem zero178 : zeroPV Try.prog 178 = some [.int .i32 0] := by kernel_rfl
theorem cells179 : Try.prog.cellsOf 179 = 11 := by kernel_rfl
theorem zero179 : zeroPV Try.prog 179 = some [.int .u64 0, .int .u64 0, .int .u32 0, .int .u8 0, .int .u8 0, .int .u8 0, .int .u8 0, .nilfunc, .nilptr, .int .i32 0, .int .i32 0] := by kernel_rfl
theorem cells180 : Try.prog.cellsOf 180 = 11 := by kernel_rfl
theorem zero180 : zeroPV Try.prog 180 = some [.int .u64 0, .int .u64 0, .int .u32 0, .int .u8 0, .int .u8 0, .int .u8 0, .int .u8 0, .nilfunc, .nilptr, .int .i32 0, .int .i32 0] := by kernel_rfl
theorem cells181 : Try.prog.cellsOf 181 = 1 := by kernel_rfl
theorem zero181 : zeroPV Try.prog 181 = some [.nilptr] := by kernel_rfl
end Go.Proofs.Ytgelnjmddabgpaa
namespace Go.Proofs.Ytgelnjmddabgpaa
open Go
set_option maxRecDepth 100000
theorem lda2 {σ : Sg} {id off : Nat} : loadPV Try.prog σ 2 (.ptr id off) = ldS σ id off := ldS_of Try.underlying2 rfl
theorem ela2 {σ : Sg} {es i off : Nat} {l : List PV} : loadPV Try.prog σ 2 (.eptr es l i off) = elS l i off := elS_of Try.underlying2 rfl
theorem sto2 {σ : Sg} {id off : Nat} {p : PV} : storePV Try.prog σ 2 (.ptr id off) p = stX 1 σ id off p := stX_of Try.underlying2 cells2 p
theorem lda3 {σ : Sg} {id off : Nat} : loadPV Try.prog σ 3 (.ptr id off) = ldS σ id off := ldS_of Try.underlying3 rfl
theorem ela3 {σ : Sg} {es i off : Nat} {l : List PV} : loadPV Try.prog σ 3 (.eptr es l i off) = elS l i off := elS_of Try.underlying3 rfl
theorem sto3 {σ : Sg} {id off : Nat} {p : PV} : storePV Try.prog σ 3 (.ptr id off) p = stX 1 σ id off p := stX_of Try.underlying3 cells3 p
theorem lda4 {σ : Sg} {id off : Nat} : loadPV Try.prog σ 4 (.ptr id off) = ldS σ id off := ldS_of Try.underlying4 rfl
theorem ela4 {σ : Sg} {es i off : Nat} {l : List PV} : loadPV Try.prog σ 4 (.eptr es l i off) = elS l i off := elS_of Try.underlying4 rfl
theorem sto4 {σ : Sg} {id off : Nat} {p : PV} : storePV Try.prog σ 4 (.ptr id off) p = stX 1 σ id off p := stX_of Try.underlying4 cells4 p
theorem lda5 {σ : Sg} {id off : Nat} : loadPV Try.prog σ 5 (.ptr id off) = ldS σ id off := ldS_of Try.underlying5 rfl
theorem ela5 {σ : Sg} {es i off : Nat} {l : List PV} : loadPV Try.prog σ 5 (.eptr es l i off) = elS l i off := elS_of Try.underlying5 rfl
theorem sto5 {σ : Sg} {id off : Nat} {p : PV} : storePV Try.prog σ 5 (.ptr id off) p = stX 1 σ id off p := stX_of Try.underlying5 cells5 p
theorem lda9 {σ : Sg} {id off : Nat} : loadPV Try.prog σ 9 (.ptr id off) = ldS σ id off := ldS_of Try.underlying9 rfl
theorem ela9 {σ : Sg} {es i off : Nat} {l : List PV} : loadPV Try.prog σ 9 (.eptr es l i off) = elS l i off := elS_of Try.underlying9 rfl
theorem sto9 {σ : Sg} {id off : Nat} {p : PV} : storePV Try.prog σ 9 (.ptr id off) p = stX 1 σ id off p := stX_of Try.underlying9 cells9 p
theorem lda22 {σ : Sg} {id off : Nat} : loadPV Try.prog σ 22 (.ptr id off) = ldS σ id off := ldS_of Try.underlying22 rfl
theorem ela22 {σ : Sg} {es i off : Nat} {l : List PV} : loadPV Try.prog σ 22 (.eptr es l i off) = elS l i off := elS_of Try.underlying22 rfl
theorem sto22 {σ : Sg} {id off : Nat} {p : PV} : storePV Try.prog σ 22 (.ptr id off) p = stX 1 σ id off p := stX_of Try.underlying22 cells22 p
theorem ia22 {l : List PV} {own : Own} {k : IntKind} {i : Int} : indexAddrPV Try.prog 22 (.isl l own) (.int k i) = iaX 1 l i := iaX_of Try.underlying22 Try.underlying3 cells3 k i
theorem iam22 {id off len : Nat} {k : IntKind} {i : Int} : indexAddrPV Try.prog 22 (.msl id off len) (.int k i) = iaM 1 id off len i := iaM_of Try.underlying22 Try.underlying3 cells3 k len i
theorem len22 {l : List PV} {own : Own} : lenPV Try.prog 22 (.isl l own) = some (.int .i64 l.length) := len_of Try.underlying22
theorem lenm22 {id off n : Nat} : lenPV Try.prog 22 (.msl id off n) = some (.int .i64 n) := lenM_of Try.underlying22 n
theorem bs22 {len : Nat} {parts : List (Nat × PV)} : buildSlicePV Try.prog 22 len parts = bsX 1 len parts := bsX_of Try.underlying22 Try.underlying3 cells3 zero3 len parts
theorem app22 {σ : Sg} {l m : List PV} {own own' : Own} : appendPV Try.prog σ 22 22 (.isl l own) (.isl m own') = appX 1 8 σ l own m := appX_of Try.underlying22 Try.underlying3 cells3 bytes3 (by decide) (by decide) zero3 rfl
theorem lda23 {σ : Sg} {id off : Nat} : loadPV Try.prog σ 23 (.ptr id off) = ldS σ id off := ldS_of Try.underlying23 rfl
theorem ela23 {σ : Sg} {es i off : Nat} {l : List PV} : loadPV Try.prog σ 23 (.eptr es l i off) = elS l i off := elS_of Try.underlying23 rfl
theorem sto23 {σ : Sg} {id off : Nat} {p : PV} : storePV Try.prog σ 23 (.ptr id off) p = stX 1 σ id off p := stX_of Try.underlying23 cells23 p
theorem lda25 {σ : Sg} {id off : Nat} : loadPV Try.prog σ 25 (.ptr id off) = ldA 7 σ id off := ldA_of Try.underlying25 rfl cells25
theorem ela25 {σ : Sg} {es i off : Nat} {l : List PV} : loadPV Try.prog σ 25 (.eptr es l i off) = elA 7 l i off := elA_of Try.underlying25 rfl cells25
theorem sto25 {σ : Sg} {id off : Nat} {p : PV} : storePV Try.prog σ 25 (.ptr id off) p = stX 7 σ id off p := stX_of Try.underlying25 cells25 p
theorem fa25_0 {id off : Nat} : fieldAddrPV Try.prog 25 (.ptr id off) 0 = some (.ptr id (off + 0)) := fa1_of Try.underlying25 (by rfl) (by exact Try.underlying3) (by exact cells3) (by rfl) (by rfl)
theorem fae25_0 {es i off : Nat} {l : List PV} : fieldAddrPV Try.prog 25 (.eptr es l i off) 0 = some (.eptr es l i (off + 0)) := fa2_of Try.underlying25 (by rfl) (by exact Try.underlying3) (by exact cells3) (by rfl) (by rfl)
theorem fp25_0 {cs : List PV} : fieldPV Try.prog 25 (.agg cs) 0 = cs[0]? := fpS_of Try.underlying25 (by rfl) (by exact Try.underlying3) (by rfl) (by rfl) cs
theorem fa25_1 {id off : Nat} : fieldAddrPV Try.prog 25 (.ptr id off) 1 = some (.ptr id (off + 1)) := fa1_of Try.underlying25 (by rfl) (by exact Try.underlying3) (by exact cells3) (by rfl) (by rfl)
theorem fae25_1 {es i off : Nat} {l : List PV} : fieldAddrPV Try.prog 25 (.eptr es l i off) 1 = some (.eptr es l i (off + 1)) := fa2_of Try.underlying25 (by rfl) (by exact Try.underlying3) (by exact cells3) (by rfl) (by rfl)
theorem fp25_1 {cs : List PV} : fieldPV Try.prog 25 (.agg cs) 1 = cs[1]? := fpS_of Try.underlying25 (by rfl) (by exact Try.underlying3) (by rfl) (by rfl) cs
theorem fa25_2 {id off : Nat} : fieldAddrPV Try.prog 25 (.ptr id off) 2 = some (.ptr id (off + 2)) := fa1_of Try.underlying25 (by rfl) (by exact Try.underlying3) (by exact cells3) (by rfl) (by rfl)
theorem fae25_2 {es i off : Nat} {l : List PV} : fieldAddrPV Try.prog 25 (.eptr es l i off) 2 = some (.eptr es l i (off + 2)) := fa2_of Try.underlying25 (by rfl) (by exact Try.underlying3) (by exact cells3) (by rfl) (by rfl)
theorem fp25_2 {cs : List PV} : fieldPV Try.prog 25 (.agg cs) 2 = cs[2]? := fpS_of Try.underlying25 (by rfl) (by exact Try.underlying3) (by rfl) (by rfl) cs
theorem fa25_3 {id off : Nat} : fieldAddrPV Try.prog 25 (.ptr id off) 3 = some (.ptr id (off + 3)) := fa1_of Try.underlying25 (by rfl) (by exact Try.underlying3) (by exact cells3) (by rfl) (by rfl)
theorem fae25_3 {es i off : Nat} {l : List PV} : fieldAddrPV Try.prog 25 (.eptr es l i off) 3 = some (.eptr es l i (off + 3)) := fa2_of Try.underlying25 (by rfl) (by exact Try.underlying3) (by exact cells3) (by rfl) (by rfl)
theorem fp25_3 {cs : List PV} : fieldPV Try.prog 25 (.agg cs) 3 = cs[3]? := fpS_of Try.underlying25 (by rfl) (by exact Try.underlying3) (by rfl) (by rfl) cs
theorem fa25_4 {id off : Nat} : fieldAddrPV Try.prog 25 (.ptr id off) 4 = some (.ptr id (off + 4)) := fa1_of Try.underlying25 (by rfl) (by exact Try.underlying3) (by exact cells3) (by rfl) (by rfl)
theorem fae25_4 {es i off : Nat} {l : List PV} : fieldAddrPV Try.prog 25 (.eptr es l i off) 4 = some (.eptr es l i (off + 4)) := fa2_of Try.underlying25 (by rfl) (by exact Try.underlying3) (by exact cells3) (by rfl) (by rfl)
theorem fp25_4 {cs : List PV} : fieldPV Try.prog 25 (.agg cs) 4 = cs[4]? := fpS_of Try.underlying25 (by rfl) (by exact Try.underlying3) (by rfl) (by rfl) cs
theorem fa25_5 {id off : Nat} : fieldAddrPV Try.prog 25 (.ptr id off) 5 = some (.ptr id (off + 5)) := fa1_of Try.underlying25 (by rfl) (by exact Try.underlying3) (by exact cells3) (by rfl) (by rfl)
theorem fae25_5 {es i off : Nat} {l : List PV} : fieldAddrPV Try.prog 25 (.eptr es l i off) 5 = some (.eptr es l i (off + 5)) := fa2_of Try.underlying25 (by rfl) (by exact Try.underlying3) (by exact cells3) (by rfl) (by rfl)
theorem fp25_5 {cs : List PV} : fieldPV Try.prog 25 (.agg cs) 5 = cs[5]? := fpS_of Try.underlying25 (by rfl) (by exact Try.underlying3) (by rfl) (by rfl) cs
theorem fa25_6 {id off : Nat} : fieldAddrPV Try.prog 25 (.ptr id off) 6 = some (.ptr id (off + 6)) := fa1_of Try.underlying25 (by rfl) (by exact Try.underlying22) (by exact cells22) (by rfl) (by rfl)
theorem fae25_6 {es i off : Nat} {l : List PV} : fieldAddrPV Try.prog 25 (.eptr es l i off) 6 = some (.eptr es l i (off + 6)) := fa2_of Try.underlying25 (by rfl) (by exact Try.underlying22) (by exact cells22) (by rfl) (by rfl)
theorem fp25_6 {cs : List PV} : fieldPV Try.prog 25 (.agg cs) 6 = cs[6]? := fpS_of Try.underlying25 (by rfl) (by exact Try.underlying22) (by rfl) (by rfl) cs
theorem bld25 {parts : List (Nat × PV)} : buildPV Try.prog 25 parts = bldX [.int .i64 0, .int .i64 0, .int .i64 0, .int .i64 0, .int .i64 0, .int .i64 0, .isl [] .exact] [(0, 1), (1, 1), (2, 1), (3, 1), (4, 1), (5, 1), (6, 1)] parts := bldX_of zero25 Try.underlying25 (by kernel_rfl) (by kernel_rfl) parts
theorem lda26 {σ : Sg} {id off : Nat} : loadPV Try.prog σ 26 (.ptr id off) = ldA 7 σ id off := ldA_of Try.underlying26 rfl cells26
theorem ela26 {σ : Sg} {es i off : Nat} {l : List PV} : loadPV Try.prog σ 26 (.eptr es l i off) = elA 7 l i off := elA_of Try.underlying26 rfl cells26
theorem sto26 {σ : Sg} {id off : Nat} {p : PV} : storePV Try.prog σ 26 (.ptr id off) p = stX 7 σ id off p := stX_of Try.underlying26 cells26 p
theorem fa26_0 {id off : Nat} : fieldAddrPV Try.prog 26 (.ptr id off) 0 = some (.ptr id (off + 0)) := fa1_of Try.underlying26 (by rfl) (by exact Try.underlying3) (by exact cells3) (by rfl) (by rfl)
theorem fae26_0 {es i off : Nat} {l : List PV} : fieldAddrPV Try.prog 26 (.eptr es l i off) 0 = some (.eptr es l i (off + 0)) := fa2_of Try.underlying26 (by rfl) (by exact Try.underlying3) (by exact cells3) (by rfl) (by rfl)
theorem fp26_0 {cs : List PV} : fieldPV Try.prog 26 (.agg cs) 0 = cs[0]? := fpS_of Try.underlying26 (by rfl) (by exact Try.underlying3) (by rfl) (by rfl) cs
theorem fa26_1 {id off : Nat} : fieldAddrPV Try.prog 26 (.ptr id off) 1 = some (.ptr id (off + 1)) := fa1_of Try.underlying26 (by rfl) (by exact Try.underlying3) (by exact cells3) (by rfl) (by rfl)
theorem fae26_1 {es i off : Nat} {l : List PV} : fieldAddrPV Try.prog 26 (.eptr es l i off) 1 = some (.eptr es l i (off + 1)) := fa2_of Try.underlying26 (by rfl) (by exact Try.underlying3) (by exact cells3) (by rfl) (by rfl)
theorem fp26_1 {cs : List PV} : fieldPV Try.prog 26 (.agg cs) 1 = cs[1]? := fpS_of Try.underlying26 (by rfl) (by exact Try.underlying3) (by rfl) (by rfl) cs
theorem fa26_2 {id off : Nat} : fieldAddrPV Try.prog 26 (.ptr id off) 2 = some (.ptr id (off + 2)) := fa1_of Try.underlying26 (by rfl) (by exact Try.underlying3) (by exact cells3) (by rfl) (by rfl)
theorem fae26_2 {es i off : Nat} {l : List PV} : fieldAddrPV Try.prog 26 (.eptr es l i off) 2 = some (.eptr es l i (off + 2)) := fa2_of Try.underlying26 (by rfl) (by exact Try.underlying3) (by exact cells3) (by rfl) (by rfl)
theorem fp26_2 {cs : List PV} : fieldPV Try.prog 26 (.agg cs) 2 = cs[2]? := fpS_of Try.underlying26 (by rfl) (by exact Try.underlying3) (by rfl) (by rfl) cs
theorem fa26_3 {id off : Nat} : fieldAddrPV Try.prog 26 (.ptr id off) 3 = some (.ptr id (off + 3)) := fa1_of Try.underlying26 (by rfl) (by exact Try.underlying3) (by exact cells3) (by rfl) (by rfl)
theorem fae26_3 {es i off : Nat} {l : List PV} : fieldAddrPV Try.prog 26 (.eptr es l i off) 3 = some (.eptr es l i (off + 3)) := fa2_of Try.underlying26 (by rfl) (by exact Try.underlying3) (by exact cells3) (by rfl) (by rfl)
theorem fp26_3 {cs : List PV} : fieldPV Try.prog 26 (.agg cs) 3 = cs[3]? := fpS_of Try.underlying26 (by rfl) (by exact Try.underlying3) (by rfl) (by rfl) cs
theorem fa26_4 {id off : Nat} : fieldAddrPV Try.prog 26 (.ptr id off) 4 = some (.ptr id (off + 4)) := fa1_of Try.underlying26 (by rfl) (by exact Try.underlying3) (by exact cells3) (by rfl) (by rfl)
theorem fae26_4 {es i off : Nat} {l : List PV} : fieldAddrPV Try.prog 26 (.eptr es l i off) 4 = some (.eptr es l i (off + 4)) := fa2_of Try.underlying26 (by rfl) (by exact Try.underlying3) (by exact cells3) (by rfl) (by rfl)
theorem fp26_4 {cs : List PV} : fieldPV Try.prog 26 (.agg cs) 4 = cs[4]? := fpS_of Try.underlying26 (by rfl) (by exact Try.underlying3) (by rfl) (by rfl) cs
theorem fa26_5 {id off : Nat} : fieldAddrPV Try.prog 26 (.ptr id off) 5 = some (.ptr id (off + 5)) := fa1_of Try.underlying26 (by rfl) (by exact Try.underlying3) (by exact cells3) (by rfl) (by rfl)
theorem fae26_5 {es i off : Nat} {l : List PV} : fieldAddrPV Try.prog 26 (.eptr es l i off) 5 = some (.eptr es l i (off + 5)) := fa2_of Try.underlying26 (by rfl) (by exact Try.underlying3) (by exact cells3) (by rfl) (by rfl)
theorem fp26_5 {cs : List PV} : fieldPV Try.prog 26 (.agg cs) 5 = cs[5]? := fpS_of Try.underlying26 (by rfl) (by exact Try.underlying3) (by rfl) (by rfl) cs
theorem fa26_6 {id off : Nat} : fieldAddrPV Try.prog 26 (.ptr id off) 6 = some (.ptr id (off + 6)) := fa1_of Try.underlying26 (by rfl) (by exact Try.underlying22) (by exact cells22) (by rfl) (by rfl)
theorem fae26_6 {es i off : Nat} {l : List PV} : fieldAddrPV Try.prog 26 (.eptr es l i off) 6 = some (.eptr es l i (off + 6)) := fa2_of Try.underlying26 (by rfl) (by exact Try.underlying22) (by exact cells22) (by rfl) (by rfl)
theorem fp26_6 {cs : List PV} : fieldPV Try.prog 26 (.agg cs) 6 = cs[6]? := fpS_of Try.underlying26 (by rfl) (by exact Try.underlying22) (by rfl) (by rfl) cs
theorem bld26 {parts : List (Nat × PV)} : buildPV Try.prog 26 parts = bldX [.int .i64 0, .int .i64 0, .int .i64 0, .int .i64 0, .int .i64 0, .int .i64 0, .isl [] .exact] [(0, 1), (1, 1), (2, 1), (3, 1), (4, 1), (5, 1), (6, 1)] parts := bldX_of zero26 Try.underlying26 (by kernel_rfl) (by kernel_rfl) parts
theorem lda28 {σ : Sg} {id off : Nat} : loadPV Try.prog σ 28 (.ptr id off) = ldS σ id off := ldS_of Try.underlying28 rfl
theorem ela28 {σ : Sg} {es i off : Nat} {l : List PV} : loadPV Try.prog σ 28 (.eptr es l i off) = elS l i off := elS_of Try.underlying28 rfl
theorem sto28 {σ : Sg} {id off : Nat} {p : PV} : storePV Try.prog σ 28 (.ptr id off) p = stX 1 σ id off p := stX_of Try.underlying28 cells28 p
theorem ia28 {l : List PV} {own : Own} {k : IntKind} {i : Int} : indexAddrPV Try.prog 28 (.isl l own) (.int k i) = iaX 4 l i := iaX_of Try.underlying28 Try.underlying37 cells37 k i
theorem iam28 {id off len : Nat} {k : IntKind} {i : Int} : indexAddrPV Try.prog 28 (.msl id off len) (.int k i) = iaM 4 id off len i := iaM_of Try.underlying28 Try.underlying37 cells37 k len i
theorem len28 {l : List PV} {own : Own} : lenPV Try.prog 28 (.isl l own) = some (.int .i64 l.length) := len_of Try.underlying28
theorem lenm28 {id off n : Nat} : lenPV Try.prog 28 (.msl id off n) = some (.int .i64 n) := lenM_of Try.underlying28 n
theorem bs28 {len : Nat} {parts : List (Nat × PV)} : buildSlicePV Try.prog 28 len parts = bsX 4 len parts := bsX_of Try.underlying28 Try.underlying37 cells37 zero37 len parts
theorem app28 {σ : Sg} {l m : List PV} {own own' : Own} : appendPV Try.prog σ 28 28 (.isl l own) (.isl m own') = appX 4 48 σ l own m := appX_of Try.underlying28 Try.underlying37 cells37 bytes37 (by decide) (by decide) zero37 rfl
theorem lda29 {σ : Sg} {id off : Nat} : loadPV Try.prog σ 29 (.ptr id off) = ldS σ id off := ldS_of Try.underlying29 rfl
theorem ela29 {σ : Sg} {es i off : Nat} {l : List PV} : loadPV Try.prog σ 29 (.eptr es l i off) = elS l i off := elS_of Try.underlying29 rfl
theorem sto29 {σ : Sg} {id off : Nat} {p : PV} : storePV Try.prog σ 29 (.ptr id off) p = stX 1 σ id off p := stX_of Try.underlying29 cells29 p
theorem ia29 {l : List PV} {own : Own} {k : IntKind} {i : Int} : indexAddrPV Try.prog 29 (.isl l own) (.int k i) = iaX 2 l i := iaX_of Try.underlying29 Try.underlying40 cells40 k i
theorem iam29 {id off len : Nat} {k : IntKind} {i : Int} : indexAddrPV Try.prog 29 (.msl id off len) (.int k i) = iaM 2 id off len i := iaM_of Try.underlying29 Try.underlying40 cells40 k len i
theorem len29 {l : List PV} {own : Own} : lenPV Try.prog 29 (.isl l own) = some (.int .i64 l.length) := len_of Try.underlying29
theorem lenm29 {id off n : Nat} : lenPV Try.prog 29 (.msl id off n) = some (.int .i64 n) := lenM_of Try.underlying29 n
theorem bs29 {len : Nat} {parts : List (Nat × PV)} : buildSlicePV Try.prog 29 len parts = bsX 2 len parts := bsX_of Try.underlying29 Try.underlying40 cells40 zero40 len parts
theorem app29 {σ : Sg} {l m : List PV} {own own' : Own} : appendPV Try.prog σ 29 29 (.isl l own) (.isl m own') = appX 2 16 σ l own m := appX_of Try.underlying29 Try.underlying40 cells40 bytes40 (by decide) (by decide) zero40 rfl
theorem lda30 {σ : Sg} {id off : Nat} : loadPV Try.prog σ 30 (.ptr id off) = ldS σ id off := ldS_of Try.underlying30 rfl
theorem ela30 {σ : Sg} {es i off : Nat} {l : List PV} : loadPV Try.prog σ 30 (.eptr es l i off) = elS l i off := elS_of Try.underlying30 rfl
theorem sto30 {σ : Sg} {id off : Nat} {p : PV} : storePV Try.prog σ 30 (.ptr id off) p = stX 1 σ id off p := stX_of Try.underlying30 cells30 p
theorem ia30 {l : List PV} {own : Own} {k : IntKind} {i : Int} : indexAddrPV Try.prog 30 (.isl l own) (.int k i) = iaX 2 l i := iaX_of Try.underlying30 Try.underlying42 cells42 k i
theorem iam30 {id off len : Nat} {k : IntKind} {i : Int} : indexAddrPV Try.prog 30 (.msl id off len) (.int k i) = iaM 2 id off len i := iaM_of Try.underlying30 Try.underlying42 cells42 k len i
theorem len30 {l : List PV} {own : Own} : lenPV Try.prog 30 (.isl l own) = some (.int .i64 l.length) := len_of Try.underlying30
theorem lenm30 {id off n : Nat} : lenPV Try.prog 30 (.msl id off n) = some (.int .i64 n) := lenM_of Try.underlying30 n
theorem bs30 {len : Nat} {parts : List (Nat × PV)} : buildSlicePV Try.prog 30 len parts = bsX 2 len parts := bsX_of Try.underlying30 Try.underlying42 cells42 zero42 len parts
theorem app30 {σ : Sg} {l m : List PV} {own own' : Own} : appendPV Try.prog σ 30 30 (.isl l own) (.isl m own') = appX 2 16 σ l own m := appX_of Try.underlying30 Try.underlying42 cells42 bytes42 (by decide) (by decide) zero42 rfl
theorem lda31 {σ : Sg} {id off : Nat} : loadPV Try.prog σ 31 (.ptr id off) = ldA 3 σ id off := ldA_of Try.underlying31 rfl cells31
theorem ela31 {σ : Sg} {es i off : Nat} {l : List PV} : loadPV Try.prog σ 31 (.eptr es l i off) = elA 3 l i off := elA_of Try.underlying31 rfl cells31
theorem sto31 {σ : Sg} {id off : Nat} {p : PV} : storePV Try.prog σ 31 (.ptr id off) p = stX 3 σ id off p := stX_of Try.underlying31 cells31 p
theorem fa31_0 {id off : Nat} : fieldAddrPV Try.prog 31 (.ptr id off) 0 = some (.ptr id (off + 0)) := fa1_of Try.underlying31 (by rfl) (by exact Try.underlying28) (by exact cells28) (by rfl) (by rfl)
theorem fae31_0 {es i off : Nat} {l : List PV} : fieldAddrPV Try.prog 31 (.eptr es l i off) 0 = some (.eptr es l i (off + 0)) := fa2_of Try.underlying31 (by rfl) (by exact Try.underlying28) (by exact cells28) (by rfl) (by rfl)
theorem fp31_0 {cs : List PV} : fieldPV Try.prog 31 (.agg cs) 0 = cs[0]? := fpS_of Try.underlying31 (by rfl) (by exact Try.underlying28) (by rfl) (by rfl) cs
theorem fa31_1 {id off : Nat} : fieldAddrPV Try.prog 31 (.ptr id off) 1 = some (.ptr id (off + 1)) := fa1_of Try.underlying31 (by rfl) (by exact Try.underlying29) (by exact cells29) (by rfl) (by rfl)
theorem fae31_1 {es i off : Nat} {l : List PV} : fieldAddrPV Try.prog 31 (.eptr es l i off) 1 = some (.eptr es l i (off + 1)) := fa2_of Try.underlying31 (by rfl) (by exact Try.underlying29) (by exact cells29) (by rfl) (by rfl)
theorem fp31_1 {cs : List PV} : fieldPV Try.prog 31 (.agg cs) 1 = cs[1]? := fpS_of Try.underlying31 (by rfl) (by exact Try.underlying29) (by rfl) (by rfl) cs
theorem fa31_2 {id off : Nat} : fieldAddrPV Try.prog 31 (.ptr id off) 2 = some (.ptr id (off + 2)) := fa1_of Try.underlying31 (by rfl) (by exact Try.underlying30) (by exact cells30) (by rfl) (by rfl)
theorem fae31_2 {es i off : Nat} {l : List PV} : fieldAddrPV Try.prog 31 (.eptr es l i off) 2 = some (.eptr es l i (off + 2)) := fa2_of Try.underlying31 (by rfl) (by exact Try.underlying30) (by exact cells30) (by rfl) (by rfl)
theorem fp31_2 {cs : List PV} : fieldPV Try.prog 31 (.agg cs) 2 = cs[2]? := fpS_of Try.underlying31 (by rfl) (by exact Try.underlying30) (by rfl) (by rfl) cs
theorem bld31 {parts : List (Nat × PV)} : buildPV Try.prog 31 parts = bldX [.isl [] .exact, .isl [] .exact, .isl [] .exact] [(0, 1), (1, 1), (2, 1)] parts := bldX_of zero31 Try.underlying31 (by kernel_rfl) (by kernel_rfl) parts
theorem lda32 {σ : Sg} {id off : Nat} : loadPV Try.prog σ 32 (.ptr id off) = ldA 3 σ id off := ldA_of Try.underlying32 rfl cells32
theorem ela32 {σ : Sg} {es i off : Nat} {l : List PV} : loadPV Try.prog σ 32 (.eptr es l i off) = elA 3 l i off := elA_of Try.underlying32 rfl cells32
theorem sto32 {σ : Sg} {id off : Nat} {p : PV} : storePV Try.prog σ 32 (.ptr id off) p = stX 3 σ id off p := stX_of Try.underlying32 cells32 p
theorem fa32_0 {id off : Nat} : fieldAddrPV Try.prog 32 (.ptr id off) 0 = some (.ptr id (off + 0)) := fa1_of Try.underlying32 (by rfl) (by exact Try.underlying28) (by exact cells28) (by rfl) (by rfl)
theorem fae32_0 {es i off : Nat} {l : List PV} : fieldAddrPV Try.prog 32 (.eptr es l i off) 0 = some (.eptr es l i (off + 0)) := fa2_of Try.underlying32 (by rfl) (by exact Try.underlying28) (by exact cells28) (by rfl) (by rfl)
theorem fp32_0 {cs : List PV} : fieldPV Try.prog 32 (.agg cs) 0 = cs[0]? := fpS_of Try.underlying32 (by rfl) (by exact Try.underlying28) (by rfl) (by rfl) cs
theorem fa32_1 {id off : Nat} : fieldAddrPV Try.prog 32 (.ptr id off) 1 = some (.ptr id (off + 1)) := fa1_of Try.underlying32 (by rfl) (by exact Try.underlying29) (by exact cells29) (by rfl) (by rfl)
theorem fae32_1 {es i off : Nat} {l : List PV} : fieldAddrPV Try.prog 32 (.eptr es l i off) 1 = some (.eptr es l i (off + 1)) := fa2_of Try.underlying32 (by rfl) (by exact Try.underlying29) (by exact cells29) (by rfl) (by rfl)
theorem fp32_1 {cs : List PV} : fieldPV Try.prog 32 (.agg cs) 1 = cs[1]? := fpS_of Try.underlying32 (by rfl) (by exact Try.underlying29) (by rfl) (by rfl) cs
theorem fa32_2 {id off : Nat} : fieldAddrPV Try.prog 32 (.ptr id off) 2 = some (.ptr id (off + 2)) := fa1_of Try.underlying32 (by rfl) (by exact Try.underlying30) (by exact cells30) (by rfl) (by rfl)
theorem fae32_2 {es i off : Nat} {l : List PV} : fieldAddrPV Try.prog 32 (.eptr es l i off) 2 = some (.eptr es l i (off + 2)) := fa2_of Try.underlying32 (by rfl) (by exact Try.underlying30) (by exact cells30) (by rfl) (by rfl)
theorem fp32_2 {cs : List PV} : fieldPV Try.prog 32 (.agg cs) 2 = cs[2]? := fpS_of Try.underlying32 (by rfl) (by exact Try.underlying30) (by rfl) (by rfl) cs
theorem bld32 {parts : List (Nat × PV)} : buildPV Try.prog 32 parts = bldX [.isl [] .exact, .isl [] .exact, .isl [] .exact] [(0, 1), (1, 1), (2, 1)] parts := bldX_of zero32 Try.underlying32 (by kernel_rfl) (by kernel_rfl) parts
theorem lda36 {σ : Sg} {id off : Nat} : loadPV Try.prog σ 36 (.ptr id off) = ldA 4 σ id off := ldA_of Try.underlying36 rfl cells36
theorem ela36 {σ : Sg} {es i off : Nat} {l : List PV} : loadPV Try.prog σ 36 (.eptr es l i off) = elA 4 l i off := elA_of Try.underlying36 rfl cells36
theorem sto36 {σ : Sg} {id off : Nat} {p : PV} : storePV Try.prog σ 36 (.ptr id off) p = stX 4 σ id off p := stX_of Try.underlying36 cells36 p
theorem fa36_0 {id off : Nat} : fieldAddrPV Try.prog 36 (.ptr id off) 0 = some (.ptr id (off + 0)) := fa1_of Try.underlying36 (by rfl) (by exact Try.underlying3) (by exact cells3) (by rfl) (by rfl)
theorem fae36_0 {es i off : Nat} {l : List PV} : fieldAddrPV Try.prog 36 (.eptr es l i off) 0 = some (.eptr es l i (off + 0)) := fa2_of Try.underlying36 (by rfl) (by exact Try.underlying3) (by exact cells3) (by rfl) (by rfl)
theorem fp36_0 {cs : List PV} : fieldPV Try.prog 36 (.agg cs) 0 = cs[0]? := fpS_of Try.underlying36 (by rfl) (by exact Try.underlying3) (by rfl) (by rfl) cs
theorem fa36_1 {id off : Nat} : fieldAddrPV Try.prog 36 (.ptr id off) 1 = some (.ptr id (off + 1)) := fa1_of Try.underlying36 (by rfl) (by exact Try.underlying3) (by exact cells3) (by rfl) (by rfl)
theorem fae36_1 {es i off : Nat} {l : List PV} : fieldAddrPV Try.prog 36 (.eptr es l i off) 1 = some (.eptr es l i (off + 1)) := fa2_of Try.underlying36 (by rfl) (by exact Try.underlying3) (by exact cells3) (by rfl) (by rfl)
theorem fp36_1 {cs : List PV} : fieldPV Try.prog 36 (.agg cs) 1 = cs[1]? := fpS_of Try.underlying36 (by rfl) (by exact Try.underlying3) (by rfl) (by rfl) cs
theorem fa36_2 {id off : Nat} : fieldAddrPV Try.prog 36 (.ptr id off) 2 = some (.ptr id (off + 2)) := fa1_of Try.underlying36 (by rfl) (by exact Try.underlying22) (by exact cells22) (by rfl) (by rfl)
theorem fae36_2 {es i off : Nat} {l : List PV} : fieldAddrPV Try.prog 36 (.eptr es l i off) 2 = some (.eptr es l i (off + 2)) := fa2_of Try.underlying36 (by rfl) (by exact Try.underlying22) (by exact cells22) (by rfl) (by rfl)
theorem fp36_2 {cs : List PV} : fieldPV Try.prog 36 (.agg cs) 2 = cs[2]? := fpS_of Try.underlying36 (by rfl) (by exact Try.underlying22) (by rfl) (by rfl) cs
theorem fa36_3 {id off : Nat} : fieldAddrPV Try.prog 36 (.ptr id off) 3 = some (.ptr id (off + 3)) := fa1_of Try.underlying36 (by rfl) (by exact Try.underlying3) (by exact cells3) (by rfl) (by rfl)
theorem fae36_3 {es i off : Nat} {l : List PV} : fieldAddrPV Try.prog 36 (.eptr es l i off) 3 = some (.eptr es l i (off + 3)) := fa2_of Try.underlying36 (by rfl) (by exact Try.underlying3) (by exact cells3) (by rfl) (by rfl)
theorem fp36_3 {cs : List PV} : fieldPV Try.prog 36 (.agg cs) 3 = cs[3]? := fpS_of Try.underlying36 (by rfl) (by exact Try.underlying3) (by rfl) (by rfl) cs
theorem bld36 {parts : List (Nat × PV)} : buildPV Try.prog 36 parts = bldX [.int .i64 0, .int .i64 0, .isl [] .exact, .int .i64 0] [(0, 1), (1, 1), (2, 1), (3, 1)] parts := bldX_of zero36 Try.underlying36 (by kernel_rfl) (by kernel_rfl) parts
theorem lda37 {σ : Sg} {id off : Nat} : loadPV Try.prog σ 37 (.ptr id off) = ldA 4 σ id off := ldA_of Try.underlying37 rfl cells37
theorem ela37 {σ : Sg} {es i off : Nat} {l : List PV} : loadPV Try.prog σ 37 (.eptr es l i off) = elA 4 l i off := elA_of Try.underlying37 rfl cells37
theorem sto37 {σ : Sg} {id off : Nat} {p : PV} : storePV Try.prog σ 37 (.ptr id off) p = stX 4 σ id off p := stX_of Try.underlying37 cells37 p
theorem fa37_0 {id off : Nat} : fieldAddrPV Try.prog 37 (.ptr id off) 0 = some (.ptr id (off + 0)) := fa1_of Try.underlying37 (by rfl) (by exact Try.underlying3) (by exact cells3) (by rfl) (by rfl)
theorem fae37_0 {es i off : Nat} {l : List PV} : fieldAddrPV Try.prog 37 (.eptr es l i off) 0 = some (.eptr es l i (off + 0)) := fa2_of Try.underlying37 (by rfl) (by exact Try.underlying3) (by exact cells3) (by rfl) (by rfl)
theorem fp37_0 {cs : List PV} : fieldPV Try.prog 37 (.agg cs) 0 = cs[0]? := fpS_of Try.underlying37 (by rfl) (by exact Try.underlying3) (by rfl) (by rfl) cs
theorem fa37_1 {id off : Nat} : fieldAddrPV Try.prog 37 (.ptr id off) 1 = some (.ptr id (off + 1)) := fa1_of Try.underlying37 (by rfl) (by exact Try.underlying3) (by exact cells3) (by rfl) (by rfl)
theorem fae37_1 {es i off : Nat} {l : List PV} : fieldAddrPV Try.prog 37 (.eptr es l i off) 1 = some (.eptr es l i (off + 1)) := fa2_of Try.underlying37 (by rfl) (by exact Try.underlying3) (by exact cells3) (by rfl) (by rfl)
theorem fp37_1 {cs : List PV} : fieldPV Try.prog 37 (.agg cs) 1 = cs[1]? := fpS_of Try.underlying37 (by rfl) (by exact Try.underlying3) (by rfl) (by rfl) cs
theorem fa37_2 {id off : Nat} : fieldAddrPV Try.prog 37 (.ptr id off) 2 = some (.ptr id (off + 2)) := fa1_of Try.underlying37 (by rfl) (by exact Try.underlying22) (by exact cells22) (by rfl) (by rfl)
theorem fae37_2 {es i off : Nat} {l : List PV} : fieldAddrPV Try.prog 37 (.eptr es l i off) 2 = some (.eptr es l i (off + 2)) := fa2_of Try.underlying37 (by rfl) (by exact Try.underlying22) (by exact cells22) (by rfl) (by rfl)
theorem fp37_2 {cs : List PV} : fieldPV Try.prog 37 (.agg cs) 2 = cs[2]? := fpS_of Try.underlying37 (by rfl) (by exact Try.underlying22) (by rfl) (by rfl) cs
theorem fa37_3 {id off : Nat} : fieldAddrPV Try.prog 37 (.ptr id off) 3 = some (.ptr id (off + 3)) := fa1_of Try.underlying37 (by rfl) (by exact Try.underlying3) (by exact cells3) (by rfl) (by rfl)
theorem fae37_3 {es i off : Nat} {l : List PV} : fieldAddrPV Try.prog 37 (.eptr es l i off) 3 = some (.eptr es l i (off + 3)) := fa2_of Try.underlying37 (by rfl) (by exact Try.underlying3) (by exact cells3) (by rfl) (by rfl)
theorem fp37_3 {cs : List PV} : fieldPV Try.prog 37 (.agg cs) 3 = cs[3]? := fpS_of Try.underlying37 (by rfl) (by exact Try.underlying3) (by rfl) (by rfl) cs
theorem bld37 {parts : List (Nat × PV)} : buildPV Try.prog 37 parts = bldX [.int .i64 0, .int .i64 0, .isl [] .exact, .int .i64 0] [(0, 1), (1, 1), (2, 1), (3, 1)] parts := bldX_of zero37 Try.underlying37 (by kernel_rfl) (by kernel_rfl) parts
theorem lda39 {σ : Sg} {id off : Nat} : loadPV Try.prog σ 39 (.ptr id off) = ldA 2 σ id off := ldA_of Try.underlying39 rfl cells39
theorem ela39 {σ : Sg} {es i off : Nat} {l : List PV} : loadPV Try.prog σ 39 (.eptr es l i off) = elA 2 l i off := elA_of Try.underlying39 rfl cells39
theorem sto39 {σ : Sg} {id off : Nat} {p : PV} : storePV Try.prog σ 39 (.ptr id off) p = stX 2 σ id off p := stX_of Try.underlying39 cells39 p
theorem fa39_0 {id off : Nat} : fieldAddrPV Try.prog 39 (.ptr id off) 0 = some (.ptr id (off + 0)) := fa1_of Try.underlying39 (by rfl) (by exact Try.underlying3) (by exact cells3) (by rfl) (by rfl)
theorem fae39_0 {es i off : Nat} {l : List PV} : fieldAddrPV Try.prog 39 (.eptr es l i off) 0 = some (.eptr es l i (off + 0)) := fa2_of Try.underlying39 (by rfl) (by exact Try.underlying3) (by exact cells3) (by rfl) (by rfl)
theorem fp39_0 {cs : List PV} : fieldPV Try.prog 39 (.agg cs) 0 = cs[0]? := fpS_of Try.underlying39 (by rfl) (by exact Try.underlying3) (by rfl) (by rfl) cs
theorem fa39_1 {id off : Nat} : fieldAddrPV Try.prog 39 (.ptr id off) 1 = some (.ptr id (off + 1)) := fa1_of Try.underlying39 (by rfl) (by exact Try.underlying3) (by exact cells3) (by rfl) (by rfl)
theorem fae39_1 {es i off : Nat} {l : List PV} : fieldAddrPV Try.prog 39 (.eptr es l i off) 1 = some (.eptr es l i (off + 1)) := fa2_of Try.underlying39 (by rfl) (by exact Try.underlying3) (by exact cells3) (by rfl) (by rfl)
theorem fp39_1 {cs : List PV} : fieldPV Try.prog 39 (.agg cs) 1 = cs[1]? := fpS_of Try.underlying39 (by rfl) (by exact Try.underlying3) (by rfl) (by rfl) cs
theorem eqs39 {a0 a1 b0 b1 : Int} : eqPV Try.prog 39 (.agg [.int .i64 a0, .int .i64 a1]) (.agg [.int .i64 b0, .int .i64 b1]) = some ((a0 == b0) && ((a1 == b1) && true)) := by kernel_rfl
theorem bld39 {parts : List (Nat × PV)} : buildPV Try.prog 39 parts = bldX [.int .i64 0, .int .i64 0] [(0, 1), (1, 1)] parts := bldX_of zero39 Try.underlying39 (by kernel_rfl) (by kernel_rfl) parts
theorem lda40 {σ : Sg} {id off : Nat} : loadPV Try.prog σ 40 (.ptr id off) = ldA 2 σ id off := ldA_of Try.underlying40 rfl cells40
theorem ela40 {σ : Sg} {es i off : Nat} {l : List PV} : loadPV Try.prog σ 40 (.eptr es l i off) = elA 2 l i off := elA_of Try.underlying40 rfl cells40
theorem sto40 {σ : Sg} {id off : Nat} {p : PV} : storePV Try.prog σ 40 (.ptr id off) p = stX 2 σ id off p := stX_of Try.underlying40 cells40 p
theorem fa40_0 {id off : Nat} : fieldAddrPV Try.prog 40 (.ptr id off) 0 = some (.ptr id (off + 0)) := fa1_of Try.underlying40 (by rfl) (by exact Try.underlying3) (by exact cells3) (by rfl) (by rfl)
theorem fae40_0 {es i off : Nat} {l : List PV} : fieldAddrPV Try.prog 40 (.eptr es l i off) 0 = some (.eptr es l i (off + 0)) := fa2_of Try.underlying40 (by rfl) (by exact Try.underlying3) (by exact cells3) (by rfl) (by rfl)
theorem fp40_0 {cs : List PV} : fieldPV Try.prog 40 (.agg cs) 0 = cs[0]? := fpS_of Try.underlying40 (by rfl) (by exact Try.underlying3) (by rfl) (by rfl) cs
theorem fa40_1 {id off : Nat} : fieldAddrPV Try.prog 40 (.ptr id off) 1 = some (.ptr id (off + 1)) := fa1_of Try.underlying40 (by rfl) (by exact Try.underlying3) (by exact cells3) (by rfl) (by rfl)
theorem fae40_1 {es i off : Nat} {l : List PV} : fieldAddrPV Try.prog 40 (.eptr es l i off) 1 = some (.eptr es l i (off + 1)) := fa2_of Try.underlying40 (by rfl) (by exact Try.underlying3) (by exact cells3) (by rfl) (by rfl)
theorem fp40_1 {cs : List PV} : fieldPV Try.prog 40 (.agg cs) 1 = cs[1]? := fpS_of Try.underlying40 (by rfl) (by exact Try.underlying3) (by rfl) (by rfl) cs
theorem eqs40 {a0 a1 b0 b1 : Int} : eqPV Try.prog 40 (.agg [.int .i64 a0, .int .i64 a1]) (.agg [.int .i64 b0, .int .i64 b1]) = some ((a0 == b0) && ((a1 == b1) && true)) := by kernel_rfl
theorem bld40 {parts : List (Nat × PV)} : buildPV Try.prog 40 parts = bldX [.int .i64 0, .int .i64 0] [(0, 1), (1, 1)] parts := bldX_of zero40 Try.underlying40 (by kernel_rfl) (by kernel_rfl) parts
theorem lda41 {σ : Sg} {id off : Nat} : loadPV Try.prog σ 41 (.ptr id off) = ldA 2 σ id off := ldA_of Try.underlying41 rfl cells41
theorem ela41 {σ : Sg} {es i off : Nat} {l : List PV} : loadPV Try.prog σ 41 (.eptr es l i off) = elA 2 l i off := elA_of Try.underlying41 rfl cells41
theorem sto41 {σ : Sg} {id off : Nat} {p : PV} : storePV Try.prog σ 41 (.ptr id off) p = stX 2 σ id off p := stX_of Try.underlying41 cells41 p
theorem fa41_0 {id off : Nat} : fieldAddrPV Try.prog 41 (.ptr id off) 0 = some (.ptr id (off + 0)) := fa1_of Try.underlying41 (by rfl) (by exact Try.underlying3) (by exact cells3) (by rfl) (by rfl)
theorem fae41_0 {es i off : Nat} {l : List PV} : fieldAddrPV Try.prog 41 (.eptr es l i off) 0 = some (.eptr es l i (off + 0)) := fa2_of Try.underlying41 (by rfl) (by exact Try.underlying3) (by exact cells3) (by rfl) (by rfl)
theorem fp41_0 {cs : List PV} : fieldPV Try.prog 41 (.agg cs) 0 = cs[0]? := fpS_of Try.underlying41 (by rfl) (by exact Try.underlying3) (by rfl) (by rfl) cs
theorem fa41_1 {id off : Nat} : fieldAddrPV Try.prog 41 (.ptr id off) 1 = some (.ptr id (off + 1)) := fa1_of Try.underlying41 (by rfl) (by exact Try.underlying3) (by exact cells3) (by rfl) (by rfl)
theorem fae41_1 {es i off : Nat} {l : List PV} : fieldAddrPV Try.prog 41 (.eptr es l i off) 1 = some (.eptr es l i (off + 1)) := fa2_of Try.underlying41 (by rfl) (by exact Try.underlying3) (by exact cells3) (by rfl) (by rfl)
theorem fp41_1 {cs : List PV} : fieldPV Try.prog 41 (.agg cs) 1 = cs[1]? := fpS_of Try.underlying41 (by rfl) (by exact Try.underlying3) (by rfl) (by rfl) cs
theorem eqs41 {a0 a1 b0 b1 : Int} : eqPV Try.prog 41 (.agg [.int .i64 a0, .int .i64 a1]) (.agg [.int .i64 b0, .int .i64 b1]) = some ((a0 == b0) && ((a1 == b1) && true)) := by kernel_rfl
theorem bld41 {parts : List (Nat × PV)} : buildPV Try.prog 41 parts = bldX [.int .i64 0, .int .i64 0] [(0, 1), (1, 1)] parts := bldX_of zero41 Try.underlying41 (by kernel_rfl) (by kernel_rfl) parts
theorem lda42 {σ : Sg} {id off : Nat} : loadPV Try.prog σ 42 (.ptr id off) = ldA 2 σ id off := ldA_of Try.underlying42 rfl cells42
theorem ela42 {σ : Sg} {es i off : Nat} {l : List PV} : loadPV Try.prog σ 42 (.eptr es l i off) = elA 2 l i off := elA_of Try.underlying42 rfl cells42
theorem sto42 {σ : Sg} {id off : Nat} {p : PV} : storePV Try.prog σ 42 (.ptr id off) p = stX 2 σ id off p := stX_of Try.underlying42 cells42 p
theorem fa42_0 {id off : Nat} : fieldAddrPV Try.prog 42 (.ptr id off) 0 = some (.ptr id (off + 0)) := fa1_of Try.underlying42 (by rfl) (by exact Try.underlying3) (by exact cells3) (by rfl) (by rfl)
theorem fae42_0 {es i off : Nat} {l : List PV} : fieldAddrPV Try.prog 42 (.eptr es l i off) 0 = some (.eptr es l i (off + 0)) := fa2_of Try.underlying42 (by rfl) (by exact Try.underlying3) (by exact cells3) (by rfl) (by rfl)
theorem fp42_0 {cs : List PV} : fieldPV Try.prog 42 (.agg cs) 0 = cs[0]? := fpS_of Try.underlying42 (by rfl) (by exact Try.underlying3) (by rfl) (by rfl) cs
theorem fa42_1 {id off : Nat} : fieldAddrPV Try.prog 42 (.ptr id off) 1 = some (.ptr id (off + 1)) := fa1_of Try.underlying42 (by rfl) (by exact Try.underlying3) (by exact cells3) (by rfl) (by rfl)
theorem fae42_1 {es i off : Nat} {l : List PV} : fieldAddrPV Try.prog 42 (.eptr es l i off) 1 = some (.eptr es l i (off + 1)) := fa2_of Try.underlying42 (by rfl) (by exact Try.underlying3) (by exact cells3) (by rfl) (by rfl)
theorem fp42_1 {cs : List PV} : fieldPV Try.prog 42 (.agg cs) 1 = cs[1]? := fpS_of Try.underlying42 (by rfl) (by exact Try.underlying3) (by rfl) (by rfl) cs
theorem eqs42 {a0 a1 b0 b1 : Int} : eqPV Try.prog 42 (.agg [.int .i64 a0, .int .i64 a1]) (.agg [.int .i64 b0, .int .i64 b1]) = some ((a0 == b0) && ((a1 == b1) && true)) := by kernel_rfl
theorem bld42 {parts : List (Nat × PV)} : buildPV Try.prog 42 parts = bldX [.int .i64 0, .int .i64 0] [(0, 1), (1, 1)] parts := bldX_of zero42 Try.underlying42 (by kernel_rfl) (by kernel_rfl) parts
theorem lda43 {σ : Sg} {id off : Nat} : loadPV Try.prog σ 43 (.ptr id off) = ldS σ id off := ldS_of Try.underlying43 rfl
theorem ela43 {σ : Sg} {es i off : Nat} {l : List PV} : loadPV Try.prog σ 43 (.eptr es l i off) = elS l i off := elS_of Try.underlying43 rfl
theorem sto43 {σ : Sg} {id off : Nat} {p : PV} : storePV Try.prog σ 43 (.ptr id off) p = stX 1 σ id off p := stX_of Try.underlying43 cells43 p
theorem ia43 {l : List PV} {own : Own} {k : IntKind} {i : Int} : indexAddrPV Try.prog 43 (.isl l own) (.int k i) = iaX 2 l i := iaX_of Try.underlying43 Try.underlying48 cells48 k i
theorem iam43 {id off len : Nat} {k : IntKind} {i : Int} : indexAddrPV Try.prog 43 (.msl id off len) (.int k i) = iaM 2 id off len i := iaM_of Try.underlying43 Try.underlying48 cells48 k len i
theorem len43 {l : List PV} {own : Own} : lenPV Try.prog 43 (.isl l own) = some (.int .i64 l.length) := len_of Try.underlying43
theorem lenm43 {id off n : Nat} : lenPV Try.prog 43 (.msl id off n) = some (.int .i64 n) := lenM_of Try.underlying43 n
theorem bs43 {len : Nat} {parts : List (Nat × PV)} : buildSlicePV Try.prog 43 len parts = bsX 2 len parts := bsX_of Try.underlying43 Try.underlying48 cells48 zero48 len parts
theorem app43 {σ : Sg} {l m : List PV} {own own' : Own} : appendPV Try.prog σ 43 43 (.isl l own) (.isl m own') = appX 2 16 σ l own m := appX_of Try.underlying43 Try.underlying48 cells48 bytes48 (by decide) (by decide) zero48 rfl
theorem lda44 {σ : Sg} {id off : Nat} : loadPV Try.prog σ 44 (.ptr id off) = ldS σ id off := ldS_of Try.underlying44 rfl
theorem ela44 {σ : Sg} {es i off : Nat} {l : List PV} : loadPV Try.prog σ 44 (.eptr es l i off) = elS l i off := elS_of Try.underlying44 rfl
theorem sto44 {σ : Sg} {id off : Nat} {p : PV} : storePV Try.prog σ 44 (.ptr id off) p = stX 1 σ id off p := stX_of Try.underlying44 cells44 p
theorem lda47 {σ : Sg} {id off : Nat} : loadPV Try.prog σ 47 (.ptr id off) = ldA 2 σ id off := ldA_of Try.underlying47 rfl cells47
theorem ela47 {σ : Sg} {es i off : Nat} {l : List PV} : loadPV Try.prog σ 47 (.eptr es l i off) = elA 2 l i off := elA_of Try.underlying47 rfl cells47
theorem sto47 {σ : Sg} {id off : Nat} {p : PV} : storePV Try.prog σ 47 (.ptr id off) p = stX 2 σ id off p := stX_of Try.underlying47 cells47 p
theorem fa47_0 {id off : Nat} : fieldAddrPV Try.prog 47 (.ptr id off) 0 = some (.ptr id (off + 0)) := fa1_of Try.underlying47 (by rfl) (by exact Try.underlying3) (by exact cells3) (by rfl) (by rfl)
theorem fae47_0 {es i off : Nat} {l : List PV} : fieldAddrPV Try.prog 47 (.eptr es l i off) 0 = some (.eptr es l i (off + 0)) := fa2_of Try.underlying47 (by rfl) (by exact Try.underlying3) (by exact cells3) (by rfl) (by rfl)
theorem fp47_0 {cs : List PV} : fieldPV Try.prog 47 (.agg cs) 0 = cs[0]? := fpS_of Try.underlying47 (by rfl) (by exact Try.underlying3) (by rfl) (by rfl) cs
theorem fa47_1 {id off : Nat} : fieldAddrPV Try.prog 47 (.ptr id off) 1 = some (.ptr id (off + 1)) := fa1_of Try.underlying47 (by rfl) (by exact Try.underlying3) (by exact cells3) (by rfl) (by rfl)
theorem fae47_1 {es i off : Nat} {l : List PV} : fieldAddrPV Try.prog 47 (.eptr es l i off) 1 = some (.eptr es l i (off + 1)) := fa2_of Try.underlying47 (by rfl) (by exact Try.underlying3) (by exact cells3) (by rfl) (by rfl)
theorem fp47_1 {cs : List PV} : fieldPV Try.prog 47 (.agg cs) 1 = cs[1]? := fpS_of Try.underlying47 (by rfl) (by exact Try.underlying3) (by rfl) (by rfl) cs
theorem eqs47 {a0 a1 b0 b1 : Int} : eqPV Try.prog 47 (.agg [.int .i64 a0, .int .i64 a1]) (.agg [.int .i64 b0, .int .i64 b1]) = some ((a0 == b0) && ((a1 == b1) && true)) := by kernel_rfl
theorem bld47 {parts : List (Nat × PV)} : buildPV Try.prog 47 parts = bldX [.int .i64 0, .int .i64 0] [(0, 1), (1, 1)] parts := bldX_of zero47 Try.underlying47 (by kernel_rfl) (by kernel_rfl) parts
theorem lda48 {σ : Sg} {id off : Nat} : loadPV Try.prog σ 48 (.ptr id off) = ldA 2 σ id off := ldA_of Try.underlying48 rfl cells48
theorem ela48 {σ : Sg} {es i off : Nat} {l : List PV} : loadPV Try.prog σ 48 (.eptr es l i off) = elA 2 l i off := elA_of Try.underlying48 rfl cells48
theorem sto48 {σ : Sg} {id off : Nat} {p : PV} : storePV Try.prog σ 48 (.ptr id off) p = stX 2 σ id off p := stX_of Try.underlying48 cells48 p
theorem fa48_0 {id off : Nat} : fieldAddrPV Try.prog 48 (.ptr id off) 0 = some (.ptr id (off + 0)) := fa1_of Try.underlying48 (by rfl) (by exact Try.underlying3) (by exact cells3) (by rfl) (by rfl)
theorem fae48_0 {es i off : Nat} {l : List PV} : fieldAddrPV Try.prog 48 (.eptr es l i off) 0 = some (.eptr es l i (off + 0)) := fa2_of Try.underlying48 (by rfl) (by exact Try.underlying3) (by exact cells3) (by rfl) (by rfl)
theorem fp48_0 {cs : List PV} : fieldPV Try.prog 48 (.agg cs) 0 = cs[0]? := fpS_of Try.underlying48 (by rfl) (by exact Try.underlying3) (by rfl) (by rfl) cs
theorem fa48_1 {id off : Nat} : fieldAddrPV Try.prog 48 (.ptr id off) 1 = some (.ptr id (off + 1)) := fa1_of Try.underlying48 (by rfl) (by exact Try.underlying3) (by exact cells3) (by rfl) (by rfl)
theorem fae48_1 {es i off : Nat} {l : List PV} : fieldAddrPV Try.prog 48 (.eptr es l i off) 1 = some (.eptr es l i (off + 1)) := fa2_of Try.underlying48 (by rfl) (by exact Try.underlying3) (by exact cells3) (by rfl) (by rfl)
theorem fp48_1 {cs : List PV} : fieldPV Try.prog 48 (.agg cs) 1 = cs[1]? := fpS_of Try.underlying48 (by rfl) (by exact Try.underlying3) (by rfl) (by rfl) cs
theorem eqs48 {a0 a1 b0 b1 : Int} : eqPV Try.prog 48 (.agg [.int .i64 a0, .int .i64 a1]) (.agg [.int .i64 b0, .int .i64 b1]) = some ((a0 == b0) && ((a1 == b1) && true)) := by kernel_rfl
theorem bld48 {parts : List (Nat × PV)} : buildPV Try.prog 48 parts = bldX [.int .i64 0, .int .i64 0] [(0, 1), (1, 1)] parts := bldX_of zero48 Try.underlying48 (by kernel_rfl) (by kernel_rfl) parts
theorem lda51 {σ : Sg} {id off : Nat} : loadPV Try.prog σ 51 (.ptr id off) = ldS σ id off := ldS_of Try.underlying51 rfl
theorem ela51 {σ : Sg} {es i off : Nat} {l : List PV} : loadPV Try.prog σ 51 (.eptr es l i off) = elS l i off := elS_of Try.underlying51 rfl
theorem sto51 {σ : Sg} {id off : Nat} {p : PV} : storePV Try.prog σ 51 (.ptr id off) p = stX 1 σ id off p := stX_of Try.underlying51 cells51 p
theorem ia51 {l : List PV} {own : Own} {k : IntKind} {i : Int} : indexAddrPV Try.prog 51 (.isl l own) (.int k i) = iaX 3 l i := iaX_of Try.underlying51 Try.underlying59 cells59 k i
theorem iam51 {id off len : Nat} {k : IntKind} {i : Int} : indexAddrPV Try.prog 51 (.msl id off len) (.int k i) = iaM 3 id off len i := iaM_of Try.underlying51 Try.underlying59 cells59 k len i
theorem len51 {l : List PV} {own : Own} : lenPV Try.prog 51 (.isl l own) = some (.int .i64 l.length) := len_of Try.underlying51
theorem lenm51 {id off n : Nat} : lenPV Try.prog 51 (.msl id off n) = some (.int .i64 n) := lenM_of Try.underlying51 n
theorem bs51 {len : Nat} {parts : List (Nat × PV)} : buildSlicePV Try.prog 51 len parts = bsX 3 len parts := bsX_of Try.underlying51 Try.underlying59 cells59 zero59 len parts
theorem app51 {σ : Sg} {l m : List PV} {own own' : Own} : appendPV Try.prog σ 51 51 (.isl l own) (.isl m own') = appX 3 40 σ l own m := appX_of Try.underlying51 Try.underlying59 cells59 bytes59 (by decide) (by decide) zero59 rfl
theorem lda58 {σ : Sg} {id off : Nat} : loadPV Try.prog σ 58 (.ptr id off) = ldA 3 σ id off := ldA_of Try.underlying58 rfl cells58
theorem ela58 {σ : Sg} {es i off : Nat} {l : List PV} : loadPV Try.prog σ 58 (.eptr es l i off) = elA 3 l i off := elA_of Try.underlying58 rfl cells58
theorem sto58 {σ : Sg} {id off : Nat} {p : PV} : storePV Try.prog σ 58 (.ptr id off) p = stX 3 σ id off p := stX_of Try.underlying58 cells58 p
theorem fa58_0 {id off : Nat} : fieldAddrPV Try.prog 58 (.ptr id off) 0 = some (.ptr id (off + 0)) := fa1_of Try.underlying58 (by rfl) (by exact Try.underlying3) (by exact cells3) (by rfl) (by rfl)
theorem fae58_0 {es i off : Nat} {l : List PV} : fieldAddrPV Try.prog 58 (.eptr es l i off) 0 = some (.eptr es l i (off + 0)) := fa2_of Try.underlying58 (by rfl) (by exact Try.underlying3) (by exact cells3) (by rfl) (by rfl)
theorem fp58_0 {cs : List PV} : fieldPV Try.prog 58 (.agg cs) 0 = cs[0]? := fpS_of Try.underlying58 (by rfl) (by exact Try.underlying3) (by rfl) (by rfl) cs
theorem fa58_1 {id off : Nat} : fieldAddrPV Try.prog 58 (.ptr id off) 1 = some (.ptr id (off + 1)) := fa1_of Try.underlying58 (by rfl) (by exact Try.underlying3) (by exact cells3) (by rfl) (by rfl)
theorem fae58_1 {es i off : Nat} {l : List PV} : fieldAddrPV Try.prog 58 (.eptr es l i off) 1 = some (.eptr es l i (off + 1)) := fa2_of Try.underlying58 (by rfl) (by exact Try.underlying3) (by exact cells3) (by rfl) (by rfl)
theorem fp58_1 {cs : List PV} : fieldPV Try.prog 58 (.agg cs) 1 = cs[1]? := fpS_of Try.underlying58 (by rfl) (by exact Try.underlying3) (by rfl) (by rfl) cs
theorem fa58_2 {id off : Nat} : fieldAddrPV Try.prog 58 (.ptr id off) 2 = some (.ptr id (off + 2)) := fa1_of Try.underlying58 (by rfl) (by exact Try.underlying22) (by exact cells22) (by rfl) (by rfl)
theorem fae58_2 {es i off : Nat} {l : List PV} : fieldAddrPV Try.prog 58 (.eptr es l i off) 2 = some (.eptr es l i (off + 2)) := fa2_of Try.underlying58 (by rfl) (by exact Try.underlying22) (by exact cells22) (by rfl) (by rfl)
theorem fp58_2 {cs : List PV} : fieldPV Try.prog 58 (.agg cs) 2 = cs[2]? := fpS_of Try.underlying58 (by rfl) (by exact Try.underlying22) (by rfl) (by rfl) cs
theorem bld58 {parts : List (Nat × PV)} : buildPV Try.prog 58 parts = bldX [.int .i64 0, .int .i64 0, .isl [] .exact] [(0, 1), (1, 1), (2, 1)] parts := bldX_of zero58 Try.underlying58 (by kernel_rfl) (by kernel_rfl) parts
theorem lda59 {σ : Sg} {id off : Nat} : loadPV Try.prog σ 59 (.ptr id off) = ldA 3 σ id off := ldA_of Try.underlying59 rfl cells59
theorem ela59 {σ : Sg} {es i off : Nat} {l : List PV} : loadPV Try.prog σ 59 (.eptr es l i off) = elA 3 l i off := elA_of Try.underlying59 rfl cells59
theorem sto59 {σ : Sg} {id off : Nat} {p : PV} : storePV Try.prog σ 59 (.ptr id off) p = stX 3 σ id off p := stX_of Try.underlying59 cells59 p
theorem fa59_0 {id off : Nat} : fieldAddrPV Try.prog 59 (.ptr id off) 0 = some (.ptr id (off + 0)) := fa1_of Try.underlying59 (by rfl) (by exact Try.underlying3) (by exact cells3) (by rfl) (by rfl)
theorem fae59_0 {es i off : Nat} {l : List PV} : fieldAddrPV Try.prog 59 (.eptr es l i off) 0 = some (.eptr es l i (off + 0)) := fa2_of Try.underlying59 (by rfl) (by exact Try.underlying3) (by exact cells3) (by rfl) (by rfl)
theorem fp59_0 {cs : List PV} : fieldPV Try.prog 59 (.agg cs) 0 = cs[0]? := fpS_of Try.underlying59 (by rfl) (by exact Try.underlying3) (by rfl) (by rfl) cs
theorem fa59_1 {id off : Nat} : fieldAddrPV Try.prog 59 (.ptr id off) 1 = some (.ptr id (off + 1)) := fa1_of Try.underlying59 (by rfl) (by exact Try.underlying3) (by exact cells3) (by rfl) (by rfl)
theorem fae59_1 {es i off : Nat} {l : List PV} : fieldAddrPV Try.prog 59 (.eptr es l i off) 1 = some (.eptr es l i (off + 1)) := fa2_of Try.underlying59 (by rfl) (by exact Try.underlying3) (by exact cells3) (by rfl) (by rfl)
theorem fp59_1 {cs : List PV} : fieldPV Try.prog 59 (.agg cs) 1 = cs[1]? := fpS_of Try.underlying59 (by rfl) (by exact Try.underlying3) (by rfl) (by rfl) cs
theorem fa59_2 {id off : Nat} : fieldAddrPV Try.prog 59 (.ptr id off) 2 = some (.ptr id (off + 2)) := fa1_of Try.underlying59 (by rfl) (by exact Try.underlying22) (by exact cells22) (by rfl) (by rfl)
theorem fae59_2 {es i off : Nat} {l : List PV} : fieldAddrPV Try.prog 59 (.eptr es l i off) 2 = some (.eptr es l i (off + 2)) := fa2_of Try.underlying59 (by rfl) (by exact Try.underlying22) (by exact cells22) (by rfl) (by rfl)
theorem fp59_2 {cs : List PV} : fieldPV Try.prog 59 (.agg cs) 2 = cs[2]? := fpS_of Try.underlying59 (by rfl) (by exact Try.underlying22) (by rfl) (by rfl) cs
theorem bld59 {parts : List (Nat × PV)} : buildPV Try.prog 59 parts = bldX [.int .i64 0, .int .i64 0, .isl [] .exact] [(0, 1), (1, 1), (2, 1)] parts := bldX_of zero59 Try.underlying59 (by kernel_rfl) (by kernel_rfl) parts
theorem lda72 {σ : Sg} {id off : Nat} : loadPV Try.prog σ 72 (.ptr id off) = ldS σ id off := ldS_of Try.underlying72 rfl
theorem ela72 {σ : Sg} {es i off : Nat} {l : List PV} : loadPV Try.prog σ 72 (.eptr es l i off) = elS l i off := elS_of Try.underlying72 rfl
theorem sto72 {σ : Sg} {id off : Nat} {p : PV} : storePV Try.prog σ 72 (.ptr id off) p = stX 1 σ id off p := stX_of Try.underlying72 cells72 p
theorem ia72 {l : List PV} {own : Own} {k : IntKind} {i : Int} : indexAddrPV Try.prog 72 (.isl l own) (.int k i) = iaX 1 l i := iaX_of Try.underlying72 Try.underlying22 cells22 k i
theorem iam72 {id off len : Nat} {k : IntKind} {i : Int} : indexAddrPV Try.prog 72 (.msl id off len) (.int k i) = iaM 1 id off len i := iaM_of Try.underlying72 Try.underlying22 cells22 k len i
theorem len72 {l : List PV} {own : Own} : lenPV Try.prog 72 (.isl l own) = some (.int .i64 l.length) := len_of Try.underlying72
theorem lenm72 {id off n : Nat} : lenPV Try.prog 72 (.msl id off n) = some (.int .i64 n) := lenM_of Try.underlying72 n
theorem bs72 {len : Nat} {parts : List (Nat × PV)} : buildSlicePV Try.prog 72 len parts = bsX 1 len parts := bsX_of Try.underlying72 Try.underlying22 cells22 zero22 len parts
theorem app72 {σ : Sg} {l m : List PV} {own own' : Own} : appendPV Try.prog σ 72 72 (.isl l own) (.isl m own') = appX 1 24 σ l own m := appX_of Try.underlying72 Try.underlying22 cells22 bytes22 (by decide) (by decide) zero22 rfl
theorem lda75 {σ : Sg} {id off : Nat} : loadPV Try.prog σ 75 (.ptr id off) = ldS σ id off := ldS_of Try.underlying75 rfl
theorem ela75 {σ : Sg} {es i off : Nat} {l : List PV} : loadPV Try.prog σ 75 (.eptr es l i off) = elS l i off := elS_of Try.underlying75 rfl
theorem sto75 {σ : Sg} {id off : Nat} {p : PV} : storePV Try.prog σ 75 (.ptr id off) p = stX 1 σ id off p := stX_of Try.underlying75 cells75 p
theorem ia75 {l : List PV} {own : Own} {k : IntKind} {i : Int} : indexAddrPV Try.prog 75 (.isl l own) (.int k i) = iaX 1 l i := iaX_of Try.underlying75 Try.underlying72 cells72 k i
theorem iam75 {id off len : Nat} {k : IntKind} {i : Int} : indexAddrPV Try.prog 75 (.msl id off len) (.int k i) = iaM 1 id off len i := iaM_of Try.underlying75 Try.underlying72 cells72 k len i
theorem len75 {l : List PV} {own : Own} : lenPV Try.prog 75 (.isl l own) = some (.int .i64 l.length) := len_of Try.underlying75
theorem lenm75 {id off n : Nat} : lenPV Try.prog 75 (.msl id off n) = some (.int .i64 n) := lenM_of Try.underlying75 n
theorem bs75 {len : Nat} {parts : List (Nat × PV)} : buildSlicePV Try.prog 75 len parts = bsX 1 len parts := bsX_of Try.underlying75 Try.underlying72 cells72 zero72 len parts
theorem app75 {σ : Sg} {l m : List PV} {own own' : Own} : appendPV Try.prog σ 75 75 (.isl l own) (.isl m own') = appX 1 24 σ l own m := appX_of Try.underlying75 Try.underlying72 cells72 bytes72 (by decide) (by decide) zero72 rfl
theorem lda81 {σ : Sg} {id off : Nat} : loadPV Try.prog σ 81 (.ptr id off) = ldS σ id off := ldS_of Try.underlying81 rfl
theorem ela81 {σ : Sg} {es i off : Nat} {l : List PV} : loadPV Try.prog σ 81 (.eptr es l i off) = elS l i off := elS_of Try.underlying81 rfl
theorem sto81 {σ : Sg} {id off : Nat} {p : PV} : storePV Try.prog σ 81 (.ptr id off) p = stX 1 σ id off p := stX_of Try.underlying81 cells81 p
theorem lda82 {σ : Sg} {id off : Nat} : loadPV Try.prog σ 82 (.ptr id off) = ldA 1 σ id off := ldA_of Try.underlying82 rfl cells82
theorem ela82 {σ : Sg} {es i off : Nat} {l : List PV} : loadPV Try.prog σ 82 (.eptr es l i off) = elA 1 l i off := elA_of Try.underlying82 rfl cells82
theorem sto82 {σ : Sg} {id off : Nat} {p : PV} : storePV Try.prog σ 82 (.ptr id off) p = stX 1 σ id off p := stX_of Try.underlying82 cells82 p
theorem fa82_0 {id off : Nat} : fieldAddrPV Try.prog 82 (.ptr id off) 0 = some (.ptr id (off + 0)) := fa1_of Try.underlying82 (by rfl) (by exact Try.underlying81) (by exact cells81) (by rfl) (by rfl)
theorem fae82_0 {es i off : Nat} {l : List PV} : fieldAddrPV Try.prog 82 (.eptr es l i off) 0 = some (.eptr es l i (off + 0)) := fa2_of Try.underlying82 (by rfl) (by exact Try.underlying81) (by exact cells81) (by rfl) (by rfl)
theorem fp82_0 {cs : List PV} : fieldPV Try.prog 82 (.agg cs) 0 = cs[0]? := fpS_of Try.underlying82 (by rfl) (by exact Try.underlying81) (by rfl) (by rfl) cs
theorem eqs82 {a0 b0 : Int} : eqPV Try.prog 82 (.agg [.int .u64 a0]) (.agg [.int .u64 b0]) = some ((a0 == b0) && true) := by kernel_rfl
theorem bld82 {parts : List (Nat × PV)} : buildPV Try.prog 82 parts = bldX [.int .u64 0] [(0, 1)] parts := bldX_of zero82 Try.underlying82 (by kernel_rfl) (by kernel_rfl) parts
theorem lda83 {σ : Sg} {id off : Nat} : loadPV Try.prog σ 83 (.ptr id off) = ldA 1 σ id off := ldA_of Try.underlying83 rfl cells83
theorem ela83 {σ : Sg} {es i off : Nat} {l : List PV} : loadPV Try.prog σ 83 (.eptr es l i off) = elA 1 l i off := elA_of Try.underlying83 rfl cells83
theorem sto83 {σ : Sg} {id off : Nat} {p : PV} : storePV Try.prog σ 83 (.ptr id off) p = stX 1 σ id off p := stX_of Try.underlying83 cells83 p
theorem fa83_0 {id off : Nat} : fieldAddrPV Try.prog 83 (.ptr id off) 0 = some (.ptr id (off + 0)) := fa1_of Try.underlying83 (by rfl) (by exact Try.underlying81) (by exact cells81) (by rfl) (by rfl)
theorem fae83_0 {es i off : Nat} {l : List PV} : fieldAddrPV Try.prog 83 (.eptr es l i off) 0 = some (.eptr es l i (off + 0)) := fa2_of Try.underlying83 (by rfl) (by exact Try.underlying81) (by exact cells81) (by rfl) (by rfl)
theorem fp83_0 {cs : List PV} : fieldPV Try.prog 83 (.agg cs) 0 = cs[0]? := fpS_of Try.underlying83 (by rfl) (by exact Try.underlying81) (by rfl) (by rfl) cs
theorem eqs83 {a0 b0 : Int} : eqPV Try.prog 83 (.agg [.int .u64 a0]) (.agg [.int .u64 b0]) = some ((a0 == b0) && true) := by kernel_rfl
theorem bld83 {parts : List (Nat × PV)} : buildPV Try.prog 83 parts = bldX [.int .u64 0] [(0, 1)] parts := bldX_of zero83 Try.underlying83 (by kernel_rfl) (by kernel_rfl) parts
theorem lda85 {σ : Sg} {id off : Nat} : loadPV Try.prog σ 85 (.ptr id off) = ldS σ id off := ldS_of Try.underlying85 rfl
theorem ela85 {σ : Sg} {es i off : Nat} {l : List PV} : loadPV Try.prog σ 85 (.eptr es l i off) = elS l i off := elS_of Try.underlying85 rfl
theorem sto85 {σ : Sg} {id off : Nat} {p : PV} : storePV Try.prog σ 85 (.ptr id off) p = stX 1 σ id off p := stX_of Try.underlying85 cells85 p
theorem lda86 {σ : Sg} {id off : Nat} : loadPV Try.prog σ 86 (.ptr id off) = ldS σ id off := ldS_of Try.underlying86 rfl
theorem ela86 {σ : Sg} {es i off : Nat} {l : List PV} : loadPV Try.prog σ 86 (.eptr es l i off) = elS l i off := elS_of Try.underlying86 rfl
theorem sto86 {σ : Sg} {id off : Nat} {p : PV} : storePV Try.prog σ 86 (.ptr id off) p = stX 1 σ id off p := stX_of Try.underlying86 cells86 p
theorem lda87 {σ : Sg} {id off : Nat} : loadPV Try.prog σ 87 (.ptr id off) = ldS σ id off := ldS_of Try.underlying87 rfl
theorem ela87 {σ : Sg} {es i off : Nat} {l : List PV} : loadPV Try.prog σ 87 (.eptr es l i off) = elS l i off := elS_of Try.underlying87 rfl
theorem sto87 {σ : Sg} {id off : Nat} {p : PV} : storePV Try.prog σ 87 (.ptr id off) p = stX 1 σ id off p := stX_of Try.underlying87 cells87 p
theorem lda92 {σ : Sg} {id off : Nat} : loadPV Try.prog σ 92 (.ptr id off) = ldA 1 σ id off := ldA_of Try.underlying92 rfl cells92
theorem ela92 {σ : Sg} {es i off : Nat} {l : List PV} : loadPV Try.prog σ 92 (.eptr es l i off) = elA 1 l i off := elA_of Try.underlying92 rfl cells92
theorem sto92 {σ : Sg} {id off : Nat} {p : PV} : storePV Try.prog σ 92 (.ptr id off) p = stX 1 σ id off p := stX_of Try.underlying92 cells92 p
theorem fa92_0 {id off : Nat} : fieldAddrPV Try.prog 92 (.ptr id off) 0 = some (.ptr id (off + 0)) := fa1_of Try.underlying92 (by rfl) (by exact Try.underlying22) (by exact cells22) (by rfl) (by rfl)
theorem fae92_0 {es i off : Nat} {l : List PV} : fieldAddrPV Try.prog 92 (.eptr es l i off) 0 = some (.eptr es l i (off + 0)) := fa2_of Try.underlying92 (by rfl) (by exact Try.underlying22) (by exact cells22) (by rfl) (by rfl)
theorem fp92_0 {cs : List PV} : fieldPV Try.prog 92 (.agg cs) 0 = cs[0]? := fpS_of Try.underlying92 (by rfl) (by exact Try.underlying22) (by rfl) (by rfl) cs
theorem bld92 {parts : List (Nat × PV)} : buildPV Try.prog 92 parts = bldX [.isl [] .exact] [(0, 1)] parts := bldX_of zero92 Try.underlying92 (by kernel_rfl) (by kernel_rfl) parts
theorem lda93 {σ : Sg} {id off : Nat} : loadPV Try.prog σ 93 (.ptr id off) = ldA 1 σ id off := ldA_of Try.underlying93 rfl cells93
theorem ela93 {σ : Sg} {es i off : Nat} {l : List PV} : loadPV Try.prog σ 93 (.eptr es l i off) = elA 1 l i off := elA_of Try.underlying93 rfl cells93
theorem sto93 {σ : Sg} {id off : Nat} {p : PV} : storePV Try.prog σ 93 (.ptr id off) p = stX 1 σ id off p := stX_of Try.underlying93 cells93 p
theorem fa93_0 {id off : Nat} : fieldAddrPV Try.prog 93 (.ptr id off) 0 = some (.ptr id (off + 0)) := fa1_of Try.underlying93 (by rfl) (by exact Try.underlying22) (by exact cells22) (by rfl) (by rfl)
theorem fae93_0 {es i off : Nat} {l : List PV} : fieldAddrPV Try.prog 93 (.eptr es l i off) 0 = some (.eptr es l i (off + 0)) := fa2_of Try.underlying93 (by rfl) (by exact Try.underlying22) (by exact cells22) (by rfl) (by rfl)
theorem fp93_0 {cs : List PV} : fieldPV Try.prog 93 (.agg cs) 0 = cs[0]? := fpS_of Try.underlying93 (by rfl) (by exact Try.underlying22) (by rfl) (by rfl) cs
theorem bld93 {parts : List (Nat × PV)} : buildPV Try.prog 93 parts = bldX [.isl [] .exact] [(0, 1)] parts := bldX_of zero93 Try.underlying93 (by kernel_rfl) (by kernel_rfl) parts
theorem lda96 {σ : Sg} {id off : Nat} : loadPV Try.prog σ 96 (.ptr id off) = ldS σ id off := ldS_of Try.underlying96 rfl
theorem ela96 {σ : Sg} {es i off : Nat} {l : List PV} : loadPV Try.prog σ 96 (.eptr es l i off) = elS l i off := elS_of Try.underlying96 rfl
theorem sto96 {σ : Sg} {id off : Nat} {p : PV} : storePV Try.prog σ 96 (.ptr id off) p = stX 1 σ id off p := stX_of Try.underlying96 cells96 p
theorem lda103 {σ : Sg} {id off : Nat} : loadPV Try.prog σ 103 (.ptr id off) = ldA 2 σ id off := ldA_of Try.underlying103 rfl cells103
theorem ela103 {σ : Sg} {es i off : Nat} {l : List PV} : loadPV Try.prog σ 103 (.eptr es l i off) = elA 2 l i off := elA_of Try.underlying103 rfl cells103
theorem sto103 {σ : Sg} {id off : Nat} {p : PV} : storePV Try.prog σ 103 (.ptr id off) p = stX 2 σ id off p := stX_of Try.underlying103 cells103 p
theorem fa103_0 {id off : Nat} : fieldAddrPV Try.prog 103 (.ptr id off) 0 = some (.ptr id (off + 0)) := fa1_of Try.underlying103 (by rfl) (by exact Try.underlying3) (by exact cells3) (by rfl) (by rfl)
theorem fae103_0 {es i off : Nat} {l : List PV} : fieldAddrPV Try.prog 103 (.eptr es l i off) 0 = some (.eptr es l i (off + 0)) := fa2_of Try.underlying103 (by rfl) (by exact Try.underlying3) (by exact cells3) (by rfl) (by rfl)
theorem fp103_0 {cs : List PV} : fieldPV Try.prog 103 (.agg cs) 0 = cs[0]? := fpS_of Try.underlying103 (by rfl) (by exact Try.underlying3) (by rfl) (by rfl) cs
theorem fa103_1 {id off : Nat} : fieldAddrPV Try.prog 103 (.ptr id off) 1 = some (.ptr id (off + 1)) := fa1_of Try.underlying103 (by rfl) (by exact Try.underlying3) (by exact cells3) (by rfl) (by rfl)
theorem fae103_1 {es i off : Nat} {l : List PV} : fieldAddrPV Try.prog 103 (.eptr es l i off) 1 = some (.eptr es l i (off + 1)) := fa2_of Try.underlying103 (by rfl) (by exact Try.underlying3) (by exact cells3) (by rfl) (by rfl)
theorem fp103_1 {cs : List PV} : fieldPV Try.prog 103 (.agg cs) 1 = cs[1]? := fpS_of Try.underlying103 (by rfl) (by exact Try.underlying3) (by rfl) (by rfl) cs
theorem eqs103 {a0 a1 b0 b1 : Int} : eqPV Try.prog 103 (.agg [.int .i64 a0, .int .i64 a1]) (.agg [.int .i64 b0, .int .i64 b1]) = some ((a0 == b0) && ((a1 == b1) && true)) := by kernel_rfl
theorem bld103 {parts : List (Nat × PV)} : buildPV Try.prog 103 parts = bldX [.int .i64 0, .int .i64 0] [(0, 1), (1, 1)] parts := bldX_of zero103 Try.underlying103 (by kernel_rfl) (by kernel_rfl) parts
theorem lda104 {σ : Sg} {id off : Nat} : loadPV Try.prog σ 104 (.ptr id off) = ldA 2 σ id off := ldA_of Try.underlying104 rfl cells104
theorem ela104 {σ : Sg} {es i off : Nat} {l : List PV} : loadPV Try.prog σ 104 (.eptr es l i off) = elA 2 l i off := elA_of Try.underlying104 rfl cells104
theorem sto104 {σ : Sg} {id off : Nat} {p : PV} : storePV Try.prog σ 104 (.ptr id off) p = stX 2 σ id off p := stX_of Try.underlying104 cells104 p
theorem fa104_0 {id off : Nat} : fieldAddrPV Try.prog 104 (.ptr id off) 0 = some (.ptr id (off + 0)) := fa1_of Try.underlying104 (by rfl) (by exact Try.underlying3) (by exact cells3) (by rfl) (by rfl)
theorem fae104_0 {es i off : Nat} {l : List PV} : fieldAddrPV Try.prog 104 (.eptr es l i off) 0 = some (.eptr es l i (off + 0)) := fa2_of Try.underlying104 (by rfl) (by exact Try.underlying3) (by exact cells3) (by rfl) (by rfl)
theorem fp104_0 {cs : List PV} : fieldPV Try.prog 104 (.agg cs) 0 = cs[0]? := fpS_of Try.underlying104 (by rfl) (by exact Try.underlying3) (by rfl) (by rfl) cs
theorem fa104_1 {id off : Nat} : fieldAddrPV Try.prog 104 (.ptr id off) 1 = some (.ptr id (off + 1)) := fa1_of Try.underlying104 (by rfl) (by exact Try.underlying3) (by exact cells3) (by rfl) (by rfl)
theorem fae104_1 {es i off : Nat} {l : List PV} : fieldAddrPV Try.prog 104 (.eptr es l i off) 1 = some (.eptr es l i (off + 1)) := fa2_of Try.underlying104 (by rfl) (by exact Try.underlying3) (by exact cells3) (by rfl) (by rfl)
theorem fp104_1 {cs : List PV} : fieldPV Try.prog 104 (.agg cs) 1 = cs[1]? := fpS_of Try.underlying104 (by rfl) (by exact Try.underlying3) (by rfl) (by rfl) cs
theorem eqs104 {a0 a1 b0 b1 : Int} : eqPV Try.prog 104 (.agg [.int .i64 a0, .int .i64 a1]) (.agg [.int .i64 b0, .int .i64 b1]) = some ((a0 == b0) && ((a1 == b1) && true)) := by kernel_rfl
theorem bld104 {parts : List (Nat × PV)} : buildPV Try.prog 104 parts = bldX [.int .i64 0, .int .i64 0] [(0, 1), (1, 1)] parts := bldX_of zero104 Try.underlying104 (by kernel_rfl) (by kernel_rfl) parts
theorem lda107 {σ : Sg} {id off : Nat} : loadPV Try.prog σ 107 (.ptr id off) = ldS σ id off := ldS_of Try.underlying107 rfl
theorem ela107 {σ : Sg} {es i off : Nat} {l : List PV} : loadPV Try.prog σ 107 (.eptr es l i off) = elS l i off := elS_of Try.underlying107 rfl
theorem sto107 {σ : Sg} {id off : Nat} {p : PV} : storePV Try.prog σ 107 (.ptr id off) p = stX 1 σ id off p := stX_of Try.underlying107 cells107 p
theorem lda112 {σ : Sg} {id off : Nat} : loadPV Try.prog σ 112 (.ptr id off) = ldS σ id off := ldS_of Try.underlying112 rfl
theorem ela112 {σ : Sg} {es i off : Nat} {l : List PV} : loadPV Try.prog σ 112 (.eptr es l i off) = elS l i off := elS_of Try.underlying112 rfl
theorem sto112 {σ : Sg} {id off : Nat} {p : PV} : storePV Try.prog σ 112 (.ptr id off) p = stX 1 σ id off p := stX_of Try.underlying112 cells112 p
theorem ia112 {l : List PV} {own : Own} {k : IntKind} {i : Int} : indexAddrPV Try.prog 112 (.isl l own) (.int k i) = iaX 1 l i := iaX_of Try.underlying112 Try.underlying4 cells4 k i
theorem iam112 {id off len : Nat} {k : IntKind} {i : Int} : indexAddrPV Try.prog 112 (.msl id off len) (.int k i) = iaM 1 id off len i := iaM_of Try.underlying112 Try.underlying4 cells4 k len i
theorem len112 {l : List PV} {own : Own} : lenPV Try.prog 112 (.isl l own) = some (.int .i64 l.length) := len_of Try.underlying112
theorem lenm112 {id off n : Nat} : lenPV Try.prog 112 (.msl id off n) = some (.int .i64 n) := lenM_of Try.underlying112 n
theorem bs112 {len : Nat} {parts : List (Nat × PV)} : buildSlicePV Try.prog 112 len parts = bsX 1 len parts := bsX_of Try.underlying112 Try.underlying4 cells4 zero4 len parts
theorem app112 {σ : Sg} {l m : List PV} {own own' : Own} : appendPV Try.prog σ 112 112 (.isl l own) (.isl m own') = appX 1 1 σ l own m := appX_of Try.underlying112 Try.underlying4 cells4 bytes4 (by decide) (by decide) zero4 rfl
theorem lda113 {σ : Sg} {id off : Nat} : loadPV Try.prog σ 113 (.ptr id off) = ldS σ id off := ldS_of Try.underlying113 rfl
theorem ela113 {σ : Sg} {es i off : Nat} {l : List PV} : loadPV Try.prog σ 113 (.eptr es l i off) = elS l i off := elS_of Try.underlying113 rfl
theorem sto113 {σ : Sg} {id off : Nat} {p : PV} : storePV Try.prog σ 113 (.ptr id off) p = stX 1 σ id off p := stX_of Try.underlying113 cells113 p
theorem lda117 {σ : Sg} {id off : Nat} : loadPV Try.prog σ 117 (.ptr id off) = ldS σ id off := ldS_of Try.underlying117 rfl
theorem ela117 {σ : Sg} {es i off : Nat} {l : List PV} : loadPV Try.prog σ 117 (.eptr es l i off) = elS l i off := elS_of Try.underlying117 rfl
theorem sto117 {σ : Sg} {id off : Nat} {p : PV} : storePV Try.prog σ 117 (.ptr id off) p = stX 1 σ id off p := stX_of Try.underlying117 cells117 p
theorem lda118 {σ : Sg} {id off : Nat} : loadPV Try.prog σ 118 (.ptr id off) = ldS σ id off := ldS_of Try.underlying118 rfl
theorem ela118 {σ : Sg} {es i off : Nat} {l : List PV} : loadPV Try.prog σ 118 (.eptr es l i off) = elS l i off := elS_of Try.underlying118 rfl
theorem sto118 {σ : Sg} {id off : Nat} {p : PV} : storePV Try.prog σ 118 (.ptr id off) p = stX 1 σ id off p := stX_of Try.underlying118 cells118 p
theorem ia118 {l : List PV} {own : Own} {k : IntKind} {i : Int} : indexAddrPV Try.prog 118 (.isl l own) (.int k i) = iaX 1 l i := iaX_of Try.underlying118 Try.underlying117 cells117 k i
theorem iam118 {id off len : Nat} {k : IntKind} {i : Int} : indexAddrPV Try.prog 118 (.msl id off len) (.int k i) = iaM 1 id off len i := iaM_of Try.underlying118 Try.underlying117 cells117 k len i
theorem len118 {l : List PV} {own : Own} : lenPV Try.prog 118 (.isl l own) = some (.int .i64 l.length) := len_of Try.underlying118
theorem lenm118 {id off n : Nat} : lenPV Try.prog 118 (.msl id off n) = some (.int .i64 n) := lenM_of Try.underlying118 n
theorem bs118 {len : Nat} {parts : List (Nat × PV)} : buildSlicePV Try.prog 118 len parts = bsX 1 len parts := bsX_of Try.underlying118 Try.underlying117 cells117 zero117 len parts
theorem app118 {σ : Sg} {l m : List PV} {own own' : Own} : appendPV Try.prog σ 118 118 (.isl l own) (.isl m own') = appX 1 8 σ l own m := appX_of Try.underlying118 Try.underlying117 cells117 bytes117 (by decide) (by decide) zero117 rfl
theorem lda128 {σ : Sg} {id off : Nat} : loadPV Try.prog σ 128 (.ptr id off) = ldA 5 σ id off := ldA_of Try.underlying128 rfl cells128
theorem ela128 {σ : Sg} {es i off : Nat} {l : List PV} : loadPV Try.prog σ 128 (.eptr es l i off) = elA 5 l i off := elA_of Try.underlying128 rfl cells128
theorem sto128 {σ : Sg} {id off : Nat} {p : PV} : storePV Try.prog σ 128 (.ptr id off) p = stX 5 σ id off p := stX_of Try.underlying128 cells128 p
theorem iar128 {id off : Nat} {k : IntKind} {i : Int} : indexAddrPV Try.prog 128 (.ptr id off) (.int k i) = iaM 1 id off 5 i := iaA_of Try.underlying128 Try.underlying3 cells3 k i
theorem ix128 {cs : List PV} {k : IntKind} {i : Int} : indexPV Try.prog 128 (.agg cs) (.int k i) = if 0 ≤ i ∧ i < (5 : Int) then cs[i.toNat]? else none := ixS_of Try.underlying128 Try.underlying3 rfl cells3 k i
theorem lda129 {σ : Sg} {id off : Nat} : loadPV Try.prog σ 129 (.ptr id off) = ldA 5 σ id off := ldA_of Try.underlying129 rfl cells129
theorem ela129 {σ : Sg} {es i off : Nat} {l : List PV} : loadPV Try.prog σ 129 (.eptr es l i off) = elA 5 l i off := elA_of Try.underlying129 rfl cells129
theorem sto129 {σ : Sg} {id off : Nat} {p : PV} : storePV Try.prog σ 129 (.ptr id off) p = stX 5 σ id off p := stX_of Try.underlying129 cells129 p
theorem iar129 {id off : Nat} {k : IntKind} {i : Int} : indexAddrPV Try.prog 129 (.ptr id off) (.int k i) = iaM 1 id off 5 i := iaA_of Try.underlying129 Try.underlying3 cells3 k i
theorem ix129 {cs : List PV} {k : IntKind} {i : Int} : indexPV Try.prog 129 (.agg cs) (.int k i) = if 0 ≤ i ∧ i < (5 : Int) then cs[i.toNat]? else none := ixS_of Try.underlying129 Try.underlying3 rfl cells3 k i
theorem lda132 {σ : Sg} {id off : Nat} : loadPV Try.prog σ 132 (.ptr id off) = ldS σ id off := ldS_of Try.underlying132 rfl
theorem ela132 {σ : Sg} {es i off : Nat} {l : List PV} : loadPV Try.prog σ 132 (.eptr es l i off) = elS l i off := elS_of Try.underlying132 rfl
theorem sto132 {σ : Sg} {id off : Nat} {p : PV} : storePV Try.prog σ 132 (.ptr id off) p = stX 1 σ id off p := stX_of Try.underlying132 cells132 p
theorem lda135 {σ : Sg} {id off : Nat} : loadPV Try.prog σ 135 (.ptr id off) = ldS σ id off := ldS_of Try.underlying135 rfl
theorem ela135 {σ : Sg} {es i off : Nat} {l : List PV} : loadPV Try.prog σ 135 (.eptr es l i off) = elS l i off := elS_of Try.underlying135 rfl
theorem sto135 {σ : Sg} {id off : Nat} {p : PV} : storePV Try.prog σ 135 (.ptr id off) p = stX 1 σ id off p := stX_of Try.underlying135 cells135 p
theorem lda143 {σ : Sg} {id off : Nat} : loadPV Try.prog σ 143 (.ptr id off) = ldS σ id off := ldS_of Try.underlying143 rfl
theorem ela143 {σ : Sg} {es i off : Nat} {l : List PV} : loadPV Try.prog σ 143 (.eptr es l i off) = elS l i off := elS_of Try.underlying143 rfl
theorem sto143 {σ : Sg} {id off : Nat} {p : PV} : storePV Try.prog σ 143 (.ptr id off) p = stX 1 σ id off p := stX_of Try.underlying143 cells143 p
theorem lda148 {σ : Sg} {id off : Nat} : loadPV Try.prog σ 148 (.ptr id off) = ldS σ id off := ldS_of Try.underlying148 rfl
theorem ela148 {σ : Sg} {es i off : Nat} {l : List PV} : loadPV Try.prog σ 148 (.eptr es l i off) = elS l i off := elS_of Try.underlying148 rfl
theorem sto148 {σ : Sg} {id off : Nat} {p : PV} : storePV Try.prog σ 148 (.ptr id off) p = stX 1 σ id off p := stX_of Try.underlying148 cells148 p
theorem lda151 {σ : Sg} {id off : Nat} : loadPV Try.prog σ 151 (.ptr id off) = ldS σ id off := ldS_of Try.underlying151 rfl
theorem ela151 {σ : Sg} {es i off : Nat} {l : List PV} : loadPV Try.prog σ 151 (.eptr es l i off) = elS l i off := elS_of Try.underlying151 rfl
theorem sto151 {σ : Sg} {id off : Nat} {p : PV} : storePV Try.prog σ 151 (.ptr id off) p = stX 1 σ id off p := stX_of Try.underlying151 cells151 p
theorem lda155 {σ : Sg} {id off : Nat} : loadPV Try.prog σ 155 (.ptr id off) = ldS σ id off := ldS_of Try.underlying155 rfl
theorem ela155 {σ : Sg} {es i off : Nat} {l : List PV} : loadPV Try.prog σ 155 (.eptr es l i off) = elS l i off := elS_of Try.underlying155 rfl
theorem sto155 {σ : Sg} {id off : Nat} {p : PV} : storePV Try.prog σ 155 (.ptr id off) p = stX 1 σ id off p := stX_of Try.underlying155 cells155 p
theorem lda168 {σ : Sg} {id off : Nat} : loadPV Try.prog σ 168 (.ptr id off) = ldA 4 σ id off := ldA_of Try.underlying168 rfl cells168
theorem ela168 {σ : Sg} {es i off : Nat} {l : List PV} : loadPV Try.prog σ 168 (.eptr es l i off) = elA 4 l i off := elA_of Try.underlying168 rfl cells168
theorem sto168 {σ : Sg} {id off : Nat} {p : PV} : storePV Try.prog σ 168 (.ptr id off) p = stX 4 σ id off p := stX_of Try.underlying168 cells168 p
theorem fa168_3 {id off : Nat} : fieldAddrPV Try.prog 168 (.ptr id off) 3 = some (.ptr id (off + 3)) := fa1_of Try.underlying168 (by rfl) (by exact Try.underlying9) (by exact cells9) (by rfl) (by rfl)
theorem fae168_3 {es i off : Nat} {l : List PV} : fieldAddrPV Try.prog 168 (.eptr es l i off) 3 = some (.eptr es l i (off + 3)) := fa2_of Try.underlying168 (by rfl) (by exact Try.underlying9) (by exact cells9) (by rfl) (by rfl)
theorem fp168_3 {cs : List PV} : fieldPV Try.prog 168 (.agg cs) 3 = cs[3]? := fpS_of Try.underlying168 (by rfl) (by exact Try.underlying9) (by rfl) (by rfl) cs
theorem lda169 {σ : Sg} {id off : Nat} : loadPV Try.prog σ 169 (.ptr id off) = ldA 4 σ id off := ldA_of Try.underlying169 rfl cells169
theorem ela169 {σ : Sg} {es i off : Nat} {l : List PV} : loadPV Try.prog σ 169 (.eptr es l i off) = elA 4 l i off := elA_of Try.underlying169 rfl cells169
theorem sto169 {σ : Sg} {id off : Nat} {p : PV} : storePV Try.prog σ 169 (.ptr id off) p = stX 4 σ id off p := stX_of Try.underlying169 cells169 p
theorem fa169_3 {id off : Nat} : fieldAddrPV Try.prog 169 (.ptr id off) 3 = some (.ptr id (off + 3)) := fa1_of Try.underlying169 (by rfl) (by exact Try.underlying9) (by exact cells9) (by rfl) (by rfl)
theorem fae169_3 {es i off : Nat} {l : List PV} : fieldAddrPV Try.prog 169 (.eptr es l i off) 3 = some (.eptr es l i (off + 3)) := fa2_of Try.underlying169 (by rfl) (by exact Try.underlying9) (by exact cells9) (by rfl) (by rfl)
theorem fp169_3 {cs : List PV} : fieldPV Try.prog 169 (.agg cs) 3 = cs[3]? := fpS_of Try.underlying169 (by rfl) (by exact Try.underlying9) (by rfl) (by rfl) cs
theorem lda170 {σ : Sg} {id off : Nat} : loadPV Try.prog σ 170 (.ptr id off) = ldA 0 σ id off := ldA_of Try.underlying170 rfl cells170
theorem ela170 {σ : Sg} {es i off : Nat} {l : List PV} : loadPV Try.prog σ 170 (.eptr es l i off) = elA 0 l i off := elA_of Try.underlying170 rfl cells170
theorem sto170 {σ : Sg} {id off : Nat} {p : PV} : storePV Try.prog σ 170 (.ptr id off) p = stX 0 σ id off p := stX_of Try.underlying170 cells170 p
theorem lda171 {σ : Sg} {id off : Nat} : loadPV Try.prog σ 171 (.ptr id off) = ldA 0 σ id off := ldA_of Try.underlying171 rfl cells171
theorem ela171 {σ : Sg} {es i off : Nat} {l : List PV} : loadPV Try.prog σ 171 (.eptr es l i off) = elA 0 l i off := elA_of Try.underlying171 rfl cells171
theorem sto171 {σ : Sg} {id off : Nat} {p : PV} : storePV Try.prog σ 171 (.ptr id off) p = stX 0 σ id off p := stX_of Try.underlying171 cells171 p
theorem lda172 {σ : Sg} {id off : Nat} : loadPV Try.prog σ 172 (.ptr id off) = ldA 0 σ id off := ldA_of Try.underlying172 rfl cells172
theorem ela172 {σ : Sg} {es i off : Nat} {l : List PV} : loadPV Try.prog σ 172 (.eptr es l i off) = elA 0 l i off := elA_of Try.underlying172 rfl cells172
theorem sto172 {σ : Sg} {id off : Nat} {p : PV} : storePV Try.prog σ 172 (.ptr id off) p = stX 0 σ id off p := stX_of Try.underlying172 cells172 p
theorem lda173 {σ : Sg} {id off : Nat} : loadPV Try.prog σ 173 (.ptr id off) = ldS σ id off := ldS_of Try.underlying173 rfl
theorem ela173 {σ : Sg} {es i off : Nat} {l : List PV} : loadPV Try.prog σ 173 (.eptr es l i off) = elS l i off := elS_of Try.underlying173 rfl
theorem sto173 {σ : Sg} {id off : Nat} {p : PV} : storePV Try.prog σ 173 (.ptr id off) p = stX 1 σ id off p := stX_of Try.underlying173 cells173 p
theorem lda174 {σ : Sg} {id off : Nat} : loadPV Try.prog σ 174 (.ptr id off) = ldS σ id off := ldS_of Try.underlying174 rfl
theorem ela174 {σ : Sg} {es i off : Nat} {l : List PV} : loadPV Try.prog σ 174 (.eptr es l i off) = elS l i off := elS_of Try.underlying174 rfl
theorem sto174 {σ : Sg} {id off : Nat} {p : PV} : storePV Try.prog σ 174 (.ptr id off) p = stX 1 σ id off p := stX_of Try.underlying174 cells174 p
theorem lda176 {σ : Sg} {id off : Nat} : loadPV Try.prog σ 176 (.ptr id off) = ldS σ id off := ldS_of Try.underlying176 rfl
theorem ela176 {σ : Sg} {es i off : Nat} {l : List PV} : loadPV Try.prog σ 176 (.eptr es l i off) = elS l i off := elS_of Try.underlying176 rfl
theorem sto176 {σ : Sg} {id off : Nat} {p : PV} : storePV Try.prog σ 176 (.ptr id off) p = stX 1 σ id off p := stX_of Try.underlying176 cells176 p
theorem lda177 {σ : Sg} {id off : Nat} : loadPV Try.prog σ 177 (.ptr id off) = ldS σ id off := ldS_of Try.underlying177 rfl
theorem ela177 {σ : Sg} {es i off : Nat} {l : List PV} : loadPV Try.prog σ 177 (.eptr es l i off) = elS l i off := elS_of Try.underlying177 rfl
theorem sto177 {σ : Sg} {id off : Nat} {p : PV} : storePV Try.prog σ 177 (.ptr id off) p = stX 1 σ id off p := stX_of Try.underlying177 cells177 p
theorem lda178 {σ : Sg} {id off : Nat} : loadPV Try.prog σ 178 (.ptr id off) = ldS σ id off := ldS_of Try.underlying178 rfl
theorem ela178 {σ : Sg} {es i off : Nat} {l : List PV} : loadPV Try.prog σ 178 (.eptr es l i off) = elS l i off := elS_of Try.underlying178 rfl
theorem sto178 {σ : Sg} {id off : Nat} {p : PV} : storePV Try.prog σ 178 (.ptr id off) p = stX 1 σ id off p := stX_of Try.underlying178 cells178 p
theorem lda179 {σ : Sg} {id off : Nat} : loadPV Try.prog σ 179 (.ptr id off) = ldA 11 σ id off := ldA_of Try.underlying179 rfl cells179
theorem ela179 {σ : Sg} {es i off : Nat} {l : List PV} : loadPV Try.prog σ 179 (.eptr es l i off) = elA 11 l i off := elA_of Try.underlying179 rfl cells179
theorem sto179 {σ : Sg} {id off : Nat} {p : PV} : storePV Try.prog σ 179 (.ptr id off) p = stX 11 σ id off p := stX_of Try.underlying179 cells179 p
theorem fa179_2 {id off : Nat} : fieldAddrPV Try.prog 179 (.ptr id off) 2 = some (.ptr id (off + 2)) := fa1_of Try.underlying179 (by rfl) (by exact Try.underlying143) (by exact cells143) (by rfl) (by rfl)
theorem fae179_2 {es i off : Nat} {l : List PV} : fieldAddrPV Try.prog 179 (.eptr es l i off) 2 = some (.eptr es l i (off + 2)) := fa2_of Try.underlying179 (by rfl) (by exact Try.underlying143) (by exact cells143) (by rfl) (by rfl)
theorem fp179_2 {cs : List PV} : fieldPV Try.prog 179 (.agg cs) 2 = cs[2]? := fpS_of Try.underlying179 (by rfl) (by exact Try.underlying143) (by rfl) (by rfl) cs
theorem fa179_3 {id off : Nat} : fieldAddrPV Try.prog 179 (.ptr id off) 3 = some (.ptr id (off + 3)) := fa1_of Try.underlying179 (by rfl) (by exact Try.underlying173) (by exact cells173) (by rfl) (by rfl)
theorem fae179_3 {es i off : Nat} {l : List PV} : fieldAddrPV Try.prog 179 (.eptr es l i off) 3 = some (.eptr es l i (off + 3)) := fa2_of Try.underlying179 (by rfl) (by exact Try.underlying173) (by exact cells173) (by rfl) (by rfl)
theorem fp179_3 {cs : List PV} : fieldPV Try.prog 179 (.agg cs) 3 = cs[3]? := fpS_of Try.underlying179 (by rfl) (by exact Try.underlying173) (by rfl) (by rfl) cs
theorem fa179_4 {id off : Nat} : fieldAddrPV Try.prog 179 (.ptr id off) 4 = some (.ptr id (off + 4)) := fa1_of Try.underlying179 (by rfl) (by exact Try.underlying5) (by exact cells5) (by rfl) (by rfl)
theorem fae179_4 {es i off : Nat} {l : List PV} : fieldAddrPV Try.prog 179 (.eptr es l i off) 4 = some (.eptr es l i (off + 4)) := fa2_of Try.underlying179 (by rfl) (by exact Try.underlying5) (by exact cells5) (by rfl) (by rfl)
theorem fp179_4 {cs : List PV} : fieldPV Try.prog 179 (.agg cs) 4 = cs[4]? := fpS_of Try.underlying179 (by rfl) (by exact Try.underlying5) (by rfl) (by rfl) cs
theorem fa179_5 {id off : Nat} : fieldAddrPV Try.prog 179 (.ptr id off) 5 = some (.ptr id (off + 5)) := fa1_of Try.underlying179 (by rfl) (by exact Try.underlying5) (by exact cells5) (by rfl) (by rfl)
theorem fae179_5 {es i off : Nat} {l : List PV} : fieldAddrPV Try.prog 179 (.eptr es l i off) 5 = some (.eptr es l i (off + 5)) := fa2_of Try.underlying179 (by rfl) (by exact Try.underlying5) (by exact cells5) (by rfl) (by rfl)
theorem fp179_5 {cs : List PV} : fieldPV Try.prog 179 (.agg cs) 5 = cs[5]? := fpS_of Try.underlying179 (by rfl) (by exact Try.underlying5) (by rfl) (by rfl) cs
theorem fa179_6 {id off : Nat} : fieldAddrPV Try.prog 179 (.ptr id off) 6 = some (.ptr id (off + 6)) := fa1_of Try.underlying179 (by rfl) (by exact Try.underlying174) (by exact cells174) (by rfl) (by rfl)
theorem fae179_6 {es i off : Nat} {l : List PV} : fieldAddrPV Try.prog 179 (.eptr es l i off) 6 = some (.eptr es l i (off + 6)) := fa2_of Try.underlying179 (by rfl) (by exact Try.underlying174) (by exact cells174) (by rfl) (by rfl)
theorem fp179_6 {cs : List PV} : fieldPV Try.prog 179 (.agg cs) 6 = cs[6]? := fpS_of Try.underlying179 (by rfl) (by exact Try.underlying174) (by rfl) (by rfl) cs
theorem fa179_8 {id off : Nat} : fieldAddrPV Try.prog 179 (.ptr id off) 8 = some (.ptr id (off + 8)) := fa1_of Try.underlying179 (by rfl) (by exact Try.underlying176) (by exact cells176) (by rfl) (by rfl)
theorem fae179_8 {es i off : Nat} {l : List PV} : fieldAddrPV Try.prog 179 (.eptr es l i off) 8 = some (.eptr es l i (off + 8)) := fa2_of Try.underlying179 (by rfl) (by exact Try.underlying176) (by exact cells176) (by rfl) (by rfl)
theorem fp179_8 {cs : List PV} : fieldPV Try.prog 179 (.agg cs) 8 = cs[8]? := fpS_of Try.underlying179 (by rfl) (by exact Try.underlying176) (by rfl) (by rfl) cs
theorem fa179_9 {id off : Nat} : fieldAddrPV Try.prog 179 (.ptr id off) 9 = some (.ptr id (off + 9)) := fa1_of Try.underlying179 (by rfl) (by exact Try.underlying177) (by exact cells177) (by rfl) (by rfl)
theorem fae179_9 {es i off : Nat} {l : List PV} : fieldAddrPV Try.prog 179 (.eptr es l i off) 9 = some (.eptr es l i (off + 9)) := fa2_of Try.underlying179 (by rfl) (by exact Try.underlying177) (by exact cells177) (by rfl) (by rfl)
theorem fp179_9 {cs : List PV} : fieldPV Try.prog 179 (.agg cs) 9 = cs[9]? := fpS_of Try.underlying179 (by rfl) (by exact Try.underlying177) (by rfl) (by rfl) cs
theorem fa179_10 {id off : Nat} : fieldAddrPV Try.prog 179 (.ptr id off) 10 = some (.ptr id (off + 10)) := fa1_of Try.underlying179 (by rfl) (by exact Try.underlying178) (by exact cells178) (by rfl) (by rfl)
theorem fae179_10 {es i off : Nat} {l : List PV} : fieldAddrPV Try.prog 179 (.eptr es l i off) 10 = some (.eptr es l i (off + 10)) := fa2_of Try.underlying179 (by rfl) (by exact Try.underlying178) (by exact cells178) (by rfl) (by rfl)
theorem fp179_10 {cs : List PV} : fieldPV Try.prog 179 (.agg cs) 10 = cs[10]? := fpS_of Try.underlying179 (by rfl) (by exact Try.underlying178) (by rfl) (by rfl) cs
theorem lda180 {σ : Sg} {id off : Nat} : loadPV Try.prog σ 180 (.ptr id off) = ldA 11 σ id off := ldA_of Try.underlying180 rfl cells180
theorem ela180 {σ : Sg} {es i off : Nat} {l : List PV} : loadPV Try.prog σ 180 (.eptr es l i off) = elA 11 l i off := elA_of Try.underlying180 rfl cells180
theorem sto180 {σ : Sg} {id off : Nat} {p : PV} : storePV Try.prog σ 180 (.ptr id off) p = stX 11 σ id off p := stX_of Try.underlying180 cells180 p
theorem fa180_2 {id off : Nat} : fieldAddrPV Try.prog 180 (.ptr id off) 2 = some (.ptr id (off + 2)) := fa1_of Try.underlying180 (by rfl) (by exact Try.underlying143) (by exact cells143) (by rfl) (by rfl)
theorem fae180_2 {es i off : Nat} {l : List PV} : fieldAddrPV Try.prog 180 (.eptr es l i off) 2 = some (.eptr es l i (off + 2)) := fa2_of Try.underlying180 (by rfl) (by exact Try.underlying143) (by exact cells143) (by rfl) (by rfl)
theorem fp180_2 {cs : List PV} : fieldPV Try.prog 180 (.agg cs) 2 = cs[2]? := fpS_of Try.underlying180 (by rfl) (by exact Try.underlying143) (by rfl) (by rfl) cs
theorem fa180_3 {id off : Nat} : fieldAddrPV Try.prog 180 (.ptr id off) 3 = some (.ptr id (off + 3)) := fa1_of Try.underlying180 (by rfl) (by exact Try.underlying173) (by exact cells173) (by rfl) (by rfl)
theorem fae180_3 {es i off : Nat} {l : List PV} : fieldAddrPV Try.prog 180 (.eptr es l i off) 3 = some (.eptr es l i (off + 3)) := fa2_of Try.underlying180 (by rfl) (by exact Try.underlying173) (by exact cells173) (by rfl) (by rfl)
theorem fp180_3 {cs : List PV} : fieldPV Try.prog 180 (.agg cs) 3 = cs[3]? := fpS_of Try.underlying180 (by rfl) (by exact Try.underlying173) (by rfl) (by rfl) cs
theorem fa180_4 {id off : Nat} : fieldAddrPV Try.prog 180 (.ptr id off) 4 = some (.ptr id (off + 4)) := fa1_of Try.underlying180 (by rfl) (by exact Try.underlying5) (by exact cells5) (by rfl) (by rfl)
theorem fae180_4 {es i off : Nat} {l : List PV} : fieldAddrPV Try.prog 180 (.eptr es l i off) 4 = some (.eptr es l i (off + 4)) := fa2_of Try.underlying180 (by rfl) (by exact Try.underlying5) (by exact cells5) (by rfl) (by rfl)
theorem fp180_4 {cs : List PV} : fieldPV Try.prog 180 (.agg cs) 4 = cs[4]? := fpS_of Try.underlying180 (by rfl) (by exact Try.underlying5) (by rfl) (by rfl) cs
theorem fa180_5 {id off : Nat} : fieldAddrPV Try.prog 180 (.ptr id off) 5 = some (.ptr id (off + 5)) := fa1_of Try.underlying180 (by rfl) (by exact Try.underlying5) (by exact cells5) (by rfl) (by rfl)
theorem fae180_5 {es i off : Nat} {l : List PV} : fieldAddrPV Try.prog 180 (.eptr es l i off) 5 = some (.eptr es l i (off + 5)) := fa2_of Try.underlying180 (by rfl) (by exact Try.underlying5) (by exact cells5) (by rfl) (by rfl)
theorem fp180_5 {cs : List PV} : fieldPV Try.prog 180 (.agg cs) 5 = cs[5]? := fpS_of Try.underlying180 (by rfl) (by exact Try.underlying5) (by rfl) (by rfl) cs
theorem fa180_6 {id off : Nat} : fieldAddrPV Try.prog 180 (.ptr id off) 6 = some (.ptr id (off + 6)) := fa1_of Try.underlying180 (by rfl) (by exact Try.underlying174) (by exact cells174) (by rfl) (by rfl)
theorem fae180_6 {es i off : Nat} {l : List PV} : fieldAddrPV Try.prog 180 (.eptr es l i off) 6 = some (.eptr es l i (off + 6)) := fa2_of Try.underlying180 (by rfl) (by exact Try.underlying174) (by exact cells174) (by rfl) (by rfl)
theorem fp180_6 {cs : List PV} : fieldPV Try.prog 180 (.agg cs) 6 = cs[6]? := fpS_of Try.underlying180 (by rfl) (by exact Try.underlying174) (by rfl) (by rfl) cs
theorem fa180_8 {id off : Nat} : fieldAddrPV Try.prog 180 (.ptr id off) 8 = some (.ptr id (off + 8)) := fa1_of Try.underlying180 (by rfl) (by exact Try.underlying176) (by exact cells176) (by rfl) (by rfl)
theorem fae180_8 {es i off : Nat} {l : List PV} : fieldAddrPV Try.prog 180 (.eptr es l i off) 8 = some (.eptr es l i (off + 8)) := fa2_of Try.underlying180 (by rfl) (by exact Try.underlying176) (by exact cells176) (by rfl) (by rfl)
theorem fp180_8 {cs : List PV} : fieldPV Try.prog 180 (.agg cs) 8 = cs[8]? := fpS_of Try.underlying180 (by rfl) (by exact Try.underlying176) (by rfl) (by rfl) cs
theorem fa180_9 {id off : Nat} : fieldAddrPV Try.prog 180 (.ptr id off) 9 = some (.ptr id (off + 9)) := fa1_of Try.underlying180 (by rfl) (by exact Try.underlying177) (by exact cells177) (by rfl) (by rfl)
theorem fae180_9 {es i off : Nat} {l : List PV} : fieldAddrPV Try.prog 180 (.eptr es l i off) 9 = some (.eptr es l i (off + 9)) := fa2_of Try.underlying180 (by rfl) (by exact Try.underlying177) (by exact cells177) (by rfl) (by rfl)
theorem fp180_9 {cs : List PV} : fieldPV Try.prog 180 (.agg cs) 9 = cs[9]? := fpS_of Try.underlying180 (by rfl) (by exact Try.underlying177) (by rfl) (by rfl) cs
theorem fa180_10 {id off : Nat} : fieldAddrPV Try.prog 180 (.ptr id off) 10 = some (.ptr id (off + 10)) := fa1_of Try.underlying180 (by rfl) (by exact Try.underlying178) (by exact cells178) (by rfl) (by rfl)
theorem fae180_10 {es i off : Nat} {l : List PV} : fieldAddrPV Try.prog 180 (.eptr es l i off) 10 = some (.eptr es l i (off + 10)) := fa2_of Try.underlying180 (by rfl) (by exact Try.underlying178) (by exact cells178) (by rfl) (by rfl)
theorem fp180_10 {cs : List PV} : fieldPV Try.prog 180 (.agg cs) 10 = cs[10]? := fpS_of Try.underlying180 (by rfl) (by exact Try.underlying178) (by rfl) (by rfl) cs
theorem lda181 {σ : Sg} {id off : Nat} : loadPV Try.prog σ 181 (.ptr id off) = ldS σ id off := ldS_of Try.underlying181 rfl
theorem ela181 {σ : Sg} {es i off : Nat} {l : List PV} : loadPV Try.prog σ 181 (.eptr es l i off) = elS l i off := elS_of Try.underlying181 rfl
theorem sto181 {σ : Sg} {id off : Nat} {p : PV} : storePV Try.prog σ 181 (.ptr id off) p = stX 1 σ id off p := stX_of Try.underlying181 cells181 p
attribute [go_sem] lda2 ela2 sto2 lda3 ela3 sto3 lda4 ela4 sto4 lda5 ela5 sto5 lda9 ela9 sto9 lda22 ela22 sto22 ia22 iam22 len22 lenm22 bs22 app22 lda23 ela23 sto23 lda25 ela25 sto25 fa25_0 fae25_0 fp25_0 fa25_1 fae25_1 fp25_1 fa25_2 fae25_2 fp25_2 fa25_3 fae25_3 fp25_3 fa25_4 fae25_4 fp25_4 fa25_5 fae25_5 fp25_5 fa25_6 fae25_6 fp25_6 bld25 lda26 ela26 sto26 fa26_0 fae26_0 fp26_0 fa26_1 fae26_1 fp26_1 fa26_2 fae26_2 fp26_2 fa26_3 fae26_3 fp26_3 fa26_4 fae26_4 fp26_4 fa26_5 fae26_5 fp26_5 fa26_6 fae26_6 fp26_6 bld26 lda28 ela28 sto28 ia28 iam28 len28 lenm28 bs28 app28 lda29 ela29 sto29 ia29 iam29 len29 lenm29 bs29 app29 lda30 ela30 sto30 ia30 iam30 len30 lenm30 bs30 app30 lda31 ela31 sto31 fa31_0 fae31_0 fp31_0 fa31_1 fae31_1 fp31_1 fa31_2 fae31_2 fp31_2 bld31 lda32 ela32 sto32 fa32_0 fae32_0 fp32_0 fa32_1 fae32_1 fp32_1 fa32_2 fae32_2 fp32_2 bld32 lda36 ela36 sto36 fa36_0 fae36_0 fp36_0 fa36_1 fae36_1 fp36_1 fa36_2 fae36_2 fp36_2 fa36_3 fae36_3 fp36_3 bld36 lda37 ela37 sto37 fa37_0 fae37_0 fp37_0 fa37_1 fae37_1 fp37_1 fa37_2 fae37_2 fp37_2 fa37_3 fae37_3 fp37_3 bld37 lda39 ela39 sto39 fa39_0 fae39_0 fp39_0 fa39_1 fae39_1 fp39_1 eqs39 bld39 lda40 ela40 sto40 fa40_0 fae40_0 fp40_0 fa40_1 fae40_1 fp40_1 eqs40 bld40 lda41 ela41 sto41 fa41_0 fae41_0 fp41_0 fa41_1 fae41_1 fp41_1 eqs41 bld41 lda42 ela42 sto42 fa42_0 fae42_0 fp42_0 fa42_1 fae42_1 fp42_1 eqs42 bld42 lda43 ela43 sto43 ia43 iam43 len43 lenm43 bs43 app43 lda44 ela44 sto44 lda47 ela47 sto47 fa47_0 fae47_0 fp47_0 fa47_1 fae47_1 fp47_1 eqs47 bld47 lda48 ela48 sto48 fa48_0 fae48_0 fp48_0 fa48_1 fae48_1 fp48_1 eqs48 bld48 lda51 ela51 sto51 ia51 iam51 len51 lenm51 bs51 app51 lda58 ela58 sto58 fa58_0 fae58_0 fp58_0 fa58_1 fae58_1 fp58_1 fa58_2 fae58_2 fp58_2 bld58 lda59 ela59 sto59 fa59_0 fae59_0 fp59_0 fa59_1 fae59_1 fp59_1 fa59_2 fae59_2 fp59_2 bld59 lda72 ela72 sto72 ia72 iam72 len72 lenm72 bs72 app72 lda75 ela75 sto75 ia75 iam75 len75 lenm75 bs75 app75 lda81 ela81 sto81 lda82 ela82 sto82 fa82_0 fae82_0 fp82_0 eqs82 bld82 lda83 ela83 sto83 fa83_0 fae83_0 fp83_0 eqs83 bld83 lda85 ela85 sto85 lda86 ela86 sto86 lda87 ela87 sto87 lda92 ela92 sto92 fa92_0 fae92_0 fp92_0 bld92 lda93 ela93 sto93 fa93_0 fae93_0 fp93_0 bld93 lda96 ela96 sto96 lda103 ela103 sto103 fa103_0 fae103_0 fp103_0 fa103_1 fae103_1 fp103_1 eqs103 bld103 lda104 ela104 sto104 fa104_0 fae104_0 fp104_0 fa104_1 fae104_1 fp104_1 eqs104 bld104 lda107 ela107 sto107 lda112 ela112 sto112 ia112 iam112 len112 lenm112 bs112 app112 lda113 ela113 sto113 lda117 ela117 sto117 lda118 ela118 sto118 ia118 iam118 len118 lenm118 bs118 app118 lda128 ela128 sto128 iar128 ix128 lda129 ela129 sto129 iar129 ix129 lda132 ela132 sto132 lda135 ela135 sto135 lda143 ela143 sto143 lda148 ela148 sto148 lda151 ela151 sto151 lda155 ela155 sto155 lda168 ela168 sto168 fa168_3 fae168_3 fp168_3 lda169 ela169 sto169 fa169_3 fae169_3 fp169_3 lda170 ela170 sto170 lda171 ela171 sto171 lda172 ela172 sto172 lda173 ela173 sto173 lda174 ela174 sto174 lda176 ela176 sto176 lda177 ela177 sto177 lda178 ela178 sto178 lda179 ela179 sto179 fa179_2 fae179_2 fp179_2 fa179_3 fae179_3 fp179_3 fa179_4 fae179_4 fp179_4 fa179_5 fae179_5 fp179_5 fa179_6 fae179_6 fp179_6 fa179_8 fae179_8 fp179_8 fa179_9 fae179_9 fp179_9 fa179_10 fae179_10 fp179_10 lda180 ela180 sto180 fa180_2 fae180_2 fp180_2 fa180_3 fae180_3 fp180_3 fa180_4 fae180_4 fp180_4 fa180_5 fae180_5 fp180_5 fa180_6 fae180_6 fp180_6 fa180_8 fae180_8 fp180_8 fa180_9 fae180_9 fp180_9 fa180_10 fae180_10 fp180_10 lda181 ela181 sto181 zero2 zero3 zero4 zero5 zero9 zero22 zero23 zero25 zero26 zero28 zero29 zero30 zero31 zero32 zero36 zero37 zero39 zero40 zero41 zero42 zero43 zero44 zero47 zero48 zero51 zero58 zero59 zero72 zero75 zero81 zero82 zero83 zero85 zero86 zero87 zero92 zero93 zero96 zero103 zero104 zero107 zero112 zero113 zero117 zero118 zero128 zero129 zero132 zero135 zero143 zero148 zero151 zero155 zero168 zero169 zero170 zero171 zero172 zero173 zero174 zero176 zero177 zero178 zero179 zero180 zero181
end Go.Proofs.Ytgelnjmddabgpaa
namespace Go.Proofs.Ytgelnjmddabgpaa
open Go Go.RowKit
theorem seqN {K : Env → Sg → Prop} {Q : Exit → Env → Sg → Prop} {E : Env} {σ : Sg} : Seq K Q .normal E σ = K E σ := rfl
theorem seqR {K : Env → Sg → Prop} {Q : Exit → Env → Sg → Prop} {E : Env} {σ : Sg} : Seq K Q .ret E σ = Q .ret E σ := rfl
theorem seqX {K : Env → Sg → Prop} {Q : Exit → Env → Sg → Prop} {E : Env} {σ : Sg} {i : Nat} : Seq K Q (.exit i) E σ = Q (.exit i) E σ := rfl
theorem blkN {i : Nat} {Q : Exit → Env → Sg → Prop} {E : Env} {σ : Sg} : InBlock i Q .normal E σ = Q .normal E σ := rfl
theorem blkR {i : Nat} {Q : Exit → Env → Sg → Prop} {E : Env} {σ : Sg} : InBlock i Q .ret E σ = Q .ret E σ := rfl
theorem blkX {i j : Nat} {Q : Exit → Env → Sg → Prop} {E : Env} {σ : Sg} : InBlock i Q (.exit j) E σ = if j = i then Q .normal E σ else Q (.exit j) E σ := rfl
theorem range0 : List.range 0 = [] := rfl
theorem range1 : List.range 1 = [0] := rfl
theorem range2 : List.range 2 = [0, 1] := rfl
theorem range3 : List.range 3 = [0, 1, 2] := rfl
theorem range4 : List.range 4 = [0, 1, 2, 3] := rfl
theorem range5 : List.range 5 = [0, 1, 2, 3, 4] := rfl
theorem range6 : List.range 6 = [0, 1, 2, 3, 4, 5] := rfl
theorem range7 : List.range 7 = [0, 1, 2, 3, 4, 5, 6] := rfl
theorem range8 : List.range 8 = [0, 1, 2, 3, 4, 5, 6, 7] := rfl
theorem range9 : List.range 9 = [0, 1, 2, 3, 4, 5, 6, 7, 8] := rfl
theorem range10 : List.range 10 = [0, 1, 2, 3, 4, 5, 6, 7, 8, 9] := rfl
theorem range11 : List.range 11 = [0, 1, 2, 3, 4, 5, 6, 7, 8, 9, 10] := rfl
theorem range12 : List.range 12 = [0, 1, 2, 3, 4, 5, 6, 7, 8, 9, 10, 11] := rfl
theorem range13 : List.range 13 = [0, 1, 2, 3, 4, 5, 6, 7, 8, 9, 10, 11, 12] := rfl
theorem range14 : List.range 14 = [0, 1, 2, 3, 4, 5, 6, 7, 8, 9, 10, 11, 12, 13] := rfl
theorem range15 : List.range 15 = [0, 1, 2, 3, 4, 5, 6, 7, 8, 9, 10, 11, 12, 13, 14] := rfl
theorem range16 : List.range 16 = [0, 1, 2, 3, 4, 5, 6, 7, 8, 9, 10, 11, 12, 13, 14, 15] := rfl
attribute [go_sem] range0 range1 range2 range3 range4 range5 range6 range7 range8 range9 range10 range11 range12 range13 range14 range15 range16
attribute [go_sem low] Sg.push_new Sg.pushRoom_new Sg.pushY_new
attribute [go_sem] Sg.ext_ext
attribute [go_sem] seqN seqR seqX blkN blkR blkX
attribute [go_sem] GL GD GWant_true GWant_false GOpt_some GWho_nobody GWho_fn GWho_yield GOr_true wantedPV whom effOp pureOp isNilC isNilV ev constPV constPV0 Option.map Option.bind decide_false ite_true ite_false eq_self gt_iff_lt ge_iff_le Env.put Env.get dstOK Nat.reduceLT decide_true Nat.reduceEqDiff argsEnv Nat.reduceAdd binPV bin arith isShift pickPV keep List.map Bool.true_and Bool.and_true reduceIte List.getElem?_toArray List.getElem?_cons_succ List.getElem?_cons_zero beq_true beq_false Bool.not_true Bool.not_false Bool.false_eq_true true_and and_true undefs Dem Option.map_some Option.map_none builtinPV foldMax foldMin unPV extractPV oneOr Sg.push_ext Sg.pushRoom_ext Sg.len_ext Sg.rooms_ext Sg.ys_ext Sg.pushY_ext Sg.ysget_ext Sg.ysget_ext0 Sg.setY_ext Sg.setY_ext0 Sg.popY_ext Sg.popY_ext0 ldS_ext ldS_ext0 ldA_ext ldA_ext0 stX_ext stX_ext0 List.cons_append List.nil_append List.length_cons List.length_nil Nat.zero_add Nat.add_zero List.set_cons_zero List.set_cons_succ PV.cells_agg PV.cells_int PV.cells_bool PV.cells_str PV.cells_isl PV.cells_nilsl PV.cells_func PV.cells_ptr PV.cells_undef defd PV.scalar List.all_cons List.all_nil BEq.rfl Nat.le_refl Nat.reduceLeDiff putCells fillPV List.take_succ_cons List.take_zero List.drop_succ_cons List.drop_zero and_self Nat.reduceMul Nat.reducePow Nat.lt_add_one Nat.reduceBEq List.length_map List.take_nil List.drop_nil
end Go.Proofs.Ytgelnjmddabgpaa
namespace Go.Proofs.Ytgelnjmddabgpaa
open Go Go.RowKit
theorem setVar_some {σ : Sg} {id i : Nat} {cs cs' x : List PV} (hid : σ.store[id]? = some (some cs)) (h : (σ.setVar id cs').store[i]? = some (some x)) : (i = id ∧ x = cs') ∨ (i ≠ id ∧ σ.store[i]? = some (some x)) := by
  have h' : (σ.store.set id (some cs'))[i]? = some (some x) := h
  rw [List.getElem?_set] at h'
  by_cases e : id = i
  · subst e
    rw [if_pos rfl, if_pos (List.getElem?_eq_some_iff.1 hid).1] at h'
    injection h' with h'
    injection h' with h'
    exact .inl ⟨rfl, h'.symm⟩
  · rw [if_neg e] at h'
    exact .inr ⟨fun e' => e e'.symm, h'⟩
theorem SR.reread {Ψ : Ty} {σ : Sg} {w : World} (h : SR Ψ σ w) {id : Nat} {cs cs' : List PV} (hid : σ.store[id]? = some (some cs))
    (hv : ∀ b, Ψ.β[id]? = some b → Keeps Ψ w b cs → Keeps Ψ w b cs') : SR Ψ (σ.setVar id cs') w := by
  have old : ∀ (i : Nat) (x : List PV), (σ.setVar id cs').store[i]? = some (some x) → ∃ y, σ.store[i]? = some (some y) := fun i x hx => by
    rcases setVar_some hid hx with ⟨rfl, _⟩ | ⟨_, h'⟩
    · exact ⟨_, hid⟩
    · exact ⟨_, h'⟩
  refine ⟨h.base, h.imm, by rw [sv_len]; exact h.blen, ?_, ?_, ?_, h.roomsApart, h.histlt, h.histle, h.βlt, h.yok, h.ylen', h.dok, ?_, h.szok⟩
  · intro i x b hx hb
    rcases setVar_some hid hx with ⟨rfl, rfl⟩ | ⟨_, h'⟩
    · obtain ⟨a1, a2, a0⟩ := h.block i cs b hid hb
      exact ⟨a1, a2, hv b hb a0⟩
    · exact h.block i x b h' hb
  · intro i i' x x' b hx hx' hb hb'
    obtain ⟨y, hy⟩ := old i x hx
    obtain ⟨y', hy'⟩ := old i' x' hx'
    exact h.apart i i' y y' b hy hy' hb hb'
  · intro r n b e c es hr hh hlt
    obtain ⟨a1, a2, a3, a4⟩ := h.room r n b e c es hr hh hlt
    refine ⟨a1, a2, fun i hi x hx => ?_, a4⟩
    obtain ⟨y, hy⟩ := old i x hx
    exact a3 i hi y hy
  · intro b c hm
    obtain ⟨a1, a2, a3, a4, a5⟩ := h.rok b c hm
    refine ⟨a1, a2, fun i hi x hx => ?_, a4, a5⟩
    obtain ⟨y, hy⟩ := old i x hx
    exact a3 i hi y hy
theorem Weak.roomV {N : Nat} {lo : Nat × Nat} {E : Env} {σ : Sg} {id off es : Nat} {cs l : List PV} (hid : σ.store[id]? = some (some cs)) (hc : cs[off]? = some (.isl l .exact)) (hes : ∀ q, q ∈ l → q.cells.length = es) :
    Weak N lo E σ E ((σ.setVar id (cs.set off (.isl l (.tok σ.rooms.length l.length es)))).pushRoom l.length) := by
  intro Ψ0 Ψ D a w hb le hr
  obtain ⟨b, hβ⟩ : ∃ b, Ψ.β[id]? = some b := by
    have : id < Ψ.β.length := by rw [hr.sg.blen]; exact (List.getElem?_eq_some_iff.1 hid).1
    exact ⟨Ψ.β[id], by simp [this]⟩
  obtain ⟨_, _, h0⟩ := hr.sg.block id cs b hid hβ
  obtain ⟨c, hbi, hcl, hcv⟩ : ∃ c, blockIs w b c ∧ cs.length ≤ c.size ∧ ∀ (j : Nat) (p : PV) (v : Value), cs[j]? = some p → c[j]? = some v → VR Ψ p v := by
    rcases h0 with h0 | ⟨arr, es, rfl, _, g1, g2⟩
    · exact h0
    · rcases off with _ | off
      · simp at hc
      simp only [List.getElem?_cons_succ] at hc
      have hlt : off < arr.size := by rw [g1]; exact (List.getElem?_eq_some_iff.1 hc).1
      obtain ⟨_, k, v, e, _⟩ := g2 off _ arr[off] hc (by simp [hlt])
      cases e
  have hoff : off < cs.length := (List.getElem?_eq_some_iff.1 hc).1
  have hoc : off < c.size := Nat.lt_of_lt_of_le hoff hcl
  have hv : VR Ψ (.isl l .exact) c[off] := hcv off _ _ hc (by simp [hoc])
  have fin : ∀ x : Option (Nat × Nat × Nat × Nat), (∀ b e c s, x = some (b, e, c, s) → ¬ e < c) → (∀ Ψ', Ψ.le Ψ' → Ψ'.hist σ.rooms.length l.length = some x → VR Ψ' (.isl l (.tok σ.rooms.length l.length es)) c[off]) →
      ∃ Ψ', Ψ0.le Ψ' ∧ Rel N D Ψ' E ((σ.setVar id (cs.set off (.isl l (.tok σ.rooms.length l.length es)))).pushRoom l.length) a w := by
    intro x hx hvr
    obtain ⟨le', hs'⟩ := hr.sg.newRoom l.length x (fun b e c s hh hlt => absurd hlt (hx b e c s hh))
    have hnew := hvr _ le' (by simp [Ty.addHist])
    have hid' : (σ.pushRoom l.length).store[id]? = some (some cs) := hid
    have hs2 := hs'.reread (cs' := cs.set off (.isl l (.tok σ.rooms.length l.length es))) hid' (fun b2 hb2 h2 => by
      have e1 : b2 = b := by
        have := le'.β id b hβ
        rw [hb2] at this; injection this
      subst e1
      obtain ⟨g1, g2⟩ := h2.cells hbi
      refine .inl ⟨c, hbi, by simpa using g1, fun j p v h1 h2 => ?_⟩
      rw [List.getElem?_set] at h1
      by_cases hj : off = j
      · subst hj
        rw [if_pos rfl, if_pos hoff] at h1
        injection h1 with h1
        subst h1
        have : v = c[off] := by simpa [hoc] using h2.symm
        rw [this]; exact hnew
      · rw [if_neg hj] at h1
        exact g2 j p v h1 h2)
    refine ⟨_, le.trans le', hr.size, fun t' => (hr.env t').mono le', hs2, fun d hd => le'.ds _ (hr.dsub d hd), ?_⟩
    obtain ⟨rs, r1, r2, r3⟩ := hr.defs
    exact ⟨rs, r1, r2, fun r hm => ⟨le'.ds _ (r3 r hm).1, (r3 r hm).2⟩⟩
  generalize hx : c[off] = x at hv fin
  cases hv with
  | islnil _ a0 _ => exact fin none (fun b e c s h => by cases h) fun Ψ' _ hh => .islnil _ a0 ⟨_, hh⟩
  | isl es0 _ _ b o cap vals hs h1 h2 hc' ho =>
    have hcap : cap = l.length := ho
    subst hcap
    refine fin (some (b, o + l.length * es, o + l.length * es, es)) (fun b e c s h => by injection h with h; injection h with _ h; injection h with h1 h; injection h with h2 _; omega) fun Ψ' le' hh => ?_
    by_cases hl : l = []
    · subst hl
      exact .isl es [] _ b o 0 vals (fun k e h => by simp at h) (fun k e j p h => by simp at h) (fun k e j p h => by simp at h) (Nat.le_refl _) ⟨rfl, hh⟩
    · have : es0 = es := by
        cases l with
        | nil => exact absurd rfl hl
        | cons q l => rw [← hs 0 q rfl]; exact hes q (by simp)
      subst this
      exact .isl es0 l _ b o _ vals hs (fun k e j p q1 q2 => le'.imm _ _ _ (h1 k e j p q1 q2)) (fun k e j p q1 q2 => (h2 k e j p q1 q2).mono le') (Nat.le_refl _) ⟨rfl, hh⟩
/-- The same for a variable that is new. -/
theorem Weak.roomX {N : Nat} {lo : Nat × Nat} {E : Env} {σ : Sg} {l : List (Option (List PV))} {rm : List Nat} {ys : List LState} {j off es : Nat} {cs m : List PV} (hid : l[j]? = some (some cs)) (hc : cs[off]? = some (.isl m .exact)) (hes : ∀ q, q ∈ m → q.cells.length = es) :
    Weak N lo E (σ.ext l rm ys) E (σ.ext (l.set j (some (cs.set off (.isl m (.tok (σ.rooms.length + rm.length) m.length es))))) (rm ++ [m.length]) ys) := by
  have h := Weak.roomV (N := N) (lo := lo) (E := E) (σ := σ.ext l rm ys) (id := σ.store.length + j) (off := off) (es := es) (cs := cs) (l := m) (by rw [Sg.get_ext]; exact hid) hc hes
  rw [Sg.rooms_ext, Sg.set_ext, Sg.pushRoom_ext] at h
  exact h
/-- Cut back, where a variable that was there before was set. -/
theorem Weak.cutSV {N : Nat} {lo : Nat × Nat} {E : Env} {σ : Sg} {d : Nat} {ds : List PV} {l : List (Option (List PV))} {rm : List Nat} {ys : List LState} (k j : Nat) (h1 : lo.1 ≤ σ.store.length + k) (h2 : lo.2 ≤ σ.rooms.length + j) (hcl : CleanSg σ) (hds : CleanAll σ.store.length σ.rooms.length σ.ys.length ds)
    (hc : CleanLs (σ.store.length + k) (σ.rooms.length + j) (σ.ys.length + ys.length) (l.take k)) (hE : CleanEs (σ.store.length + k) (σ.rooms.length + j) (σ.ys.length + ys.length) E) :
    Weak N lo E ((σ.setVar d ds).ext l rm ys) E ((σ.setVar d ds).ext (l.take k) (rm.take j) ys) := by
  have h := Weak.cutX (N := N) (lo := lo) (E := E) (σ := σ.setVar d ds) (l := l) (rm := rm) (ys := ys) k j (by rw [sv_len]; exact h1) h2 (CleanSg_set hcl hds) (by rw [sv_len]; exact hc) (by rw [sv_len]; exact hE)
  exact h
end Go.Proofs.Ytgelnjmddabgpaa
namespace Go.Proofs.Ytgelnjmddabgpaa
open Go Go.RowKit
end Go.Proofs.Ytgelnjmddabgpaa
namespace Go.Proofs.Ytgelnjmddabgpaa
open Go Go.RowKit
end Go.Proofs.Ytgelnjmddabgpaa
namespace Go.Proofs.Ytgelnjmddabgpaa
open Go Go.RowKit
/-- The owner of a part of a slice. -/
theorem slHi_of {P : Program} {t e : TypeId} {d : TypeDesc} (h : P.underlying t = some (.slice e)) (he : P.underlying e = some d) (l : List PV) (own : Own) (k : IntKind) (n : Int) :
    slicePV P t (.isl l own) none (some (.int k n)) none = if 0 ≤ n then if n.toNat ≤ l.length then some (.isl (l.take n.toNat) (sliceOwn own 0 n.toNat l.length)) else none else none := by
  unfold slicePV
  rw [h]
  simp only [he, bnd]
  by_cases hn : 0 ≤ n
  · simp [hn]
  · simp [hn]
/-- Without an owner. -/
theorem sliceOwn_ro {lo h len : Nat} : sliceOwn .ro lo h len = .ro := by unfold sliceOwn; split <;> rfl
theorem sliceOwn_self {own : Own} {lo len : Nat} : sliceOwn own lo len len = own := by simp [sliceOwn]
attribute [go_sem] sliceOwn_ro sliceOwn_self
theorem slLo_of {P : Program} {t e : TypeId} {d : TypeDesc} {c : Nat} (h : P.underlying t = some (.slice e)) (he : P.underlying e = some d) (hc : P.cellsOf e = c) {α : Type} {f : α → PV} (hf : ∀ x, (f x).cells.length = c) (xs : List α) (own : Own) (k : IntKind) (n : Int) :
    slicePV P t (.isl (xs.map f) own) (some (.int k n)) none none = if 0 ≤ n then if n.toNat ≤ xs.length then some (.isl ((xs.drop n.toNat).map f) own) else none else none := by
  have hall : (xs.map f).all (fun el => el.cells.length == c) = true := by
    rw [List.all_eq_true]
    intro p hp
    obtain ⟨x, _, rfl⟩ := List.mem_map.1 hp
    simp [hf]
  unfold slicePV
  rw [h]
  simp only [he, bnd, hc]
  by_cases hn : 0 ≤ n
  · simp only [hn, if_true]
    by_cases hl : n.toNat ≤ xs.length
    · rw [if_pos ⟨by simpa using hl, Nat.le_refl _, .inr hall⟩, if_pos hl, sliceOwn_self, ← List.map_drop, List.take_of_length_le (by simp)]
    · rw [if_neg (fun q => hl (by simpa using q.1)), if_neg hl]
  · simp [hn]
theorem slBoth_of {P : Program} {t e : TypeId} {d : TypeDesc} {c : Nat} (h : P.underlying t = some (.slice e)) (he : P.underlying e = some d) (hc : P.cellsOf e = c) {α : Type} {f : α → PV} (hf : ∀ x, (f x).cells.length = c) (xs : List α) (own : Own) (k k' : IntKind) (n m : Int) :
    slicePV P t (.isl (xs.map f) own) (some (.int k n)) (some (.int k' m)) none = if 0 ≤ n then if 0 ≤ m then if n.toNat ≤ m.toNat ∧ m.toNat ≤ xs.length then some (.isl (((xs.drop n.toNat).take (m.toNat - n.toNat)).map f) (sliceOwn own n.toNat m.toNat xs.length)) else none else none else none := by
  have hall : (xs.map f).all (fun el => el.cells.length == c) = true := by
    rw [List.all_eq_true]
    intro p hp
    obtain ⟨x, _, rfl⟩ := List.mem_map.1 hp
    simp [hf]
  unfold slicePV
  rw [h]
  simp only [he, bnd, hc]
  by_cases hn : 0 ≤ n
  · by_cases hm : 0 ≤ m
    · simp only [hn, hm, if_true]
      by_cases hl : n.toNat ≤ m.toNat ∧ m.toNat ≤ xs.length
      · rw [if_pos ⟨hl.1, by simpa using hl.2, .inr hall⟩, if_pos hl]
        simp only [List.length_map, ← List.map_drop, ← List.map_take]
      · rw [if_neg (fun q => hl ⟨q.1, by simpa using q.2.1⟩), if_neg hl]
    · simp [hn, hm]
  · simp [hn]
end Go.Proofs.Ytgelnjmddabgpaa
namespace Go.Proofs.Ytgelnjmddabgpaa
open Go Go.RowKit
section
variable {P : Program} {t e : TypeId} {d : TypeDesc} {c b : Nat} {σ : Sg} {id len es : Nat}
theorem iaG_of (h : P.underlying t = some (.slice e)) (he : P.underlying e = some d) (hc : P.cellsOf e = c) (kd : IntKind) (len : Nat) (n : Int) : indexAddrPV P t (.gsl id len es) (.int kd n) = iaM c id 0 len n := by
  simp [indexAddrPV, h, he, hc, iaM]
theorem lenG_of (h : P.underlying t = some (.slice e)) (n : Nat) : lenPV P t (.gsl id n es) = some (.int .i64 n) := by simp [lenPV, h]
theorem lenN_of (h : P.underlying t = some (.slice e)) : lenPV P t .gnil = some (.int .i64 0) := by simp [lenPV, h]
def appG (c b : Nat) (σ : Sg) (x : PV) (m : List PV) : Option (PV × Sg) :=
  if m.all (fun q => (q.cells.length == c) && q.cells.all PV.scalar) && decide (0 < m.length) then
    (match x with
     | .gnil => if m.length * b ≤ 2 ^ 47 then some (.gsl σ.store.length m.length c, σ.push (rowC m)) else none
     | .gsl id len es => match σ.store[id]? with
       | some (some cs) => if es = c ∧ cs.length = len * es ∧ (len + m.length) * b ≤ 2 ^ 47 then some (.gsl σ.store.length (len + m.length) es, (σ.drop id).push (cs ++ rowC m)) else none
       | _ => none
     | _ => none)
  else none
theorem appG_of {zs : List PV} {x : PV} {m : List PV} {own : Own} (h : P.underlying t = some (.slice e)) (he : P.underlying e = some d) (hc : P.cellsOf e = c) (hb : P.bytesOf e = b) (hb0 : b ≠ 0) (hc0 : 0 < c) (hz : zeroPV P e = some zs) (hzl : zs.length = c) :
    appendG P σ t t x (.isl m own) = appG c b σ x m := by
  unfold appendG appG
  rw [h]
  simp only [he, hc, hb, hz, hzl, Option.isSome_some, Bool.true_and, Option.map_some, BEq.rfl, Bool.and_true, hb0, hc0, ne_eq, not_false_eq_true, and_self, decide_true]
  rfl
theorem appG_nil {m : List PV} (h1 : m.all (fun q => (q.cells.length == c) && q.cells.all PV.scalar) = true) (h2 : 0 < m.length) (h3 : m.length * b ≤ 2 ^ 47) : appG c b σ .gnil m = some (.gsl σ.store.length m.length c, σ.push (rowC m)) := by
  simp only [appG, h1, h2, h3, decide_true, Bool.and_true, if_true]
theorem appG_more {m cs : List PV} (hs : σ.store[id]? = some (some cs)) (hl : cs.length = len * c) (h1 : m.all (fun q => (q.cells.length == c) && q.cells.all PV.scalar) = true) (h2 : 0 < m.length) (h3 : (len + m.length) * b ≤ 2 ^ 47) :
    appG c b σ (.gsl id len c) m = some (.gsl σ.store.length (len + m.length) c, (σ.drop id).push (cs ++ rowC m)) := by
  simp only [appG, h1, h2, decide_true, Bool.and_true, if_true, hs]
  rw [if_pos ⟨trivial, hl, h3⟩]
end
theorem get_put1 (E : Env) (t : Nat) (v : PV) (t' : Nat) : (E.put (some t) v).get t' = if t' = t then v else E.get t' := by
  simp only [Env.put_some, Env.get]
  by_cases h : t' = t
  · subst h; simp
  · simp [h, Ne.symm h]
theorem rowC_at {es : Nat} : ∀ {l : List PV} (_ : ∀ q ∈ l, q.cells.length = es) {k j : Nat} {q p : PV}, l[k]? = some q → q.cells[j]? = some p → (rowC l)[k * es + j]? = some p := by
  intro l
  induction l with
  | nil => intro _ k j q p h; simp at h
  | cons a l ih =>
    intro hl k j q p h1 h2
    have ha := hl a (by simp)
    have e : rowC (a :: l) = a.cells ++ rowC l := by simp [rowC]
    rw [e]
    cases k with
    | zero =>
      simp at h1
      subst h1
      rw [Nat.zero_mul, Nat.zero_add, List.getElem?_append_left (List.getElem?_eq_some_iff.1 h2).1]
      exact h2
    | succ k =>
      have := ih (fun q hq => hl q (by simp [hq])) (by simpa using h1) h2
      rw [List.getElem?_append_right (by rw [ha, Nat.add_mul]; omega), ha, show (k + 1) * es + j - es = k * es + j by rw [Nat.add_mul]; omega]
      exact this
theorem Sg.drop_ext {σ : Sg} {l : List (Option (List PV))} {rm : List Nat} {ys : List LState} (j : Nat) : (σ.ext l rm ys).drop (σ.store.length + j) = σ.ext (l.set j none) rm ys := by
  simp [Sg.drop, Sg.ext, List.set_append]
theorem Sg.drop_ext0 {σ : Sg} {l : List (Option (List PV))} {rm : List Nat} {ys : List LState} : (σ.ext l rm ys).drop σ.store.length = σ.ext (l.set 0 none) rm ys := Sg.drop_ext 0
attribute [go_sem] Sg.drop_ext Sg.drop_ext0
/-- What a variable held is read of a temporary, and is never written again. -/
theorem Weak.freeze {N : Nat} {lo : Nat × Nat} {E : Env} {σ : Sg} {t id len es : Nat} {l : List PV} (ht : E.get t = .gsl id len es) (hs : σ.store[id]? = some (some (rowC l))) (hl : l.length = len) (hes : ∀ q ∈ l, q.cells.length = es) :
    Weak N lo E σ (E.put (some t) (.isl l .ro)) (σ.drop id) := by
  intro Ψ0 Ψ D a w hb le hr
  have hv := hr.env t
  rw [ht] at hv
  generalize hx : a.tmps.getD t undef = x at hv
  cases hv with
  | gsl _ _ _ b cap hβ hz1 hz0 hc =>
  obtain ⟨_, c, hbk, _⟩ := hr.sg.szok b 0 hz0
  obtain ⟨_, _, hkp⟩ := hr.sg.block id _ b hs hβ
  obtain ⟨a4, a5⟩ := hkp.cells hbk
  obtain ⟨le2, hs2⟩ := hr.sg.freeze hs hβ hbk
  refine ⟨_, le.trans le2, hr.size, fun t' => ?_, hs2, fun d hd => le2.ds _ (hr.dsub d hd), ?_⟩
  · rw [get_put1]
    split
    · rename_i e
      subst e
      rw [hx, ← hl]
      have hat : ∀ (k : Nat) (q : PV) (j : Nat) (p : PV), l[k]? = some q → q.cells[j]? = some p → (rowC l)[k * es + j]? = some p ∧ k * es + j < c.size := fun k q j p q1 q2 => by
        have := rowC_at hes q1 q2
        exact ⟨this, Nat.lt_of_lt_of_le (List.getElem?_eq_some_iff.1 this).1 a4⟩
      refine .isl es l .ro b 0 cap (fun k j => c.getD (k * es + j) undef) (fun k q hk => hes q (List.mem_of_getElem? hk)) (fun k q j p q1 q2 => ?_) (fun k q j p q1 q2 => ?_) (by omega) trivial
      · obtain ⟨_, hlt⟩ := hat k q j p q1 q2
        simp only [Ty.addImm, Nat.zero_add]
        rw [if_pos ⟨trivial, Nat.zero_le _, hlt⟩]
        simp [Array.getD, hlt]
      · obtain ⟨h1, hlt⟩ := hat k q j p q1 q2
        refine (a5 _ p _ h1 ?_).mono le2
        simp [Array.getD, hlt]
    · exact (hr.env t').mono le2
  · obtain ⟨rs, r1, r2, r3⟩ := hr.defs
    exact ⟨rs, r1, r2, fun r hm => ⟨le2.ds _ (r3 r hm).1, (r3 r hm).2⟩⟩
/-- A slice without room, told otherwise: to grow in place. -/
theorem Weak.gnil {N : Nat} {lo : Nat × Nat} {E : Env} {σ : Sg} {t : Nat} (ht : E.get t = .isl [] .exact) : Weak N lo E σ (E.put (some t) .gnil) σ := by
  intro Ψ0 Ψ D a w hb le hr
  refine ⟨Ψ, le, hr.size, fun t' => ?_, hr.sg, hr.dsub, hr.defs⟩
  rw [get_put1]
  split
  · rename_i e
    subst e
    have hv := hr.env t'
    rw [ht] at hv
    generalize a.tmps.getD t' undef = x at hv
    cases hv with
    | islnil _ a' _ => exact .gnil a'
    | isl es _ _ b o cap vals hs h1 h2 hc ho =>
      have : cap = 0 := ho
      subst this
      exact .gnil _
  · exact hr.env t'
end Go.Proofs.Ytgelnjmddabgpaa
namespace Go.Proofs.Ytgelnjmddabgpaa
open Go Go.RowKit
/-- A map's entries. -/
def mapE {κ ν : Type} (ek : κ → PV) (ev : ν → PV) (l : List (κ × ν)) : List PV := l.map fun e => .tuple [ek e.1, ev e.2]
theorem mapE_cons {κ ν : Type} (ek : κ → PV) (ev : ν → PV) (e : κ × ν) (l : List (κ × ν)) : mapE ek ev (e :: l) = .tuple [ek e.1, ev e.2] :: mapE ek ev l := rfl
theorem mapE_append {κ ν : Type} (ek : κ → PV) (ev : ν → PV) (l m : List (κ × ν)) : mapE ek ev (l ++ m) = mapE ek ev l ++ mapE ek ev m := by simp [mapE]
section
variable {κ ν : Type} [DecidableEq κ]
def aget (k : κ) : List (κ × ν) → Option ν
  | [] => none
  | e :: l => if k = e.1 then some e.2 else aget k l
def aput (k : κ) (v : ν) : List (κ × ν) → List (κ × ν)
  | [] => [(k, v)]
  | e :: l => if k = e.1 then (k, v) :: l else e :: aput k v l
theorem aget_put (k k' : κ) (v : ν) : ∀ l : List (κ × ν), aget k' (aput k v l) = if k' = k then some v else aget k' l := by
  intro l
  induction l with
  | nil => rfl
  | cons e l ih =>
    simp only [aput]
    split
    · rename_i h
      subst h
      simp only [aget]
      split <;> rfl
    · rename_i h
      simp only [aget]
      split
      · rename_i h2
        subst h2
        rw [if_neg (fun e => h e.symm)]
      · exact ih
theorem aget_append (k : κ) : ∀ l m : List (κ × ν), aget k (l ++ m) = match aget k l with | some v => some v | none => aget k m := by
  intro l m
  induction l with
  | nil => rfl
  | cons e l ih =>
    simp only [List.cons_append, aget]
    split
    · rfl
    · exact ih
theorem aget_mem {k : κ} {v : ν} : ∀ {l : List (κ × ν)}, aget k l = some v → (k, v) ∈ l := by
  intro l
  induction l with
  | nil => intro h; cases h
  | cons e l ih =>
    intro h
    simp only [aget] at h
    split at h
    · rename_i he
      injection h with h
      subst he h
      simp
    · exact List.mem_cons_of_mem _ (ih h)
/-- The keys of a type are told apart as their readings are. -/
def KeyOK (P : Program) (kt : TypeId) (ek : κ → PV) : Prop := ∀ a b, keyEq P kt (ek a) (ek b) = some (decide (a = b))
def afind (k : κ) : List (κ × ν) → Nat → Option (Nat × ν)
  | [], _ => none
  | e :: l, i => if k = e.1 then some (i, e.2) else afind k l (i + 1)
theorem findPV_map {P : Program} {kt : TypeId} {ek : κ → PV} (h : KeyOK P kt ek) (ev : ν → PV) (k : κ) : ∀ (l : List (κ × ν)) (i : Nat), findPV P kt (ek k) (mapE ek ev l) i = some ((afind k l i).map fun r => (r.1, ev r.2)) := by
  intro l
  induction l with
  | nil => intro i; rfl
  | cons e l ih =>
    intro i
    simp only [mapE_cons, findPV, afind]
    rw [h k e.1]
    by_cases he : k = e.1
    · simp [he]
    · simp only [he, decide_false, if_neg, not_false_eq_true]
      exact ih (i + 1)
theorem afind_get (k : κ) : ∀ (l : List (κ × ν)) (i : Nat), (afind k l i).map (·.2) = aget k l := by
  intro l
  induction l with
  | nil => intro i; rfl
  | cons e l ih =>
    intro i
    simp only [afind, aget]
    split
    · rfl
    · exact ih (i + 1)
theorem afind_put (ek : κ → PV) (ev : ν → PV) (k : κ) (v : ν) : ∀ (l : List (κ × ν)) (i : Nat), match afind k l i with
    | none => aput k v l = l ++ [(k, v)]
    | some (j, _) => i ≤ j ∧ (mapE ek ev l).set (j - i) (.tuple [ek k, ev v]) = mapE ek ev (aput k v l) := by
  intro l
  induction l with
  | nil => intro i; rfl
  | cons e l ih =>
    intro i
    simp only [afind, aput]
    by_cases he : k = e.1
    · rw [if_pos he, if_pos he]
      simp [mapE_cons]
    · rw [if_neg he, if_neg he]
      have := ih (i + 1)
      cases hf : afind k l (i + 1) with
      | none => rw [hf] at this; simp only at this ⊢; rw [this]; rfl
      | some r =>
        rw [hf] at this
        obtain ⟨j, x⟩ := r
        simp only at this ⊢
        refine ⟨by omega, ?_⟩
        rw [show j - i = j - (i + 1) + 1 by omega, mapE_cons, List.set_cons_succ, this.2, mapE_cons]
def lkM (P : Program) (kt : TypeId) (z : PV) (b : Option (Option (List PV))) (k : PV) (ok : Bool) : Option PV :=
  match b with
  | some (some (.mark :: es)) => match findPV P kt k es 0 with
    | some (some (_, v)) => some (packPV ok v true)
    | some none => some (packPV ok z false)
    | none => none
  | _ => none
def lkX (P : Program) (kt : TypeId) (z : PV) (σ : Sg) (id : Nat) (k : PV) (ok : Bool) : Option PV := lkM P kt z σ.store[id]? k ok
def upM (P : Program) (kt : TypeId) (b : Option (Option (List PV))) (k v : PV) : Option (List PV) :=
  match b with
  | some (some (.mark :: es)) => match findPV P kt k es 0 with
    | some (some (j, _)) => some (.mark :: es.set j (.tuple [k, v]))
    | some none => some (.mark :: (es ++ [.tuple [k, v]]))
    | none => none
  | _ => none
def upX (P : Program) (kt : TypeId) (σ : Sg) (id : Nat) (k v : PV) : Option Sg := (upM P kt σ.store[id]? k v).map fun cs => σ.setVar id cs
theorem lk_of {P : Program} {t kt et : TypeId} {kd : TypeDesc} {z : PV} (h : P.underlying t = some (.map kt et)) (hk : P.underlying kt = some kd) (hz : zeroOne P et = some z) {k : PV} (hf : keyFor P kd k = true) (σ : Sg) (id : Nat) (ok : Bool) :
    lookupPV P σ t (.map id) k ok = lkX P kt z σ id k ok := by
  simp only [lookupPV, h, hk, hz, hf, if_true, lkX, lkM]
  rfl
theorem up_of {P : Program} {t kt et : TypeId} {kd : TypeDesc} (h : P.underlying t = some (.map kt et)) (hk : P.underlying kt = some kd) {k : PV} (hf : keyFor P kd k = true) (v : PV) (σ : Sg) (id : Nat) :
    updatePV P σ t (.map id) k v = upX P kt σ id k v := by
  simp only [updatePV, h, hk, hf, if_true, upX, upM]
  generalize σ.store[id]? = b
  rcases b with _ | _ | cs
  · rfl
  · rfl
  · rcases cs with _ | ⟨c, cs⟩
    · rfl
    · cases c <;> try rfl
      simp only
      rcases findPV P kt k cs 0 with _ | _ | ⟨j, x⟩ <;> rfl
theorem lkM_map {P : Program} {kt : TypeId} {z : PV} {ek : κ → PV} (h : KeyOK P kt ek) (ev : ν → PV) (l : List (κ × ν)) (k : κ) (ok : Bool) :
    lkM P kt z (some (some (.mark :: mapE ek ev l))) (ek k) ok = some (packPV ok (match aget k l with | some v => ev v | none => z) (aget k l).isSome) := by
  simp only [lkM, findPV_map h]
  rw [← afind_get k l 0]
  cases afind k l 0 with
  | none => rfl
  | some r => rfl
theorem upM_map {P : Program} {kt : TypeId} {ek : κ → PV} (h : KeyOK P kt ek) (ev : ν → PV) (l : List (κ × ν)) (k : κ) (v : ν) :
    upM P kt (some (some (.mark :: mapE ek ev l))) (ek k) (ev v) = some (.mark :: mapE ek ev (aput k v l)) := by
  simp only [upM, findPV_map h]
  have := afind_put ek ev k v l 0
  cases hf : afind k l 0 with
  | none =>
    rw [hf] at this
    simp only at this
    simp only [Option.map_none, this, mapE_append]
    rfl
  | some r =>
    rw [hf] at this
    obtain ⟨j, x⟩ := r
    simp only [Option.map_some]
    have h2 := this.2
    simp only [Nat.sub_zero] at h2
    rw [h2]
end
section
variable {P : Program} {kt : TypeId} {z : PV} {σ : Sg} {l : List (Option (List PV))} {rm : List Nat} {ys : List LState} {j d : Nat} {cs : List PV} {k v : PV} {ok : Bool}
theorem lkX_at (h : σ.store[d]? = some (some cs)) : lkX P kt z σ d k ok = lkM P kt z (some (some cs)) k ok := by simp only [lkX, h]
theorem lkX_ext : lkX P kt z (σ.ext l rm ys) (σ.store.length + j) k ok = lkM P kt z l[j]? k ok := by simp only [lkX, Sg.get_ext]
theorem lkX_ext0 : lkX P kt z (σ.ext l rm ys) σ.store.length k ok = lkM P kt z l[0]? k ok := by simp only [lkX, Sg.get_ext0]
theorem lkX_old (h : d < σ.store.length) : lkX P kt z (σ.ext l rm ys) d k ok = lkX P kt z σ d k ok := by simp only [lkX, ext_get h]
theorem upX_ext : upX P kt (σ.ext l rm ys) (σ.store.length + j) k v = (upM P kt l[j]? k v).map fun cs => σ.ext (l.set j (some cs)) rm ys := by simp only [upX, Sg.get_ext, Sg.set_ext]
theorem upX_ext0 : upX P kt (σ.ext l rm ys) σ.store.length k v = (upM P kt l[0]? k v).map fun cs => σ.ext (l.set 0 (some cs)) rm ys := by simp only [upX, Sg.get_ext0, Sg.set_ext0]
theorem lkX_svx : lkX P kt z ((σ.setVar d cs).ext l rm ys) (σ.store.length + j) k ok = lkM P kt z l[j]? k ok := by
  have := lkX_ext (P := P) (kt := kt) (z := z) (σ := σ.setVar d cs) (l := l) (rm := rm) (ys := ys) (j := j) (k := k) (ok := ok)
  rw [sv_len] at this
  exact this
theorem Cl_map {a b c id : Nat} : Clean a b c (.map id) = (id < a) := propext ⟨fun h => by cases h; assumption, fun h => .mapv _ h⟩
theorem Cl_nilmap {a b c : Nat} : Clean a b c .nilmap = True := eq_true .nilmap
theorem Cl_mark {a b c : Nat} : Clean a b c .mark = True := eq_true .mark
theorem Cl_gsl {a b c id len es : Nat} : Clean a b c (.gsl id len es) = (id < a) := propext ⟨fun h => by cases h; assumption, fun h => .gsl _ _ _ h⟩
theorem Cl_gnil {a b c : Nat} : Clean a b c .gnil = True := eq_true .gnil
theorem CleanAll_mapE {κ ν : Type} {a b c : Nat} {ek : κ → PV} {ev : ν → PV} {l : List (κ × ν)} (h1 : ∀ x, Clean a b c (ek x)) (h2 : ∀ x, Clean a b c (ev x)) : CleanAll a b c (mapE ek ev l) = True := eq_true fun p hp => by
  obtain ⟨e, _, rfl⟩ := List.mem_map.1 hp
  refine .tuple _ fun q hq => ?_
  simp only [List.mem_cons, List.not_mem_nil, or_false] at hq
  rcases hq with rfl | rfl
  · exact h1 _
  · exact h2 _
end
end Go.Proofs.Ytgelnjmddabgpaa
namespace Go.Proofs.Ytgelnjmddabgpaa
open Go Go.RowKit
structure Scale where
  schools : Int
  matters : Int
  judges : Int
  drop : Int
  low : Int
  high : Int
  order : List Int
  deriving DecidableEq
structure Envl where
  matter : Int
  judge : Int
  marks : List Int
  sl : Int
  deriving DecidableEq
structure Night where
  opened : List Envl
  absent : List (Int × Int)
  fines : List (Int × Int)
  deriving DecidableEq
structure Stand where
  school : Int
  total : Int
  points : List Int
  deriving DecidableEq
abbrev intsO (o : Own) (xs : List Int) : PV := .isl (xs.map I) o
def stPV (s : Int × Int) : PV := .agg [I s.1, I s.2]
def scCells (s : Scale) : List PV := [I s.schools, I s.matters, I s.judges, I s.drop, I s.low, I s.high, ints s.order]
def scPV (s : Scale) : PV := .agg (scCells s)
def evCells (e : Envl) : List PV := [I e.matter, I e.judge, ints e.marks, I e.sl]
def evPV (e : Envl) : PV := .agg (evCells e)
abbrev sts (l : List (Int × Int)) : PV := .isl (l.map stPV) .ro
abbrev evs (l : List Envl) : PV := .isl (l.map evPV) .ro
def ngCells (n : Night) : List PV := [evs n.opened, sts n.absent, sts n.fines]
def ngPV (n : Night) : PV := .agg (ngCells n)
def sdCells (x : Stand) : List PV := [I x.school, I x.total, ints x.points]
def sdPV (x : Stand) : PV := .agg (sdCells x)
abbrev sds (l : List Stand) : PV := .isl (l.map sdPV) .ro
def llPV (xs : List Int) : PV := ints xs
section
variable {α : Type} {f : α → PV} {xs : List α} {i : Nat} {x : α} {c k off : Nat}
theorem iaX_map (h : xs[i]? = some x) (hc : (f x).cells.length = c) : iaX c (xs.map f) (i : Int) = some (.eptr c (xs.map f) i 0) := by
  have hlt : i < xs.length := (List.getElem?_eq_some_iff.1 h).1
  have hx : xs[i] = x := (List.getElem?_eq_some_iff.1 h).2
  unfold iaX
  rw [if_pos ⟨Int.natCast_nonneg _, by simpa using hlt⟩]
  simp [hlt, hx, hc]
end
theorem Clean.map {α : Type} {a b c : Nat} {f : α → PV} {xs : List α} {o : Own} (ho : ∀ r n es, o = .tok r n es → r < b) (h : ∀ x, Clean a b c (f x)) : Clean a b c (.isl (xs.map f) o) :=
  .isl _ _ (fun e he => by obtain ⟨x, _, rfl⟩ := List.mem_map.1 he; exact h x) ho
theorem noTok {b : Nat} : ∀ r n es, Own.ro = .tok r n es → r < b := fun r n es e => by cases e
theorem clean_ints {a b c : Nat} (xs : List Int) : Clean a b c (ints xs) := Clean.ints xs .ro noTok
theorem clean_ll {a b c : Nat} (xs : List Int) : Clean a b c (llPV xs) := Clean.ints xs .ro noTok
theorem clean_st {a b c : Nat} (s : Int × Int) : Clean a b c (stPV s) := .agg _ (Clean.all_cons (.int _ _) (Clean.all_cons (.int _ _) Clean.all_nil))
theorem cleans_sc {a b c : Nat} (s : Scale) : ∀ p, p ∈ scCells s → Clean a b c p :=
  Clean.all_cons (.int _ _) (Clean.all_cons (.int _ _) (Clean.all_cons (.int _ _) (Clean.all_cons (.int _ _) (Clean.all_cons (.int _ _) (Clean.all_cons (.int _ _) (Clean.all_cons (clean_ints _) Clean.all_nil))))))
theorem cleans_ev {a b c : Nat} (x : Envl) : ∀ p, p ∈ evCells x → Clean a b c p :=
  Clean.all_cons (.int _ _) (Clean.all_cons (.int _ _) (Clean.all_cons (clean_ints _) (Clean.all_cons (.int _ _) Clean.all_nil)))
theorem clean_ev {a b c : Nat} (x : Envl) : Clean a b c (evPV x) := .agg _ (cleans_ev x)
theorem cleans_ng {a b c : Nat} (n : Night) : ∀ p, p ∈ ngCells n → Clean a b c p :=
  Clean.all_cons (Clean.map noTok clean_ev) (Clean.all_cons (Clean.map noTok clean_st) (Clean.all_cons (Clean.map noTok clean_st) Clean.all_nil))
theorem cleans_sd {a b c : Nat} (x : Stand) : ∀ p, p ∈ sdCells x → Clean a b c p :=
  Clean.all_cons (.int _ _) (Clean.all_cons (.int _ _) (Clean.all_cons (clean_ints _) Clean.all_nil))
theorem clean_sd {a b c : Nat} (x : Stand) : Clean a b c (sdPV x) := .agg _ (cleans_sd x)
def inR (n lo hi : Int) : Bool := decide (lo ≤ n) && decide (n ≤ hi)
theorem okC_st {xs : List (Int × Int)} : okC 2 (xs.map stPV) = True := okC_map fun x => by simp [okC, stPV, PV.cells, PV.scalar]
theorem okC_ev {xs : List Envl} : okC 4 (xs.map evPV) = True := okC_map fun x => by simp [okC, evPV, evCells, PV.cells, PV.scalar]
theorem okC_sd {xs : List Stand} : okC 3 (xs.map sdPV) = True := okC_map fun x => by simp [okC, sdPV, sdCells, PV.cells, PV.scalar]
theorem okC_ll {xs : List (List Int)} : okC 1 (xs.map llPV) = True := okC_map fun x => by simp [okC, llPV, PV.cells, PV.scalar]
theorem roL_st {xs : List (Int × Int)} : PV.roL (xs.map stPV) = xs.map stPV := roL_enc fun x => by simp only [stPV, ro_agg, roL_cons, roL_nil, ro_int]
theorem roL_ev {xs : List Envl} : PV.roL (xs.map evPV) = xs.map evPV := roL_enc fun x => by simp only [evPV, evCells, ro_agg, roL_cons, roL_nil, ro_int, ro_isl, roL_ints]
theorem roL_sd {xs : List Stand} : PV.roL (xs.map sdPV) = xs.map sdPV := roL_enc fun x => by simp only [sdPV, sdCells, ro_agg, roL_cons, roL_nil, ro_int, ro_isl, roL_ints]
theorem roL_ll {xs : List (List Int)} : PV.roL (xs.map llPV) = xs.map llPV := roL_enc fun x => by simp only [llPV, ro_isl, roL_ints]
theorem cA_st {a b c : Nat} {xs : List (Int × Int)} : CleanAll a b c (xs.map stPV) = True := CleanAll_map clean_st
theorem cA_ev {a b c : Nat} {xs : List Envl} : CleanAll a b c (xs.map evPV) = True := CleanAll_map clean_ev
theorem cA_sd {a b c : Nat} {xs : List Stand} : CleanAll a b c (xs.map sdPV) = True := CleanAll_map clean_sd
theorem cA_ll {a b c : Nat} {xs : List (List Int)} : CleanAll a b c (xs.map llPV) = True := CleanAll_map clean_ll
attribute [go_sem] okC_st okC_ev okC_sd okC_ll roL_st roL_ev roL_sd roL_ll cA_st cA_ev cA_sd cA_ll stPV scPV scCells evPV evCells ngPV ngCells sdPV sdCells
theorem mixed : Try.prog.follows .mixedOrders = true := by kernel_rfl
abbrev Kn := List ((Int × Int) × List Int)
def mkPV : List Int → PV
  | [] => .nilsl
  | x :: l => ints (x :: l)
def knE (k : Kn) : List PV := mapE stPV mkPV k
theorem clean_mk {a b c : Nat} (l : List Int) : Clean a b c (mkPV l) := by
  cases l with
  | nil => exact .nilsl
  | cons x l => exact clean_ints _
theorem cA_kn {a b c : Nat} {k : Kn} : CleanAll a b c (knE k) = True := CleanAll_mapE clean_st clean_mk
attribute [go_sem] cA_kn
end Go.Proofs.Ytgelnjmddabgpaa
namespace Go.Proofs.Ytgelnjmddabgpaa
open Go Go.RowKit
theorem own : ownKnob Try.prog.godebug = none := by kernel_rfl
theorem laidOut : laidOutB Try.prog = true := by kernel_rfl
theorem rdInt : Rd Try.prog 3 fun p => ∃ n : Int, p = I n := (Rd.int Try.underlying3).mono fun _ ⟨n, h, _⟩ => ⟨n, h⟩
def intsSz (xs : List Int) : Prop := xs.length * 8 ≤ 140737488351232
theorem rdInts : Rd Try.prog 22 fun p => ∃ xs : List Int, p = ints xs ∧ intsSz xs :=
  (Rd.slice Try.underlying22 (by kernel_rfl) rdInt).mono fun p ⟨l, h1, h2, h3⟩ => by
    obtain ⟨xs, rfl, _⟩ := map_of (f := I) (Q := fun _ => True) fun x hx => let ⟨n, e⟩ := h1 x hx; ⟨n, e, trivial⟩
    have e : Try.prog.bytesOf 3 = 8 := by kernel_rfl
    rw [e] at h2
    exact ⟨xs, h3, by simpa [reachBytes, intsSz] using h2⟩
end Go.Proofs.Ytgelnjmddabgpaa
namespace Go.Proofs.Ytgelnjmddabgpaa
open Go Go.RowKit
theorem rowC_single {l : List PV} (h : ∀ q, q ∈ l → q.cells = [q]) : rowC l = l := by
  induction l with
  | nil => rfl
  | cons q l ih =>
    have := ih fun q hq => h q (by simp [hq])
    simp only [rowC, List.flatMap_cons] at this ⊢
    rw [h q (by simp), this]
    rfl
theorem rowC_ints (xs : List Int) : rowC (xs.map I) = xs.map I := rowC_single fun q hq => by obtain ⟨x, _, rfl⟩ := List.mem_map.1 hq; rfl
theorem mk_of {P : Program} {t e : TypeId} {z : PV} {b : Nat} (h : P.underlying t = some (.slice e)) (hz : zeroPV P e = some [z]) (hb : P.bytesOf e = b) (hc : P.cellsOf e = 1) {σ : Sg} {k : Nat} (hk : k * b ≤ 2 ^ 47) (hk2 : k < 2 ^ 63) :
    makePV P σ t (.int .i64 (k : Int)) (.int .i64 (k : Int)) = some (.msl σ.store.length 0 k, σ.push (List.replicate k z)) := by
  simp only [makePV, h, hz, hb, hc]
  rw [if_pos ⟨trivial, Int.natCast_nonneg k, by rw [← Int.natCast_mul]; omega, by omega, trivial⟩]
  simp
theorem iaM_nat {c id off len k : Nat} (h : k < len) : iaM c id off len (k : Int) = some (.ptr id (off + k * c)) := by
  unfold iaM
  rw [if_pos ⟨Int.natCast_nonneg k, by omega⟩]
  simp
theorem setI {xs : List Int} {i : Nat} {v : Int} : (xs.map I).set i (I v) = (xs.set i v).map I := by rw [List.map_set]
theorem setB {xs : List Bool} {i : Nat} {v : Bool} : (xs.map PV.bool).set i (.bool v) = (xs.set i v).map PV.bool := by rw [List.map_set]
theorem repB (n : Nat) (v : Bool) : List.replicate n (PV.bool v) = (List.replicate n v).map PV.bool := by simp
end Go.Proofs.Ytgelnjmddabgpaa
namespace Go.Proofs.Ytgelnjmddabgpaa
open Go Go.RowKit
def NoGoto (Q : Exit → Env → Sg → Prop) : Exit → Env → Sg → Prop
  | .goto _, _, _ => False
  | e, E, σ => Q e E σ
section
variable {P : Program} {a : Act} {k : List Item} {cs : List Frame} {w : World} {Q : Exit → Env → Sg → Prop}
theorem ngN {E : Env} {σ : Sg} : NoGoto Q .normal E σ = Q .normal E σ := rfl
theorem ngR {E : Env} {σ : Sg} : NoGoto Q .ret E σ = Q .ret E σ := rfl
theorem ngX {E : Env} {σ : Sg} {i : Nat} : NoGoto Q (.exit i) E σ = Q (.exit i) E σ := rfl
attribute [go_sem] ngN ngR ngX
end
end Go.Proofs.Ytgelnjmddabgpaa
namespace Go.Proofs.Ytgelnjmddabgpaa
open Go Go.RowKit
/-- A contract of the library's, as a contract. -/
theorem PC_of_calls {P : Program} {Y : YEnv} {f : FuncId} {args : List PV} {σ σ' : Sg} {v : PV} (hg : goFn P f = true)
    (h : ∀ Ψ vals w, SR Ψ σ w → VRs Ψ args vals → Calls P f vals w (fun e w' => ∃ x Ψ', e = .returned x ∧ Ψ.le Ψ' ∧ SR Ψ' σ' w' ∧ VR Ψ' v x ∧ Below Ψ.base w w')) : PC P Y f args σ v σ' :=
  ⟨hg, fun Ψ vals w hs ha _ => callsIn_wide.2 (h Ψ vals w hs ha)⟩
/-- A variable's block is written anew. -/
theorem SR.rewrite {Ψ : Ty} {σ : Sg} {w w' : World} (h : SR Ψ σ w) {id b : Nat} {cs cs' : List PV} {c c' : Array Value} {e : TypeId} (hid : σ.store[id]? = some (some cs)) (hβ : Ψ.β[id]? = some b)
    (hb : w.heap[b]? = some (.cells c e (0, 0))) (hb' : w'.heap[b]? = some (.cells c' e (0, 0))) (hsz : c'.size = c.size) (hz : w.heap.size ≤ w'.heap.size) (ho : ∀ k, k < w.heap.size → k ≠ b → w'.heap[k]? = w.heap[k]?)
    (hl : cs'.length ≤ c'.size) (hv : ∀ (j : Nat) (p : PV) (v : Value), cs'[j]? = some p → c'[j]? = some v → VR Ψ p v) : SR Ψ (σ.setVar id cs') w' := by
  obtain ⟨p1, p2, p3⟩ := h.block id cs b hid hβ
  have old : ∀ (i : Nat) (x : List PV), (σ.setVar id cs').store[i]? = some (some x) → ∃ y, σ.store[i]? = some (some y) := fun i x hx => by
    rcases setVar_some hid hx with ⟨rfl, _⟩ | ⟨_, h'⟩
    · exact ⟨_, hid⟩
    · exact ⟨_, h'⟩
  have hbi : blockIs w b c := ⟨e, hb⟩
  have cel : ∀ b2 o v, b2 ≠ b → w.cell? ⟨b2, o, none⟩ = some v → w'.cell? ⟨b2, o, none⟩ = some v := fun b2 o v hne hv => by
    rw [cell_eq, ho b2 (cell_lt hv) hne, ← cell_eq]; exact hv
  have blk : ∀ b2 c2, b2 ≠ b → blockIs w b2 c2 → blockIs w' b2 c2 := fun b2 c2 hne hk => hk.of_heap (ho b2 hk.lt hne)
  refine ⟨Nat.le_trans h.base hz, fun b2 o v hk => cel b2 o v (fun e2 => by subst e2; rw [p2] at hk; cases hk) (h.imm b2 o v hk), by rw [sv_len]; exact h.blen, ?_, ?_, ?_, h.roomsApart, h.histlt, h.histle, fun i b2 hk => Nat.lt_of_lt_of_le (h.βlt i b2 hk) hz, ?_, h.ylen', ?_, ?_, ?_⟩
  · intro i x b2 hx hb2
    rcases setVar_some hid hx with ⟨rfl, rfl⟩ | ⟨hne, h'⟩
    · have : b2 = b := by rw [hβ] at hb2; injection hb2 with hb2; exact hb2.symm
      subst this
      exact ⟨p1, p2, .inl ⟨c', ⟨e, hb'⟩, hl, hv⟩⟩
    · have hbn : b2 ≠ b := fun e2 => hne (h.apart i id x cs b2 h' hid hb2 (e2 ▸ hβ))
      obtain ⟨a1, a2, a3⟩ := h.block i x b2 h' hb2
      exact ⟨a1, a2, a3.of_heap (ho b2 (h.βlt i b2 hb2) hbn)⟩
  · intro i i' x x' b2 hx hx' hb2 hb2'
    obtain ⟨y, hy⟩ := old i x hx
    obtain ⟨y', hy'⟩ := old i' x' hx'
    exact h.apart i i' y y' b2 hy hy' hb2 hb2'
  · intro r n b2 e2 c2 es hr hh hlt
    obtain ⟨a1, a2, a3, cc, a4, a5⟩ := h.room r n b2 e2 c2 es hr hh hlt
    have hbn : b2 ≠ b := fun e3 => a3 id (e3 ▸ hβ) cs hid
    refine ⟨a1, a2, fun i hi x hx => ?_, cc, blk _ _ hbn a4, a5⟩
    obtain ⟨y, hy⟩ := old i x hx
    exact a3 i hi y hy
  · intro y l d s k1 k2
    obtain ⟨a1, a0, a2⟩ := h.yok y l d s k1 k2
    have hne : l ≠ b := by rintro rfl; rw [hb] at a2; cases a2
    exact ⟨a1, a0, by rw [ho l (heap_lt a2) hne]; exact a2⟩
  · intro d k
    obtain ⟨a1, a2⟩ := h.dok d k
    have hne : d ≠ b := by rintro rfl; rw [hb] at a2; cases a2
    exact ⟨a1, by rw [ho d (heap_lt a2) hne]; exact a2⟩
  · intro b2 c2 hm
    obtain ⟨a1, a2, a3, a4, a5⟩ := h.rok b2 c2 hm
    have hbn : b2 ≠ b := fun e3 => a3 id (e3 ▸ hβ) cs hid
    refine ⟨a1, a2, fun i hi x hx => ?_, a4, blk _ _ hbn a5⟩
    obtain ⟨y, hy⟩ := old i x hx
    exact a3 i hi y hy
  · intro b2 n hm
    obtain ⟨a1, c2, a2, a3⟩ := h.szok b2 n hm
    by_cases hbn : b2 = b
    · subst hbn
      have := a2.eq hbi
      subst this
      exact ⟨a1, c', ⟨e, hb'⟩, by omega⟩
    · exact ⟨a1, c2, blk _ _ hbn a2, a3⟩
section
variable {P : Program} {Y : YEnv} {f : FuncId} {σ : Sg} {id : Nat} {xs ys : List Int}
theorem gsl_row {Ψ : Ty} {w : World} (hs : SR Ψ σ w) {n : Nat} {x : Value} (hid : σ.store[id]? = some (some (xs.map I))) (hn : n = xs.length) (hx : VR Ψ (.gsl id n 1) x) :
    ∃ b c e cap, x = .slice (some ⟨b, 0, none⟩) xs.length cap ∧ Ψ.β[id]? = some b ∧ w.heap[b]? = some (.cells c e (0, 0)) ∧ Sort.Holds (Value.int .i64) w b 0 xs.toArray ∧ xs.length ≤ c.size ∧ xs.length ≤ cap ∧ (b, cap * 1) ∈ Ψ.sz ∧ (b, 0) ∈ Ψ.sz ∧ Ψ.base ≤ b := by
  subst hn
  cases hx with
  | gsl _ _ _ b cap hβ hz hz0 hc =>
    obtain ⟨_, c, ⟨e, hb⟩, _⟩ := hs.szok b 0 hz0
    obtain ⟨p1, _, hk⟩ := hs.block id _ b hid hβ
    obtain ⟨k1, k2⟩ := hk.cells ⟨e, hb⟩
    rw [List.length_map] at k1
    have hbi : blockIs w b c := ⟨e, hb⟩
    refine ⟨b, c, e, cap, rfl, hβ, hb, fun j hj => ?_, k1, hc, hz, hz0, p1⟩
    have hj' : j < xs.length := by simpa using hj
    have hjc : j < c.size := by omega
    refine ⟨?_, hbi.free _⟩
    rw [Nat.zero_add, hbi.cell]
    have := k2 j (I xs[j]) c[j] (by simp [hj']) (by simp [hjc])
    cases hcj : c[j] with
    | _ => (rw [hcj] at this; cases this) <;> simp [hjc, hcj, hj']
theorem SR.row {Ψ : Ty} {w : World} (hs : SR Ψ σ w) {b : Nat} {c : Array Value} {e : TypeId} {n : Nat} {os : Array Obj} (hid : σ.store[id]? = some (some (xs.map I))) (hβ : Ψ.β[id]? = some b) (hb : w.heap[b]? = some (.cells c e (0, 0))) (hl : ys.length = xs.length) (hc : xs.length ≤ c.size) :
    SR Ψ (σ.setVar id (ys.map I)) (Sort.grow (Sort.putRow (Value.int .i64) (Sort.ahead w n) b 0 ys.toArray) os) := by
  have hg := grownBy_sortedI (w := w) (g := b) (n := n) (os := os) ys.toArray
  have ht := take_putCellsI c ys (by omega)
  refine hs.rewrite (c' := Sort.putCells (Value.int .i64) 0 ys.toArray c) hid hβ hb (heap_sortedI (w := w) (n := n) (os := os) ys.toArray hb) (by simp [Sort.putCells]) hg.size (fun k hk hne => hg.block k hk (fun e2 => hne (Option.some.inj e2))) (by simp [Sort.putCells]; omega) ?_
  intro j p v h1 h2
  simp only [List.getElem?_map, Option.map_eq_some_iff] at h1
  obtain ⟨y, hy, rfl⟩ := h1
  have hj := (List.getElem?_eq_some_iff.1 hy).1
  have h3 : ((Sort.putCells (Value.int .i64) 0 ys.toArray c).toList.take ys.length)[j]? = some v := by
    rw [List.getElem?_take_of_lt hj, Array.getElem?_toList]; exact h2
  rw [ht, List.getElem?_map, hy] at h3
  injection h3 with h3
  subst h3
  exact .int _ _
theorem Below.row {Ψ : Ty} {w : World} {b n : Nat} {os : Array Obj} {d : Array Int} (hB : Ψ.base ≤ w.heap.size) (h0 : Ψ.base ≤ b) : Below Ψ.base w (Sort.grow (Sort.putRow (Value.int .i64) (Sort.ahead w n) b 0 d) os) := by
  have hg := grownBy_sortedI (w := w) (g := b) (n := n) (os := os) d
  exact ⟨hg.os, hg.tape, hg.output, hg.size, fun k hk => hg.block k (by omega) (fun e2 => by injection e2 with e2; omega)⟩
/-- What a contract of the library's must say of sorting. -/
def SortsI (P : Program) (f : FuncId) : Prop := goFn P f = true ∧ (∀ (p : Option Addr) (cap : Nat) (w : World), Calls P f #[.slice p 0 cap] w fun e w' => e = .returned (.tuple #[]) ∧ w' = w) ∧
  ∀ (blk off cap : Nat) (zs : List Int) (w : World), Sort.Holds (Value.int .i64) w blk off zs.toArray → blk < w.heap.size → zs.length < 4611686018427387904 → Calls P f #[.slice (some ⟨blk, off, none⟩) zs.length cap] w fun e w' =>
    e = .returned (.tuple #[]) ∧ ∃ n os, w' = Sort.grow (Sort.putRow (Value.int .i64) (Sort.ahead w n) blk off (zs.mergeSort fun x y => decide (x ≤ y)).toArray) os
def sortI (xs : List Int) : List Int := xs.mergeSort fun x y => decide (x ≤ y)
theorem sortI_len (xs : List Int) : (sortI xs).length = xs.length := by simp [sortI, List.length_mergeSort]
theorem PC_sortI (h : SortsI P f) (hid : σ.store[id]? = some (some (xs.map I))) (hl : xs.length < 2 ^ 60) : PC P Y f [.gsl id xs.length 1] σ (.tuple []) (σ.setVar id ((sortI xs).map I)) := by
  refine PC_of_calls h.1 fun Ψ vals w hs ha => ?_
  obtain ⟨x, rfl⟩ : ∃ x, vals = #[x] := by
    have := ha.1
    match vals, this with
    | ⟨[x]⟩, _ => exact ⟨x, rfl⟩
  obtain ⟨b, c, e, cap, rfl, hβ, hb, hH, h1, _, _, _, h0⟩ := gsl_row hs hid rfl (ha.2 0 _ _ rfl rfl)
  have hbl : b < w.heap.size := (Array.getElem?_eq_some_iff.1 hb).1
  refine (h.2.2 b 0 cap xs w hH hbl (by omega)).mono ?_
  rintro e2 w2 ⟨rfl, n, os, rfl⟩
  exact ⟨_, Ψ, rfl, Ty.le.refl _, hs.row hid hβ hb (sortI_len xs) h1, skipped_ok _, Below.row hs.base h0⟩
theorem PC_sort0 (h : SortsI P f) : PC P Y f [.gnil] σ (.tuple []) σ := by
  refine PC_of_calls h.1 fun Ψ vals w hs ha => ?_
  obtain ⟨x, rfl⟩ : ∃ x, vals = #[x] := by
    have := ha.1
    match vals, this with
    | ⟨[x]⟩, _ => exact ⟨x, rfl⟩
  have hx := ha.2 0 _ _ rfl rfl
  cases hx with
  | gnil a =>
    refine (h.2.1 a 0 w).mono ?_
    rintro e2 w2 ⟨rfl, rfl⟩
    exact ⟨_, Ψ, rfl, Ty.le.refl _, hs, skipped_ok _, Below.refl _ _⟩
end
section
variable {N : Nat} {lo : Nat × Nat} {E : Env} {σ : Sg}
theorem Keeps.setOne {Ψ : Ty} {w : World} {b off : Nat} {cs : List PV} {p q : PV} (h : Keeps Ψ w b cs) (hp : cs[off]? = some p) (h0 : p ≠ .mark) (h1 : ∀ k v, p ≠ .tuple [k, v]) (hq : ∀ x, VR Ψ p x → VR Ψ q x) : Keeps Ψ w b (cs.set off q) := by
  have hlt : off < cs.length := (List.getElem?_eq_some_iff.1 hp).1
  rcases h with ⟨c, a3, a4, a5⟩ | ⟨arr, es, rfl, a3, a4, a5⟩
  · refine .inl ⟨c, a3, by simpa using a4, fun j r v e1 e2 => ?_⟩
    rw [List.getElem?_set] at e1
    by_cases e : off = j
    · subst e
      rw [if_pos rfl, if_pos hlt] at e1
      injection e1 with e1
      subst e1
      exact hq _ (a5 off p v hp e2)
    · rw [if_neg e] at e1
      exact a5 j r v e1 e2
  · exfalso
    rcases off with _ | off
    · simp at hp; exact h0 hp.symm
    · simp only [List.getElem?_cons_succ] at hp
      have hlt' : off < arr.size := by rw [a4]; exact (List.getElem?_eq_some_iff.1 hp).1
      obtain ⟨_, k, v, e2, _⟩ := a5 off p arr[off] hp (by simp [hlt'])
      exact h1 k v e2
/-- A cell is told otherwise. -/
theorem Weak.cellV {id off : Nat} {cs : List PV} {p q : PV} (hid : σ.store[id]? = some (some cs)) (hc : cs[off]? = some p) (h0 : p ≠ .mark) (h1 : ∀ k v, p ≠ .tuple [k, v]) (hq : ∀ Ψ x, VR Ψ p x → VR Ψ q x) : Weak N lo E σ E (σ.setVar id (cs.set off q)) := by
  intro Ψ0 Ψ D a w hb le hr
  have hs2 := hr.sg.reread (cs' := cs.set off q) hid (fun b hb2 h2 => h2.setOne hc h0 h1 (hq Ψ))
  exact ⟨Ψ, le, hr.size, hr.env, hs2, hr.dsub, hr.defs⟩
theorem VR.to_gnil {Ψ : Ty} {x : Value} (hv : VR Ψ (.isl [] .exact) x) : VR Ψ .gnil x := by
  cases hv with
  | islnil _ a' _ => exact .gnil a'
  | isl es _ _ b o cap vals hs h1 h2 hc ho =>
    have : cap = 0 := ho
    subst this
    exact .gnil _
theorem VR.of_gnil {Ψ : Ty} {x : Value} (hv : VR Ψ .gnil x) : VR Ψ (.isl [] .ro) x := by
  cases hv with
  | gnil a => exact .islnil .ro a trivial
/-- A slice without room in a new variable's cell: to grow in place. -/
theorem Weak.gnilX {l : List (Option (List PV))} {rm : List Nat} {ys : List LState} {j off : Nat} {cs : List PV} (hid : l[j]? = some (some cs)) (hc : cs[off]? = some (.isl [] .exact)) :
    Weak N lo E (σ.ext l rm ys) E (σ.ext (l.set j (some (cs.set off .gnil))) rm ys) := by
  have h := Weak.cellV (N := N) (lo := lo) (E := E) (σ := σ.ext l rm ys) (id := σ.store.length + j) (off := off) (cs := cs) (q := .gnil) (by rw [Sg.get_ext]; exact hid) hc (by simp) (by simp) (fun _ _ => VR.to_gnil)
  rw [Sg.set_ext] at h
  exact h
/-- What a slice in a cell held is never written again. -/
theorem Weak.freezeV {cid off id len es : Nat} {ccs rest : List PV} {l : List PV} (hne : cid ≠ id) (hcid : σ.store[cid]? = some (some ccs)) (hc : ccs[off]? = some (.gsl id len es)) (hs : σ.store[id]? = some (some (rowC l ++ rest))) (hl : l.length = len) (hes : ∀ q ∈ l, q.cells.length = es) :
    Weak N lo E σ E ((σ.drop id).setVar cid (ccs.set off (.isl l .ro))) := by
  intro Ψ0 Ψ D a w hb le hr
  obtain ⟨b0, hβ0⟩ : ∃ b, Ψ.β[cid]? = some b := by
    have : cid < Ψ.β.length := by rw [hr.sg.blen]; exact (List.getElem?_eq_some_iff.1 hcid).1
    exact ⟨Ψ.β[cid], by simp [this]⟩
  obtain ⟨_, _, hkc⟩ := hr.sg.block cid ccs b0 hcid hβ0
  -- the slice
  have hv : ∃ x, VR Ψ (.gsl id len es) x := by
    rcases hkc with ⟨c, a3, a4, a5⟩ | ⟨arr, es', rfl, a3, a4, a5⟩
    · have hlt : off < c.size := Nat.lt_of_lt_of_le (List.getElem?_eq_some_iff.1 hc).1 a4
      exact ⟨c[off], a5 off _ _ hc (by simp [hlt])⟩
    · rcases off with _ | off
      · simp at hc
      · simp only [List.getElem?_cons_succ] at hc
        have hlt' : off < arr.size := by rw [a4]; exact (List.getElem?_eq_some_iff.1 hc).1
        obtain ⟨_, k, v, e2, _⟩ := a5 off _ arr[off] hc (by simp [hlt'])
        cases e2
  obtain ⟨x0, hx0⟩ := hv
  cases hx0 with
  | gsl _ _ _ b cap hβ hz1 hz0 hcap =>
  obtain ⟨_, c, hbk, _⟩ := hr.sg.szok b 0 hz0
  obtain ⟨_, _, hkp⟩ := hr.sg.block id _ b hs hβ
  obtain ⟨a4, a5⟩ := hkp.cells hbk
  obtain ⟨le2, hs2⟩ := hr.sg.freeze hs hβ hbk
  have hcid2 : (σ.drop id).store[cid]? = some (some ccs) := by
    show (σ.store.set id none)[cid]? = _
    rw [List.getElem?_set_ne (fun e => hne e.symm)]
    exact hcid
  have hat : ∀ (k : Nat) (q : PV) (j : Nat) (p : PV), l[k]? = some q → q.cells[j]? = some p → (rowC l ++ rest)[k * es + j]? = some p ∧ k * es + j < c.size := fun k q j p q1 q2 => by
    have h1 := rowC_at hes q1 q2
    have h2 : (rowC l ++ rest)[k * es + j]? = some p := by rw [List.getElem?_append_left (List.getElem?_eq_some_iff.1 h1).1]; exact h1
    exact ⟨h2, Nat.lt_of_lt_of_le (List.getElem?_eq_some_iff.1 h2).1 a4⟩
  have hs3 := hs2.reread (cs' := ccs.set off (.isl l .ro)) hcid2 (fun b2 hb2 h2 => h2.setOne hc (by simp) (by simp) (fun y hy => by
    cases hy with
    | gsl _ _ _ b' cap' hβ' _ _ hcap' =>
    have hbb : b' = b := by
      have := le2.β id b hβ
      rw [hβ'] at this
      injection this
    subst hbb
    rw [← hl]
    refine .isl es l .ro b' 0 cap' (fun k j => c.getD (k * es + j) undef) (fun k q hk => hes q (List.mem_of_getElem? hk)) (fun k q j p q1 q2 => ?_) (fun k q j p q1 q2 => ?_) (by omega) trivial
    · obtain ⟨_, hlt⟩ := hat k q j p q1 q2
      simp only [Ty.addImm, Nat.zero_add]
      rw [if_pos ⟨trivial, Nat.zero_le _, hlt⟩]
      simp [Array.getD, hlt]
    · obtain ⟨h1, hlt⟩ := hat k q j p q1 q2
      refine (a5 _ p _ h1 ?_).mono le2
      simp [Array.getD, hlt]))
  refine ⟨_, le.trans le2, hr.size, fun t' => (hr.env t').mono le2, hs3, fun d hd => le2.ds _ (hr.dsub d hd), ?_⟩
  obtain ⟨rs, r1, r2, r3⟩ := hr.defs
  exact ⟨rs, r1, r2, fun r hm => ⟨le2.ds _ (r3 r hm).1, (r3 r hm).2⟩⟩
theorem Weak.freezeX {l : List (Option (List PV))} {rm : List Nat} {ys : List LState} {j k off len es : Nat} {ccs rest m : List PV} (hne : j ≠ k) (hcid : l[j]? = some (some ccs)) (hc : ccs[off]? = some (.gsl (σ.store.length + k) len es)) (hs : l[k]? = some (some (rowC m ++ rest))) (hl : m.length = len) (hes : ∀ q ∈ m, q.cells.length = es) :
    Weak N lo E (σ.ext l rm ys) E (σ.ext ((l.set k none).set j (some (ccs.set off (.isl m .ro)))) rm ys) := by
  have h := Weak.freezeV (N := N) (lo := lo) (E := E) (σ := σ.ext l rm ys) (cid := σ.store.length + j) (id := σ.store.length + k) (by omega) (by rw [Sg.get_ext]; exact hcid) hc (by rw [Sg.get_ext]; exact hs) hl hes
  rw [Sg.drop_ext, Sg.set_ext] at h
  exact h
end
end Go.Proofs.Ytgelnjmddabgpaa
namespace Go.Proofs.Ytgelnjmddabgpaa
open Go
def has (l : List Int) (v : Int) : Bool := l.any fun x => decide (x = v)
theorem has_iff {l : List Int} {v : Int} : has l v = true ↔ v ∈ l := by simp [has]
def chkOrd (m : Int) : List Int → List Int → Int
  | _, [] => 0
  | p, n :: r => if !(inR n 0 (m - 1)) then 7 else if has p n then 8 else chkOrd m (p ++ [n]) r
def scRange (s : Scale) : Bool := inR s.schools 1 8 && (inR s.matters 1 6 && (inR s.judges 1 5 && (inR s.drop 0 (s.judges - 1) && (inR s.low 0 100 && inR s.high 0 100))))
def chkSc (s : Scale) : Int := if !scRange s then 2 else if s.low > s.high then 9 else if (s.order.length : Int) ≠ s.matters then 1 else chkOrd s.matters [] s.order
def ofSc (s : Scale) (j : Int × Int) : Bool := inR j.1 0 (s.matters - 1) && inR j.2 0 (s.judges - 1)
def outMarks (s : Scale) (l : List Int) : Bool := l.any fun n => !(inR n s.low s.high)
def marked (s : Scale) (j : Int × Int) (l : List Int) : Int := if !(ofSc s j) then 7 else if (l.length : Int) ≠ s.schools then 1 else if outMarks s l then 2 else 0
def sealSum : Nat → List Int → Int
  | _, [] => 0
  | i, m :: r => ((i : Int) + 1) * m + sealSum (i + 1) r
def sealOf (j : Int × Int) (l : List Int) : Int := ((j.1 + 1) * 101 + (j.2 + 1) * 1009 + sealSum 0 l).tmod 997
def sealAns (s : Scale) (j : Int × Int) (l : List Int) : Int × Int := if chkSc s ≠ 0 then (0, chkSc s) else if marked s j l ≠ 0 then (0, marked s j l) else (sealOf j l, 0)
def openK (s : Scale) : List Envl → Kn → Int × Kn
  | [], k => (0, k)
  | x :: r, k => if marked s (x.matter, x.judge) x.marks ≠ 0 then (marked s (x.matter, x.judge) x.marks, k)
    else if x.sl ≠ sealOf (x.matter, x.judge) x.marks then (14, k)
    else if (match aget (x.matter, x.judge) k with | some old => decide (old ≠ x.marks) | none => false) then (10, k)
    else openK s r (aput (x.matter, x.judge) x.marks k)
def missK (s : Scale) : List (Int × Int) → Kn → Int × Kn
  | [], k => (0, k)
  | j :: r, k => if !(ofSc s j) then (7, k) else if (aget j k).getD [] ≠ [] then (10, k) else missK s r (aput j [] k)
def absentK (k : Kn) (j : Int × Int) : Bool := match aget j k with | some l => l.isEmpty | none => false
def toI (n : Int) : List Int := (List.range n.toNat).map fun (i : Nat) => (i : Int)
def allJ (s : Scale) : List (Int × Int) := (toI s.matters).flatMap fun m => (toI s.judges).map fun j => (m, j)
def shortK (s : Scale) (k : Kn) : Bool := (toI s.matters).any fun m => (toI s.judges).all fun j => absentK k (m, j)
def finesR (s : Scale) : List (Int × Int) → Int
  | [] => 0
  | f :: r => if !(inR f.1 0 (s.schools - 1)) then 7 else if !(inR f.2 0 1000) then 2 else finesR s r
def finesE (s : Scale) (l : List (Int × Int)) : Int := if (l.length : Int) > 10 then 5 else finesR s l
def knownK (s : Scale) (n : Night) : Kn := (missK s n.absent (openK s n.opened []).2).2
def knownE (s : Scale) (n : Night) : Int :=
  if chkSc s ≠ 0 then chkSc s else if (n.opened.length : Int) > 60 then 5 else if (openK s n.opened []).1 ≠ 0 then (openK s n.opened []).1
  else if (n.absent.length : Int) > 60 then 5 else if (missK s n.absent (openK s n.opened []).2).1 ≠ 0 then (missK s n.absent (openK s n.opened []).2).1
  else if shortK s (knownK s n) then 4 else finesE s n.fines
def sealedK (s : Scale) (k : Kn) : List (Int × Int) := (allJ s).filter fun j => (aget j k).isNone
def mkAt (k : Kn) (sc m u n : Int) : Int := match aget (m, n) k with | some (x :: l) => ((x :: l)[sc.toNat]?).getD 0 | _ => u
def presJ (s : Scale) (k : Kn) (m : Int) : List Int := (toI s.judges).filter fun n => !(absentK k (m, n))
def sumI : List Int → Int
  | [] => 0
  | x :: l => x + sumI l
def meanM (s : Scale) (k : Kn) (sc m u : Int) : Int := (sumI ((presJ s k m).map (mkAt k sc m u))).tdiv (presJ s k m).length
def panelM (s : Scale) (k : Kn) (sc m u : Int) : List Int := (toI s.judges).map fun n => if absentK k (m, n) then meanM s k sc m u else mkAt k sc m u n
def pointsK (s : Scale) (k : Kn) (sc m u : Int) : Int := sumI ((sortI (panelM s k sc m u)).drop s.drop.toNat)
def pointsL (s : Scale) (k : Kn) (sc u : Int) : List Int := (toI s.matters).map fun m => pointsK s k sc m u
def finesOf (l : List (Int × Int)) (sc : Int) : Int := sumI (l.map fun f => if f.1 = sc then f.2 else 0)
def standK (s : Scale) (k : Kn) (n : Night) (sc u : Int) : Stand := ⟨sc, sumI (pointsL s k sc u) - finesOf n.fines sc, pointsL s k sc u⟩
def firstNZ : List Int → Int
  | [] => 0
  | x :: l => if x ≠ 0 then x else firstNZ l
def ptAt (x : Stand) (m : Int) : Int := (x.points[m.toNat]?).getD 0
def cmpRules (ord : List Int) (a b : Stand) : List Int := (b.total - a.total) :: (ord.map (fun m => ptAt b m - ptAt a m) ++ [a.school - b.school])
def cmpSt (ord : List Int) (a b : Stand) : Int := firstNZ (cmpRules ord a b)
def totalsA (s : Scale) (n : Night) : List (Int × Int) × Int :=
  if knownE s n ≠ 0 then ([], knownE s n) else ((toI s.schools).map fun i => ((standK s (knownK s n) n i s.low).total, (standK s (knownK s n) n i s.high).total), 0)
def placeK (s : Scale) (k : Kn) (n : Night) (sc own oth : Int) : Int :=
  1 + ((toI s.schools).filter fun i => decide (i ≠ sc) && decide (cmpSt s.order (standK s k n i oth) (standK s k n sc own) < 0)).length
def placeA (s : Scale) (n : Night) (sc : Int) : (Int × Int) × Int :=
  if knownE s n ≠ 0 then ((0, 0), knownE s n) else if !(inR sc 0 (s.schools - 1)) then ((0, 0), 7) else ((placeK s (knownK s n) n sc s.high s.low, placeK s (knownK s n) n sc s.low s.high), 0)
end Go.Proofs.Ytgelnjmddabgpaa
namespace Go.Proofs.Ytgelnjmddabgpaa
open Go Go.RowKit
theorem appg22 {σ : Sg} {x : PV} {m : List PV} {own : Own} : appendG Try.prog σ 22 22 x (.isl m own) = appG 1 8 σ x m := appG_of Try.underlying22 Try.underlying3 cells3 bytes3 (by decide) (by decide) zero3 rfl
theorem iag22 {id len es : Nat} {k : IntKind} {i : Int} : indexAddrPV Try.prog 22 (.gsl id len es) (.int k i) = iaM 1 id 0 len i := iaG_of Try.underlying22 Try.underlying3 cells3 k len i
theorem leng22 {id n es : Nat} : lenPV Try.prog 22 (.gsl id n es) = some (.int .i64 n) := lenG_of Try.underlying22 n
theorem lenn22 : lenPV Try.prog 22 .gnil = some (.int .i64 0) := lenN_of Try.underlying22
theorem appg28 {σ : Sg} {x : PV} {m : List PV} {own : Own} : appendG Try.prog σ 28 28 x (.isl m own) = appG 4 48 σ x m := appG_of Try.underlying28 Try.underlying37 cells37 bytes37 (by decide) (by decide) zero37 rfl
theorem iag28 {id len es : Nat} {k : IntKind} {i : Int} : indexAddrPV Try.prog 28 (.gsl id len es) (.int k i) = iaM 4 id 0 len i := iaG_of Try.underlying28 Try.underlying37 cells37 k len i
theorem leng28 {id n es : Nat} : lenPV Try.prog 28 (.gsl id n es) = some (.int .i64 n) := lenG_of Try.underlying28 n
theorem lenn28 : lenPV Try.prog 28 .gnil = some (.int .i64 0) := lenN_of Try.underlying28
theorem appg29 {σ : Sg} {x : PV} {m : List PV} {own : Own} : appendG Try.prog σ 29 29 x (.isl m own) = appG 2 16 σ x m := appG_of Try.underlying29 Try.underlying40 cells40 bytes40 (by decide) (by decide) zero40 rfl
theorem iag29 {id len es : Nat} {k : IntKind} {i : Int} : indexAddrPV Try.prog 29 (.gsl id len es) (.int k i) = iaM 2 id 0 len i := iaG_of Try.underlying29 Try.underlying40 cells40 k len i
theorem leng29 {id n es : Nat} : lenPV Try.prog 29 (.gsl id n es) = some (.int .i64 n) := lenG_of Try.underlying29 n
theorem lenn29 : lenPV Try.prog 29 .gnil = some (.int .i64 0) := lenN_of Try.underlying29
theorem appg30 {σ : Sg} {x : PV} {m : List PV} {own : Own} : appendG Try.prog σ 30 30 x (.isl m own) = appG 2 16 σ x m := appG_of Try.underlying30 Try.underlying42 cells42 bytes42 (by decide) (by decide) zero42 rfl
theorem iag30 {id len es : Nat} {k : IntKind} {i : Int} : indexAddrPV Try.prog 30 (.gsl id len es) (.int k i) = iaM 2 id 0 len i := iaG_of Try.underlying30 Try.underlying42 cells42 k len i
theorem leng30 {id n es : Nat} : lenPV Try.prog 30 (.gsl id n es) = some (.int .i64 n) := lenG_of Try.underlying30 n
theorem lenn30 : lenPV Try.prog 30 .gnil = some (.int .i64 0) := lenN_of Try.underlying30
theorem appg43 {σ : Sg} {x : PV} {m : List PV} {own : Own} : appendG Try.prog σ 43 43 x (.isl m own) = appG 2 16 σ x m := appG_of Try.underlying43 Try.underlying48 cells48 bytes48 (by decide) (by decide) zero48 rfl
theorem iag43 {id len es : Nat} {k : IntKind} {i : Int} : indexAddrPV Try.prog 43 (.gsl id len es) (.int k i) = iaM 2 id 0 len i := iaG_of Try.underlying43 Try.underlying48 cells48 k len i
theorem leng43 {id n es : Nat} : lenPV Try.prog 43 (.gsl id n es) = some (.int .i64 n) := lenG_of Try.underlying43 n
theorem lenn43 : lenPV Try.prog 43 .gnil = some (.int .i64 0) := lenN_of Try.underlying43
theorem appg51 {σ : Sg} {x : PV} {m : List PV} {own : Own} : appendG Try.prog σ 51 51 x (.isl m own) = appG 3 40 σ x m := appG_of Try.underlying51 Try.underlying59 cells59 bytes59 (by decide) (by decide) zero59 rfl
theorem iag51 {id len es : Nat} {k : IntKind} {i : Int} : indexAddrPV Try.prog 51 (.gsl id len es) (.int k i) = iaM 3 id 0 len i := iaG_of Try.underlying51 Try.underlying59 cells59 k len i
theorem leng51 {id n es : Nat} : lenPV Try.prog 51 (.gsl id n es) = some (.int .i64 n) := lenG_of Try.underlying51 n
theorem lenn51 : lenPV Try.prog 51 .gnil = some (.int .i64 0) := lenN_of Try.underlying51
theorem appg72 {σ : Sg} {x : PV} {m : List PV} {own : Own} : appendG Try.prog σ 72 72 x (.isl m own) = appG 1 24 σ x m := appG_of Try.underlying72 Try.underlying22 cells22 bytes22 (by decide) (by decide) zero22 rfl
theorem iag72 {id len es : Nat} {k : IntKind} {i : Int} : indexAddrPV Try.prog 72 (.gsl id len es) (.int k i) = iaM 1 id 0 len i := iaG_of Try.underlying72 Try.underlying22 cells22 k len i
theorem leng72 {id n es : Nat} : lenPV Try.prog 72 (.gsl id n es) = some (.int .i64 n) := lenG_of Try.underlying72 n
theorem lenn72 : lenPV Try.prog 72 .gnil = some (.int .i64 0) := lenN_of Try.underlying72
theorem appg75 {σ : Sg} {x : PV} {m : List PV} {own : Own} : appendG Try.prog σ 75 75 x (.isl m own) = appG 1 24 σ x m := appG_of Try.underlying75 Try.underlying72 cells72 bytes72 (by decide) (by decide) zero72 rfl
theorem iag75 {id len es : Nat} {k : IntKind} {i : Int} : indexAddrPV Try.prog 75 (.gsl id len es) (.int k i) = iaM 1 id 0 len i := iaG_of Try.underlying75 Try.underlying72 cells72 k len i
theorem leng75 {id n es : Nat} : lenPV Try.prog 75 (.gsl id n es) = some (.int .i64 n) := lenG_of Try.underlying75 n
theorem lenn75 : lenPV Try.prog 75 .gnil = some (.int .i64 0) := lenN_of Try.underlying75
theorem appg112 {σ : Sg} {x : PV} {m : List PV} {own : Own} : appendG Try.prog σ 112 112 x (.isl m own) = appG 1 1 σ x m := appG_of Try.underlying112 Try.underlying4 cells4 bytes4 (by decide) (by decide) zero4 rfl
theorem iag112 {id len es : Nat} {k : IntKind} {i : Int} : indexAddrPV Try.prog 112 (.gsl id len es) (.int k i) = iaM 1 id 0 len i := iaG_of Try.underlying112 Try.underlying4 cells4 k len i
theorem leng112 {id n es : Nat} : lenPV Try.prog 112 (.gsl id n es) = some (.int .i64 n) := lenG_of Try.underlying112 n
theorem lenn112 : lenPV Try.prog 112 .gnil = some (.int .i64 0) := lenN_of Try.underlying112
theorem appg118 {σ : Sg} {x : PV} {m : List PV} {own : Own} : appendG Try.prog σ 118 118 x (.isl m own) = appG 1 8 σ x m := appG_of Try.underlying118 Try.underlying117 cells117 bytes117 (by decide) (by decide) zero117 rfl
theorem iag118 {id len es : Nat} {k : IntKind} {i : Int} : indexAddrPV Try.prog 118 (.gsl id len es) (.int k i) = iaM 1 id 0 len i := iaG_of Try.underlying118 Try.underlying117 cells117 k len i
theorem leng118 {id n es : Nat} : lenPV Try.prog 118 (.gsl id n es) = some (.int .i64 n) := lenG_of Try.underlying118 n
theorem lenn118 : lenPV Try.prog 118 .gnil = some (.int .i64 0) := lenN_of Try.underlying118
attribute [go_sem] appg22 iag22 leng22 lenn22 appg28 iag28 leng28 lenn28 appg29 iag29 leng29 lenn29 appg30 iag30 leng30 lenn30 appg43 iag43 leng43 lenn43 appg51 iag51 leng51 lenn51 appg72 iag72 leng72 lenn72 appg75 iag75 leng75 lenn75 appg112 iag112 leng112 lenn112 appg118 iag118 leng118 lenn118
end Go.Proofs.Ytgelnjmddabgpaa
namespace Go.Proofs.Ytgelnjmddabgpaa
open Go
set_option maxRecDepth 100000
theorem wrapU {n : Int} (h1 : 0 ≤ n) (h2 : n ≤ 18446744073709551615) : IntKind.u64.wrap n = n := IntWalk.u64_in n ⟨h1, h2⟩
theorem sv_ext_sv {σ : Sg} {d : Nat} {cs cs0 : List PV} {l : List (Option (List PV))} {rm : List Nat} {ys : List LState} (h : d < σ.store.length) : ((σ.setVar d cs0).ext l rm ys).setVar d cs = (σ.setVar d cs).ext l rm ys := by
  rw [sv_ext (by rw [sv_len]; exact h), sv_sv]
theorem sv_self {σ : Sg} {d : Nat} {cs : List PV} (h : σ.store[d]? = some (some cs)) : σ.setVar d cs = σ := by
  have : σ.store.set d (some cs) = σ.store := by
    refine List.ext_getElem? fun i => ?_
    rw [List.getElem?_set]
    by_cases e : d = i
    · subst e; rw [if_pos rfl, if_pos (List.getElem?_eq_some_iff.1 h).1, h]
    · rw [if_neg e]
  unfold Sg.setVar
  rw [this]
theorem get_svx {σ : Sg} {d : Nat} {cs : List PV} {l : List (Option (List PV))} {rm : List Nat} {ys : List LState} (h : d < σ.store.length) : ((σ.setVar d cs).ext l rm ys).store[d]? = some (some cs) := by
  rw [ext_get (by rw [sv_len]; exact h)]; exact sv_get h
theorem get_extx {σ : Sg} {d : Nat} {cs : List PV} {l : List (Option (List PV))} {rm : List Nat} {ys : List LState} (hd : σ.store[d]? = some (some cs)) : (σ.ext l rm ys).store[d]? = some (some cs) := by
  rw [ext_get (lt_of_get hd)]; exact hd
theorem shr1 {a : Int} : shiftPV .shr .u64 a 1 = some (.int .u64 (a.fdiv 2)) := rfl
theorem shr32 {a : Int} : shiftPV .shr .u64 a 32 = some (.int .u64 (a.fdiv 4294967296)) := rfl
theorem cv3_81 {k : IntKind} {n : Int} : convPV Try.prog 3 81 (.int k n) = some (.int .u64 (IntKind.u64.wrap n)) := by kernel_rfl
theorem cv3_85 {k : IntKind} {n : Int} : convPV Try.prog 3 85 (.int k n) = some (.int .u64 (IntKind.u64.wrap n)) := by kernel_rfl
theorem cv3_148 {k : IntKind} {n : Int} : convPV Try.prog 3 148 (.int k n) = some (.int .u64 (IntKind.u64.wrap n)) := by kernel_rfl
theorem cv5_3 {k : IntKind} {n : Int} : convPV Try.prog 5 3 (.int k n) = some (.int .i64 (IntKind.i64.wrap n)) := by kernel_rfl
theorem cv81_3 {k : IntKind} {n : Int} : convPV Try.prog 81 3 (.int k n) = some (.int .i64 (IntKind.i64.wrap n)) := by kernel_rfl
theorem cv81_5 {k : IntKind} {n : Int} : convPV Try.prog 81 5 (.int k n) = some (.int .u8 (IntKind.u8.wrap n)) := by kernel_rfl
theorem cv85_3 {k : IntKind} {n : Int} : convPV Try.prog 85 3 (.int k n) = some (.int .i64 (IntKind.i64.wrap n)) := by kernel_rfl
theorem cv85_143 {k : IntKind} {n : Int} : convPV Try.prog 85 143 (.int k n) = some (.int .u32 (IntKind.u32.wrap n)) := by kernel_rfl
theorem cv143_5 {k : IntKind} {n : Int} : convPV Try.prog 143 5 (.int k n) = some (.int .u8 (IntKind.u8.wrap n)) := by kernel_rfl
attribute [go_sem] cv3_81 cv3_85 cv3_148 cv5_3 cv81_3 cv81_5 cv85_3 cv85_143 cv143_5 nilCheckPV shr1 shr32 Sg.ext_nil
end Go.Proofs.Ytgelnjmddabgpaa
namespace Go.Proofs.Ytgelnjmddabgpaa
open Go
set_option maxRecDepth 100000
theorem slh22 {l : List PV} {own : Own} {k : IntKind} {n : Int} : slicePV Try.prog 22 (.isl l own) none (some (.int k n)) none = if 0 ≤ n then if n.toNat ≤ l.length then some (.isl (l.take n.toNat) (sliceOwn own 0 n.toNat l.length)) else none else none := slHi_of Try.underlying22 Try.underlying3 l own k n
theorem slh28 {l : List PV} {own : Own} {k : IntKind} {n : Int} : slicePV Try.prog 28 (.isl l own) none (some (.int k n)) none = if 0 ≤ n then if n.toNat ≤ l.length then some (.isl (l.take n.toNat) (sliceOwn own 0 n.toNat l.length)) else none else none := slHi_of Try.underlying28 Try.underlying37 l own k n
attribute [go_sem] slh22 slh28
end Go.Proofs.Ytgelnjmddabgpaa
namespace Go.Proofs.Ytgelnjmddabgpaa
open Go Go.RowKit
theorem mk112 {σ : Sg} {k : Nat} (hk : k < 2 ^ 44) : makePV Try.prog σ 112 (.int .i64 (k : Int)) (.int .i64 (k : Int)) = some (.msl σ.store.length 0 k, σ.push ((List.replicate k false).map PV.bool)) := by
  rw [mk_of Try.underlying112 zero4 bytes4 cells4 (by omega) (by omega), repB]
theorem keyInt : KeyOK Try.prog 3 I := fun a b => by
  simp only [I, keyEq, if_true]
  congr 1
theorem intsEq2 {a b c d : Int} : intsEq [.int .i64 a, .int .i64 b] [.int .i64 c, .int .i64 d] = some ((a == c) && ((b == d) && true)) := rfl
theorem eqF104 {a b c d : Int} : eqFieldsPV Try.prog [.int .i64 a, .int .i64 b] [.int .i64 c, .int .i64 d] (Try.prog.fieldsOf 104).toList = some ((a == c) && ((b == d) && true)) := by kernel_rfl
theorem keySt : KeyOK Try.prog 104 stPV := fun x y => by
  obtain ⟨a, b⟩ := x
  obtain ⟨c, d⟩ := y
  have hf : ∃ fs, Try.prog.underlying 104 = some (.struct fs) := ⟨_, Try.underlying104⟩
  obtain ⟨fs, hf⟩ := hf
  have e : Try.prog.fieldsOf 104 = fs := by simp [Program.fieldsOf, hf]
  have := eqF104 (a := a) (b := b) (c := c) (d := d)
  rw [e] at this
  simp only [stPV, I, keyEq, hf, intsEq2, this]
  rw [if_pos ⟨by kernel_rfl, trivial⟩]
  refine congrArg some ?_
  rw [Bool.and_true]
  by_cases h1 : a = c
  · by_cases h2 : b = d
    · subst h1 h2; simp only [beq_self_eq_true, Bool.and_true, decide_true]
    · rw [beq_eq_false_iff_ne.2 h2, Bool.and_false, decide_eq_false (fun h => h2 (Prod.mk.inj h).2)]
  · rw [beq_eq_false_iff_ne.2 h1, Bool.false_and, decide_eq_false (fun h => h1 (Prod.mk.inj h).1)]
theorem lk87 {σ : Sg} {id : Nat} {a b : Int} {ok : Bool} : lookupPV Try.prog σ 87 (.map id) (.agg [.int .i64 a, .int .i64 b]) ok = lkX Try.prog 104 .nilsl σ id (.agg [.int .i64 a, .int .i64 b]) ok := lk_of Try.underlying87 Try.underlying104 (by kernel_rfl) (by kernel_rfl) σ id ok
theorem up87 {σ : Sg} {id : Nat} {a b : Int} {v : PV} : updatePV Try.prog σ 87 (.map id) (.agg [.int .i64 a, .int .i64 b]) v = upX Try.prog 104 σ id (.agg [.int .i64 a, .int .i64 b]) v := up_of Try.underlying87 Try.underlying104 (by kernel_rfl) v σ id
theorem lkK {k : Kn} {a b : Int} {ok : Bool} : lkM Try.prog 104 .nilsl (some (some (.mark :: knE k))) (.agg [.int .i64 a, .int .i64 b]) ok = some (packPV ok (mkPV ((aget (a, b) k).getD [])) (aget (a, b) k).isSome) := by
  have := lkM_map (z := .nilsl) keySt mkPV k (a, b) ok
  simp only [stPV, knE] at this ⊢
  rw [this]
  cases aget (a, b) k <;> rfl
theorem upKn {k : Kn} {a b : Int} : upM Try.prog 104 (some (some (.mark :: knE k))) (.agg [.int .i64 a, .int .i64 b]) .nilsl = some (.mark :: knE (aput (a, b) [] k)) := upM_map keySt mkPV k (a, b) []
theorem upKs {k : Kn} {a b x : Int} {l : List Int} : upM Try.prog 104 (some (some (.mark :: knE k))) (.agg [.int .i64 a, .int .i64 b]) (.isl (.int .i64 x :: l.map I) .ro) = some (.mark :: knE (aput (a, b) (x :: l) k)) := upM_map keySt mkPV k (a, b) (x :: l)
theorem upKs0 {a b x : Int} {l : List Int} : upM Try.prog 104 (some (some [.mark])) (.agg [.int .i64 a, .int .i64 b]) (.isl (.int .i64 x :: l.map I) .ro) = some (.mark :: knE (aput (a, b) (x :: l) [])) := upM_map keySt mkPV [] (a, b) (x :: l)
theorem mkPV_ne {l : List Int} (h : l ≠ []) : mkPV l = ints l := by cases l with | nil => exact absurd rfl h | cons => rfl
theorem mkPV_nil : mkPV [] = .nilsl := rfl
theorem nilmk {l : List Int} : nilPV Try.prog 22 (mkPV l) = some l.isEmpty := by
  cases l with
  | nil => simp only [nilPV, Try.underlying22, mkPV, List.isEmpty_nil]
  | cons x l => simp only [nilPV, Try.underlying22, mkPV]; rfl
theorem lk107 {σ : Sg} {id : Nat} {k : Int} {ok : Bool} : lookupPV Try.prog σ 107 (.map id) (.int .i64 k) ok = lkX Try.prog 3 (.bool false) σ id (.int .i64 k) ok := lk_of Try.underlying107 Try.underlying3 (by kernel_rfl) rfl σ id ok
theorem up107 {σ : Sg} {id : Nat} {k : Int} {v : PV} : updatePV Try.prog σ 107 (.map id) (.int .i64 k) v = upX Try.prog 3 σ id (.int .i64 k) v := up_of Try.underlying107 Try.underlying3 rfl v σ id
theorem lkB {m : List (Int × Bool)} {k : Int} {ok : Bool} : lkM Try.prog 3 (.bool false) (some (some (.mark :: mapE I PV.bool m))) (.int .i64 k) ok = some (packPV ok (.bool ((aget k m).getD false)) (aget k m).isSome) := by
  have := lkM_map (z := .bool false) keyInt PV.bool m k ok
  simp only [I] at this ⊢
  rw [this]
  cases aget k m <;> rfl
theorem upB {m : List (Int × Bool)} {k : Int} {v : Bool} : upM Try.prog 3 (some (some (.mark :: mapE I PV.bool m))) (.int .i64 k) (.bool v) = some (.mark :: mapE I PV.bool (aput k v m)) := upM_map keyInt PV.bool m k v
theorem CleanAll_mapB {a b c : Nat} {l : List (Int × Bool)} : CleanAll a b c (mapE I PV.bool l) = True := CleanAll_mapE (fun _ => .int _ _) (fun _ => .bool _)
theorem packT {v : PV} {b : Bool} : packPV true v b = .tuple [v, .bool b] := rfl
theorem packF {v : PV} {b : Bool} : packPV false v b = v := rfl
theorem evN_tmp {E : Env} {t : Nat} : evN E (.tmp t) = E.get t := rfl
theorem evN_int {E : Env} {k : IntKind} {n : Int} : evN E (.const (.int k n)) = .int k n := rfl
theorem evN_bool {E : Env} {b : Bool} : evN E (.const (.bool b)) = .bool b := rfl
theorem evN_nil {E : Env} : evN E (.const (.slice none 0 0)) = .nilsl := rfl
theorem sll22 {xs : List Int} {own : Own} {k : IntKind} {n : Int} : slicePV Try.prog 22 (.isl (xs.map I) own) (some (.int k n)) none none = if 0 ≤ n then if n.toNat ≤ xs.length then some (.isl ((xs.drop n.toNat).map I) own) else none else none := slLo_of Try.underlying22 Try.underlying3 cells3 (fun _ => rfl) xs own k n
theorem slb22 {xs : List Int} {own : Own} {k k' : IntKind} {n m : Int} : slicePV Try.prog 22 (.isl (xs.map I) own) (some (.int k n)) (some (.int k' m)) none = if 0 ≤ n then if 0 ≤ m then if n.toNat ≤ m.toNat ∧ m.toNat ≤ xs.length then some (.isl (((xs.drop n.toNat).take (m.toNat - n.toNat)).map I) (sliceOwn own n.toNat m.toNat xs.length)) else none else none else none := slBoth_of Try.underlying22 Try.underlying3 cells3 (fun _ => rfl) xs own k k' n m
theorem sl129 {id : Nat} {k : IntKind} {n : Int} : slicePV Try.prog 129 (.ptr id 0) none (some (.int k n)) none = if 0 ≤ n then if n.toNat ≤ 5 then (if 0 = n.toNat then some (.isl [] .ro) else some (.msl id 0 n.toNat)) else none else none := by
  unfold slicePV
  rw [Try.underlying129]
  simp only [Try.underlying3, bnd]
  by_cases hn : 0 ≤ n
  · simp [hn]
  · simp [hn]
attribute [go_sem] sll22 slb22 lk87 up87 lkK upKn upKs upKs0 nilmk lk107 up107 lkB upB CleanAll_mapB packT packF evN_tmp evN_int evN_bool evN_nil lkX_ext lkX_ext0 upX_ext upX_ext0 lkX_svx Cl_map Cl_nilmap Cl_mark Cl_gsl Cl_gnil setI setB mkPV_nil
end Go.Proofs.Ytgelnjmddabgpaa
