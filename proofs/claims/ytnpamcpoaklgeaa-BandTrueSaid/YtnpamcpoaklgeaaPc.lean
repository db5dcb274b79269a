/-
  Loops that count down; ends that leave something new.
  Cleanness of what was added; folds over ranges of numbers.
  A slice without spare room gets a room; a value's owner is forgotten.
  Loops over a state of plain values; cleanness, loads of rows and variables that were there before, by simp.
  Regions whose ways meet again; sums that fit.
  The types of this seat's program, as the pure reading asks of them.
  What the operations do at this seat's types.
  The rules by which a walk is worked out.
  A variable's slice without spare room gets a room; what is read of a variable may be told otherwise.
  The data of the laws, read: towns, cities, bands; rows of things.
  What the arguments of the laws are read as: numbers, bands, cities.
  What a city is read as.
  The owner of a slice in a variable is forgotten.
  A slice is held against nil: the answer is open where the slice is empty.
  Slices of slices: what goes in front is cut off.
  Slices that grow in place: operations without types; a variable moved to another number; a variable that is never written again.
  Maps as lists of keys with their values, without the program's types.
  Slices made at once, written and then frozen; rows of numbers written at a place.
  Variables renumbered: the live ones, in a new order; whatever speaks of them follows.
  Slices that grow in place, in a variable's cell; a row sorted or written anew by the library.
  Sorting and compacting, as the library does it.
  Walks: numbers copied, bands copied.
  Walks: within bounds.
  Walks: numbers within bounds, spans, ends of streets.
  Walks: spans, groups, towns (crowd).
  Walks: towns (crowd).
-/
import Derived.Test.YtnpamcpoaklgeaaPb
import Derived.CallsIn
import Derived.RangeFuncLeaves
import Derived.RangeFuncRecord
import Derived.OrdersIn
import Derived.Below
import Derived.Laws.World
import Derived.Laws.StructEq
import Derived.Laws.Append
import Derived.MapKept
import Derived.ProofKit
import Derived.Carry
import Derived.Handed
import Derived.ChangeCalls
import Derived.RangeFuncIn
import Derived.RangeFuncNested
import Derived.Test.YtnpamcpoaklgeaaProg
import Derived.KernelRfl
import Derived.IntWalk
import Derived.Test.YtnpamcpoaklgeaaRows
import Derived.Sort.OwnSortedInts
import Derived.Lib.SlicesCompact
import Derived.Shelf.Sort.Plain
import Derived.Shelf.Slices.In.SortNone
import Derived.Shelf.Slices.CompactI
import Derived.JoinedOf
set_option linter.unusedSimpArgs false
set_option linter.unusedVariables false
namespace Go.Proofs.Ytnpamcpoaklgeaa
open Go Go.RowKit
theorem least (p : Nat → Prop) (h : ∃ n, p n) : ∃ n, p n ∧ ∀ m, p m → n ≤ m := by
  obtain ⟨n, hn⟩ := h
  induction n using Nat.strongRecOn with
  | _ n ih =>
    by_cases h : ∃ m, m < n ∧ p m
    · obtain ⟨m, hm, hp⟩ := h
      exact ih m hm hp
    · exact ⟨n, hn, fun m hm => Nat.le_of_not_lt fun hlt => h ⟨m, hlt, hm⟩⟩
section
variable {P : Program} {Y : YEnv} {N : Nat} {rd : Option Nat} {lo : Nat × Nat} {E : Env} {σ : Sg} {Q : Exit → Env → Sg → Prop}
open Classical in
theorem W_loopK {c : Code} (I : Nat → Env → Sg → Prop) (k : Nat) (h0 : I k E σ)
    (round : ∀ k E σ, I k E σ → W P Y N rd lo c E σ (Seq (fun E' σ' => ∃ k', k' < k ∧ I k' E' σ') Q)) : W P Y N rd lo (.loop c) E σ Q := by
  refine W_loop (fun E σ => ∃ k, I k E σ) (fun E σ => if h : ∃ k, I k E σ then Classical.choose (least (fun k => I k E σ) h) else 0) ⟨k, h0⟩ fun E σ h => ?_
  refine W_mono (round _ E σ (Classical.choose_spec (least (fun k => I k E σ) h)).1) fun ex E' σ' hq => ?_
  cases ex with
  | normal =>
    obtain ⟨k', hk, hI⟩ := hq
    have h' : ∃ k, I k E' σ' := ⟨k', hI⟩
    refine ⟨h', ?_⟩
    rw [dif_pos h', dif_pos h]
    exact Nat.lt_of_le_of_lt ((Classical.choose_spec (least (fun k => I k E' σ') h')).2 k' hI) hk
  | _ => exact hq
end
theorem Clean.all_nil {a b c : Nat} : ∀ p, p ∈ ([] : List PV) → Clean a b c p := fun p h => by cases h
theorem Clean.all_cons {a b c : Nat} {q : PV} {l : List PV} (h : Clean a b c q) (k : ∀ p, p ∈ l → Clean a b c p) : ∀ p, p ∈ q :: l → Clean a b c p := fun p hp => by
  rcases List.mem_cons.1 hp with rfl | hp
  · exact h
  · exact k p hp
theorem Clean.ints {a b c : Nat} (xs : List Int) (o : Own) (ho : ∀ r n es, o = .tok r n es → r < b) : Clean a b c (.isl (xs.map I) o) :=
  .isl _ _ (fun e he => by obtain ⟨n, _, rfl⟩ := List.mem_map.1 he; exact .int _ _) ho
/-- A function that leaves new variables behind. -/
theorem Fin_ext {P : Program} {fn : Func} {σ : Sg} {l : List (Option (List PV))} {rm : List Nat} {E : Env} {rs : List PV} {v : PV} (k j : Nat) (hcl : CleanSg σ)
    (hr : resPV P (σ.ext l rm) E fn.results.toList = some rs)
    (hv : Wk (σ.store.length + k) (σ.rooms.length + j) σ.ys.length (oneOr rs) v)
    (hc : ∀ cs, some cs ∈ l.take k → ∀ p, p ∈ cs → Clean (σ.store.length + k) (σ.rooms.length + j) σ.ys.length p) : Fin P fn σ v (σ.ext (l.take k) (rm.take j)) E (σ.ext l rm) := by
  refine ⟨rs, _, _, hr, Nat.le_add_right _ _, Nat.le_add_right _ _, hv, (Sg.cut_ext σ l rm k j).symm, fun id cs hid hcs p hp => ?_, by simp [Sg.ext]⟩
  have hcs' : (σ.store ++ l)[id]? = some (some cs) := hcs
  by_cases h : id < σ.store.length
  · rw [List.getElem?_append_left h] at hcs'
    exact (hcl id cs h hcs' p hp).mono (Nat.le_add_right _ _) (Nat.le_add_right _ _) (Nat.le_refl _)
  · rw [List.getElem?_append_right (by omega)] at hcs'
    refine hc cs ?_ p hp
    refine List.mem_of_getElem? (i := id - σ.store.length) ?_
    rw [List.getElem?_take_of_lt (by omega)]
    exact hcs'
/-- In a state of which nothing was added. -/
theorem Fin_end {P : Program} {fn : Func} {σ σ' : Sg} {E : Env} {rs : List PV} {v : PV} (hcl : CleanSg σ') (h1 : σ'.store.length = σ.store.length) (h2 : σ'.rooms.length = σ.rooms.length) (h3 : σ'.ys.length = σ.ys.length)
    (hr : resPV P σ' E fn.results.toList = some rs) (hv : Wk σ.store.length σ.rooms.length σ.ys.length (oneOr rs) v) : Fin P fn σ v σ' E σ' := by
  refine ⟨rs, _, _, hr, Nat.le_refl _, Nat.le_refl _, hv, ?_, ?_, h3⟩
  · rw [← h1, ← h2, ← h3]; simp [Sg.cut]
  · unfold CleanSg at hcl; rw [h1, h2, h3] at hcl; exact hcl
end Go.Proofs.Ytnpamcpoaklgeaa
namespace Go.Proofs.Ytnpamcpoaklgeaa
open Go Go.RowKit
theorem CleanCut_ext {σ : Sg} {l : List (Option (List PV))} {rm : List Nat} {ys : List LState} {nb nr ny : Nat} (hcl : CleanSg σ) (hb : σ.store.length ≤ nb) (hr : σ.rooms.length ≤ nr) (hy : σ.ys.length ≤ ny)
    (h : ∀ cs, some cs ∈ l → ∀ p, p ∈ cs → Clean nb nr ny p) : CleanCut (σ.ext l rm ys) nb nr ny := by
  intro id cs _ hcs p hp
  have hcs' : (σ.store ++ l)[id]? = some (some cs) := hcs
  by_cases hid : id < σ.store.length
  · rw [List.getElem?_append_left hid] at hcs'
    exact (hcl id cs hid hcs' p hp).mono hb hr hy
  · rw [List.getElem?_append_right (by omega)] at hcs'
    exact h cs (List.mem_of_getElem? hcs') p hp
theorem CleanSg_ext {σ : Sg} {l : List (Option (List PV))} {rm : List Nat} {ys : List LState} (hcl : CleanSg σ) (h : ∀ cs, some cs ∈ l → ∀ p, p ∈ cs → Clean (σ.store.length + l.length) (σ.rooms.length + rm.length) (σ.ys.length + ys.length) p) :
    CleanSg (σ.ext l rm ys) := by
  unfold CleanSg
  rw [Sg.len_ext, Sg.rooms_ext, Sg.ys_ext]
  exact CleanCut_ext hcl (Nat.le_add_right _ _) (Nat.le_add_right _ _) (Nat.le_add_right _ _) h
/-- All of it is old, or plain. -/
theorem CleanL_nil {a b c : Nat} : ∀ cs, some cs ∈ ([] : List (Option (List PV))) → ∀ p, p ∈ cs → Clean a b c p := fun cs h => by cases h
theorem CleanL_cons {a b c : Nat} {ds : List PV} {l : List (Option (List PV))} (h : ∀ p, p ∈ ds → Clean a b c p) (k : ∀ cs, some cs ∈ l → ∀ p, p ∈ cs → Clean a b c p) : ∀ cs, some cs ∈ some ds :: l → ∀ p, p ∈ cs → Clean a b c p := by
  intro cs hcs
  rcases List.mem_cons.1 hcs with e | e
  · injection e with e; subst e; exact h
  · exact k cs e
theorem Clean.cells_of {a b c a' b' c' : Nat} {cs : List PV} (h : Clean a b c (.agg cs)) (h1 : a ≤ a') (h2 : b ≤ b') (h3 : c ≤ c') : ∀ p, p ∈ cs → Clean a' b' c' p := fun p hp => by
  cases h with
  | agg _ hh => exact (hh p hp).mono h1 h2 h3
/-- Cut back to what was there before. -/
theorem Weak.cutExt {N : Nat} {lo : Nat × Nat} {E E' : Env} {σ : Sg} {l : List (Option (List PV))} {rm : List Nat} {ys : List LState} (k j : Nat) (h1 : lo.1 ≤ σ.store.length + k) (h2 : lo.2 ≤ σ.rooms.length + j) (hcl : CleanSg σ)
    (hc : ∀ cs, some cs ∈ l.take k → ∀ p, p ∈ cs → Clean (σ.store.length + k) (σ.rooms.length + j) (σ.ys.length + ys.length) p)
    (hE : ∀ t, Wk (σ.store.length + k) (σ.rooms.length + j) (σ.ys.length + ys.length) (E.get t) (E'.get t)) : Weak N lo E (σ.ext l rm ys) E' (σ.ext (l.take k) (rm.take j) ys) := by
  have := Weak.cut (N := N) (lo := lo) (E := E) (E' := E') (σ := σ.ext l rm ys) (σ.store.length + k) (σ.rooms.length + j) h1 h2 (by rw [Sg.ys_ext]; exact hE) (by
    rw [Sg.ys_ext]
    intro id cs hid hcs p hp
    have hcs' : (σ.store ++ l)[id]? = some (some cs) := hcs
    by_cases h : id < σ.store.length
    · rw [List.getElem?_append_left h] at hcs'
      exact (hcl id cs h hcs' p hp).mono (Nat.le_add_right _ _) (Nat.le_add_right _ _) (Nat.le_add_right _ _)
    · rw [List.getElem?_append_right (by omega)] at hcs'
      refine hc cs ?_ p hp
      refine List.mem_of_getElem? (i := id - σ.store.length) ?_
      rw [List.getElem?_take_of_lt (by omega)]
      exact hcs')
  rw [Sg.ys_ext, Sg.cut_exty, List.take_length] at this
  exact this
theorem Wk.nil_get {a b c : Nat} {E : Env} : ∀ t, Wk a b c (E.get t) (Env.get [] t) := fun _ _ _ _ => .undef _
/-- f over the n numbers from lo on, one after the other. -/
def foldUp {α : Type} (f : Int → α → α) (lo : Int) : Nat → α → α
  | 0, a => a
  | n + 1, a => f (lo + n) (foldUp f lo n a)
def upTo {α : Type} (f : Int → α → α) (lo s : Int) (a : α) : α := foldUp f lo (s - lo).toNat a
theorem upTo_start {α : Type} (f : Int → α → α) (lo : Int) (a : α) : upTo f lo lo a = a := by simp [upTo, foldUp]
theorem upTo_step {α : Type} (f : Int → α → α) {lo s : Int} (h : lo ≤ s) (a : α) : upTo f lo (s + 1) a = f s (upTo f lo s a) := by
  unfold upTo
  rw [show (s + 1 - lo).toNat = (s - lo).toNat + 1 by omega]
  simp only [foldUp]
  rw [show lo + ((s - lo).toNat : Int) = s by omega]
end Go.Proofs.Ytnpamcpoaklgeaa
namespace Go.Proofs.Ytnpamcpoaklgeaa
open Go Go.RowKit
theorem Weak.room {N : Nat} {lo : Nat × Nat} {E : Env} {σ : Sg} {t es : Nat} {l : List PV} (ht : E.get t = .isl l .exact) (hes : ∀ q, q ∈ l → q.cells.length = es) :
    Weak N lo E σ ((t, .isl l (.tok σ.rooms.length l.length es)) :: E) (σ.pushRoom l.length) := by
  intro Ψ0 Ψ D a w hb le hr
  have hv := hr.env t
  rw [ht] at hv
  have fin : ∀ x : Option (Nat × Nat × Nat × Nat), (∀ b e c s, x = some (b, e, c, s) → ¬ e < c) → (∀ Ψ', Ψ.le Ψ' → Ψ'.hist σ.rooms.length l.length = some x → VR Ψ' (.isl l (.tok σ.rooms.length l.length es)) (a.tmps.getD t undef)) →
      ∃ Ψ', Ψ0.le Ψ' ∧ Rel N D Ψ' ((t, .isl l (.tok σ.rooms.length l.length es)) :: E) (σ.pushRoom l.length) a w := by
    intro x hx hvr
    obtain ⟨le', hs'⟩ := hr.sg.newRoom l.length x (fun b e c s hh hlt => absurd hlt (hx b e c s hh))
    refine ⟨_, le.trans le', hr.size, fun t' => ?_, hs', fun d hd => le'.ds _ (hr.dsub d hd), ?_⟩
    · simp only [Env.get]
      split
      · rename_i e; subst e
        exact hvr _ le' (by simp [Ty.addHist])
      · exact (hr.env t').mono le'
    · obtain ⟨rs, r1, r2, r3⟩ := hr.defs
      exact ⟨rs, r1, r2, fun r hm => ⟨le'.ds _ (r3 r hm).1, (r3 r hm).2⟩⟩
  generalize hx : a.tmps.getD t undef = x at hv fin
  cases hv with
  | islnil _ a0 _ => exact fin none (fun b e c s h => by cases h) fun Ψ' _ hh => .islnil _ a0 ⟨_, hh⟩
  | isl es0 _ _ b o cap vals hs h1 h2 hc ho =>
    have hcap : cap = l.length := ho
    subst hcap
    refine fin (some (b, o + l.length * es, o + l.length * es, es)) (fun b e c s h => by injection h with h; injection h with _ h; injection h with h1 h; injection h with h2 _; omega) fun Ψ' le' hh => ?_
    by_cases hl : l = []
    · subst hl
      exact .isl es [] _ b o 0 vals (fun k e h => by simp at h) (fun k e j p h => by simp at h) (fun k e j p h => by simp at h) (Nat.le_refl _) ⟨rfl, hh⟩
    · have : es0 = es := by
        cases l with
        | nil => exact absurd rfl hl
        | cons q l => rw [← hs 0 q rfl]; exact hes q (by simp)
      subst this
      exact .isl es0 l _ b o _ vals hs (fun k e j p q1 q2 => le'.imm _ _ _ (h1 k e j p q1 q2)) (fun k e j p q1 q2 => (h2 k e j p q1 q2).mono le') (Nat.le_refl _) ⟨rfl, hh⟩
theorem Weak.keep {N : Nat} {lo : Nat × Nat} {E : Env} {σ : Sg} (ks : List Nat) : Weak N lo E σ (keep ks E) σ := fun _ Ψ _ _ _ _ le hr => ⟨Ψ, le, hr.keep ks⟩
theorem cleanE_nil {a b c : Nat} : ∀ kv, kv ∈ ([] : Env) → Clean a b c kv.2 := fun kv h => by cases h
theorem cleanE_cons {a b c t : Nat} {v : PV} {E : Env} (h : Clean a b c v) (k : ∀ kv, kv ∈ E → Clean a b c kv.2) : ∀ kv, kv ∈ (t, v) :: E → Clean a b c kv.2 := fun kv hk => by
  rcases List.mem_cons.1 hk with rfl | hk
  · exact h
  · exact k kv hk
theorem Wk.env {a b c : Nat} : ∀ {E : Env}, (∀ kv, kv ∈ E → Clean a b c kv.2) → ∀ t, Wk a b c (E.get t) (E.get t) := by
  intro E
  induction E with
  | nil => intro _ t; exact Wk.of_clean .undef
  | cons kv E ih =>
    intro h t
    obtain ⟨k, v⟩ := kv
    simp only [Env.get]
    split
    · exact Wk.of_clean (h (k, v) (List.mem_cons_self ..))
    · exact ih (fun kv hk => h kv (List.mem_cons_of_mem _ hk)) t
end Go.Proofs.Ytnpamcpoaklgeaa
namespace Go.Proofs.Ytnpamcpoaklgeaa
open Go Go.RowKit
def setE1 (t : Nat) (v : PV) : Env → Env
  | [] => []
  | (k, x) :: E => if k = t then (k, v) :: E else (k, x) :: setE1 t v E
def setE : Env → Env → Env
  | E, [] => E
  | E, (t, v) :: u => setE (setE1 t v E) u
theorem setE_nil (E : Env) : setE E [] = E := rfl
theorem setE_cons (E : Env) (t : Nat) (v : PV) (u : Env) : setE E ((t, v) :: u) = setE (setE1 t v E) u := rfl
theorem setE1_nil (t : Nat) (v : PV) : setE1 t v [] = [] := rfl
theorem setE1_cons (t k : Nat) (v x : PV) (E : Env) : setE1 t v ((k, x) :: E) = if k = t then (k, v) :: E else (k, x) :: setE1 t v E := rfl
section
variable {P : Program} {Y : YEnv} {N : Nat} {rd : Option Nat} {lo : Nat × Nat} {E : Env} {σ : Sg} {Q : Exit → Env → Sg → Prop}
theorem W_loopT {α : Type} {c : Code} (upd : α → Env) (st : α → Sg) (Inv : α → Prop) (μ : α → Nat) (s0 : α) (hE : setE E (upd s0) = E) (hσ : st s0 = σ) (h0 : Inv s0)
    (round : ∀ s, Inv s → W P Y N rd lo c (setE E (upd s)) (st s) (Seq (fun E' σ' => ∃ s', Weak N lo E' σ' (setE E (upd s')) (st s') ∧ μ s' < μ s ∧ Inv s') Q)) : W P Y N rd lo (.loop c) E σ Q := by
  refine W_loopK (fun k E' σ' => ∃ s, k = μ s ∧ Inv s ∧ setE E (upd s) = E' ∧ st s = σ') (μ s0) ⟨s0, rfl, h0, hE, hσ⟩ ?_
  rintro k E' σ' ⟨s, rfl, hi, rfl, rfl⟩
  refine W_post_weak (W_mono (round s hi) ?_)
  intro ex E1 σ1 h
  cases ex with
  | normal =>
    obtain ⟨s', hw, hm, hi'⟩ := h
    exact ⟨_, _, hw, μ s', hm, s', rfl, hi', rfl, rfl⟩
  | _ => exact ⟨_, _, Weak.refl, h⟩
theorem W_loopS {α : Type} {c : Code} (upd : α → Env) (Inv : α → Prop) (μ : α → Nat) (s0 : α) (hE : setE E (upd s0) = E) (h0 : Inv s0)
    (round : ∀ s, Inv s → W P Y N rd lo c (setE E (upd s)) σ (Seq (fun E' σ' => ∃ s', Weak N lo E' σ' (setE E (upd s')) σ ∧ μ s' < μ s ∧ Inv s') Q)) : W P Y N rd lo (.loop c) E σ Q :=
  W_loopT upd (fun _ => σ) Inv μ s0 hE rfl h0 round
theorem Weak.eq {E E' : Env} {σ σ' : Sg} (h : E = E') (k : σ = σ') : Weak N lo E σ E' σ' := by subst h k; exact Weak.refl
end
def CleanAll (a b c : Nat) (l : List PV) : Prop := ∀ p, p ∈ l → Clean a b c p
def CleanLs (a b c : Nat) (l : List (Option (List PV))) : Prop := ∀ cs, some cs ∈ l → ∀ p, p ∈ cs → Clean a b c p
def CleanEs (a b c : Nat) (E : Env) : Prop := ∀ kv, kv ∈ E → Clean a b c kv.2
def OwnLt (b : Nat) (o : Own) : Prop := ∀ r n es, o = .tok r n es → r < b
section
variable {a b c : Nat}
theorem CleanAll_nil : CleanAll a b c [] = True := eq_true Clean.all_nil
theorem CleanAll_cons {p : PV} {l : List PV} : CleanAll a b c (p :: l) = (Clean a b c p ∧ CleanAll a b c l) := by simp [CleanAll]
theorem CleanAll_append {l m : List PV} : CleanAll a b c (l ++ m) = (CleanAll a b c l ∧ CleanAll a b c m) := by
  simp only [CleanAll, List.mem_append]
  exact propext ⟨fun h => ⟨fun p hp => h p (.inl hp), fun p hp => h p (.inr hp)⟩, fun h p hp => hp.elim (h.1 p) (h.2 p)⟩
theorem CleanLs_nil : CleanLs a b c [] = True := eq_true CleanL_nil
theorem CleanLs_cons {cs : List PV} {l : List (Option (List PV))} : CleanLs a b c (some cs :: l) = (CleanAll a b c cs ∧ CleanLs a b c l) := by
  refine propext ⟨fun h => ⟨h cs (List.mem_cons_self ..), fun ds hd => h ds (List.mem_cons_of_mem _ hd)⟩, fun h => CleanL_cons h.1 h.2⟩
theorem CleanEs_nil : CleanEs a b c [] = True := eq_true cleanE_nil
theorem CleanEs_cons {t : Nat} {v : PV} {E : Env} : CleanEs a b c ((t, v) :: E) = (Clean a b c v ∧ CleanEs a b c E) := by
  refine propext ⟨fun h => ⟨h (t, v) (List.mem_cons_self ..), fun ds hd => h ds (List.mem_cons_of_mem _ hd)⟩, fun h => cleanE_cons h.1 h.2⟩
theorem OwnLt_ro : OwnLt b .ro = True := eq_true fun r n es e => by cases e
theorem OwnLt_exact : OwnLt b .exact = True := eq_true fun r n es e => by cases e
theorem OwnLt_tok {r n es : Nat} : OwnLt b (.tok r n es) = (r < b) := propext ⟨fun h => h r n es rfl, fun h r' n' es' e => by cases e; exact h⟩
theorem Cl_undef : Clean a b c .undef = True := eq_true .undef
theorem Cl_bool {x : Bool} : Clean a b c (.bool x) = True := eq_true (.bool _)
theorem Cl_int {k : IntKind} {x : Int} : Clean a b c (.int k x) = True := eq_true (.int _ _)
theorem Cl_str {x : ByteArray} : Clean a b c (.str x) = True := eq_true (.str _)
theorem Cl_nilptr : Clean a b c .nilptr = True := eq_true .nilptr
theorem Cl_nilsl : Clean a b c .nilsl = True := eq_true .nilsl
theorem Cl_nilfunc : Clean a b c .nilfunc = True := eq_true .nilfunc
theorem Cl_niliface : Clean a b c .niliface = True := eq_true .niliface
theorem Cl_ptr {id off : Nat} : Clean a b c (.ptr id off) = (id < a) := propext ⟨fun h => by cases h; assumption, fun h => .ptr _ _ h⟩
theorem Cl_msl {id off len : Nat} : Clean a b c (.msl id off len) = (id < a) := propext ⟨fun h => by cases h; assumption, fun h => .msl _ _ _ h⟩
theorem Cl_yield {y : Nat} : Clean a b c (.yield y) = (y < c) := propext ⟨fun h => by cases h; assumption, fun h => .yield _ h⟩
theorem Cl_eptr {es : Nat} {l : List PV} {i off : Nat} : Clean a b c (.eptr es l i off) = CleanAll a b c l := propext ⟨fun h => by cases h; assumption, fun h => .eptr _ _ _ _ h⟩
theorem Cl_isl {l : List PV} {o : Own} : Clean a b c (.isl l o) = (CleanAll a b c l ∧ OwnLt b o) := propext ⟨fun h => by cases h; exact ⟨‹_›, ‹_›⟩, fun h => .isl _ _ h.1 h.2⟩
theorem Cl_agg {l : List PV} : Clean a b c (.agg l) = CleanAll a b c l := propext ⟨fun h => by cases h; assumption, fun h => .agg _ h⟩
theorem Cl_tuple {l : List PV} : Clean a b c (.tuple l) = CleanAll a b c l := propext ⟨fun h => by cases h; assumption, fun h => .tuple _ h⟩
theorem Cl_func {fn : Fn} {l m : List PV} : Clean a b c (.func fn l m) = (CleanAll a b c l ∧ CleanAll a b c m) := propext ⟨fun h => by cases h; exact ⟨‹_›, ‹_›⟩, fun h => .func _ _ _ h.1 h.2⟩
theorem CleanAll_ints {xs : List Int} : CleanAll a b c (xs.map I) = True := eq_true fun p hp => by obtain ⟨x, _, rfl⟩ := List.mem_map.1 hp; exact .int _ _
theorem CleanAll_map {α : Type} {f : α → PV} {xs : List α} (h : ∀ x, Clean a b c (f x)) : CleanAll a b c (xs.map f) = True := eq_true fun p hp => by obtain ⟨x, _, rfl⟩ := List.mem_map.1 hp; exact h x
end
attribute [go_sem] CleanAll_nil CleanAll_cons CleanAll_append CleanLs_nil CleanLs_cons CleanEs_nil CleanEs_cons OwnLt_ro OwnLt_exact OwnLt_tok Cl_undef Cl_bool Cl_int Cl_str Cl_nilptr Cl_nilsl Cl_nilfunc Cl_niliface Cl_ptr Cl_msl Cl_yield Cl_eptr Cl_isl Cl_agg Cl_tuple Cl_func CleanAll_ints
attribute [go_sem] setE_nil setE_cons setE1_nil setE1_cons
theorem Weak.cutX {N : Nat} {lo : Nat × Nat} {E : Env} {σ : Sg} {l : List (Option (List PV))} {rm : List Nat} {ys : List LState} (k j : Nat) (h1 : lo.1 ≤ σ.store.length + k) (h2 : lo.2 ≤ σ.rooms.length + j) (hcl : CleanSg σ)
    (hc : CleanLs (σ.store.length + k) (σ.rooms.length + j) (σ.ys.length + ys.length) (l.take k)) (hE : CleanEs (σ.store.length + k) (σ.rooms.length + j) (σ.ys.length + ys.length) E) :
    Weak N lo E (σ.ext l rm ys) E (σ.ext (l.take k) (rm.take j) ys) := Weak.cutExt k j h1 h2 hcl hc (Wk.env hE)
theorem Wk_eq {a b c : Nat} {p q : PV} (h : p = q) (hc : Clean a b c q) : Wk a b c p q := by subst h; exact Wk.of_clean hc
section
variable {α : Type} {f : α → PV} {xs : List α} {c k i off : Nat} {n : Int}
theorem iaX_m (f : α → PV) (xs : List α) : iaX c (xs.map f) n = if 0 ≤ n then (xs[n.toNat]?).bind fun x => if (f x).cells.length = c then some (.eptr c (xs.map f) n.toNat 0) else none else none := by
  unfold iaX
  by_cases h : 0 ≤ n
  · by_cases h2 : n.toNat < xs.length
    · rw [if_pos ⟨h, by simp; omega⟩, if_pos h]
      simp [h2]
    · rw [if_neg (fun h' => h2 (by have := h'.2; simp at this; omega)), if_pos h]
      rw [List.getElem?_eq_none (by omega)]
      rfl
  · rw [if_neg (fun h' => h h'.1), if_neg h]
theorem elS_m (f : α → PV) (xs : List α) : elS (xs.map f) i off = (xs[i]?).bind fun x => (f x).cells[off]? := by
  simp only [elS, List.getElem?_map]
  cases xs[i]? <;> rfl
theorem elA_m (f : α → PV) (xs : List α) : elA k (xs.map f) i off = (xs[i]?).bind fun x => if off + k ≤ (f x).cells.length then some (.agg (((f x).cells.drop off).take k)) else none := by
  simp only [elA, List.getElem?_map]
  cases xs[i]? <;> rfl
end
theorem bindSome {α β : Type} (x : α) (f : α → Option β) : (some x).bind f = f x := rfl
theorem bindNone {α β : Type} (f : α → Option β) : (none : Option α).bind f = none := rfl
attribute [go_sem] appendAny_isl appendAny_gsl appendAny_gnil
attribute [go_sem] iaX_m elS_m elA_m bindSome bindNone Int.natCast_nonneg Int.toNat_natCast
section
variable {σ : Sg} {d : Nat} {cs cs' : List PV} {l : List (Option (List PV))} {rm : List Nat} {ys : List LState} {k j off : Nat}
theorem sv_len : (σ.setVar d cs).store.length = σ.store.length := by simp [Sg.setVar]
theorem sv_rooms : (σ.setVar d cs).rooms = σ.rooms := rfl
theorem sv_ys : (σ.setVar d cs).ys = σ.ys := rfl
theorem sv_sv : (σ.setVar d cs).setVar d cs' = σ.setVar d cs' := by simp [Sg.setVar]
theorem sv_get (h : d < σ.store.length) : (σ.setVar d cs).store[d]? = some (some cs) := by simp [Sg.setVar, h]
theorem ext_get (h : d < σ.store.length) : (σ.ext l rm ys).store[d]? = σ.store[d]? := by
  show (σ.store ++ l)[d]? = _
  rw [List.getElem?_append_left h]
theorem ldS_old (h : d < σ.store.length) : ldS (σ.ext l rm ys) d off = ldS σ d off := by simp only [ldS, ext_get h]
theorem sv_ext (h : d < σ.store.length) : (σ.ext l rm ys).setVar d cs = (σ.setVar d cs).ext l rm ys := by
  simp [Sg.setVar, Sg.ext, List.set_append_left _ _ h]
theorem ldS_sv (h : d < σ.store.length) : ldS (σ.setVar d cs) d off = cs[off]? := ldS_at (sv_get h)
theorem stX_sv (h : d < σ.store.length) (p : PV) : stX k (σ.setVar d cs) d off p = if defd p && p.cells.all PV.scalar && (p.cells.length == k) && decide (off + p.cells.length ≤ cs.length) then some (σ.setVar d (putCells cs off p.cells)) else none := by
  rw [stX_at (sv_get h), sv_sv]
theorem ldS_svx : ldS ((σ.setVar d cs).ext l rm ys) (σ.store.length + j) off = match l[j]? with | some (some cs) => cs[off]? | _ => none := by
  rw [← sv_len (d := d) (cs := cs)]; exact ldS_ext ..
theorem ldS_svx0 : ldS ((σ.setVar d cs).ext l rm ys) σ.store.length off = match l[0]? with | some (some cs) => cs[off]? | _ => none := by
  rw [← sv_len (d := d) (cs := cs)]; exact ldS_ext0 ..
theorem ldA_svx : ldA k ((σ.setVar d cs).ext l rm ys) (σ.store.length + j) off = match l[j]? with | some (some cs) => if off + k ≤ cs.length then some (.agg ((cs.drop off).take k)) else none | _ => none := by
  rw [← sv_len (d := d) (cs := cs)]; exact ldA_ext ..
theorem ldA_svx0 : ldA k ((σ.setVar d cs).ext l rm ys) σ.store.length off = match l[0]? with | some (some cs) => if off + k ≤ cs.length then some (.agg ((cs.drop off).take k)) else none | _ => none := by
  rw [← sv_len (d := d) (cs := cs)]; exact ldA_ext0 ..
theorem stX_svx (p : PV) : stX k ((σ.setVar d cs).ext l rm ys) (σ.store.length + j) off p = match l[j]? with
    | some (some ds) => if defd p && p.cells.all PV.scalar && (p.cells.length == k) && decide (off + p.cells.length ≤ ds.length) then some ((σ.setVar d cs).ext (l.set j (some (putCells ds off p.cells))) rm ys) else none
    | _ => none := by
  rw [← sv_len (d := d) (cs := cs)]; exact stX_ext ..
theorem stX_svx0 (p : PV) : stX k ((σ.setVar d cs).ext l rm ys) σ.store.length off p = match l[0]? with
    | some (some ds) => if defd p && p.cells.all PV.scalar && (p.cells.length == k) && decide (off + p.cells.length ≤ ds.length) then some ((σ.setVar d cs).ext (l.set 0 (some (putCells ds off p.cells))) rm ys) else none
    | _ => none := by
  rw [← sv_len (d := d) (cs := cs)]; exact stX_ext0 ..
theorem setVar_ext (cs : List PV) : (σ.ext l rm ys).setVar (σ.store.length + j) cs = σ.ext (l.set j (some cs)) rm ys := Sg.set_ext σ l rm ys j cs
theorem setVar_ext0 (cs : List PV) : (σ.ext l rm ys).setVar σ.store.length cs = σ.ext (l.set 0 (some cs)) rm ys := Sg.set_ext0 σ l rm ys cs
theorem setVar_svx (cs' : List PV) : ((σ.setVar d cs).ext l rm ys).setVar (σ.store.length + j) cs' = (σ.setVar d cs).ext (l.set j (some cs')) rm ys := by
  rw [← sv_len (d := d) (cs := cs)]; exact setVar_ext cs'
theorem setVar_svx0 (cs' : List PV) : ((σ.setVar d cs).ext l rm ys).setVar σ.store.length cs' = (σ.setVar d cs).ext (l.set 0 (some cs')) rm ys := by
  rw [← sv_len (d := d) (cs := cs)]; exact setVar_ext0 cs'
theorem lt_of_get {x : Option (List PV)} (h : σ.store[d]? = some x) : d < σ.store.length := (List.getElem?_eq_some_iff.1 h).1
end
attribute [go_sem] sv_len sv_rooms sv_ys sv_sv ldS_svx ldS_svx0 ldA_svx ldA_svx0 stX_svx stX_svx0 setVar_ext setVar_ext0 setVar_svx setVar_svx0
theorem CleanSg_set {σ : Sg} {d : Nat} {cs : List PV} (h : CleanSg σ) (hc : CleanAll σ.store.length σ.rooms.length σ.ys.length cs) : CleanSg (σ.setVar d cs) := by
  unfold CleanSg
  rw [sv_len, sv_rooms, sv_ys]
  intro id ds hid hds p hp
  by_cases hd : d = id
  · subst hd
    have hds' : (σ.store.set d (some cs))[d]? = some (some ds) := hds
    rw [List.getElem?_set_self hid] at hds'
    injection hds' with e
    injection e with e
    subst e
    exact hc p hp
  · have hds' : (σ.store.set d (some cs))[id]? = some (some ds) := hds
    rw [List.getElem?_set_ne hd] at hds'
    exact h id ds hid hds' p hp
/-- The end of a function that set a variable that was there before. -/
theorem Fin_set {P : Program} {fn : Func} {σ : Sg} {d : Nat} {cs : List PV} {l : List (Option (List PV))} {rm : List Nat} {E : Env} {rs : List PV} {v : PV} (hcl : CleanSg σ) (hc : CleanAll σ.store.length σ.rooms.length σ.ys.length cs)
    (hr : resPV P ((σ.setVar d cs).ext l rm) E fn.results.toList = some rs)
    (hv : Wk σ.store.length σ.rooms.length σ.ys.length (oneOr rs) v) : Fin P fn σ v (σ.setVar d cs) E ((σ.setVar d cs).ext l rm) := by
  have hcl' := CleanSg_set (d := d) hcl hc
  refine ⟨rs, _, _, hr, Nat.le_refl _, Nat.le_refl _, hv, ?_, fun id ds hid hds p hp => ?_, by simp [Sg.ext, Sg.setVar]⟩
  · have := Sg.cut_ext0 (σ.setVar d cs) l rm
    rw [sv_len, sv_rooms, sv_ys] at this
    exact this.symm
  · have hc' : ((σ.setVar d cs).store ++ l)[id]? = some (some ds) := hds
    rw [List.getElem?_append_left (by rw [sv_len]; exact hid)] at hc'
    have := hcl' id ds (by rw [sv_len]; exact hid) hc' p hp
    rw [sv_len, sv_rooms, sv_ys] at this
    exact this
theorem Fin_set0 {P : Program} {fn : Func} {σ : Sg} {d : Nat} {cs : List PV} {E : Env} {rs : List PV} {v : PV} (hcl : CleanSg σ) (hc : CleanAll σ.store.length σ.rooms.length σ.ys.length cs)
    (hr : resPV P (σ.setVar d cs) E fn.results.toList = some rs)
    (hv : Wk σ.store.length σ.rooms.length σ.ys.length (oneOr rs) v) : Fin P fn σ v (σ.setVar d cs) E (σ.setVar d cs) := by
  have := Fin_set (l := []) (rm := []) hcl hc (by rw [Sg.ext_nil]; exact hr) hv
  rw [Sg.ext_nil] at this
  exact this
end Go.Proofs.Ytnpamcpoaklgeaa
namespace Go.Proofs.Ytnpamcpoaklgeaa
open Go Go.RowKit
theorem W_regionJ {P : Program} {Y : YEnv} {N : Nat} {rd : Option Nat} {lo : Nat × Nat} {id : Nat} {ops : Array Oper} {E : Env} {σ : Sg} {Q : Exit → Env → Sg → Prop} (ks : List Nat) (upd : Env)
    (rest : Q .normal (keep ks (upd ++ E)) σ) (h : ∀ K : Env → Sg → Prop, (∀ E', keep ks E' = keep ks (upd ++ E) → K E' σ) → GL P Y N ops ops.toList E σ K) : W P Y N rd lo (.region id ops false) E σ Q :=
  W_region ks fun K hK => h K fun E' e => hK E' σ (by rw [e]; exact rest)
theorem W_drawJ {P : Program} {Y : YEnv} {N : Nat} {rd : Option Nat} {lo : Nat × Nat} {id : Nat} {ops : Array Oper} {E : Env} {σ : Sg} {Q : Exit → Env → Sg → Prop} (ks : List Nat) (upd : Env) (is : List Nat) (plan : List (Nat × Nat)) (pre : List (List Nat))
    (hm : P.follows .mixedOrders = true) (hc : drawOK ops is plan pre = true) (rest : Q .normal (keep ks (upd ++ E)) σ)
    (h : ∀ K : Env → Sg → Prop, (∀ E', keep ks E' = keep ks (upd ++ E) → K E' σ) → GD P Y N ops is (undefs ops.toList E) σ [] (fun T E' σ' => Dem P ops T.reverse σ' plan ∧ K E' σ')) : W P Y N rd lo (.region id ops true) E σ Q :=
  W_draw ks is plan pre hm hc fun K hK => h K fun E' e => hK E' σ (by rw [e]; exact rest)
theorem wrapI {n : Int} (h1 : -9223372036854775808 ≤ n) (h2 : n ≤ 9223372036854775807) : IntKind.i64.wrap n = n := wrap_i64_id (by omega) (by omega)
/-- How a test is read. -/
theorem nrm : (∀ (p : Prop) [Decidable p], (decide p = true) = p) ∧ (∀ (p : Prop) [Decidable p], (decide p = false) = ¬p) ∧ (∀ b : Bool, ((!b) = true) = (b = false)) ∧ (∀ b : Bool, ((!b) = false) = (b = true)) ∧
    (∀ a b : Nat, ((a : Int) = (b : Int)) = (a = b)) ∧ (∀ a b : Nat, ((a : Int) < (b : Int)) = (a < b)) ∧ (∀ a b : Nat, ((a : Int) ≤ (b : Int)) = (a ≤ b)) ∧
    (∀ a b : Int, ((a != b) = true) = (¬ a = b)) ∧ (∀ a b : Int, ((a != b) = false) = (a = b)) ∧ (∀ a b : Int, ((a == b) = true) = (a = b)) ∧ (∀ a b : Int, ((a == b) = false) = (¬ a = b)) ∧
    (∀ b : Bool, (¬ b = true) = (b = false)) ∧ (∀ b : Bool, (¬ b = false) = (b = true)) := by
  refine ⟨fun p _ => by simp, fun p _ => by simp, fun b => by simp, fun b => by simp, fun a b => propext Int.natCast_inj, fun a b => propext Int.ofNat_lt, fun a b => propext Int.ofNat_le, fun a b => by simp, fun a b => by simp, fun a b => by simp, fun a b => by simp, fun b => by simp, fun b => by simp⟩
def okC (c : Nat) (m : List PV) : Prop := (m.all fun q => (q.cells.length == c) && q.cells.all PV.scalar) = true
theorem okC_nil {c : Nat} : okC c [] = True := eq_true rfl
theorem okC_cons {c : Nat} {q : PV} {m : List PV} : okC c (q :: m) = ((q.cells.length = c ∧ q.cells.all PV.scalar = true) ∧ okC c m) := by simp [okC]
theorem okC_append {c : Nat} {l m : List PV} : okC c (l ++ m) = (okC c l ∧ okC c m) := by simp [okC]
theorem okC_ints {xs : List Int} : okC 1 (xs.map I) = True := eq_true (by simp [okC, PV.cells, PV.scalar])
theorem okC_map {α : Type} {c : Nat} {f : α → PV} {xs : List α} (h : ∀ x, okC c [f x]) : okC c (xs.map f) = True := eq_true (by
  unfold okC at h ⊢
  rw [List.all_eq_true]
  intro q hq
  obtain ⟨x, _, rfl⟩ := List.mem_map.1 hq
  simpa using h x)
theorem okC_len {c : Nat} {m : List PV} (h : okC c m) : (m.all fun q => q.cells.length == c) = true := by
  unfold okC at h
  rw [List.all_eq_true] at h ⊢
  intro q hq
  have := h q hq
  simp only [Bool.and_eq_true] at this
  exact this.1
theorem appX_exact {c b : Nat} {σ : Sg} {l m : List PV} (hm : okC c m) (hl : okC c l) (hs : (l.length + m.length) * b ≤ 140737488355328) :
    appX c b σ l .exact m = some (.isl (l ++ m) (.tok σ.rooms.length (l.length + m.length) c), σ.pushRoom (l.length + m.length)) := by
  have hm' : (m.all fun q => (q.cells.length == c) && q.cells.all PV.scalar) = true := hm
  unfold appX
  rw [hm', okC_len hl]
  simp [hs]
theorem appX_tok {c b : Nat} {σ : Sg} {l m : List PV} {r n : Nat} (hm : okC c m) (hr : σ.rooms[r]? = some n) (hs : (l.length + m.length) * b ≤ 140737488355328) :
    appX c b σ l (.tok r n c) m = some (.isl (l ++ m) (.tok r (n + m.length) c), σ.setRoom r (n + m.length)) := by
  have hm' : (m.all fun q => (q.cells.length == c) && q.cells.all PV.scalar) = true := hm
  unfold appX
  rw [hm']
  simp [hs, hr]
section
variable {σ : Sg} {d : Nat} {cs : List PV} {l : List (Option (List PV))} {rm : List Nat} {ys : List LState} {j n : Nat}
theorem room_svx : ((σ.setVar d cs).ext l rm ys).rooms[σ.rooms.length + j]? = rm[j]? := Sg.room_ext (σ.setVar d cs) l rm ys j
theorem room_svx0 : ((σ.setVar d cs).ext l rm ys).rooms[σ.rooms.length]? = rm[0]? := Sg.room_ext0 (σ.setVar d cs) l rm ys
theorem setRoom_svx : ((σ.setVar d cs).ext l rm ys).setRoom (σ.rooms.length + j) n = (σ.setVar d cs).ext l (rm.set j n) ys := Sg.setRoom_ext (σ.setVar d cs) l rm ys j n
theorem setRoom_svx0 : ((σ.setVar d cs).ext l rm ys).setRoom σ.rooms.length n = (σ.setVar d cs).ext l (rm.set 0 n) ys := Sg.setRoom_ext0 (σ.setVar d cs) l rm ys n
end
attribute [go_sem] bsX okC_nil okC_cons okC_append okC_ints Sg.room_ext Sg.room_ext0 Sg.setRoom_ext Sg.setRoom_ext0 room_svx room_svx0 setRoom_svx setRoom_svx0
theorem ro_isl {l : List PV} {o : Own} : (PV.isl l o).ro = .isl (PV.roL l) .ro := by simp only [PV.ro]
theorem ro_agg {l : List PV} : (PV.agg l).ro = .agg (PV.roL l) := by simp only [PV.ro]
theorem ro_tuple {l : List PV} : (PV.tuple l).ro = .tuple (PV.roL l) := by simp only [PV.ro]
theorem ro_int {k : IntKind} {n : Int} : (PV.int k n).ro = .int k n := by simp only [PV.ro]
theorem ro_bool {b : Bool} : (PV.bool b).ro = .bool b := by simp only [PV.ro]
theorem ro_str {b : ByteArray} : (PV.str b).ro = .str b := by simp only [PV.ro]
theorem ro_ptr {i o : Nat} : (PV.ptr i o).ro = .ptr i o := by simp only [PV.ro]
theorem roL_nil : PV.roL [] = [] := by simp only [PV.roL]
theorem roL_cons {p : PV} {l : List PV} : PV.roL (p :: l) = p.ro :: PV.roL l := by simp only [PV.roL]
theorem roL_append {l m : List PV} : PV.roL (l ++ m) = PV.roL l ++ PV.roL m := by simp only [PV.roL_map, List.map_append]
theorem roL_ints {xs : List Int} : PV.roL (xs.map I) = xs.map I := by simp [PV.roL_map, PV.ro]
theorem roL_enc {α : Type} {f : α → PV} {xs : List α} (h : ∀ x, (f x).ro = f x) : PV.roL (xs.map f) = xs.map f := by simp [PV.roL_map, h]
attribute [go_sem] ro_isl ro_agg ro_tuple ro_int ro_bool ro_str ro_ptr roL_nil roL_cons roL_append roL_ints oneOr
theorem PC.val {P : Program} {Y : YEnv} {f : FuncId} {args : List PV} {σ σ' : Sg} {v v' : PV} (h : PC P Y f args σ v σ') (e : v = v') : PC P Y f args σ v' σ' := by subst e; exact h
/-- The same value n times. -/
def rep (n : Nat) (v : PV) : List PV := List.replicate n v
theorem rep_len (n : Nat) (v : PV) : (rep n v).length = n := by simp [rep]
theorem ixS_of {P : Program} {t e : TypeId} {d : TypeDesc} {len : Nat} (h : P.underlying t = some (.array len e)) (he : P.underlying e = some d) (ha : isAggD d = false) (hc : P.cellsOf e = 1) (kd : IntKind) (n : Int) {cs : List PV} :
    indexPV P t (.agg cs) (.int kd n) = if 0 ≤ n ∧ n < (len : Int) then cs[n.toNat]? else none := by
  simp [indexPV, h, he, hc, partPV, ha]
attribute [go_sem] st List.reverse_cons List.reverse_nil bldX bne_self_eq_false iaM rep_len Int.cast_ofNat_Int List.getElem?_nil List.map_append List.length_append
end Go.Proofs.Ytnpamcpoaklgeaa
namespace Go.Proofs.Ytnpamcpoaklgeaa
open Go
theorem cells2 : Try.prog.cellsOf 2 = 1 := by kernel_rfl
theorem zero2 : zeroPV Try.prog 2 = some [.int .i64 0] := by kernel_rfl
theorem cells3 : Try.prog.cellsOf 3 = 1 := by kernel_rfl
theorem bytes3 : Try.prog.bytesOf 3 = 8 := by kernel_rfl
theorem zero3 : zeroPV Try.prog 3 = some [.int .i64 0] := by kernel_rfl
theorem cells4 : Try.prog.cellsOf 4 = 1 := by kernel_rfl
theorem bytes4 : Try.prog.bytesOf 4 = 1 := by kernel_rfl
theorem zero4 : zeroPV Try.prog 4 = some [.bool false] := by kernel_rfl
theorem cells5 : Try.prog.cellsOf 5 = 1 := by kernel_rfl
theorem zero5 : zeroPV Try.prog 5 = some [.int .u8 0] := by kernel_rfl
theorem cells9 : Try.prog.cellsOf 9 = 1 := by kernel_rfl
theorem zero9 : zeroPV Try.prog 9 = some [.str .empty] := by kernel_rfl
theorem cells22 : Try.prog.cellsOf 22 = 1 := by kernel_rfl
theorem bytes22 : Try.prog.bytesOf 22 = 24 := by kernel_rfl
theorem zero22 : zeroPV Try.prog 22 = some [.isl [] .exact] := by kernel_rfl
theorem cells23 : Try.prog.cellsOf 23 = 1 := by kernel_rfl
theorem zero23 : zeroPV Try.prog 23 = some [.isl [] .exact] := by kernel_rfl
theorem cells24 : Try.prog.cellsOf 24 = 1 := by kernel_rfl
theorem zero24 : zeroPV Try.prog 24 = some [.isl [] .exact] := by kernel_rfl
theorem cells25 : Try.prog.cellsOf 25 = 4 := by kernel_rfl
theorem zero25 : zeroPV Try.prog 25 = some [.isl [] .exact, .isl [] .exact, .isl [] .exact, .int .i64 0] := by kernel_rfl
theorem cells26 : Try.prog.cellsOf 26 = 4 := by kernel_rfl
theorem zero26 : zeroPV Try.prog 26 = some [.isl [] .exact, .isl [] .exact, .isl [] .exact, .int .i64 0] := by kernel_rfl
theorem cells27 : Try.prog.cellsOf 27 = 6 := by kernel_rfl
theorem zero27 : zeroPV Try.prog 27 = some [.isl [] .exact, .isl [] .exact, .isl [] .exact, .int .i64 0, .int .i64 0, .isl [] .exact] := by kernel_rfl
theorem cells28 : Try.prog.cellsOf 28 = 6 := by kernel_rfl
theorem bytes28 : Try.prog.bytesOf 28 = 112 := by kernel_rfl
theorem zero28 : zeroPV Try.prog 28 = some [.isl [] .exact, .isl [] .exact, .isl [] .exact, .int .i64 0, .int .i64 0, .isl [] .exact] := by kernel_rfl
theorem cells29 : Try.prog.cellsOf 29 = 1 := by kernel_rfl
theorem bytes29 : Try.prog.bytesOf 29 = 24 := by kernel_rfl
theorem zero29 : zeroPV Try.prog 29 = some [.isl [] .exact] := by kernel_rfl
theorem cells30 : Try.prog.cellsOf 30 = 2 := by kernel_rfl
theorem zero30 : zeroPV Try.prog 30 = some [.int .i64 0, .int .i64 0] := by kernel_rfl
theorem cells31 : Try.prog.cellsOf 31 = 2 := by kernel_rfl
theorem zero31 : zeroPV Try.prog 31 = some [.int .i64 0, .int .i64 0] := by kernel_rfl
theorem cells32 : Try.prog.cellsOf 32 = 6 := by kernel_rfl
theorem zero32 : zeroPV Try.prog 32 = some [.int .i64 0, .isl [] .exact, .int .i64 0, .int .i64 0, .int .i64 0, .int .i64 0] := by kernel_rfl
theorem cells33 : Try.prog.cellsOf 33 = 6 := by kernel_rfl
theorem bytes33 : Try.prog.bytesOf 33 = 64 := by kernel_rfl
theorem zero33 : zeroPV Try.prog 33 = some [.int .i64 0, .isl [] .exact, .int .i64 0, .int .i64 0, .int .i64 0, .int .i64 0] := by kernel_rfl
theorem cells37 : Try.prog.cellsOf 37 = 1 := by kernel_rfl
theorem zero37 : zeroPV Try.prog 37 = some [.nilptr] := by kernel_rfl
theorem cells41 : Try.prog.cellsOf 41 = 1 := by kernel_rfl
theorem zero41 : zeroPV Try.prog 41 = some [.isl [] .exact] := by kernel_rfl
theorem cells43 : Try.prog.cellsOf 43 = 1 := by kernel_rfl
theorem zero43 : zeroPV Try.prog 43 = some [.isl [] .exact] := by kernel_rfl
theorem cells46 : Try.prog.cellsOf 46 = 1 := by kernel_rfl
theorem bytes46 : Try.prog.bytesOf 46 = 8 := by kernel_rfl
theorem zero46 : zeroPV Try.prog 46 = some [.int .i64 0] := by kernel_rfl
theorem cells54 : Try.prog.cellsOf 54 = 1 := by kernel_rfl
theorem zero54 : zeroPV Try.prog 54 = some [.isl [] .exact] := by kernel_rfl
theorem cells71 : Try.prog.cellsOf 71 = 1 := by kernel_rfl
theorem zero71 : zeroPV Try.prog 71 = some [.isl [] .exact] := by kernel_rfl
theorem cells75 : Try.prog.cellsOf 75 = 2 := by kernel_rfl
theorem zero75 : zeroPV Try.prog 75 = some [.int .i64 0, .int .i64 0] := by kernel_rfl
theorem cells76 : Try.prog.cellsOf 76 = 2 := by kernel_rfl
theorem bytes76 : Try.prog.bytesOf 76 = 16 := by kernel_rfl
theorem zero76 : zeroPV Try.prog 76 = some [.int .i64 0, .int .i64 0] := by kernel_rfl
theorem cells85 : Try.prog.cellsOf 85 = 7 := by kernel_rfl
theorem zero85 : zeroPV Try.prog 85 = some [.int .i64 0, .int .i64 0, .int .i64 0, .int .i64 0, .int .i64 0, .int .i64 0, .isl [] .exact] := by kernel_rfl
theorem cells86 : Try.prog.cellsOf 86 = 7 := by kernel_rfl
theorem bytes86 : Try.prog.bytesOf 86 = 72 := by kernel_rfl
theorem zero86 : zeroPV Try.prog 86 = some [.int .i64 0, .int .i64 0, .int .i64 0, .int .i64 0, .int .i64 0, .int .i64 0, .isl [] .exact] := by kernel_rfl
theorem cells90 : Try.prog.cellsOf 90 = 1 := by kernel_rfl
theorem zero90 : zeroPV Try.prog 90 = some [.int .u64 0] := by kernel_rfl
theorem cells91 : Try.prog.cellsOf 91 = 1 := by kernel_rfl
theorem zero91 : zeroPV Try.prog 91 = some [.int .u64 0] := by kernel_rfl
theorem cells92 : Try.prog.cellsOf 92 = 1 := by kernel_rfl
theorem zero92 : zeroPV Try.prog 92 = some [.int .u64 0] := by kernel_rfl
theorem cells97 : Try.prog.cellsOf 97 = 1 := by kernel_rfl
theorem zero97 : zeroPV Try.prog 97 = some [.int .u64 0] := by kernel_rfl
theorem cells105 : Try.prog.cellsOf 105 = 13 := by kernel_rfl
theorem zero105 : zeroPV Try.prog 105 = some [.isl [] .exact, .isl [] .exact, .isl [] .exact, .int .i64 0, .int .i64 0, .isl [] .exact, .isl [] .exact, .int .i64 0, .isl [] .exact, .int .i64 0, .int .i64 0, .int .i64 0, .int .i64 0] := by kernel_rfl
theorem cells106 : Try.prog.cellsOf 106 = 13 := by kernel_rfl
theorem zero106 : zeroPV Try.prog 106 = some [.isl [] .exact, .isl [] .exact, .isl [] .exact, .int .i64 0, .int .i64 0, .isl [] .exact, .isl [] .exact, .int .i64 0, .isl [] .exact, .int .i64 0, .int .i64 0, .int .i64 0, .int .i64 0] := by kernel_rfl
theorem cells107 : Try.prog.cellsOf 107 = 1 := by kernel_rfl
theorem bytes107 : Try.prog.bytesOf 107 = 8 := by kernel_rfl
theorem zero107 : zeroPV Try.prog 107 = some [.nilfunc] := by kernel_rfl
theorem cells109 : Try.prog.cellsOf 109 = 1 := by kernel_rfl
theorem zero109 : zeroPV Try.prog 109 = some [.nilfunc] := by kernel_rfl
theorem cells114 : Try.prog.cellsOf 114 = 1 := by kernel_rfl
theorem zero114 : zeroPV Try.prog 114 = some [.nilfunc] := by kernel_rfl
theorem cells117 : Try.prog.cellsOf 117 = 1 := by kernel_rfl
theorem zero117 : zeroPV Try.prog 117 = some [.isl [] .exact] := by kernel_rfl
theorem cells118 : Try.prog.cellsOf 118 = 3 := by kernel_rfl
theorem zero118 : zeroPV Try.prog 118 = some [.int .i64 0, .int .i64 0, .int .i64 0] := by kernel_rfl
theorem cells119 : Try.prog.cellsOf 119 = 3 := by kernel_rfl
theorem bytes119 : Try.prog.bytesOf 119 = 24 := by kernel_rfl
theorem zero119 : zeroPV Try.prog 119 = some [.int .i64 0, .int .i64 0, .int .i64 0] := by kernel_rfl
theorem cells123 : Try.prog.cellsOf 123 = 1 := by kernel_rfl
theorem zero123 : zeroPV Try.prog 123 = some [.isl [] .exact] := by kernel_rfl
theorem cells129 : Try.prog.cellsOf 129 = 720 := by kernel_rfl
theorem cells130 : Try.prog.cellsOf 130 = 720 := by kernel_rfl
theorem cells137 : Try.prog.cellsOf 137 = 1 := by kernel_rfl
theorem zero137 : zeroPV Try.prog 137 = some [.undef] := by kernel_rfl
theorem cells150 : Try.prog.cellsOf 150 = 1 := by kernel_rfl
theorem zero150 : zeroPV Try.prog 150 = some [.isl [] .exact] := by kernel_rfl
theorem cells152 : Try.prog.cellsOf 152 = 1 := by kernel_rfl
theorem zero152 : zeroPV Try.prog 152 = some [.int .i64 0] := by kernel_rfl
theorem cells160 : Try.prog.cellsOf 160 = 1 := by kernel_rfl
theorem zero160 : zeroPV Try.prog 160 = some [.int .u32 0] := by kernel_rfl
theorem cells163 : Try.prog.cellsOf 163 = 1 := by kernel_rfl
theorem zero163 : zeroPV Try.prog 163 = some [.int .u64 0] := by kernel_rfl
theorem cells166 : Try.prog.cellsOf 166 = 1 := by kernel_rfl
theorem zero166 : zeroPV Try.prog 166 = some [.nilptr] := by kernel_rfl
theorem cells168 : Try.prog.cellsOf 168 = 1 := by kernel_rfl
theorem zero168 : zeroPV Try.prog 168 = some [.nilptr] := by kernel_rfl
theorem cells171 : Try.prog.cellsOf 171 = 4 := by kernel_rfl
theorem zero171 : zeroPV Try.prog 171 = some [.nilptr, .nilptr, .nilptr, .str .empty] := by kernel_rfl
theorem cells172 : Try.prog.cellsOf 172 = 4 := by kernel_rfl
theorem zero172 : zeroPV Try.prog 172 = some [.nilptr, .nilptr, .nilptr, .str .empty] := by kernel_rfl
theorem cells173 : Try.prog.cellsOf 173 = 0 := by kernel_rfl
theorem zero173 : zeroPV Try.prog 173 = some [] := by kernel_rfl
theorem cells174 : Try.prog.cellsOf 174 = 0 := by kernel_rfl
theorem zero174 : zeroPV Try.prog 174 = some [] := by kernel_rfl
theorem cells175 : Try.prog.cellsOf 175 = 0 := by kernel_rfl
theorem zero175 : zeroPV Try.prog 175 = some [] := by kernel_rfl
theorem cells177 : Try.prog.cellsOf 177 = 1 := by kernel_rfl
theorem zero177 : zeroPV Try.prog 177 = some [.int .u8 0] := by kernel_rfl
theorem cells178 : Try.prog.cellsOf 178 = 1 := by kernel_rfl
theorem zero178 : zeroPV Try.prog 178 = some [.int .u8 0] := by kernel_rfl
end Go.Proofs.Ytnpamcpoaklgeaa
namespace Go.Proofs.Ytnpamcpoaklgeaa
open Go
set_option maxRecDepth 100000
theorem lda2 {σ : Sg} {id off : Nat} : loadPV Try.prog σ 2 (.ptr id off) = ldS σ id off := ldS_of Try.underlying2 rfl
theorem ela2 {σ : Sg} {es i off : Nat} {l : List PV} : loadPV Try.prog σ 2 (.eptr es l i off) = elS l i off := elS_of Try.underlying2 rfl
theorem sto2 {σ : Sg} {id off : Nat} {p : PV} : storePV Try.prog σ 2 (.ptr id off) p = stX 1 σ id off p := stX_of Try.underlying2 cells2 p
theorem lda3 {σ : Sg} {id off : Nat} : loadPV Try.prog σ 3 (.ptr id off) = ldS σ id off := ldS_of Try.underlying3 rfl
theorem ela3 {σ : Sg} {es i off : Nat} {l : List PV} : loadPV Try.prog σ 3 (.eptr es l i off) = elS l i off := elS_of Try.underlying3 rfl
theorem sto3 {σ : Sg} {id off : Nat} {p : PV} : storePV Try.prog σ 3 (.ptr id off) p = stX 1 σ id off p := stX_of Try.underlying3 cells3 p
theorem lda4 {σ : Sg} {id off : Nat} : loadPV Try.prog σ 4 (.ptr id off) = ldS σ id off := ldS_of Try.underlying4 rfl
theorem ela4 {σ : Sg} {es i off : Nat} {l : List PV} : loadPV Try.prog σ 4 (.eptr es l i off) = elS l i off := elS_of Try.underlying4 rfl
theorem sto4 {σ : Sg} {id off : Nat} {p : PV} : storePV Try.prog σ 4 (.ptr id off) p = stX 1 σ id off p := stX_of Try.underlying4 cells4 p
theorem lda5 {σ : Sg} {id off : Nat} : loadPV Try.prog σ 5 (.ptr id off) = ldS σ id off := ldS_of Try.underlying5 rfl
theorem ela5 {σ : Sg} {es i off : Nat} {l : List PV} : loadPV Try.prog σ 5 (.eptr es l i off) = elS l i off := elS_of Try.underlying5 rfl
theorem sto5 {σ : Sg} {id off : Nat} {p : PV} : storePV Try.prog σ 5 (.ptr id off) p = stX 1 σ id off p := stX_of Try.underlying5 cells5 p
theorem lda9 {σ : Sg} {id off : Nat} : loadPV Try.prog σ 9 (.ptr id off) = ldS σ id off := ldS_of Try.underlying9 rfl
theorem ela9 {σ : Sg} {es i off : Nat} {l : List PV} : loadPV Try.prog σ 9 (.eptr es l i off) = elS l i off := elS_of Try.underlying9 rfl
theorem sto9 {σ : Sg} {id off : Nat} {p : PV} : storePV Try.prog σ 9 (.ptr id off) p = stX 1 σ id off p := stX_of Try.underlying9 cells9 p
theorem lda22 {σ : Sg} {id off : Nat} : loadPV Try.prog σ 22 (.ptr id off) = ldS σ id off := ldS_of Try.underlying22 rfl
theorem ela22 {σ : Sg} {es i off : Nat} {l : List PV} : loadPV Try.prog σ 22 (.eptr es l i off) = elS l i off := elS_of Try.underlying22 rfl
theorem sto22 {σ : Sg} {id off : Nat} {p : PV} : storePV Try.prog σ 22 (.ptr id off) p = stX 1 σ id off p := stX_of Try.underlying22 cells22 p
theorem ia22 {l : List PV} {own : Own} {k : IntKind} {i : Int} : indexAddrPV Try.prog 22 (.isl l own) (.int k i) = iaX 1 l i := iaX_of Try.underlying22 Try.underlying3 cells3 k i
theorem iam22 {id off len : Nat} {k : IntKind} {i : Int} : indexAddrPV Try.prog 22 (.msl id off len) (.int k i) = iaM 1 id off len i := iaM_of Try.underlying22 Try.underlying3 cells3 k len i
theorem len22 {l : List PV} {own : Own} : lenPV Try.prog 22 (.isl l own) = some (.int .i64 l.length) := len_of Try.underlying22
theorem lenm22 {id off n : Nat} : lenPV Try.prog 22 (.msl id off n) = some (.int .i64 n) := lenM_of Try.underlying22 n
theorem bs22 {len : Nat} {parts : List (Nat × PV)} : buildSlicePV Try.prog 22 len parts = bsX 1 len parts := bsX_of Try.underlying22 Try.underlying3 cells3 zero3 len parts
theorem app22 {σ : Sg} {l m : List PV} {own own' : Own} : appendPV Try.prog σ 22 22 (.isl l own) (.isl m own') = appX 1 8 σ l own m := appX_of Try.underlying22 Try.underlying3 cells3 bytes3 (by decide) (by decide) zero3 rfl
theorem lda23 {σ : Sg} {id off : Nat} : loadPV Try.prog σ 23 (.ptr id off) = ldS σ id off := ldS_of Try.underlying23 rfl
theorem ela23 {σ : Sg} {es i off : Nat} {l : List PV} : loadPV Try.prog σ 23 (.eptr es l i off) = elS l i off := elS_of Try.underlying23 rfl
theorem sto23 {σ : Sg} {id off : Nat} {p : PV} : storePV Try.prog σ 23 (.ptr id off) p = stX 1 σ id off p := stX_of Try.underlying23 cells23 p
theorem ia23 {l : List PV} {own : Own} {k : IntKind} {i : Int} : indexAddrPV Try.prog 23 (.isl l own) (.int k i) = iaX 2 l i := iaX_of Try.underlying23 Try.underlying76 cells76 k i
theorem iam23 {id off len : Nat} {k : IntKind} {i : Int} : indexAddrPV Try.prog 23 (.msl id off len) (.int k i) = iaM 2 id off len i := iaM_of Try.underlying23 Try.underlying76 cells76 k len i
theorem len23 {l : List PV} {own : Own} : lenPV Try.prog 23 (.isl l own) = some (.int .i64 l.length) := len_of Try.underlying23
theorem lenm23 {id off n : Nat} : lenPV Try.prog 23 (.msl id off n) = some (.int .i64 n) := lenM_of Try.underlying23 n
theorem bs23 {len : Nat} {parts : List (Nat × PV)} : buildSlicePV Try.prog 23 len parts = bsX 2 len parts := bsX_of Try.underlying23 Try.underlying76 cells76 zero76 len parts
theorem app23 {σ : Sg} {l m : List PV} {own own' : Own} : appendPV Try.prog σ 23 23 (.isl l own) (.isl m own') = appX 2 16 σ l own m := appX_of Try.underlying23 Try.underlying76 cells76 bytes76 (by decide) (by decide) zero76 rfl
theorem lda24 {σ : Sg} {id off : Nat} : loadPV Try.prog σ 24 (.ptr id off) = ldS σ id off := ldS_of Try.underlying24 rfl
theorem ela24 {σ : Sg} {es i off : Nat} {l : List PV} : loadPV Try.prog σ 24 (.eptr es l i off) = elS l i off := elS_of Try.underlying24 rfl
theorem sto24 {σ : Sg} {id off : Nat} {p : PV} : storePV Try.prog σ 24 (.ptr id off) p = stX 1 σ id off p := stX_of Try.underlying24 cells24 p
theorem ia24 {l : List PV} {own : Own} {k : IntKind} {i : Int} : indexAddrPV Try.prog 24 (.isl l own) (.int k i) = iaX 7 l i := iaX_of Try.underlying24 Try.underlying86 cells86 k i
theorem iam24 {id off len : Nat} {k : IntKind} {i : Int} : indexAddrPV Try.prog 24 (.msl id off len) (.int k i) = iaM 7 id off len i := iaM_of Try.underlying24 Try.underlying86 cells86 k len i
theorem len24 {l : List PV} {own : Own} : lenPV Try.prog 24 (.isl l own) = some (.int .i64 l.length) := len_of Try.underlying24
theorem lenm24 {id off n : Nat} : lenPV Try.prog 24 (.msl id off n) = some (.int .i64 n) := lenM_of Try.underlying24 n
theorem bs24 {len : Nat} {parts : List (Nat × PV)} : buildSlicePV Try.prog 24 len parts = bsX 7 len parts := bsX_of Try.underlying24 Try.underlying86 cells86 zero86 len parts
theorem app24 {σ : Sg} {l m : List PV} {own own' : Own} : appendPV Try.prog σ 24 24 (.isl l own) (.isl m own') = appX 7 72 σ l own m := appX_of Try.underlying24 Try.underlying86 cells86 bytes86 (by decide) (by decide) zero86 rfl
theorem lda25 {σ : Sg} {id off : Nat} : loadPV Try.prog σ 25 (.ptr id off) = ldA 4 σ id off := ldA_of Try.underlying25 rfl cells25
theorem ela25 {σ : Sg} {es i off : Nat} {l : List PV} : loadPV Try.prog σ 25 (.eptr es l i off) = elA 4 l i off := elA_of Try.underlying25 rfl cells25
theorem sto25 {σ : Sg} {id off : Nat} {p : PV} : storePV Try.prog σ 25 (.ptr id off) p = stX 4 σ id off p := stX_of Try.underlying25 cells25 p
theorem fa25_0 {id off : Nat} : fieldAddrPV Try.prog 25 (.ptr id off) 0 = some (.ptr id (off + 0)) := fa1_of Try.underlying25 (by rfl) (by exact Try.underlying22) (by exact cells22) (by rfl) (by rfl)
theorem fae25_0 {es i off : Nat} {l : List PV} : fieldAddrPV Try.prog 25 (.eptr es l i off) 0 = some (.eptr es l i (off + 0)) := fa2_of Try.underlying25 (by rfl) (by exact Try.underlying22) (by exact cells22) (by rfl) (by rfl)
theorem fp25_0 {cs : List PV} : fieldPV Try.prog 25 (.agg cs) 0 = cs[0]? := fpS_of Try.underlying25 (by rfl) (by exact Try.underlying22) (by rfl) (by rfl) cs
theorem fa25_1 {id off : Nat} : fieldAddrPV Try.prog 25 (.ptr id off) 1 = some (.ptr id (off + 1)) := fa1_of Try.underlying25 (by rfl) (by exact Try.underlying23) (by exact cells23) (by rfl) (by rfl)
theorem fae25_1 {es i off : Nat} {l : List PV} : fieldAddrPV Try.prog 25 (.eptr es l i off) 1 = some (.eptr es l i (off + 1)) := fa2_of Try.underlying25 (by rfl) (by exact Try.underlying23) (by exact cells23) (by rfl) (by rfl)
theorem fp25_1 {cs : List PV} : fieldPV Try.prog 25 (.agg cs) 1 = cs[1]? := fpS_of Try.underlying25 (by rfl) (by exact Try.underlying23) (by rfl) (by rfl) cs
theorem fa25_2 {id off : Nat} : fieldAddrPV Try.prog 25 (.ptr id off) 2 = some (.ptr id (off + 2)) := fa1_of Try.underlying25 (by rfl) (by exact Try.underlying24) (by exact cells24) (by rfl) (by rfl)
theorem fae25_2 {es i off : Nat} {l : List PV} : fieldAddrPV Try.prog 25 (.eptr es l i off) 2 = some (.eptr es l i (off + 2)) := fa2_of Try.underlying25 (by rfl) (by exact Try.underlying24) (by exact cells24) (by rfl) (by rfl)
theorem fp25_2 {cs : List PV} : fieldPV Try.prog 25 (.agg cs) 2 = cs[2]? := fpS_of Try.underlying25 (by rfl) (by exact Try.underlying24) (by rfl) (by rfl) cs
theorem fa25_3 {id off : Nat} : fieldAddrPV Try.prog 25 (.ptr id off) 3 = some (.ptr id (off + 3)) := fa1_of Try.underlying25 (by rfl) (by exact Try.underlying3) (by exact cells3) (by rfl) (by rfl)
theorem fae25_3 {es i off : Nat} {l : List PV} : fieldAddrPV Try.prog 25 (.eptr es l i off) 3 = some (.eptr es l i (off + 3)) := fa2_of Try.underlying25 (by rfl) (by exact Try.underlying3) (by exact cells3) (by rfl) (by rfl)
theorem fp25_3 {cs : List PV} : fieldPV Try.prog 25 (.agg cs) 3 = cs[3]? := fpS_of Try.underlying25 (by rfl) (by exact Try.underlying3) (by rfl) (by rfl) cs
theorem bld25 {parts : List (Nat × PV)} : buildPV Try.prog 25 parts = bldX [.isl [] .exact, .isl [] .exact, .isl [] .exact, .int .i64 0] [(0, 1), (1, 1), (2, 1), (3, 1)] parts := bldX_of zero25 Try.underlying25 (by kernel_rfl) (by kernel_rfl) parts
theorem lda26 {σ : Sg} {id off : Nat} : loadPV Try.prog σ 26 (.ptr id off) = ldA 4 σ id off := ldA_of Try.underlying26 rfl cells26
theorem ela26 {σ : Sg} {es i off : Nat} {l : List PV} : loadPV Try.prog σ 26 (.eptr es l i off) = elA 4 l i off := elA_of Try.underlying26 rfl cells26
theorem sto26 {σ : Sg} {id off : Nat} {p : PV} : storePV Try.prog σ 26 (.ptr id off) p = stX 4 σ id off p := stX_of Try.underlying26 cells26 p
theorem fa26_0 {id off : Nat} : fieldAddrPV Try.prog 26 (.ptr id off) 0 = some (.ptr id (off + 0)) := fa1_of Try.underlying26 (by rfl) (by exact Try.underlying22) (by exact cells22) (by rfl) (by rfl)
theorem fae26_0 {es i off : Nat} {l : List PV} : fieldAddrPV Try.prog 26 (.eptr es l i off) 0 = some (.eptr es l i (off + 0)) := fa2_of Try.underlying26 (by rfl) (by exact Try.underlying22) (by exact cells22) (by rfl) (by rfl)
theorem fp26_0 {cs : List PV} : fieldPV Try.prog 26 (.agg cs) 0 = cs[0]? := fpS_of Try.underlying26 (by rfl) (by exact Try.underlying22) (by rfl) (by rfl) cs
theorem fa26_1 {id off : Nat} : fieldAddrPV Try.prog 26 (.ptr id off) 1 = some (.ptr id (off + 1)) := fa1_of Try.underlying26 (by rfl) (by exact Try.underlying23) (by exact cells23) (by rfl) (by rfl)
theorem fae26_1 {es i off : Nat} {l : List PV} : fieldAddrPV Try.prog 26 (.eptr es l i off) 1 = some (.eptr es l i (off + 1)) := fa2_of Try.underlying26 (by rfl) (by exact Try.underlying23) (by exact cells23) (by rfl) (by rfl)
theorem fp26_1 {cs : List PV} : fieldPV Try.prog 26 (.agg cs) 1 = cs[1]? := fpS_of Try.underlying26 (by rfl) (by exact Try.underlying23) (by rfl) (by rfl) cs
theorem fa26_2 {id off : Nat} : fieldAddrPV Try.prog 26 (.ptr id off) 2 = some (.ptr id (off + 2)) := fa1_of Try.underlying26 (by rfl) (by exact Try.underlying24) (by exact cells24) (by rfl) (by rfl)
theorem fae26_2 {es i off : Nat} {l : List PV} : fieldAddrPV Try.prog 26 (.eptr es l i off) 2 = some (.eptr es l i (off + 2)) := fa2_of Try.underlying26 (by rfl) (by exact Try.underlying24) (by exact cells24) (by rfl) (by rfl)
theorem fp26_2 {cs : List PV} : fieldPV Try.prog 26 (.agg cs) 2 = cs[2]? := fpS_of Try.underlying26 (by rfl) (by exact Try.underlying24) (by rfl) (by rfl) cs
theorem fa26_3 {id off : Nat} : fieldAddrPV Try.prog 26 (.ptr id off) 3 = some (.ptr id (off + 3)) := fa1_of Try.underlying26 (by rfl) (by exact Try.underlying3) (by exact cells3) (by rfl) (by rfl)
theorem fae26_3 {es i off : Nat} {l : List PV} : fieldAddrPV Try.prog 26 (.eptr es l i off) 3 = some (.eptr es l i (off + 3)) := fa2_of Try.underlying26 (by rfl) (by exact Try.underlying3) (by exact cells3) (by rfl) (by rfl)
theorem fp26_3 {cs : List PV} : fieldPV Try.prog 26 (.agg cs) 3 = cs[3]? := fpS_of Try.underlying26 (by rfl) (by exact Try.underlying3) (by rfl) (by rfl) cs
theorem bld26 {parts : List (Nat × PV)} : buildPV Try.prog 26 parts = bldX [.isl [] .exact, .isl [] .exact, .isl [] .exact, .int .i64 0] [(0, 1), (1, 1), (2, 1), (3, 1)] parts := bldX_of zero26 Try.underlying26 (by kernel_rfl) (by kernel_rfl) parts
theorem lda27 {σ : Sg} {id off : Nat} : loadPV Try.prog σ 27 (.ptr id off) = ldA 6 σ id off := ldA_of Try.underlying27 rfl cells27
theorem ela27 {σ : Sg} {es i off : Nat} {l : List PV} : loadPV Try.prog σ 27 (.eptr es l i off) = elA 6 l i off := elA_of Try.underlying27 rfl cells27
theorem sto27 {σ : Sg} {id off : Nat} {p : PV} : storePV Try.prog σ 27 (.ptr id off) p = stX 6 σ id off p := stX_of Try.underlying27 cells27 p
theorem fa27_0 {id off : Nat} : fieldAddrPV Try.prog 27 (.ptr id off) 0 = some (.ptr id (off + 0)) := fa1_of Try.underlying27 (by rfl) (by exact Try.underlying26) (by exact cells26) (by rfl) (by rfl)
theorem fae27_0 {es i off : Nat} {l : List PV} : fieldAddrPV Try.prog 27 (.eptr es l i off) 0 = some (.eptr es l i (off + 0)) := fa2_of Try.underlying27 (by rfl) (by exact Try.underlying26) (by exact cells26) (by rfl) (by rfl)
theorem fp27_0 {cs : List PV} : fieldPV Try.prog 27 (.agg cs) 0 = if 0 + 4 ≤ cs.length then some (.agg ((cs.drop 0).take 4)) else none := fpA_of Try.underlying27 (by rfl) (by exact Try.underlying26) (by rfl) (by exact cells26) (by rfl) cs
theorem fa27_1 {id off : Nat} : fieldAddrPV Try.prog 27 (.ptr id off) 1 = some (.ptr id (off + 4)) := fa1_of Try.underlying27 (by rfl) (by exact Try.underlying3) (by exact cells3) (by rfl) (by rfl)
theorem fae27_1 {es i off : Nat} {l : List PV} : fieldAddrPV Try.prog 27 (.eptr es l i off) 1 = some (.eptr es l i (off + 4)) := fa2_of Try.underlying27 (by rfl) (by exact Try.underlying3) (by exact cells3) (by rfl) (by rfl)
theorem fp27_1 {cs : List PV} : fieldPV Try.prog 27 (.agg cs) 1 = cs[4]? := fpS_of Try.underlying27 (by rfl) (by exact Try.underlying3) (by rfl) (by rfl) cs
theorem fa27_2 {id off : Nat} : fieldAddrPV Try.prog 27 (.ptr id off) 2 = some (.ptr id (off + 5)) := fa1_of Try.underlying27 (by rfl) (by exact Try.underlying22) (by exact cells22) (by rfl) (by rfl)
theorem fae27_2 {es i off : Nat} {l : List PV} : fieldAddrPV Try.prog 27 (.eptr es l i off) 2 = some (.eptr es l i (off + 5)) := fa2_of Try.underlying27 (by rfl) (by exact Try.underlying22) (by exact cells22) (by rfl) (by rfl)
theorem fp27_2 {cs : List PV} : fieldPV Try.prog 27 (.agg cs) 2 = cs[5]? := fpS_of Try.underlying27 (by rfl) (by exact Try.underlying22) (by rfl) (by rfl) cs
theorem bld27 {parts : List (Nat × PV)} : buildPV Try.prog 27 parts = bldX [.isl [] .exact, .isl [] .exact, .isl [] .exact, .int .i64 0, .int .i64 0, .isl [] .exact] [(0, 4), (4, 1), (5, 1)] parts := bldX_of zero27 Try.underlying27 (by kernel_rfl) (by kernel_rfl) parts
theorem lda28 {σ : Sg} {id off : Nat} : loadPV Try.prog σ 28 (.ptr id off) = ldA 6 σ id off := ldA_of Try.underlying28 rfl cells28
theorem ela28 {σ : Sg} {es i off : Nat} {l : List PV} : loadPV Try.prog σ 28 (.eptr es l i off) = elA 6 l i off := elA_of Try.underlying28 rfl cells28
theorem sto28 {σ : Sg} {id off : Nat} {p : PV} : storePV Try.prog σ 28 (.ptr id off) p = stX 6 σ id off p := stX_of Try.underlying28 cells28 p
theorem fa28_0 {id off : Nat} : fieldAddrPV Try.prog 28 (.ptr id off) 0 = some (.ptr id (off + 0)) := fa1_of Try.underlying28 (by rfl) (by exact Try.underlying26) (by exact cells26) (by rfl) (by rfl)
theorem fae28_0 {es i off : Nat} {l : List PV} : fieldAddrPV Try.prog 28 (.eptr es l i off) 0 = some (.eptr es l i (off + 0)) := fa2_of Try.underlying28 (by rfl) (by exact Try.underlying26) (by exact cells26) (by rfl) (by rfl)
theorem fp28_0 {cs : List PV} : fieldPV Try.prog 28 (.agg cs) 0 = if 0 + 4 ≤ cs.length then some (.agg ((cs.drop 0).take 4)) else none := fpA_of Try.underlying28 (by rfl) (by exact Try.underlying26) (by rfl) (by exact cells26) (by rfl) cs
theorem fa28_1 {id off : Nat} : fieldAddrPV Try.prog 28 (.ptr id off) 1 = some (.ptr id (off + 4)) := fa1_of Try.underlying28 (by rfl) (by exact Try.underlying3) (by exact cells3) (by rfl) (by rfl)
theorem fae28_1 {es i off : Nat} {l : List PV} : fieldAddrPV Try.prog 28 (.eptr es l i off) 1 = some (.eptr es l i (off + 4)) := fa2_of Try.underlying28 (by rfl) (by exact Try.underlying3) (by exact cells3) (by rfl) (by rfl)
theorem fp28_1 {cs : List PV} : fieldPV Try.prog 28 (.agg cs) 1 = cs[4]? := fpS_of Try.underlying28 (by rfl) (by exact Try.underlying3) (by rfl) (by rfl) cs
theorem fa28_2 {id off : Nat} : fieldAddrPV Try.prog 28 (.ptr id off) 2 = some (.ptr id (off + 5)) := fa1_of Try.underlying28 (by rfl) (by exact Try.underlying22) (by exact cells22) (by rfl) (by rfl)
theorem fae28_2 {es i off : Nat} {l : List PV} : fieldAddrPV Try.prog 28 (.eptr es l i off) 2 = some (.eptr es l i (off + 5)) := fa2_of Try.underlying28 (by rfl) (by exact Try.underlying22) (by exact cells22) (by rfl) (by rfl)
theorem fp28_2 {cs : List PV} : fieldPV Try.prog 28 (.agg cs) 2 = cs[5]? := fpS_of Try.underlying28 (by rfl) (by exact Try.underlying22) (by rfl) (by rfl) cs
theorem bld28 {parts : List (Nat × PV)} : buildPV Try.prog 28 parts = bldX [.isl [] .exact, .isl [] .exact, .isl [] .exact, .int .i64 0, .int .i64 0, .isl [] .exact] [(0, 4), (4, 1), (5, 1)] parts := bldX_of zero28 Try.underlying28 (by kernel_rfl) (by kernel_rfl) parts
theorem lda29 {σ : Sg} {id off : Nat} : loadPV Try.prog σ 29 (.ptr id off) = ldS σ id off := ldS_of Try.underlying29 rfl
theorem ela29 {σ : Sg} {es i off : Nat} {l : List PV} : loadPV Try.prog σ 29 (.eptr es l i off) = elS l i off := elS_of Try.underlying29 rfl
theorem sto29 {σ : Sg} {id off : Nat} {p : PV} : storePV Try.prog σ 29 (.ptr id off) p = stX 1 σ id off p := stX_of Try.underlying29 cells29 p
theorem ia29 {l : List PV} {own : Own} {k : IntKind} {i : Int} : indexAddrPV Try.prog 29 (.isl l own) (.int k i) = iaX 6 l i := iaX_of Try.underlying29 Try.underlying33 cells33 k i
theorem iam29 {id off len : Nat} {k : IntKind} {i : Int} : indexAddrPV Try.prog 29 (.msl id off len) (.int k i) = iaM 6 id off len i := iaM_of Try.underlying29 Try.underlying33 cells33 k len i
theorem len29 {l : List PV} {own : Own} : lenPV Try.prog 29 (.isl l own) = some (.int .i64 l.length) := len_of Try.underlying29
theorem lenm29 {id off n : Nat} : lenPV Try.prog 29 (.msl id off n) = some (.int .i64 n) := lenM_of Try.underlying29 n
theorem bs29 {len : Nat} {parts : List (Nat × PV)} : buildSlicePV Try.prog 29 len parts = bsX 6 len parts := bsX_of Try.underlying29 Try.underlying33 cells33 zero33 len parts
theorem app29 {σ : Sg} {l m : List PV} {own own' : Own} : appendPV Try.prog σ 29 29 (.isl l own) (.isl m own') = appX 6 64 σ l own m := appX_of Try.underlying29 Try.underlying33 cells33 bytes33 (by decide) (by decide) zero33 rfl
theorem lda30 {σ : Sg} {id off : Nat} : loadPV Try.prog σ 30 (.ptr id off) = ldA 2 σ id off := ldA_of Try.underlying30 rfl cells30
theorem ela30 {σ : Sg} {es i off : Nat} {l : List PV} : loadPV Try.prog σ 30 (.eptr es l i off) = elA 2 l i off := elA_of Try.underlying30 rfl cells30
theorem sto30 {σ : Sg} {id off : Nat} {p : PV} : storePV Try.prog σ 30 (.ptr id off) p = stX 2 σ id off p := stX_of Try.underlying30 cells30 p
theorem fa30_0 {id off : Nat} : fieldAddrPV Try.prog 30 (.ptr id off) 0 = some (.ptr id (off + 0)) := fa1_of Try.underlying30 (by rfl) (by exact Try.underlying3) (by exact cells3) (by rfl) (by rfl)
theorem fae30_0 {es i off : Nat} {l : List PV} : fieldAddrPV Try.prog 30 (.eptr es l i off) 0 = some (.eptr es l i (off + 0)) := fa2_of Try.underlying30 (by rfl) (by exact Try.underlying3) (by exact cells3) (by rfl) (by rfl)
theorem fp30_0 {cs : List PV} : fieldPV Try.prog 30 (.agg cs) 0 = cs[0]? := fpS_of Try.underlying30 (by rfl) (by exact Try.underlying3) (by rfl) (by rfl) cs
theorem fa30_1 {id off : Nat} : fieldAddrPV Try.prog 30 (.ptr id off) 1 = some (.ptr id (off + 1)) := fa1_of Try.underlying30 (by rfl) (by exact Try.underlying3) (by exact cells3) (by rfl) (by rfl)
theorem fae30_1 {es i off : Nat} {l : List PV} : fieldAddrPV Try.prog 30 (.eptr es l i off) 1 = some (.eptr es l i (off + 1)) := fa2_of Try.underlying30 (by rfl) (by exact Try.underlying3) (by exact cells3) (by rfl) (by rfl)
theorem fp30_1 {cs : List PV} : fieldPV Try.prog 30 (.agg cs) 1 = cs[1]? := fpS_of Try.underlying30 (by rfl) (by exact Try.underlying3) (by rfl) (by rfl) cs
theorem eqs30 {a0 a1 b0 b1 : Int} : eqPV Try.prog 30 (.agg [.int .i64 a0, .int .i64 a1]) (.agg [.int .i64 b0, .int .i64 b1]) = some ((a0 == b0) && ((a1 == b1) && true)) := by kernel_rfl
theorem bld30 {parts : List (Nat × PV)} : buildPV Try.prog 30 parts = bldX [.int .i64 0, .int .i64 0] [(0, 1), (1, 1)] parts := bldX_of zero30 Try.underlying30 (by kernel_rfl) (by kernel_rfl) parts
theorem lda31 {σ : Sg} {id off : Nat} : loadPV Try.prog σ 31 (.ptr id off) = ldA 2 σ id off := ldA_of Try.underlying31 rfl cells31
theorem ela31 {σ : Sg} {es i off : Nat} {l : List PV} : loadPV Try.prog σ 31 (.eptr es l i off) = elA 2 l i off := elA_of Try.underlying31 rfl cells31
theorem sto31 {σ : Sg} {id off : Nat} {p : PV} : storePV Try.prog σ 31 (.ptr id off) p = stX 2 σ id off p := stX_of Try.underlying31 cells31 p
theorem fa31_0 {id off : Nat} : fieldAddrPV Try.prog 31 (.ptr id off) 0 = some (.ptr id (off + 0)) := fa1_of Try.underlying31 (by rfl) (by exact Try.underlying3) (by exact cells3) (by rfl) (by rfl)
theorem fae31_0 {es i off : Nat} {l : List PV} : fieldAddrPV Try.prog 31 (.eptr es l i off) 0 = some (.eptr es l i (off + 0)) := fa2_of Try.underlying31 (by rfl) (by exact Try.underlying3) (by exact cells3) (by rfl) (by rfl)
theorem fp31_0 {cs : List PV} : fieldPV Try.prog 31 (.agg cs) 0 = cs[0]? := fpS_of Try.underlying31 (by rfl) (by exact Try.underlying3) (by rfl) (by rfl) cs
theorem fa31_1 {id off : Nat} : fieldAddrPV Try.prog 31 (.ptr id off) 1 = some (.ptr id (off + 1)) := fa1_of Try.underlying31 (by rfl) (by exact Try.underlying3) (by exact cells3) (by rfl) (by rfl)
theorem fae31_1 {es i off : Nat} {l : List PV} : fieldAddrPV Try.prog 31 (.eptr es l i off) 1 = some (.eptr es l i (off + 1)) := fa2_of Try.underlying31 (by rfl) (by exact Try.underlying3) (by exact cells3) (by rfl) (by rfl)
theorem fp31_1 {cs : List PV} : fieldPV Try.prog 31 (.agg cs) 1 = cs[1]? := fpS_of Try.underlying31 (by rfl) (by exact Try.underlying3) (by rfl) (by rfl) cs
theorem eqs31 {a0 a1 b0 b1 : Int} : eqPV Try.prog 31 (.agg [.int .i64 a0, .int .i64 a1]) (.agg [.int .i64 b0, .int .i64 b1]) = some ((a0 == b0) && ((a1 == b1) && true)) := by kernel_rfl
theorem bld31 {parts : List (Nat × PV)} : buildPV Try.prog 31 parts = bldX [.int .i64 0, .int .i64 0] [(0, 1), (1, 1)] parts := bldX_of zero31 Try.underlying31 (by kernel_rfl) (by kernel_rfl) parts
theorem lda32 {σ : Sg} {id off : Nat} : loadPV Try.prog σ 32 (.ptr id off) = ldA 6 σ id off := ldA_of Try.underlying32 rfl cells32
theorem ela32 {σ : Sg} {es i off : Nat} {l : List PV} : loadPV Try.prog σ 32 (.eptr es l i off) = elA 6 l i off := elA_of Try.underlying32 rfl cells32
theorem sto32 {σ : Sg} {id off : Nat} {p : PV} : storePV Try.prog σ 32 (.ptr id off) p = stX 6 σ id off p := stX_of Try.underlying32 cells32 p
theorem fa32_0 {id off : Nat} : fieldAddrPV Try.prog 32 (.ptr id off) 0 = some (.ptr id (off + 0)) := fa1_of Try.underlying32 (by rfl) (by exact Try.underlying3) (by exact cells3) (by rfl) (by rfl)
theorem fae32_0 {es i off : Nat} {l : List PV} : fieldAddrPV Try.prog 32 (.eptr es l i off) 0 = some (.eptr es l i (off + 0)) := fa2_of Try.underlying32 (by rfl) (by exact Try.underlying3) (by exact cells3) (by rfl) (by rfl)
theorem fp32_0 {cs : List PV} : fieldPV Try.prog 32 (.agg cs) 0 = cs[0]? := fpS_of Try.underlying32 (by rfl) (by exact Try.underlying3) (by rfl) (by rfl) cs
theorem fa32_1 {id off : Nat} : fieldAddrPV Try.prog 32 (.ptr id off) 1 = some (.ptr id (off + 1)) := fa1_of Try.underlying32 (by rfl) (by exact Try.underlying22) (by exact cells22) (by rfl) (by rfl)
theorem fae32_1 {es i off : Nat} {l : List PV} : fieldAddrPV Try.prog 32 (.eptr es l i off) 1 = some (.eptr es l i (off + 1)) := fa2_of Try.underlying32 (by rfl) (by exact Try.underlying22) (by exact cells22) (by rfl) (by rfl)
theorem fp32_1 {cs : List PV} : fieldPV Try.prog 32 (.agg cs) 1 = cs[1]? := fpS_of Try.underlying32 (by rfl) (by exact Try.underlying22) (by rfl) (by rfl) cs
theorem fa32_2 {id off : Nat} : fieldAddrPV Try.prog 32 (.ptr id off) 2 = some (.ptr id (off + 2)) := fa1_of Try.underlying32 (by rfl) (by exact Try.underlying31) (by exact cells31) (by rfl) (by rfl)
theorem fae32_2 {es i off : Nat} {l : List PV} : fieldAddrPV Try.prog 32 (.eptr es l i off) 2 = some (.eptr es l i (off + 2)) := fa2_of Try.underlying32 (by rfl) (by exact Try.underlying31) (by exact cells31) (by rfl) (by rfl)
theorem fp32_2 {cs : List PV} : fieldPV Try.prog 32 (.agg cs) 2 = if 2 + 2 ≤ cs.length then some (.agg ((cs.drop 2).take 2)) else none := fpA_of Try.underlying32 (by rfl) (by exact Try.underlying31) (by rfl) (by exact cells31) (by rfl) cs
theorem fa32_3 {id off : Nat} : fieldAddrPV Try.prog 32 (.ptr id off) 3 = some (.ptr id (off + 4)) := fa1_of Try.underlying32 (by rfl) (by exact Try.underlying3) (by exact cells3) (by rfl) (by rfl)
theorem fae32_3 {es i off : Nat} {l : List PV} : fieldAddrPV Try.prog 32 (.eptr es l i off) 3 = some (.eptr es l i (off + 4)) := fa2_of Try.underlying32 (by rfl) (by exact Try.underlying3) (by exact cells3) (by rfl) (by rfl)
theorem fp32_3 {cs : List PV} : fieldPV Try.prog 32 (.agg cs) 3 = cs[4]? := fpS_of Try.underlying32 (by rfl) (by exact Try.underlying3) (by rfl) (by rfl) cs
theorem fa32_4 {id off : Nat} : fieldAddrPV Try.prog 32 (.ptr id off) 4 = some (.ptr id (off + 5)) := fa1_of Try.underlying32 (by rfl) (by exact Try.underlying3) (by exact cells3) (by rfl) (by rfl)
theorem fae32_4 {es i off : Nat} {l : List PV} : fieldAddrPV Try.prog 32 (.eptr es l i off) 4 = some (.eptr es l i (off + 5)) := fa2_of Try.underlying32 (by rfl) (by exact Try.underlying3) (by exact cells3) (by rfl) (by rfl)
theorem fp32_4 {cs : List PV} : fieldPV Try.prog 32 (.agg cs) 4 = cs[5]? := fpS_of Try.underlying32 (by rfl) (by exact Try.underlying3) (by rfl) (by rfl) cs
theorem bld32 {parts : List (Nat × PV)} : buildPV Try.prog 32 parts = bldX [.int .i64 0, .isl [] .exact, .int .i64 0, .int .i64 0, .int .i64 0, .int .i64 0] [(0, 1), (1, 1), (2, 2), (4, 1), (5, 1)] parts := bldX_of zero32 Try.underlying32 (by kernel_rfl) (by kernel_rfl) parts
theorem lda33 {σ : Sg} {id off : Nat} : loadPV Try.prog σ 33 (.ptr id off) = ldA 6 σ id off := ldA_of Try.underlying33 rfl cells33
theorem ela33 {σ : Sg} {es i off : Nat} {l : List PV} : loadPV Try.prog σ 33 (.eptr es l i off) = elA 6 l i off := elA_of Try.underlying33 rfl cells33
theorem sto33 {σ : Sg} {id off : Nat} {p : PV} : storePV Try.prog σ 33 (.ptr id off) p = stX 6 σ id off p := stX_of Try.underlying33 cells33 p
theorem fa33_0 {id off : Nat} : fieldAddrPV Try.prog 33 (.ptr id off) 0 = some (.ptr id (off + 0)) := fa1_of Try.underlying33 (by rfl) (by exact Try.underlying3) (by exact cells3) (by rfl) (by rfl)
theorem fae33_0 {es i off : Nat} {l : List PV} : fieldAddrPV Try.prog 33 (.eptr es l i off) 0 = some (.eptr es l i (off + 0)) := fa2_of Try.underlying33 (by rfl) (by exact Try.underlying3) (by exact cells3) (by rfl) (by rfl)
theorem fp33_0 {cs : List PV} : fieldPV Try.prog 33 (.agg cs) 0 = cs[0]? := fpS_of Try.underlying33 (by rfl) (by exact Try.underlying3) (by rfl) (by rfl) cs
theorem fa33_1 {id off : Nat} : fieldAddrPV Try.prog 33 (.ptr id off) 1 = some (.ptr id (off + 1)) := fa1_of Try.underlying33 (by rfl) (by exact Try.underlying22) (by exact cells22) (by rfl) (by rfl)
theorem fae33_1 {es i off : Nat} {l : List PV} : fieldAddrPV Try.prog 33 (.eptr es l i off) 1 = some (.eptr es l i (off + 1)) := fa2_of Try.underlying33 (by rfl) (by exact Try.underlying22) (by exact cells22) (by rfl) (by rfl)
theorem fp33_1 {cs : List PV} : fieldPV Try.prog 33 (.agg cs) 1 = cs[1]? := fpS_of Try.underlying33 (by rfl) (by exact Try.underlying22) (by rfl) (by rfl) cs
theorem fa33_2 {id off : Nat} : fieldAddrPV Try.prog 33 (.ptr id off) 2 = some (.ptr id (off + 2)) := fa1_of Try.underlying33 (by rfl) (by exact Try.underlying31) (by exact cells31) (by rfl) (by rfl)
theorem fae33_2 {es i off : Nat} {l : List PV} : fieldAddrPV Try.prog 33 (.eptr es l i off) 2 = some (.eptr es l i (off + 2)) := fa2_of Try.underlying33 (by rfl) (by exact Try.underlying31) (by exact cells31) (by rfl) (by rfl)
theorem fp33_2 {cs : List PV} : fieldPV Try.prog 33 (.agg cs) 2 = if 2 + 2 ≤ cs.length then some (.agg ((cs.drop 2).take 2)) else none := fpA_of Try.underlying33 (by rfl) (by exact Try.underlying31) (by rfl) (by exact cells31) (by rfl) cs
theorem fa33_3 {id off : Nat} : fieldAddrPV Try.prog 33 (.ptr id off) 3 = some (.ptr id (off + 4)) := fa1_of Try.underlying33 (by rfl) (by exact Try.underlying3) (by exact cells3) (by rfl) (by rfl)
theorem fae33_3 {es i off : Nat} {l : List PV} : fieldAddrPV Try.prog 33 (.eptr es l i off) 3 = some (.eptr es l i (off + 4)) := fa2_of Try.underlying33 (by rfl) (by exact Try.underlying3) (by exact cells3) (by rfl) (by rfl)
theorem fp33_3 {cs : List PV} : fieldPV Try.prog 33 (.agg cs) 3 = cs[4]? := fpS_of Try.underlying33 (by rfl) (by exact Try.underlying3) (by rfl) (by rfl) cs
theorem fa33_4 {id off : Nat} : fieldAddrPV Try.prog 33 (.ptr id off) 4 = some (.ptr id (off + 5)) := fa1_of Try.underlying33 (by rfl) (by exact Try.underlying3) (by exact cells3) (by rfl) (by rfl)
theorem fae33_4 {es i off : Nat} {l : List PV} : fieldAddrPV Try.prog 33 (.eptr es l i off) 4 = some (.eptr es l i (off + 5)) := fa2_of Try.underlying33 (by rfl) (by exact Try.underlying3) (by exact cells3) (by rfl) (by rfl)
theorem fp33_4 {cs : List PV} : fieldPV Try.prog 33 (.agg cs) 4 = cs[5]? := fpS_of Try.underlying33 (by rfl) (by exact Try.underlying3) (by rfl) (by rfl) cs
theorem bld33 {parts : List (Nat × PV)} : buildPV Try.prog 33 parts = bldX [.int .i64 0, .isl [] .exact, .int .i64 0, .int .i64 0, .int .i64 0, .int .i64 0] [(0, 1), (1, 1), (2, 2), (4, 1), (5, 1)] parts := bldX_of zero33 Try.underlying33 (by kernel_rfl) (by kernel_rfl) parts
theorem lda37 {σ : Sg} {id off : Nat} : loadPV Try.prog σ 37 (.ptr id off) = ldS σ id off := ldS_of Try.underlying37 rfl
theorem ela37 {σ : Sg} {es i off : Nat} {l : List PV} : loadPV Try.prog σ 37 (.eptr es l i off) = elS l i off := elS_of Try.underlying37 rfl
theorem sto37 {σ : Sg} {id off : Nat} {p : PV} : storePV Try.prog σ 37 (.ptr id off) p = stX 1 σ id off p := stX_of Try.underlying37 cells37 p
theorem lda41 {σ : Sg} {id off : Nat} : loadPV Try.prog σ 41 (.ptr id off) = ldS σ id off := ldS_of Try.underlying41 rfl
theorem ela41 {σ : Sg} {es i off : Nat} {l : List PV} : loadPV Try.prog σ 41 (.eptr es l i off) = elS l i off := elS_of Try.underlying41 rfl
theorem sto41 {σ : Sg} {id off : Nat} {p : PV} : storePV Try.prog σ 41 (.ptr id off) p = stX 1 σ id off p := stX_of Try.underlying41 cells41 p
theorem ia41 {l : List PV} {own : Own} {k : IntKind} {i : Int} : indexAddrPV Try.prog 41 (.isl l own) (.int k i) = iaX 6 l i := iaX_of Try.underlying41 Try.underlying28 cells28 k i
theorem iam41 {id off len : Nat} {k : IntKind} {i : Int} : indexAddrPV Try.prog 41 (.msl id off len) (.int k i) = iaM 6 id off len i := iaM_of Try.underlying41 Try.underlying28 cells28 k len i
theorem len41 {l : List PV} {own : Own} : lenPV Try.prog 41 (.isl l own) = some (.int .i64 l.length) := len_of Try.underlying41
theorem lenm41 {id off n : Nat} : lenPV Try.prog 41 (.msl id off n) = some (.int .i64 n) := lenM_of Try.underlying41 n
theorem bs41 {len : Nat} {parts : List (Nat × PV)} : buildSlicePV Try.prog 41 len parts = bsX 6 len parts := bsX_of Try.underlying41 Try.underlying28 cells28 zero28 len parts
theorem app41 {σ : Sg} {l m : List PV} {own own' : Own} : appendPV Try.prog σ 41 41 (.isl l own) (.isl m own') = appX 6 112 σ l own m := appX_of Try.underlying41 Try.underlying28 cells28 bytes28 (by decide) (by decide) zero28 rfl
theorem lda43 {σ : Sg} {id off : Nat} : loadPV Try.prog σ 43 (.ptr id off) = ldS σ id off := ldS_of Try.underlying43 rfl
theorem ela43 {σ : Sg} {es i off : Nat} {l : List PV} : loadPV Try.prog σ 43 (.eptr es l i off) = elS l i off := elS_of Try.underlying43 rfl
theorem sto43 {σ : Sg} {id off : Nat} {p : PV} : storePV Try.prog σ 43 (.ptr id off) p = stX 1 σ id off p := stX_of Try.underlying43 cells43 p
theorem ia43 {l : List PV} {own : Own} {k : IntKind} {i : Int} : indexAddrPV Try.prog 43 (.isl l own) (.int k i) = iaX 1 l i := iaX_of Try.underlying43 Try.underlying29 cells29 k i
theorem iam43 {id off len : Nat} {k : IntKind} {i : Int} : indexAddrPV Try.prog 43 (.msl id off len) (.int k i) = iaM 1 id off len i := iaM_of Try.underlying43 Try.underlying29 cells29 k len i
theorem len43 {l : List PV} {own : Own} : lenPV Try.prog 43 (.isl l own) = some (.int .i64 l.length) := len_of Try.underlying43
theorem lenm43 {id off n : Nat} : lenPV Try.prog 43 (.msl id off n) = some (.int .i64 n) := lenM_of Try.underlying43 n
theorem bs43 {len : Nat} {parts : List (Nat × PV)} : buildSlicePV Try.prog 43 len parts = bsX 1 len parts := bsX_of Try.underlying43 Try.underlying29 cells29 zero29 len parts
theorem app43 {σ : Sg} {l m : List PV} {own own' : Own} : appendPV Try.prog σ 43 43 (.isl l own) (.isl m own') = appX 1 24 σ l own m := appX_of Try.underlying43 Try.underlying29 cells29 bytes29 (by decide) (by decide) zero29 rfl
theorem lda46 {σ : Sg} {id off : Nat} : loadPV Try.prog σ 46 (.ptr id off) = ldS σ id off := ldS_of Try.underlying46 rfl
theorem ela46 {σ : Sg} {es i off : Nat} {l : List PV} : loadPV Try.prog σ 46 (.eptr es l i off) = elS l i off := elS_of Try.underlying46 rfl
theorem sto46 {σ : Sg} {id off : Nat} {p : PV} : storePV Try.prog σ 46 (.ptr id off) p = stX 1 σ id off p := stX_of Try.underlying46 cells46 p
theorem lda54 {σ : Sg} {id off : Nat} : loadPV Try.prog σ 54 (.ptr id off) = ldS σ id off := ldS_of Try.underlying54 rfl
theorem ela54 {σ : Sg} {es i off : Nat} {l : List PV} : loadPV Try.prog σ 54 (.eptr es l i off) = elS l i off := elS_of Try.underlying54 rfl
theorem sto54 {σ : Sg} {id off : Nat} {p : PV} : storePV Try.prog σ 54 (.ptr id off) p = stX 1 σ id off p := stX_of Try.underlying54 cells54 p
theorem ia54 {l : List PV} {own : Own} {k : IntKind} {i : Int} : indexAddrPV Try.prog 54 (.isl l own) (.int k i) = iaX 1 l i := iaX_of Try.underlying54 Try.underlying46 cells46 k i
theorem iam54 {id off len : Nat} {k : IntKind} {i : Int} : indexAddrPV Try.prog 54 (.msl id off len) (.int k i) = iaM 1 id off len i := iaM_of Try.underlying54 Try.underlying46 cells46 k len i
theorem len54 {l : List PV} {own : Own} : lenPV Try.prog 54 (.isl l own) = some (.int .i64 l.length) := len_of Try.underlying54
theorem lenm54 {id off n : Nat} : lenPV Try.prog 54 (.msl id off n) = some (.int .i64 n) := lenM_of Try.underlying54 n
theorem bs54 {len : Nat} {parts : List (Nat × PV)} : buildSlicePV Try.prog 54 len parts = bsX 1 len parts := bsX_of Try.underlying54 Try.underlying46 cells46 zero46 len parts
theorem app54 {σ : Sg} {l m : List PV} {own own' : Own} : appendPV Try.prog σ 54 54 (.isl l own) (.isl m own') = appX 1 8 σ l own m := appX_of Try.underlying54 Try.underlying46 cells46 bytes46 (by decide) (by decide) zero46 rfl
theorem lda71 {σ : Sg} {id off : Nat} : loadPV Try.prog σ 71 (.ptr id off) = ldS σ id off := ldS_of Try.underlying71 rfl
theorem ela71 {σ : Sg} {es i off : Nat} {l : List PV} : loadPV Try.prog σ 71 (.eptr es l i off) = elS l i off := elS_of Try.underlying71 rfl
theorem sto71 {σ : Sg} {id off : Nat} {p : PV} : storePV Try.prog σ 71 (.ptr id off) p = stX 1 σ id off p := stX_of Try.underlying71 cells71 p
theorem ia71 {l : List PV} {own : Own} {k : IntKind} {i : Int} : indexAddrPV Try.prog 71 (.isl l own) (.int k i) = iaX 1 l i := iaX_of Try.underlying71 Try.underlying22 cells22 k i
theorem iam71 {id off len : Nat} {k : IntKind} {i : Int} : indexAddrPV Try.prog 71 (.msl id off len) (.int k i) = iaM 1 id off len i := iaM_of Try.underlying71 Try.underlying22 cells22 k len i
theorem len71 {l : List PV} {own : Own} : lenPV Try.prog 71 (.isl l own) = some (.int .i64 l.length) := len_of Try.underlying71
theorem lenm71 {id off n : Nat} : lenPV Try.prog 71 (.msl id off n) = some (.int .i64 n) := lenM_of Try.underlying71 n
theorem bs71 {len : Nat} {parts : List (Nat × PV)} : buildSlicePV Try.prog 71 len parts = bsX 1 len parts := bsX_of Try.underlying71 Try.underlying22 cells22 zero22 len parts
theorem app71 {σ : Sg} {l m : List PV} {own own' : Own} : appendPV Try.prog σ 71 71 (.isl l own) (.isl m own') = appX 1 24 σ l own m := appX_of Try.underlying71 Try.underlying22 cells22 bytes22 (by decide) (by decide) zero22 rfl
theorem lda75 {σ : Sg} {id off : Nat} : loadPV Try.prog σ 75 (.ptr id off) = ldA 2 σ id off := ldA_of Try.underlying75 rfl cells75
theorem ela75 {σ : Sg} {es i off : Nat} {l : List PV} : loadPV Try.prog σ 75 (.eptr es l i off) = elA 2 l i off := elA_of Try.underlying75 rfl cells75
theorem sto75 {σ : Sg} {id off : Nat} {p : PV} : storePV Try.prog σ 75 (.ptr id off) p = stX 2 σ id off p := stX_of Try.underlying75 cells75 p
theorem fa75_0 {id off : Nat} : fieldAddrPV Try.prog 75 (.ptr id off) 0 = some (.ptr id (off + 0)) := fa1_of Try.underlying75 (by rfl) (by exact Try.underlying3) (by exact cells3) (by rfl) (by rfl)
theorem fae75_0 {es i off : Nat} {l : List PV} : fieldAddrPV Try.prog 75 (.eptr es l i off) 0 = some (.eptr es l i (off + 0)) := fa2_of Try.underlying75 (by rfl) (by exact Try.underlying3) (by exact cells3) (by rfl) (by rfl)
theorem fp75_0 {cs : List PV} : fieldPV Try.prog 75 (.agg cs) 0 = cs[0]? := fpS_of Try.underlying75 (by rfl) (by exact Try.underlying3) (by rfl) (by rfl) cs
theorem fa75_1 {id off : Nat} : fieldAddrPV Try.prog 75 (.ptr id off) 1 = some (.ptr id (off + 1)) := fa1_of Try.underlying75 (by rfl) (by exact Try.underlying3) (by exact cells3) (by rfl) (by rfl)
theorem fae75_1 {es i off : Nat} {l : List PV} : fieldAddrPV Try.prog 75 (.eptr es l i off) 1 = some (.eptr es l i (off + 1)) := fa2_of Try.underlying75 (by rfl) (by exact Try.underlying3) (by exact cells3) (by rfl) (by rfl)
theorem fp75_1 {cs : List PV} : fieldPV Try.prog 75 (.agg cs) 1 = cs[1]? := fpS_of Try.underlying75 (by rfl) (by exact Try.underlying3) (by rfl) (by rfl) cs
theorem eqs75 {a0 a1 b0 b1 : Int} : eqPV Try.prog 75 (.agg [.int .i64 a0, .int .i64 a1]) (.agg [.int .i64 b0, .int .i64 b1]) = some ((a0 == b0) && ((a1 == b1) && true)) := by kernel_rfl
theorem bld75 {parts : List (Nat × PV)} : buildPV Try.prog 75 parts = bldX [.int .i64 0, .int .i64 0] [(0, 1), (1, 1)] parts := bldX_of zero75 Try.underlying75 (by kernel_rfl) (by kernel_rfl) parts
theorem lda76 {σ : Sg} {id off : Nat} : loadPV Try.prog σ 76 (.ptr id off) = ldA 2 σ id off := ldA_of Try.underlying76 rfl cells76
theorem ela76 {σ : Sg} {es i off : Nat} {l : List PV} : loadPV Try.prog σ 76 (.eptr es l i off) = elA 2 l i off := elA_of Try.underlying76 rfl cells76
theorem sto76 {σ : Sg} {id off : Nat} {p : PV} : storePV Try.prog σ 76 (.ptr id off) p = stX 2 σ id off p := stX_of Try.underlying76 cells76 p
theorem fa76_0 {id off : Nat} : fieldAddrPV Try.prog 76 (.ptr id off) 0 = some (.ptr id (off + 0)) := fa1_of Try.underlying76 (by rfl) (by exact Try.underlying3) (by exact cells3) (by rfl) (by rfl)
theorem fae76_0 {es i off : Nat} {l : List PV} : fieldAddrPV Try.prog 76 (.eptr es l i off) 0 = some (.eptr es l i (off + 0)) := fa2_of Try.underlying76 (by rfl) (by exact Try.underlying3) (by exact cells3) (by rfl) (by rfl)
theorem fp76_0 {cs : List PV} : fieldPV Try.prog 76 (.agg cs) 0 = cs[0]? := fpS_of Try.underlying76 (by rfl) (by exact Try.underlying3) (by rfl) (by rfl) cs
theorem fa76_1 {id off : Nat} : fieldAddrPV Try.prog 76 (.ptr id off) 1 = some (.ptr id (off + 1)) := fa1_of Try.underlying76 (by rfl) (by exact Try.underlying3) (by exact cells3) (by rfl) (by rfl)
theorem fae76_1 {es i off : Nat} {l : List PV} : fieldAddrPV Try.prog 76 (.eptr es l i off) 1 = some (.eptr es l i (off + 1)) := fa2_of Try.underlying76 (by rfl) (by exact Try.underlying3) (by exact cells3) (by rfl) (by rfl)
theorem fp76_1 {cs : List PV} : fieldPV Try.prog 76 (.agg cs) 1 = cs[1]? := fpS_of Try.underlying76 (by rfl) (by exact Try.underlying3) (by rfl) (by rfl) cs
theorem eqs76 {a0 a1 b0 b1 : Int} : eqPV Try.prog 76 (.agg [.int .i64 a0, .int .i64 a1]) (.agg [.int .i64 b0, .int .i64 b1]) = some ((a0 == b0) && ((a1 == b1) && true)) := by kernel_rfl
theorem bld76 {parts : List (Nat × PV)} : buildPV Try.prog 76 parts = bldX [.int .i64 0, .int .i64 0] [(0, 1), (1, 1)] parts := bldX_of zero76 Try.underlying76 (by kernel_rfl) (by kernel_rfl) parts
theorem lda85 {σ : Sg} {id off : Nat} : loadPV Try.prog σ 85 (.ptr id off) = ldA 7 σ id off := ldA_of Try.underlying85 rfl cells85
theorem ela85 {σ : Sg} {es i off : Nat} {l : List PV} : loadPV Try.prog σ 85 (.eptr es l i off) = elA 7 l i off := elA_of Try.underlying85 rfl cells85
theorem sto85 {σ : Sg} {id off : Nat} {p : PV} : storePV Try.prog σ 85 (.ptr id off) p = stX 7 σ id off p := stX_of Try.underlying85 cells85 p
theorem fa85_0 {id off : Nat} : fieldAddrPV Try.prog 85 (.ptr id off) 0 = some (.ptr id (off + 0)) := fa1_of Try.underlying85 (by rfl) (by exact Try.underlying31) (by exact cells31) (by rfl) (by rfl)
theorem fae85_0 {es i off : Nat} {l : List PV} : fieldAddrPV Try.prog 85 (.eptr es l i off) 0 = some (.eptr es l i (off + 0)) := fa2_of Try.underlying85 (by rfl) (by exact Try.underlying31) (by exact cells31) (by rfl) (by rfl)
theorem fp85_0 {cs : List PV} : fieldPV Try.prog 85 (.agg cs) 0 = if 0 + 2 ≤ cs.length then some (.agg ((cs.drop 0).take 2)) else none := fpA_of Try.underlying85 (by rfl) (by exact Try.underlying31) (by rfl) (by exact cells31) (by rfl) cs
theorem fa85_1 {id off : Nat} : fieldAddrPV Try.prog 85 (.ptr id off) 1 = some (.ptr id (off + 2)) := fa1_of Try.underlying85 (by rfl) (by exact Try.underlying31) (by exact cells31) (by rfl) (by rfl)
theorem fae85_1 {es i off : Nat} {l : List PV} : fieldAddrPV Try.prog 85 (.eptr es l i off) 1 = some (.eptr es l i (off + 2)) := fa2_of Try.underlying85 (by rfl) (by exact Try.underlying31) (by exact cells31) (by rfl) (by rfl)
theorem fp85_1 {cs : List PV} : fieldPV Try.prog 85 (.agg cs) 1 = if 2 + 2 ≤ cs.length then some (.agg ((cs.drop 2).take 2)) else none := fpA_of Try.underlying85 (by rfl) (by exact Try.underlying31) (by rfl) (by exact cells31) (by rfl) cs
theorem fa85_2 {id off : Nat} : fieldAddrPV Try.prog 85 (.ptr id off) 2 = some (.ptr id (off + 4)) := fa1_of Try.underlying85 (by rfl) (by exact Try.underlying3) (by exact cells3) (by rfl) (by rfl)
theorem fae85_2 {es i off : Nat} {l : List PV} : fieldAddrPV Try.prog 85 (.eptr es l i off) 2 = some (.eptr es l i (off + 4)) := fa2_of Try.underlying85 (by rfl) (by exact Try.underlying3) (by exact cells3) (by rfl) (by rfl)
theorem fp85_2 {cs : List PV} : fieldPV Try.prog 85 (.agg cs) 2 = cs[4]? := fpS_of Try.underlying85 (by rfl) (by exact Try.underlying3) (by rfl) (by rfl) cs
theorem fa85_3 {id off : Nat} : fieldAddrPV Try.prog 85 (.ptr id off) 3 = some (.ptr id (off + 5)) := fa1_of Try.underlying85 (by rfl) (by exact Try.underlying3) (by exact cells3) (by rfl) (by rfl)
theorem fae85_3 {es i off : Nat} {l : List PV} : fieldAddrPV Try.prog 85 (.eptr es l i off) 3 = some (.eptr es l i (off + 5)) := fa2_of Try.underlying85 (by rfl) (by exact Try.underlying3) (by exact cells3) (by rfl) (by rfl)
theorem fp85_3 {cs : List PV} : fieldPV Try.prog 85 (.agg cs) 3 = cs[5]? := fpS_of Try.underlying85 (by rfl) (by exact Try.underlying3) (by rfl) (by rfl) cs
theorem fa85_4 {id off : Nat} : fieldAddrPV Try.prog 85 (.ptr id off) 4 = some (.ptr id (off + 6)) := fa1_of Try.underlying85 (by rfl) (by exact Try.underlying22) (by exact cells22) (by rfl) (by rfl)
theorem fae85_4 {es i off : Nat} {l : List PV} : fieldAddrPV Try.prog 85 (.eptr es l i off) 4 = some (.eptr es l i (off + 6)) := fa2_of Try.underlying85 (by rfl) (by exact Try.underlying22) (by exact cells22) (by rfl) (by rfl)
theorem fp85_4 {cs : List PV} : fieldPV Try.prog 85 (.agg cs) 4 = cs[6]? := fpS_of Try.underlying85 (by rfl) (by exact Try.underlying22) (by rfl) (by rfl) cs
theorem bld85 {parts : List (Nat × PV)} : buildPV Try.prog 85 parts = bldX [.int .i64 0, .int .i64 0, .int .i64 0, .int .i64 0, .int .i64 0, .int .i64 0, .isl [] .exact] [(0, 2), (2, 2), (4, 1), (5, 1), (6, 1)] parts := bldX_of zero85 Try.underlying85 (by kernel_rfl) (by kernel_rfl) parts
theorem lda86 {σ : Sg} {id off : Nat} : loadPV Try.prog σ 86 (.ptr id off) = ldA 7 σ id off := ldA_of Try.underlying86 rfl cells86
theorem ela86 {σ : Sg} {es i off : Nat} {l : List PV} : loadPV Try.prog σ 86 (.eptr es l i off) = elA 7 l i off := elA_of Try.underlying86 rfl cells86
theorem sto86 {σ : Sg} {id off : Nat} {p : PV} : storePV Try.prog σ 86 (.ptr id off) p = stX 7 σ id off p := stX_of Try.underlying86 cells86 p
theorem fa86_0 {id off : Nat} : fieldAddrPV Try.prog 86 (.ptr id off) 0 = some (.ptr id (off + 0)) := fa1_of Try.underlying86 (by rfl) (by exact Try.underlying31) (by exact cells31) (by rfl) (by rfl)
theorem fae86_0 {es i off : Nat} {l : List PV} : fieldAddrPV Try.prog 86 (.eptr es l i off) 0 = some (.eptr es l i (off + 0)) := fa2_of Try.underlying86 (by rfl) (by exact Try.underlying31) (by exact cells31) (by rfl) (by rfl)
theorem fp86_0 {cs : List PV} : fieldPV Try.prog 86 (.agg cs) 0 = if 0 + 2 ≤ cs.length then some (.agg ((cs.drop 0).take 2)) else none := fpA_of Try.underlying86 (by rfl) (by exact Try.underlying31) (by rfl) (by exact cells31) (by rfl) cs
theorem fa86_1 {id off : Nat} : fieldAddrPV Try.prog 86 (.ptr id off) 1 = some (.ptr id (off + 2)) := fa1_of Try.underlying86 (by rfl) (by exact Try.underlying31) (by exact cells31) (by rfl) (by rfl)
theorem fae86_1 {es i off : Nat} {l : List PV} : fieldAddrPV Try.prog 86 (.eptr es l i off) 1 = some (.eptr es l i (off + 2)) := fa2_of Try.underlying86 (by rfl) (by exact Try.underlying31) (by exact cells31) (by rfl) (by rfl)
theorem fp86_1 {cs : List PV} : fieldPV Try.prog 86 (.agg cs) 1 = if 2 + 2 ≤ cs.length then some (.agg ((cs.drop 2).take 2)) else none := fpA_of Try.underlying86 (by rfl) (by exact Try.underlying31) (by rfl) (by exact cells31) (by rfl) cs
theorem fa86_2 {id off : Nat} : fieldAddrPV Try.prog 86 (.ptr id off) 2 = some (.ptr id (off + 4)) := fa1_of Try.underlying86 (by rfl) (by exact Try.underlying3) (by exact cells3) (by rfl) (by rfl)
theorem fae86_2 {es i off : Nat} {l : List PV} : fieldAddrPV Try.prog 86 (.eptr es l i off) 2 = some (.eptr es l i (off + 4)) := fa2_of Try.underlying86 (by rfl) (by exact Try.underlying3) (by exact cells3) (by rfl) (by rfl)
theorem fp86_2 {cs : List PV} : fieldPV Try.prog 86 (.agg cs) 2 = cs[4]? := fpS_of Try.underlying86 (by rfl) (by exact Try.underlying3) (by rfl) (by rfl) cs
theorem fa86_3 {id off : Nat} : fieldAddrPV Try.prog 86 (.ptr id off) 3 = some (.ptr id (off + 5)) := fa1_of Try.underlying86 (by rfl) (by exact Try.underlying3) (by exact cells3) (by rfl) (by rfl)
theorem fae86_3 {es i off : Nat} {l : List PV} : fieldAddrPV Try.prog 86 (.eptr es l i off) 3 = some (.eptr es l i (off + 5)) := fa2_of Try.underlying86 (by rfl) (by exact Try.underlying3) (by exact cells3) (by rfl) (by rfl)
theorem fp86_3 {cs : List PV} : fieldPV Try.prog 86 (.agg cs) 3 = cs[5]? := fpS_of Try.underlying86 (by rfl) (by exact Try.underlying3) (by rfl) (by rfl) cs
theorem fa86_4 {id off : Nat} : fieldAddrPV Try.prog 86 (.ptr id off) 4 = some (.ptr id (off + 6)) := fa1_of Try.underlying86 (by rfl) (by exact Try.underlying22) (by exact cells22) (by rfl) (by rfl)
theorem fae86_4 {es i off : Nat} {l : List PV} : fieldAddrPV Try.prog 86 (.eptr es l i off) 4 = some (.eptr es l i (off + 6)) := fa2_of Try.underlying86 (by rfl) (by exact Try.underlying22) (by exact cells22) (by rfl) (by rfl)
theorem fp86_4 {cs : List PV} : fieldPV Try.prog 86 (.agg cs) 4 = cs[6]? := fpS_of Try.underlying86 (by rfl) (by exact Try.underlying22) (by rfl) (by rfl) cs
theorem bld86 {parts : List (Nat × PV)} : buildPV Try.prog 86 parts = bldX [.int .i64 0, .int .i64 0, .int .i64 0, .int .i64 0, .int .i64 0, .int .i64 0, .isl [] .exact] [(0, 2), (2, 2), (4, 1), (5, 1), (6, 1)] parts := bldX_of zero86 Try.underlying86 (by kernel_rfl) (by kernel_rfl) parts
theorem lda90 {σ : Sg} {id off : Nat} : loadPV Try.prog σ 90 (.ptr id off) = ldS σ id off := ldS_of Try.underlying90 rfl
theorem ela90 {σ : Sg} {es i off : Nat} {l : List PV} : loadPV Try.prog σ 90 (.eptr es l i off) = elS l i off := elS_of Try.underlying90 rfl
theorem sto90 {σ : Sg} {id off : Nat} {p : PV} : storePV Try.prog σ 90 (.ptr id off) p = stX 1 σ id off p := stX_of Try.underlying90 cells90 p
theorem lda91 {σ : Sg} {id off : Nat} : loadPV Try.prog σ 91 (.ptr id off) = ldA 1 σ id off := ldA_of Try.underlying91 rfl cells91
theorem ela91 {σ : Sg} {es i off : Nat} {l : List PV} : loadPV Try.prog σ 91 (.eptr es l i off) = elA 1 l i off := elA_of Try.underlying91 rfl cells91
theorem sto91 {σ : Sg} {id off : Nat} {p : PV} : storePV Try.prog σ 91 (.ptr id off) p = stX 1 σ id off p := stX_of Try.underlying91 cells91 p
theorem fa91_0 {id off : Nat} : fieldAddrPV Try.prog 91 (.ptr id off) 0 = some (.ptr id (off + 0)) := fa1_of Try.underlying91 (by rfl) (by exact Try.underlying90) (by exact cells90) (by rfl) (by rfl)
theorem fae91_0 {es i off : Nat} {l : List PV} : fieldAddrPV Try.prog 91 (.eptr es l i off) 0 = some (.eptr es l i (off + 0)) := fa2_of Try.underlying91 (by rfl) (by exact Try.underlying90) (by exact cells90) (by rfl) (by rfl)
theorem fp91_0 {cs : List PV} : fieldPV Try.prog 91 (.agg cs) 0 = cs[0]? := fpS_of Try.underlying91 (by rfl) (by exact Try.underlying90) (by rfl) (by rfl) cs
theorem eqs91 {a0 b0 : Int} : eqPV Try.prog 91 (.agg [.int .u64 a0]) (.agg [.int .u64 b0]) = some ((a0 == b0) && true) := by kernel_rfl
theorem bld91 {parts : List (Nat × PV)} : buildPV Try.prog 91 parts = bldX [.int .u64 0] [(0, 1)] parts := bldX_of zero91 Try.underlying91 (by kernel_rfl) (by kernel_rfl) parts
theorem lda92 {σ : Sg} {id off : Nat} : loadPV Try.prog σ 92 (.ptr id off) = ldA 1 σ id off := ldA_of Try.underlying92 rfl cells92
theorem ela92 {σ : Sg} {es i off : Nat} {l : List PV} : loadPV Try.prog σ 92 (.eptr es l i off) = elA 1 l i off := elA_of Try.underlying92 rfl cells92
theorem sto92 {σ : Sg} {id off : Nat} {p : PV} : storePV Try.prog σ 92 (.ptr id off) p = stX 1 σ id off p := stX_of Try.underlying92 cells92 p
theorem fa92_0 {id off : Nat} : fieldAddrPV Try.prog 92 (.ptr id off) 0 = some (.ptr id (off + 0)) := fa1_of Try.underlying92 (by rfl) (by exact Try.underlying90) (by exact cells90) (by rfl) (by rfl)
theorem fae92_0 {es i off : Nat} {l : List PV} : fieldAddrPV Try.prog 92 (.eptr es l i off) 0 = some (.eptr es l i (off + 0)) := fa2_of Try.underlying92 (by rfl) (by exact Try.underlying90) (by exact cells90) (by rfl) (by rfl)
theorem fp92_0 {cs : List PV} : fieldPV Try.prog 92 (.agg cs) 0 = cs[0]? := fpS_of Try.underlying92 (by rfl) (by exact Try.underlying90) (by rfl) (by rfl) cs
theorem eqs92 {a0 b0 : Int} : eqPV Try.prog 92 (.agg [.int .u64 a0]) (.agg [.int .u64 b0]) = some ((a0 == b0) && true) := by kernel_rfl
theorem bld92 {parts : List (Nat × PV)} : buildPV Try.prog 92 parts = bldX [.int .u64 0] [(0, 1)] parts := bldX_of zero92 Try.underlying92 (by kernel_rfl) (by kernel_rfl) parts
theorem lda97 {σ : Sg} {id off : Nat} : loadPV Try.prog σ 97 (.ptr id off) = ldS σ id off := ldS_of Try.underlying97 rfl
theorem ela97 {σ : Sg} {es i off : Nat} {l : List PV} : loadPV Try.prog σ 97 (.eptr es l i off) = elS l i off := elS_of Try.underlying97 rfl
theorem sto97 {σ : Sg} {id off : Nat} {p : PV} : storePV Try.prog σ 97 (.ptr id off) p = stX 1 σ id off p := stX_of Try.underlying97 cells97 p
theorem lda105 {σ : Sg} {id off : Nat} : loadPV Try.prog σ 105 (.ptr id off) = ldA 13 σ id off := ldA_of Try.underlying105 rfl cells105
theorem ela105 {σ : Sg} {es i off : Nat} {l : List PV} : loadPV Try.prog σ 105 (.eptr es l i off) = elA 13 l i off := elA_of Try.underlying105 rfl cells105
theorem sto105 {σ : Sg} {id off : Nat} {p : PV} : storePV Try.prog σ 105 (.ptr id off) p = stX 13 σ id off p := stX_of Try.underlying105 cells105 p
theorem fa105_0 {id off : Nat} : fieldAddrPV Try.prog 105 (.ptr id off) 0 = some (.ptr id (off + 0)) := fa1_of Try.underlying105 (by rfl) (by exact Try.underlying28) (by exact cells28) (by rfl) (by rfl)
theorem fae105_0 {es i off : Nat} {l : List PV} : fieldAddrPV Try.prog 105 (.eptr es l i off) 0 = some (.eptr es l i (off + 0)) := fa2_of Try.underlying105 (by rfl) (by exact Try.underlying28) (by exact cells28) (by rfl) (by rfl)
theorem fp105_0 {cs : List PV} : fieldPV Try.prog 105 (.agg cs) 0 = if 0 + 6 ≤ cs.length then some (.agg ((cs.drop 0).take 6)) else none := fpA_of Try.underlying105 (by rfl) (by exact Try.underlying28) (by rfl) (by exact cells28) (by rfl) cs
theorem fa105_1 {id off : Nat} : fieldAddrPV Try.prog 105 (.ptr id off) 1 = some (.ptr id (off + 6)) := fa1_of Try.underlying105 (by rfl) (by exact Try.underlying29) (by exact cells29) (by rfl) (by rfl)
theorem fae105_1 {es i off : Nat} {l : List PV} : fieldAddrPV Try.prog 105 (.eptr es l i off) 1 = some (.eptr es l i (off + 6)) := fa2_of Try.underlying105 (by rfl) (by exact Try.underlying29) (by exact cells29) (by rfl) (by rfl)
theorem fp105_1 {cs : List PV} : fieldPV Try.prog 105 (.agg cs) 1 = cs[6]? := fpS_of Try.underlying105 (by rfl) (by exact Try.underlying29) (by rfl) (by rfl) cs
theorem fa105_2 {id off : Nat} : fieldAddrPV Try.prog 105 (.ptr id off) 2 = some (.ptr id (off + 7)) := fa1_of Try.underlying105 (by rfl) (by exact Try.underlying33) (by exact cells33) (by rfl) (by rfl)
theorem fae105_2 {es i off : Nat} {l : List PV} : fieldAddrPV Try.prog 105 (.eptr es l i off) 2 = some (.eptr es l i (off + 7)) := fa2_of Try.underlying105 (by rfl) (by exact Try.underlying33) (by exact cells33) (by rfl) (by rfl)
theorem fp105_2 {cs : List PV} : fieldPV Try.prog 105 (.agg cs) 2 = if 7 + 6 ≤ cs.length then some (.agg ((cs.drop 7).take 6)) else none := fpA_of Try.underlying105 (by rfl) (by exact Try.underlying33) (by rfl) (by exact cells33) (by rfl) cs
theorem bld105 {parts : List (Nat × PV)} : buildPV Try.prog 105 parts = bldX [.isl [] .exact, .isl [] .exact, .isl [] .exact, .int .i64 0, .int .i64 0, .isl [] .exact, .isl [] .exact, .int .i64 0, .isl [] .exact, .int .i64 0, .int .i64 0, .int .i64 0, .int .i64 0] [(0, 6), (6, 1), (7, 6)] parts := bldX_of zero105 Try.underlying105 (by kernel_rfl) (by kernel_rfl) parts
theorem lda106 {σ : Sg} {id off : Nat} : loadPV Try.prog σ 106 (.ptr id off) = ldA 13 σ id off := ldA_of Try.underlying106 rfl cells106
theorem ela106 {σ : Sg} {es i off : Nat} {l : List PV} : loadPV Try.prog σ 106 (.eptr es l i off) = elA 13 l i off := elA_of Try.underlying106 rfl cells106
theorem sto106 {σ : Sg} {id off : Nat} {p : PV} : storePV Try.prog σ 106 (.ptr id off) p = stX 13 σ id off p := stX_of Try.underlying106 cells106 p
theorem fa106_0 {id off : Nat} : fieldAddrPV Try.prog 106 (.ptr id off) 0 = some (.ptr id (off + 0)) := fa1_of Try.underlying106 (by rfl) (by exact Try.underlying28) (by exact cells28) (by rfl) (by rfl)
theorem fae106_0 {es i off : Nat} {l : List PV} : fieldAddrPV Try.prog 106 (.eptr es l i off) 0 = some (.eptr es l i (off + 0)) := fa2_of Try.underlying106 (by rfl) (by exact Try.underlying28) (by exact cells28) (by rfl) (by rfl)
theorem fp106_0 {cs : List PV} : fieldPV Try.prog 106 (.agg cs) 0 = if 0 + 6 ≤ cs.length then some (.agg ((cs.drop 0).take 6)) else none := fpA_of Try.underlying106 (by rfl) (by exact Try.underlying28) (by rfl) (by exact cells28) (by rfl) cs
theorem fa106_1 {id off : Nat} : fieldAddrPV Try.prog 106 (.ptr id off) 1 = some (.ptr id (off + 6)) := fa1_of Try.underlying106 (by rfl) (by exact Try.underlying29) (by exact cells29) (by rfl) (by rfl)
theorem fae106_1 {es i off : Nat} {l : List PV} : fieldAddrPV Try.prog 106 (.eptr es l i off) 1 = some (.eptr es l i (off + 6)) := fa2_of Try.underlying106 (by rfl) (by exact Try.underlying29) (by exact cells29) (by rfl) (by rfl)
theorem fp106_1 {cs : List PV} : fieldPV Try.prog 106 (.agg cs) 1 = cs[6]? := fpS_of Try.underlying106 (by rfl) (by exact Try.underlying29) (by rfl) (by rfl) cs
theorem fa106_2 {id off : Nat} : fieldAddrPV Try.prog 106 (.ptr id off) 2 = some (.ptr id (off + 7)) := fa1_of Try.underlying106 (by rfl) (by exact Try.underlying33) (by exact cells33) (by rfl) (by rfl)
theorem fae106_2 {es i off : Nat} {l : List PV} : fieldAddrPV Try.prog 106 (.eptr es l i off) 2 = some (.eptr es l i (off + 7)) := fa2_of Try.underlying106 (by rfl) (by exact Try.underlying33) (by exact cells33) (by rfl) (by rfl)
theorem fp106_2 {cs : List PV} : fieldPV Try.prog 106 (.agg cs) 2 = if 7 + 6 ≤ cs.length then some (.agg ((cs.drop 7).take 6)) else none := fpA_of Try.underlying106 (by rfl) (by exact Try.underlying33) (by rfl) (by exact cells33) (by rfl) cs
theorem bld106 {parts : List (Nat × PV)} : buildPV Try.prog 106 parts = bldX [.isl [] .exact, .isl [] .exact, .isl [] .exact, .int .i64 0, .int .i64 0, .isl [] .exact, .isl [] .exact, .int .i64 0, .isl [] .exact, .int .i64 0, .int .i64 0, .int .i64 0, .int .i64 0] [(0, 6), (6, 1), (7, 6)] parts := bldX_of zero106 Try.underlying106 (by kernel_rfl) (by kernel_rfl) parts
theorem lda107 {σ : Sg} {id off : Nat} : loadPV Try.prog σ 107 (.ptr id off) = ldS σ id off := ldS_of Try.underlying107 rfl
theorem ela107 {σ : Sg} {es i off : Nat} {l : List PV} : loadPV Try.prog σ 107 (.eptr es l i off) = elS l i off := elS_of Try.underlying107 rfl
theorem sto107 {σ : Sg} {id off : Nat} {p : PV} : storePV Try.prog σ 107 (.ptr id off) p = stX 1 σ id off p := stX_of Try.underlying107 cells107 p
theorem lda109 {σ : Sg} {id off : Nat} : loadPV Try.prog σ 109 (.ptr id off) = ldS σ id off := ldS_of Try.underlying109 rfl
theorem ela109 {σ : Sg} {es i off : Nat} {l : List PV} : loadPV Try.prog σ 109 (.eptr es l i off) = elS l i off := elS_of Try.underlying109 rfl
theorem sto109 {σ : Sg} {id off : Nat} {p : PV} : storePV Try.prog σ 109 (.ptr id off) p = stX 1 σ id off p := stX_of Try.underlying109 cells109 p
theorem lda114 {σ : Sg} {id off : Nat} : loadPV Try.prog σ 114 (.ptr id off) = ldS σ id off := ldS_of Try.underlying114 rfl
theorem ela114 {σ : Sg} {es i off : Nat} {l : List PV} : loadPV Try.prog σ 114 (.eptr es l i off) = elS l i off := elS_of Try.underlying114 rfl
theorem sto114 {σ : Sg} {id off : Nat} {p : PV} : storePV Try.prog σ 114 (.ptr id off) p = stX 1 σ id off p := stX_of Try.underlying114 cells114 p
theorem lda117 {σ : Sg} {id off : Nat} : loadPV Try.prog σ 117 (.ptr id off) = ldS σ id off := ldS_of Try.underlying117 rfl
theorem ela117 {σ : Sg} {es i off : Nat} {l : List PV} : loadPV Try.prog σ 117 (.eptr es l i off) = elS l i off := elS_of Try.underlying117 rfl
theorem sto117 {σ : Sg} {id off : Nat} {p : PV} : storePV Try.prog σ 117 (.ptr id off) p = stX 1 σ id off p := stX_of Try.underlying117 cells117 p
theorem ia117 {l : List PV} {own : Own} {k : IntKind} {i : Int} : indexAddrPV Try.prog 117 (.isl l own) (.int k i) = iaX 3 l i := iaX_of Try.underlying117 Try.underlying119 cells119 k i
theorem iam117 {id off len : Nat} {k : IntKind} {i : Int} : indexAddrPV Try.prog 117 (.msl id off len) (.int k i) = iaM 3 id off len i := iaM_of Try.underlying117 Try.underlying119 cells119 k len i
theorem len117 {l : List PV} {own : Own} : lenPV Try.prog 117 (.isl l own) = some (.int .i64 l.length) := len_of Try.underlying117
theorem lenm117 {id off n : Nat} : lenPV Try.prog 117 (.msl id off n) = some (.int .i64 n) := lenM_of Try.underlying117 n
theorem bs117 {len : Nat} {parts : List (Nat × PV)} : buildSlicePV Try.prog 117 len parts = bsX 3 len parts := bsX_of Try.underlying117 Try.underlying119 cells119 zero119 len parts
theorem app117 {σ : Sg} {l m : List PV} {own own' : Own} : appendPV Try.prog σ 117 117 (.isl l own) (.isl m own') = appX 3 24 σ l own m := appX_of Try.underlying117 Try.underlying119 cells119 bytes119 (by decide) (by decide) zero119 rfl
theorem lda118 {σ : Sg} {id off : Nat} : loadPV Try.prog σ 118 (.ptr id off) = ldA 3 σ id off := ldA_of Try.underlying118 rfl cells118
theorem ela118 {σ : Sg} {es i off : Nat} {l : List PV} : loadPV Try.prog σ 118 (.eptr es l i off) = elA 3 l i off := elA_of Try.underlying118 rfl cells118
theorem sto118 {σ : Sg} {id off : Nat} {p : PV} : storePV Try.prog σ 118 (.ptr id off) p = stX 3 σ id off p := stX_of Try.underlying118 cells118 p
theorem fa118_0 {id off : Nat} : fieldAddrPV Try.prog 118 (.ptr id off) 0 = some (.ptr id (off + 0)) := fa1_of Try.underlying118 (by rfl) (by exact Try.underlying31) (by exact cells31) (by rfl) (by rfl)
theorem fae118_0 {es i off : Nat} {l : List PV} : fieldAddrPV Try.prog 118 (.eptr es l i off) 0 = some (.eptr es l i (off + 0)) := fa2_of Try.underlying118 (by rfl) (by exact Try.underlying31) (by exact cells31) (by rfl) (by rfl)
theorem fp118_0 {cs : List PV} : fieldPV Try.prog 118 (.agg cs) 0 = if 0 + 2 ≤ cs.length then some (.agg ((cs.drop 0).take 2)) else none := fpA_of Try.underlying118 (by rfl) (by exact Try.underlying31) (by rfl) (by exact cells31) (by rfl) cs
theorem fa118_1 {id off : Nat} : fieldAddrPV Try.prog 118 (.ptr id off) 1 = some (.ptr id (off + 2)) := fa1_of Try.underlying118 (by rfl) (by exact Try.underlying3) (by exact cells3) (by rfl) (by rfl)
theorem fae118_1 {es i off : Nat} {l : List PV} : fieldAddrPV Try.prog 118 (.eptr es l i off) 1 = some (.eptr es l i (off + 2)) := fa2_of Try.underlying118 (by rfl) (by exact Try.underlying3) (by exact cells3) (by rfl) (by rfl)
theorem fp118_1 {cs : List PV} : fieldPV Try.prog 118 (.agg cs) 1 = cs[2]? := fpS_of Try.underlying118 (by rfl) (by exact Try.underlying3) (by rfl) (by rfl) cs
theorem bld118 {parts : List (Nat × PV)} : buildPV Try.prog 118 parts = bldX [.int .i64 0, .int .i64 0, .int .i64 0] [(0, 2), (2, 1)] parts := bldX_of zero118 Try.underlying118 (by kernel_rfl) (by kernel_rfl) parts
theorem lda119 {σ : Sg} {id off : Nat} : loadPV Try.prog σ 119 (.ptr id off) = ldA 3 σ id off := ldA_of Try.underlying119 rfl cells119
theorem ela119 {σ : Sg} {es i off : Nat} {l : List PV} : loadPV Try.prog σ 119 (.eptr es l i off) = elA 3 l i off := elA_of Try.underlying119 rfl cells119
theorem sto119 {σ : Sg} {id off : Nat} {p : PV} : storePV Try.prog σ 119 (.ptr id off) p = stX 3 σ id off p := stX_of Try.underlying119 cells119 p
theorem fa119_0 {id off : Nat} : fieldAddrPV Try.prog 119 (.ptr id off) 0 = some (.ptr id (off + 0)) := fa1_of Try.underlying119 (by rfl) (by exact Try.underlying31) (by exact cells31) (by rfl) (by rfl)
theorem fae119_0 {es i off : Nat} {l : List PV} : fieldAddrPV Try.prog 119 (.eptr es l i off) 0 = some (.eptr es l i (off + 0)) := fa2_of Try.underlying119 (by rfl) (by exact Try.underlying31) (by exact cells31) (by rfl) (by rfl)
theorem fp119_0 {cs : List PV} : fieldPV Try.prog 119 (.agg cs) 0 = if 0 + 2 ≤ cs.length then some (.agg ((cs.drop 0).take 2)) else none := fpA_of Try.underlying119 (by rfl) (by exact Try.underlying31) (by rfl) (by exact cells31) (by rfl) cs
theorem fa119_1 {id off : Nat} : fieldAddrPV Try.prog 119 (.ptr id off) 1 = some (.ptr id (off + 2)) := fa1_of Try.underlying119 (by rfl) (by exact Try.underlying3) (by exact cells3) (by rfl) (by rfl)
theorem fae119_1 {es i off : Nat} {l : List PV} : fieldAddrPV Try.prog 119 (.eptr es l i off) 1 = some (.eptr es l i (off + 2)) := fa2_of Try.underlying119 (by rfl) (by exact Try.underlying3) (by exact cells3) (by rfl) (by rfl)
theorem fp119_1 {cs : List PV} : fieldPV Try.prog 119 (.agg cs) 1 = cs[2]? := fpS_of Try.underlying119 (by rfl) (by exact Try.underlying3) (by rfl) (by rfl) cs
theorem bld119 {parts : List (Nat × PV)} : buildPV Try.prog 119 parts = bldX [.int .i64 0, .int .i64 0, .int .i64 0] [(0, 2), (2, 1)] parts := bldX_of zero119 Try.underlying119 (by kernel_rfl) (by kernel_rfl) parts
theorem lda123 {σ : Sg} {id off : Nat} : loadPV Try.prog σ 123 (.ptr id off) = ldS σ id off := ldS_of Try.underlying123 rfl
theorem ela123 {σ : Sg} {es i off : Nat} {l : List PV} : loadPV Try.prog σ 123 (.eptr es l i off) = elS l i off := elS_of Try.underlying123 rfl
theorem sto123 {σ : Sg} {id off : Nat} {p : PV} : storePV Try.prog σ 123 (.ptr id off) p = stX 1 σ id off p := stX_of Try.underlying123 cells123 p
theorem ia123 {l : List PV} {own : Own} {k : IntKind} {i : Int} : indexAddrPV Try.prog 123 (.isl l own) (.int k i) = iaX 1 l i := iaX_of Try.underlying123 Try.underlying4 cells4 k i
theorem iam123 {id off len : Nat} {k : IntKind} {i : Int} : indexAddrPV Try.prog 123 (.msl id off len) (.int k i) = iaM 1 id off len i := iaM_of Try.underlying123 Try.underlying4 cells4 k len i
theorem len123 {l : List PV} {own : Own} : lenPV Try.prog 123 (.isl l own) = some (.int .i64 l.length) := len_of Try.underlying123
theorem lenm123 {id off n : Nat} : lenPV Try.prog 123 (.msl id off n) = some (.int .i64 n) := lenM_of Try.underlying123 n
theorem bs123 {len : Nat} {parts : List (Nat × PV)} : buildSlicePV Try.prog 123 len parts = bsX 1 len parts := bsX_of Try.underlying123 Try.underlying4 cells4 zero4 len parts
theorem app123 {σ : Sg} {l m : List PV} {own own' : Own} : appendPV Try.prog σ 123 123 (.isl l own) (.isl m own') = appX 1 1 σ l own m := appX_of Try.underlying123 Try.underlying4 cells4 bytes4 (by decide) (by decide) zero4 rfl
theorem lda129 {σ : Sg} {id off : Nat} : loadPV Try.prog σ 129 (.ptr id off) = ldA 720 σ id off := ldA_of Try.underlying129 rfl cells129
theorem ela129 {σ : Sg} {es i off : Nat} {l : List PV} : loadPV Try.prog σ 129 (.eptr es l i off) = elA 720 l i off := elA_of Try.underlying129 rfl cells129
theorem sto129 {σ : Sg} {id off : Nat} {p : PV} : storePV Try.prog σ 129 (.ptr id off) p = stX 720 σ id off p := stX_of Try.underlying129 cells129 p
theorem iar129 {id off : Nat} {k : IntKind} {i : Int} : indexAddrPV Try.prog 129 (.ptr id off) (.int k i) = iaM 1 id off 720 i := iaA_of Try.underlying129 Try.underlying4 cells4 k i
theorem ix129 {cs : List PV} {k : IntKind} {i : Int} : indexPV Try.prog 129 (.agg cs) (.int k i) = if 0 ≤ i ∧ i < (720 : Int) then cs[i.toNat]? else none := ixS_of Try.underlying129 Try.underlying4 rfl cells4 k i
theorem lda130 {σ : Sg} {id off : Nat} : loadPV Try.prog σ 130 (.ptr id off) = ldA 720 σ id off := ldA_of Try.underlying130 rfl cells130
theorem ela130 {σ : Sg} {es i off : Nat} {l : List PV} : loadPV Try.prog σ 130 (.eptr es l i off) = elA 720 l i off := elA_of Try.underlying130 rfl cells130
theorem sto130 {σ : Sg} {id off : Nat} {p : PV} : storePV Try.prog σ 130 (.ptr id off) p = stX 720 σ id off p := stX_of Try.underlying130 cells130 p
theorem iar130 {id off : Nat} {k : IntKind} {i : Int} : indexAddrPV Try.prog 130 (.ptr id off) (.int k i) = iaM 1 id off 720 i := iaA_of Try.underlying130 Try.underlying4 cells4 k i
theorem ix130 {cs : List PV} {k : IntKind} {i : Int} : indexPV Try.prog 130 (.agg cs) (.int k i) = if 0 ≤ i ∧ i < (720 : Int) then cs[i.toNat]? else none := ixS_of Try.underlying130 Try.underlying4 rfl cells4 k i
theorem lda137 {σ : Sg} {id off : Nat} : loadPV Try.prog σ 137 (.ptr id off) = ldS σ id off := ldS_of Try.underlying137 rfl
theorem ela137 {σ : Sg} {es i off : Nat} {l : List PV} : loadPV Try.prog σ 137 (.eptr es l i off) = elS l i off := elS_of Try.underlying137 rfl
theorem sto137 {σ : Sg} {id off : Nat} {p : PV} : storePV Try.prog σ 137 (.ptr id off) p = stX 1 σ id off p := stX_of Try.underlying137 cells137 p
theorem lda150 {σ : Sg} {id off : Nat} : loadPV Try.prog σ 150 (.ptr id off) = ldS σ id off := ldS_of Try.underlying150 rfl
theorem ela150 {σ : Sg} {es i off : Nat} {l : List PV} : loadPV Try.prog σ 150 (.eptr es l i off) = elS l i off := elS_of Try.underlying150 rfl
theorem sto150 {σ : Sg} {id off : Nat} {p : PV} : storePV Try.prog σ 150 (.ptr id off) p = stX 1 σ id off p := stX_of Try.underlying150 cells150 p
theorem ia150 {l : List PV} {own : Own} {k : IntKind} {i : Int} : indexAddrPV Try.prog 150 (.isl l own) (.int k i) = iaX 1 l i := iaX_of Try.underlying150 Try.underlying107 cells107 k i
theorem iam150 {id off len : Nat} {k : IntKind} {i : Int} : indexAddrPV Try.prog 150 (.msl id off len) (.int k i) = iaM 1 id off len i := iaM_of Try.underlying150 Try.underlying107 cells107 k len i
theorem len150 {l : List PV} {own : Own} : lenPV Try.prog 150 (.isl l own) = some (.int .i64 l.length) := len_of Try.underlying150
theorem lenm150 {id off n : Nat} : lenPV Try.prog 150 (.msl id off n) = some (.int .i64 n) := lenM_of Try.underlying150 n
theorem bs150 {len : Nat} {parts : List (Nat × PV)} : buildSlicePV Try.prog 150 len parts = bsX 1 len parts := bsX_of Try.underlying150 Try.underlying107 cells107 zero107 len parts
theorem app150 {σ : Sg} {l m : List PV} {own own' : Own} : appendPV Try.prog σ 150 150 (.isl l own) (.isl m own') = appX 1 8 σ l own m := appX_of Try.underlying150 Try.underlying107 cells107 bytes107 (by decide) (by decide) zero107 rfl
theorem lda152 {σ : Sg} {id off : Nat} : loadPV Try.prog σ 152 (.ptr id off) = ldS σ id off := ldS_of Try.underlying152 rfl
theorem ela152 {σ : Sg} {es i off : Nat} {l : List PV} : loadPV Try.prog σ 152 (.eptr es l i off) = elS l i off := elS_of Try.underlying152 rfl
theorem sto152 {σ : Sg} {id off : Nat} {p : PV} : storePV Try.prog σ 152 (.ptr id off) p = stX 1 σ id off p := stX_of Try.underlying152 cells152 p
theorem lda160 {σ : Sg} {id off : Nat} : loadPV Try.prog σ 160 (.ptr id off) = ldS σ id off := ldS_of Try.underlying160 rfl
theorem ela160 {σ : Sg} {es i off : Nat} {l : List PV} : loadPV Try.prog σ 160 (.eptr es l i off) = elS l i off := elS_of Try.underlying160 rfl
theorem sto160 {σ : Sg} {id off : Nat} {p : PV} : storePV Try.prog σ 160 (.ptr id off) p = stX 1 σ id off p := stX_of Try.underlying160 cells160 p
theorem lda163 {σ : Sg} {id off : Nat} : loadPV Try.prog σ 163 (.ptr id off) = ldS σ id off := ldS_of Try.underlying163 rfl
theorem ela163 {σ : Sg} {es i off : Nat} {l : List PV} : loadPV Try.prog σ 163 (.eptr es l i off) = elS l i off := elS_of Try.underlying163 rfl
theorem sto163 {σ : Sg} {id off : Nat} {p : PV} : storePV Try.prog σ 163 (.ptr id off) p = stX 1 σ id off p := stX_of Try.underlying163 cells163 p
theorem lda166 {σ : Sg} {id off : Nat} : loadPV Try.prog σ 166 (.ptr id off) = ldS σ id off := ldS_of Try.underlying166 rfl
theorem ela166 {σ : Sg} {es i off : Nat} {l : List PV} : loadPV Try.prog σ 166 (.eptr es l i off) = elS l i off := elS_of Try.underlying166 rfl
theorem sto166 {σ : Sg} {id off : Nat} {p : PV} : storePV Try.prog σ 166 (.ptr id off) p = stX 1 σ id off p := stX_of Try.underlying166 cells166 p
theorem lda168 {σ : Sg} {id off : Nat} : loadPV Try.prog σ 168 (.ptr id off) = ldS σ id off := ldS_of Try.underlying168 rfl
theorem ela168 {σ : Sg} {es i off : Nat} {l : List PV} : loadPV Try.prog σ 168 (.eptr es l i off) = elS l i off := elS_of Try.underlying168 rfl
theorem sto168 {σ : Sg} {id off : Nat} {p : PV} : storePV Try.prog σ 168 (.ptr id off) p = stX 1 σ id off p := stX_of Try.underlying168 cells168 p
theorem lda171 {σ : Sg} {id off : Nat} : loadPV Try.prog σ 171 (.ptr id off) = ldA 4 σ id off := ldA_of Try.underlying171 rfl cells171
theorem ela171 {σ : Sg} {es i off : Nat} {l : List PV} : loadPV Try.prog σ 171 (.eptr es l i off) = elA 4 l i off := elA_of Try.underlying171 rfl cells171
theorem sto171 {σ : Sg} {id off : Nat} {p : PV} : storePV Try.prog σ 171 (.ptr id off) p = stX 4 σ id off p := stX_of Try.underlying171 cells171 p
theorem fa171_3 {id off : Nat} : fieldAddrPV Try.prog 171 (.ptr id off) 3 = some (.ptr id (off + 3)) := fa1_of Try.underlying171 (by rfl) (by exact Try.underlying9) (by exact cells9) (by rfl) (by rfl)
theorem fae171_3 {es i off : Nat} {l : List PV} : fieldAddrPV Try.prog 171 (.eptr es l i off) 3 = some (.eptr es l i (off + 3)) := fa2_of Try.underlying171 (by rfl) (by exact Try.underlying9) (by exact cells9) (by rfl) (by rfl)
theorem fp171_3 {cs : List PV} : fieldPV Try.prog 171 (.agg cs) 3 = cs[3]? := fpS_of Try.underlying171 (by rfl) (by exact Try.underlying9) (by rfl) (by rfl) cs
theorem lda172 {σ : Sg} {id off : Nat} : loadPV Try.prog σ 172 (.ptr id off) = ldA 4 σ id off := ldA_of Try.underlying172 rfl cells172
theorem ela172 {σ : Sg} {es i off : Nat} {l : List PV} : loadPV Try.prog σ 172 (.eptr es l i off) = elA 4 l i off := elA_of Try.underlying172 rfl cells172
theorem sto172 {σ : Sg} {id off : Nat} {p : PV} : storePV Try.prog σ 172 (.ptr id off) p = stX 4 σ id off p := stX_of Try.underlying172 cells172 p
theorem fa172_3 {id off : Nat} : fieldAddrPV Try.prog 172 (.ptr id off) 3 = some (.ptr id (off + 3)) := fa1_of Try.underlying172 (by rfl) (by exact Try.underlying9) (by exact cells9) (by rfl) (by rfl)
theorem fae172_3 {es i off : Nat} {l : List PV} : fieldAddrPV Try.prog 172 (.eptr es l i off) 3 = some (.eptr es l i (off + 3)) := fa2_of Try.underlying172 (by rfl) (by exact Try.underlying9) (by exact cells9) (by rfl) (by rfl)
theorem fp172_3 {cs : List PV} : fieldPV Try.prog 172 (.agg cs) 3 = cs[3]? := fpS_of Try.underlying172 (by rfl) (by exact Try.underlying9) (by rfl) (by rfl) cs
theorem lda173 {σ : Sg} {id off : Nat} : loadPV Try.prog σ 173 (.ptr id off) = ldA 0 σ id off := ldA_of Try.underlying173 rfl cells173
theorem ela173 {σ : Sg} {es i off : Nat} {l : List PV} : loadPV Try.prog σ 173 (.eptr es l i off) = elA 0 l i off := elA_of Try.underlying173 rfl cells173
theorem sto173 {σ : Sg} {id off : Nat} {p : PV} : storePV Try.prog σ 173 (.ptr id off) p = stX 0 σ id off p := stX_of Try.underlying173 cells173 p
theorem lda174 {σ : Sg} {id off : Nat} : loadPV Try.prog σ 174 (.ptr id off) = ldA 0 σ id off := ldA_of Try.underlying174 rfl cells174
theorem ela174 {σ : Sg} {es i off : Nat} {l : List PV} : loadPV Try.prog σ 174 (.eptr es l i off) = elA 0 l i off := elA_of Try.underlying174 rfl cells174
theorem sto174 {σ : Sg} {id off : Nat} {p : PV} : storePV Try.prog σ 174 (.ptr id off) p = stX 0 σ id off p := stX_of Try.underlying174 cells174 p
theorem lda175 {σ : Sg} {id off : Nat} : loadPV Try.prog σ 175 (.ptr id off) = ldA 0 σ id off := ldA_of Try.underlying175 rfl cells175
theorem ela175 {σ : Sg} {es i off : Nat} {l : List PV} : loadPV Try.prog σ 175 (.eptr es l i off) = elA 0 l i off := elA_of Try.underlying175 rfl cells175
theorem sto175 {σ : Sg} {id off : Nat} {p : PV} : storePV Try.prog σ 175 (.ptr id off) p = stX 0 σ id off p := stX_of Try.underlying175 cells175 p
theorem lda177 {σ : Sg} {id off : Nat} : loadPV Try.prog σ 177 (.ptr id off) = ldS σ id off := ldS_of Try.underlying177 rfl
theorem ela177 {σ : Sg} {es i off : Nat} {l : List PV} : loadPV Try.prog σ 177 (.eptr es l i off) = elS l i off := elS_of Try.underlying177 rfl
theorem sto177 {σ : Sg} {id off : Nat} {p : PV} : storePV Try.prog σ 177 (.ptr id off) p = stX 1 σ id off p := stX_of Try.underlying177 cells177 p
theorem lda178 {σ : Sg} {id off : Nat} : loadPV Try.prog σ 178 (.ptr id off) = ldS σ id off := ldS_of Try.underlying178 rfl
theorem ela178 {σ : Sg} {es i off : Nat} {l : List PV} : loadPV Try.prog σ 178 (.eptr es l i off) = elS l i off := elS_of Try.underlying178 rfl
theorem sto178 {σ : Sg} {id off : Nat} {p : PV} : storePV Try.prog σ 178 (.ptr id off) p = stX 1 σ id off p := stX_of Try.underlying178 cells178 p
attribute [go_sem] lda2 ela2 sto2 lda3 ela3 sto3 lda4 ela4 sto4 lda5 ela5 sto5 lda9 ela9 sto9 lda22 ela22 sto22 ia22 iam22 len22 lenm22 bs22 app22 lda23 ela23 sto23 ia23 iam23 len23 lenm23 bs23 app23 lda24 ela24 sto24 ia24 iam24 len24 lenm24 bs24 app24 lda25 ela25 sto25 fa25_0 fae25_0 fp25_0 fa25_1 fae25_1 fp25_1 fa25_2 fae25_2 fp25_2 fa25_3 fae25_3 fp25_3 bld25 lda26 ela26 sto26 fa26_0 fae26_0 fp26_0 fa26_1 fae26_1 fp26_1 fa26_2 fae26_2 fp26_2 fa26_3 fae26_3 fp26_3 bld26 lda27 ela27 sto27 fa27_0 fae27_0 fp27_0 fa27_1 fae27_1 fp27_1 fa27_2 fae27_2 fp27_2 bld27 lda28 ela28 sto28 fa28_0 fae28_0 fp28_0 fa28_1 fae28_1 fp28_1 fa28_2 fae28_2 fp28_2 bld28 lda29 ela29 sto29 ia29 iam29 len29 lenm29 bs29 app29 lda30 ela30 sto30 fa30_0 fae30_0 fp30_0 fa30_1 fae30_1 fp30_1 eqs30 bld30 lda31 ela31 sto31 fa31_0 fae31_0 fp31_0 fa31_1 fae31_1 fp31_1 eqs31 bld31 lda32 ela32 sto32 fa32_0 fae32_0 fp32_0 fa32_1 fae32_1 fp32_1 fa32_2 fae32_2 fp32_2 fa32_3 fae32_3 fp32_3 fa32_4 fae32_4 fp32_4 bld32 lda33 ela33 sto33 fa33_0 fae33_0 fp33_0 fa33_1 fae33_1 fp33_1 fa33_2 fae33_2 fp33_2 fa33_3 fae33_3 fp33_3 fa33_4 fae33_4 fp33_4 bld33 lda37 ela37 sto37 lda41 ela41 sto41 ia41 iam41 len41 lenm41 bs41 app41 lda43 ela43 sto43 ia43 iam43 len43 lenm43 bs43 app43 lda46 ela46 sto46 lda54 ela54 sto54 ia54 iam54 len54 lenm54 bs54 app54 lda71 ela71 sto71 ia71 iam71 len71 lenm71 bs71 app71 lda75 ela75 sto75 fa75_0 fae75_0 fp75_0 fa75_1 fae75_1 fp75_1 eqs75 bld75 lda76 ela76 sto76 fa76_0 fae76_0 fp76_0 fa76_1 fae76_1 fp76_1 eqs76 bld76 lda85 ela85 sto85 fa85_0 fae85_0 fp85_0 fa85_1 fae85_1 fp85_1 fa85_2 fae85_2 fp85_2 fa85_3 fae85_3 fp85_3 fa85_4 fae85_4 fp85_4 bld85 lda86 ela86 sto86 fa86_0 fae86_0 fp86_0 fa86_1 fae86_1 fp86_1 fa86_2 fae86_2 fp86_2 fa86_3 fae86_3 fp86_3 fa86_4 fae86_4 fp86_4 bld86 lda90 ela90 sto90 lda91 ela91 sto91 fa91_0 fae91_0 fp91_0 eqs91 bld91 lda92 ela92 sto92 fa92_0 fae92_0 fp92_0 eqs92 bld92 lda97 ela97 sto97 lda105 ela105 sto105 fa105_0 fae105_0 fp105_0 fa105_1 fae105_1 fp105_1 fa105_2 fae105_2 fp105_2 bld105 lda106 ela106 sto106 fa106_0 fae106_0 fp106_0 fa106_1 fae106_1 fp106_1 fa106_2 fae106_2 fp106_2 bld106 lda107 ela107 sto107 lda109 ela109 sto109 lda114 ela114 sto114 lda117 ela117 sto117 ia117 iam117 len117 lenm117 bs117 app117 lda118 ela118 sto118 fa118_0 fae118_0 fp118_0 fa118_1 fae118_1 fp118_1 bld118 lda119 ela119 sto119 fa119_0 fae119_0 fp119_0 fa119_1 fae119_1 fp119_1 bld119 lda123 ela123 sto123 ia123 iam123 len123 lenm123 bs123 app123 lda129 ela129 sto129 iar129 ix129 lda130 ela130 sto130 iar130 ix130 lda137 ela137 sto137 lda150 ela150 sto150 ia150 iam150 len150 lenm150 bs150 app150 lda152 ela152 sto152 lda160 ela160 sto160 lda163 ela163 sto163 lda166 ela166 sto166 lda168 ela168 sto168 lda171 ela171 sto171 fa171_3 fae171_3 fp171_3 lda172 ela172 sto172 fa172_3 fae172_3 fp172_3 lda173 ela173 sto173 lda174 ela174 sto174 lda175 ela175 sto175 lda177 ela177 sto177 lda178 ela178 sto178 zero2 zero3 zero4 zero5 zero9 zero22 zero23 zero24 zero25 zero26 zero27 zero28 zero29 zero30 zero31 zero32 zero33 zero37 zero41 zero43 zero46 zero54 zero71 zero75 zero76 zero85 zero86 zero90 zero91 zero92 zero97 zero105 zero106 zero107 zero109 zero114 zero117 zero118 zero119 zero123 zero137 zero150 zero152 zero160 zero163 zero166 zero168 zero171 zero172 zero173 zero174 zero175 zero177 zero178
end Go.Proofs.Ytnpamcpoaklgeaa
namespace Go.Proofs.Ytnpamcpoaklgeaa
open Go Go.RowKit
theorem seqN {K : Env → Sg → Prop} {Q : Exit → Env → Sg → Prop} {E : Env} {σ : Sg} : Seq K Q .normal E σ = K E σ := rfl
theorem seqR {K : Env → Sg → Prop} {Q : Exit → Env → Sg → Prop} {E : Env} {σ : Sg} : Seq K Q .ret E σ = Q .ret E σ := rfl
theorem seqX {K : Env → Sg → Prop} {Q : Exit → Env → Sg → Prop} {E : Env} {σ : Sg} {i : Nat} : Seq K Q (.exit i) E σ = Q (.exit i) E σ := rfl
theorem blkN {i : Nat} {Q : Exit → Env → Sg → Prop} {E : Env} {σ : Sg} : InBlock i Q .normal E σ = Q .normal E σ := rfl
theorem blkR {i : Nat} {Q : Exit → Env → Sg → Prop} {E : Env} {σ : Sg} : InBlock i Q .ret E σ = Q .ret E σ := rfl
theorem blkX {i j : Nat} {Q : Exit → Env → Sg → Prop} {E : Env} {σ : Sg} : InBlock i Q (.exit j) E σ = if j = i then Q .normal E σ else Q (.exit j) E σ := rfl
theorem range0 : List.range 0 = [] := rfl
theorem range1 : List.range 1 = [0] := rfl
theorem range2 : List.range 2 = [0, 1] := rfl
theorem range3 : List.range 3 = [0, 1, 2] := rfl
theorem range4 : List.range 4 = [0, 1, 2, 3] := rfl
theorem range5 : List.range 5 = [0, 1, 2, 3, 4] := rfl
theorem range6 : List.range 6 = [0, 1, 2, 3, 4, 5] := rfl
theorem range7 : List.range 7 = [0, 1, 2, 3, 4, 5, 6] := rfl
theorem range8 : List.range 8 = [0, 1, 2, 3, 4, 5, 6, 7] := rfl
theorem range9 : List.range 9 = [0, 1, 2, 3, 4, 5, 6, 7, 8] := rfl
theorem range10 : List.range 10 = [0, 1, 2, 3, 4, 5, 6, 7, 8, 9] := rfl
theorem range11 : List.range 11 = [0, 1, 2, 3, 4, 5, 6, 7, 8, 9, 10] := rfl
theorem range12 : List.range 12 = [0, 1, 2, 3, 4, 5, 6, 7, 8, 9, 10, 11] := rfl
theorem range13 : List.range 13 = [0, 1, 2, 3, 4, 5, 6, 7, 8, 9, 10, 11, 12] := rfl
theorem range14 : List.range 14 = [0, 1, 2, 3, 4, 5, 6, 7, 8, 9, 10, 11, 12, 13] := rfl
theorem range15 : List.range 15 = [0, 1, 2, 3, 4, 5, 6, 7, 8, 9, 10, 11, 12, 13, 14] := rfl
theorem range16 : List.range 16 = [0, 1, 2, 3, 4, 5, 6, 7, 8, 9, 10, 11, 12, 13, 14, 15] := rfl
attribute [go_sem] range0 range1 range2 range3 range4 range5 range6 range7 range8 range9 range10 range11 range12 range13 range14 range15 range16
attribute [go_sem low] Sg.push_new Sg.pushRoom_new Sg.pushY_new
attribute [go_sem] Sg.ext_ext
attribute [go_sem] seqN seqR seqX blkN blkR blkX
attribute [go_sem] GL GD GWant_true GWant_false GOpt_some GWho_nobody GWho_fn GWho_yield GOr_true wantedPV whom effOp pureOp isNilC isNilV ev constPV constPV0 Option.map Option.bind decide_false ite_true ite_false eq_self gt_iff_lt ge_iff_le Env.put Env.get dstOK Nat.reduceLT decide_true Nat.reduceEqDiff argsEnv Nat.reduceAdd binPV bin arith isShift pickPV keep List.map Bool.true_and Bool.and_true reduceIte List.getElem?_toArray List.getElem?_cons_succ List.getElem?_cons_zero beq_true beq_false Bool.not_true Bool.not_false Bool.false_eq_true true_and and_true undefs Dem Option.map_some Option.map_none builtinPV foldMax foldMin unPV extractPV oneOr Sg.push_ext Sg.pushRoom_ext Sg.len_ext Sg.rooms_ext Sg.ys_ext Sg.pushY_ext Sg.ysget_ext Sg.ysget_ext0 Sg.setY_ext Sg.setY_ext0 Sg.popY_ext Sg.popY_ext0 ldS_ext ldS_ext0 ldA_ext ldA_ext0 stX_ext stX_ext0 List.cons_append List.nil_append List.length_cons List.length_nil Nat.zero_add Nat.add_zero List.set_cons_zero List.set_cons_succ PV.cells_agg PV.cells_int PV.cells_bool PV.cells_str PV.cells_isl PV.cells_nilsl PV.cells_func PV.cells_ptr PV.cells_undef defd PV.scalar List.all_cons List.all_nil BEq.rfl Nat.le_refl Nat.reduceLeDiff putCells fillPV List.take_succ_cons List.take_zero List.drop_succ_cons List.drop_zero and_self Nat.reduceMul Nat.reducePow Nat.lt_add_one Nat.reduceBEq List.length_map List.take_nil List.drop_nil
end Go.Proofs.Ytnpamcpoaklgeaa
namespace Go.Proofs.Ytnpamcpoaklgeaa
open Go Go.RowKit
theorem setVar_some {σ : Sg} {id i : Nat} {cs cs' x : List PV} (hid : σ.store[id]? = some (some cs)) (h : (σ.setVar id cs').store[i]? = some (some x)) : (i = id ∧ x = cs') ∨ (i ≠ id ∧ σ.store[i]? = some (some x)) := by
  have h' : (σ.store.set id (some cs'))[i]? = some (some x) := h
  rw [List.getElem?_set] at h'
  by_cases e : id = i
  · subst e
    rw [if_pos rfl, if_pos (List.getElem?_eq_some_iff.1 hid).1] at h'
    injection h' with h'
    injection h' with h'
    exact .inl ⟨rfl, h'.symm⟩
  · rw [if_neg e] at h'
    exact .inr ⟨fun e' => e e'.symm, h'⟩
theorem SR.reread {Ψ : Ty} {σ : Sg} {w : World} (h : SR Ψ σ w) {id : Nat} {cs cs' : List PV} (hid : σ.store[id]? = some (some cs))
    (hv : ∀ b, Ψ.β[id]? = some b → Keeps Ψ w b cs → Keeps Ψ w b cs') : SR Ψ (σ.setVar id cs') w := by
  have old : ∀ (i : Nat) (x : List PV), (σ.setVar id cs').store[i]? = some (some x) → ∃ y, σ.store[i]? = some (some y) := fun i x hx => by
    rcases setVar_some hid hx with ⟨rfl, _⟩ | ⟨_, h'⟩
    · exact ⟨_, hid⟩
    · exact ⟨_, h'⟩
  refine ⟨h.base, h.imm, by rw [sv_len]; exact h.blen, ?_, ?_, ?_, h.roomsApart, h.histlt, h.histle, h.βlt, h.yok, h.ylen', h.dok, ?_, h.szok⟩
  · intro i x b hx hb
    rcases setVar_some hid hx with ⟨rfl, rfl⟩ | ⟨_, h'⟩
    · obtain ⟨a1, a2, a0⟩ := h.block i cs b hid hb
      exact ⟨a1, a2, hv b hb a0⟩
    · exact h.block i x b h' hb
  · intro i i' x x' b hx hx' hb hb'
    obtain ⟨y, hy⟩ := old i x hx
    obtain ⟨y', hy'⟩ := old i' x' hx'
    exact h.apart i i' y y' b hy hy' hb hb'
  · intro r n b e c es hr hh hlt
    obtain ⟨a1, a2, a3, a4⟩ := h.room r n b e c es hr hh hlt
    refine ⟨a1, a2, fun i hi x hx => ?_, a4⟩
    obtain ⟨y, hy⟩ := old i x hx
    exact a3 i hi y hy
  · intro b c hm
    obtain ⟨a1, a2, a3, a4, a5⟩ := h.rok b c hm
    refine ⟨a1, a2, fun i hi x hx => ?_, a4, a5⟩
    obtain ⟨y, hy⟩ := old i x hx
    exact a3 i hi y hy
theorem Keeps.setRo {Ψ : Ty} {w : World} {b off : Nat} {cs : List PV} {p : PV} (h : Keeps Ψ w b cs) (hp : cs[off]? = some p) : Keeps Ψ w b (cs.set off p.ro) := by
  have hlt : off < cs.length := (List.getElem?_eq_some_iff.1 hp).1
  have at' : ∀ (j : Nat) (q : PV), (cs.set off p.ro)[j]? = some q → (j = off ∧ q = p.ro) ∨ cs[j]? = some q := by
    intro j q hq
    rw [List.getElem?_set] at hq
    by_cases e : off = j
    · rw [if_pos e, if_pos hlt] at hq
      injection hq with hq
      exact .inl ⟨e.symm, hq.symm⟩
    · rw [if_neg e] at hq
      exact .inr hq
  rcases h with ⟨c, a3, a4, a5⟩ | ⟨arr, es, rfl, a3, a4, a5⟩
  · refine .inl ⟨c, a3, by simpa using a4, fun j q v h1 h2 => ?_⟩
    rcases at' j q h1 with ⟨rfl, rfl⟩ | h1
    · exact (a5 j p v hp h2).ro
    · exact a5 j q v h1 h2
  · rcases off with _ | off
    · simp at hp
      subst hp
      exact .inr ⟨arr, es, rfl, a3, a4, a5⟩
    · refine .inr ⟨arr, es.set off p.ro, rfl, a3, by simpa using a4, fun j q e h1 h2 => ?_⟩
      simp only [List.getElem?_cons_succ] at hp
      rcases at' (j + 1) q (by simpa using h1) with ⟨hj, rfl⟩ | h1
      · have : j = off := by omega
        subst this
        obtain ⟨g1, k, v, rfl, g2, g3⟩ := a5 j p e hp h2
        exact ⟨g1, k.ro, v.ro, rfl, g2.ro, g3.ro⟩
      · exact a5 j q e (by simpa using h1) h2
theorem Weak.roomV {N : Nat} {lo : Nat × Nat} {E : Env} {σ : Sg} {id off es : Nat} {cs l : List PV} (hid : σ.store[id]? = some (some cs)) (hc : cs[off]? = some (.isl l .exact)) (hes : ∀ q, q ∈ l → q.cells.length = es) :
    Weak N lo E σ E ((σ.setVar id (cs.set off (.isl l (.tok σ.rooms.length l.length es)))).pushRoom l.length) := by
  intro Ψ0 Ψ D a w hb le hr
  obtain ⟨b, hβ⟩ : ∃ b, Ψ.β[id]? = some b := by
    have : id < Ψ.β.length := by rw [hr.sg.blen]; exact (List.getElem?_eq_some_iff.1 hid).1
    exact ⟨Ψ.β[id], by simp [this]⟩
  obtain ⟨_, _, h0⟩ := hr.sg.block id cs b hid hβ
  obtain ⟨c, hbi, hcl, hcv⟩ : ∃ c, blockIs w b c ∧ cs.length ≤ c.size ∧ ∀ (j : Nat) (p : PV) (v : Value), cs[j]? = some p → c[j]? = some v → VR Ψ p v := by
    rcases h0 with h0 | ⟨arr, es, rfl, _, g1, g2⟩
    · exact h0
    · rcases off with _ | off
      · simp at hc
      simp only [List.getElem?_cons_succ] at hc
      have hlt : off < arr.size := by rw [g1]; exact (List.getElem?_eq_some_iff.1 hc).1
      obtain ⟨_, k, v, e, _⟩ := g2 off _ arr[off] hc (by simp [hlt])
      cases e
  have hoff : off < cs.length := (List.getElem?_eq_some_iff.1 hc).1
  have hoc : off < c.size := Nat.lt_of_lt_of_le hoff hcl
  have hv : VR Ψ (.isl l .exact) c[off] := hcv off _ _ hc (by simp [hoc])
  have fin : ∀ x : Option (Nat × Nat × Nat × Nat), (∀ b e c s, x = some (b, e, c, s) → ¬ e < c) → (∀ Ψ', Ψ.le Ψ' → Ψ'.hist σ.rooms.length l.length = some x → VR Ψ' (.isl l (.tok σ.rooms.length l.length es)) c[off]) →
      ∃ Ψ', Ψ0.le Ψ' ∧ Rel N D Ψ' E ((σ.setVar id (cs.set off (.isl l (.tok σ.rooms.length l.length es)))).pushRoom l.length) a w := by
    intro x hx hvr
    obtain ⟨le', hs'⟩ := hr.sg.newRoom l.length x (fun b e c s hh hlt => absurd hlt (hx b e c s hh))
    have hnew := hvr _ le' (by simp [Ty.addHist])
    have hid' : (σ.pushRoom l.length).store[id]? = some (some cs) := hid
    have hs2 := hs'.reread (cs' := cs.set off (.isl l (.tok σ.rooms.length l.length es))) hid' (fun b2 hb2 h2 => by
      have e1 : b2 = b := by
        have := le'.β id b hβ
        rw [hb2] at this; injection this
      subst e1
      obtain ⟨g1, g2⟩ := h2.cells hbi
      refine .inl ⟨c, hbi, by simpa using g1, fun j p v h1 h2 => ?_⟩
      rw [List.getElem?_set] at h1
      by_cases hj : off = j
      · subst hj
        rw [if_pos rfl, if_pos hoff] at h1
        injection h1 with h1
        subst h1
        have : v = c[off] := by simpa [hoc] using h2.symm
        rw [this]; exact hnew
      · rw [if_neg hj] at h1
        exact g2 j p v h1 h2)
    refine ⟨_, le.trans le', hr.size, fun t' => (hr.env t').mono le', hs2, fun d hd => le'.ds _ (hr.dsub d hd), ?_⟩
    obtain ⟨rs, r1, r2, r3⟩ := hr.defs
    exact ⟨rs, r1, r2, fun r hm => ⟨le'.ds _ (r3 r hm).1, (r3 r hm).2⟩⟩
  generalize hx : c[off] = x at hv fin
  cases hv with
  | islnil _ a0 _ => exact fin none (fun b e c s h => by cases h) fun Ψ' _ hh => .islnil _ a0 ⟨_, hh⟩
  | isl es0 _ _ b o cap vals hs h1 h2 hc' ho =>
    have hcap : cap = l.length := ho
    subst hcap
    refine fin (some (b, o + l.length * es, o + l.length * es, es)) (fun b e c s h => by injection h with h; injection h with _ h; injection h with h1 h; injection h with h2 _; omega) fun Ψ' le' hh => ?_
    by_cases hl : l = []
    · subst hl
      exact .isl es [] _ b o 0 vals (fun k e h => by simp at h) (fun k e j p h => by simp at h) (fun k e j p h => by simp at h) (Nat.le_refl _) ⟨rfl, hh⟩
    · have : es0 = es := by
        cases l with
        | nil => exact absurd rfl hl
        | cons q l => rw [← hs 0 q rfl]; exact hes q (by simp)
      subst this
      exact .isl es0 l _ b o _ vals hs (fun k e j p q1 q2 => le'.imm _ _ _ (h1 k e j p q1 q2)) (fun k e j p q1 q2 => (h2 k e j p q1 q2).mono le') (Nat.le_refl _) ⟨rfl, hh⟩
/-- The same for a variable that is new. -/
theorem Weak.roomX {N : Nat} {lo : Nat × Nat} {E : Env} {σ : Sg} {l : List (Option (List PV))} {rm : List Nat} {ys : List LState} {j off es : Nat} {cs m : List PV} (hid : l[j]? = some (some cs)) (hc : cs[off]? = some (.isl m .exact)) (hes : ∀ q, q ∈ m → q.cells.length = es) :
    Weak N lo E (σ.ext l rm ys) E (σ.ext (l.set j (some (cs.set off (.isl m (.tok (σ.rooms.length + rm.length) m.length es))))) (rm ++ [m.length]) ys) := by
  have h := Weak.roomV (N := N) (lo := lo) (E := E) (σ := σ.ext l rm ys) (id := σ.store.length + j) (off := off) (es := es) (cs := cs) (l := m) (by rw [Sg.get_ext]; exact hid) hc hes
  rw [Sg.rooms_ext, Sg.set_ext, Sg.pushRoom_ext] at h
  exact h
theorem Weak.roomSV {N : Nat} {lo : Nat × Nat} {E : Env} {σ : Sg} {d : Nat} {ds : List PV} {l : List (Option (List PV))} {rm : List Nat} {ys : List LState} {j off es : Nat} {cs m : List PV} (hid : l[j]? = some (some cs)) (hc : cs[off]? = some (.isl m .exact)) (hes : ∀ q, q ∈ m → q.cells.length = es) :
    Weak N lo E ((σ.setVar d ds).ext l rm ys) E ((σ.setVar d ds).ext (l.set j (some (cs.set off (.isl m (.tok (σ.rooms.length + rm.length) m.length es))))) (rm ++ [m.length]) ys) := by
  have h := Weak.roomX (N := N) (lo := lo) (E := E) (σ := σ.setVar d ds) (rm := rm) (ys := ys) hid hc hes
  exact h
/-- Cut back, where a variable that was there before was set. -/
theorem Weak.cutSV {N : Nat} {lo : Nat × Nat} {E : Env} {σ : Sg} {d : Nat} {ds : List PV} {l : List (Option (List PV))} {rm : List Nat} {ys : List LState} (k j : Nat) (h1 : lo.1 ≤ σ.store.length + k) (h2 : lo.2 ≤ σ.rooms.length + j) (hcl : CleanSg σ) (hds : CleanAll σ.store.length σ.rooms.length σ.ys.length ds)
    (hc : CleanLs (σ.store.length + k) (σ.rooms.length + j) (σ.ys.length + ys.length) (l.take k)) (hE : CleanEs (σ.store.length + k) (σ.rooms.length + j) (σ.ys.length + ys.length) E) :
    Weak N lo E ((σ.setVar d ds).ext l rm ys) E ((σ.setVar d ds).ext (l.take k) (rm.take j) ys) := by
  have h := Weak.cutX (N := N) (lo := lo) (E := E) (σ := σ.setVar d ds) (l := l) (rm := rm) (ys := ys) k j (by rw [sv_len]; exact h1) h2 (CleanSg_set hcl hds) (by rw [sv_len]; exact hc) (by rw [sv_len]; exact hE)
  exact h
end Go.Proofs.Ytnpamcpoaklgeaa
namespace Go.Proofs.Ytnpamcpoaklgeaa
open Go Go.RowKit
structure Group where
  slo : Int
  shi : Int
  alo : Int
  ahi : Int
  stay : Int
  first : Int
  path : List Int
  deriving DecidableEq
structure Town where
  rooms : List Int
  streets : List (Int × Int)
  groups : List Group
  steps : Int
  deriving DecidableEq
structure City where
  town : Town
  brk : Int
  sleep : List Int
  deriving DecidableEq
structure Band where
  first : Int
  path : List Int
  lo : Int
  hi : Int
  stay : Int
  people : Int
  deriving DecidableEq
abbrev intsO (o : Own) (xs : List Int) : PV := .isl (xs.map I) o
def stPV (s : Int × Int) : PV := .agg [I s.1, I s.2]
def grPV (g : Group) : PV := .agg [I g.slo, I g.shi, I g.alo, I g.ahi, I g.stay, I g.first, ints g.path]
def twCells (t : Town) : List PV := [ints t.rooms, .isl (t.streets.map stPV) .ro, .isl (t.groups.map grPV) .ro, I t.steps]
def twPV (t : Town) : PV := .agg (twCells t)
def ctCells (c : City) : List PV := [ints c.town.rooms, .isl (c.town.streets.map stPV) .ro, .isl (c.town.groups.map grPV) .ro, I c.town.steps, I c.brk, ints c.sleep]
def ctPV (c : City) : PV := .agg (ctCells c)
def bdCells (b : Band) : List PV := [I b.first, ints b.path, I b.lo, I b.hi, I b.stay, I b.people]
def bdPV (b : Band) : PV := .agg (bdCells b)
abbrev bands (l : List Band) : PV := .isl (l.map bdPV) .ro
section
variable {α : Type} {f : α → PV} {xs : List α} {i : Nat} {x : α} {c k off : Nat}
theorem iaX_map (h : xs[i]? = some x) (hc : (f x).cells.length = c) : iaX c (xs.map f) (i : Int) = some (.eptr c (xs.map f) i 0) := by
  have hlt : i < xs.length := (List.getElem?_eq_some_iff.1 h).1
  have hx : xs[i] = x := (List.getElem?_eq_some_iff.1 h).2
  unfold iaX
  rw [if_pos ⟨Int.natCast_nonneg _, by simpa using hlt⟩]
  simp [hlt, hx, hc]
theorem elS_map (h : xs[i]? = some x) : elS (xs.map f) i off = (f x).cells[off]? := by simp [elS, h]
theorem elA_map (h : xs[i]? = some x) : elA k (xs.map f) i off = if off + k ≤ (f x).cells.length then some (.agg (((f x).cells.drop off).take k)) else none := by simp [elA, h]
end
theorem Clean.map {α : Type} {a b c : Nat} {f : α → PV} {xs : List α} {o : Own} (ho : ∀ r n es, o = .tok r n es → r < b) (h : ∀ x, Clean a b c (f x)) : Clean a b c (.isl (xs.map f) o) :=
  .isl _ _ (fun e he => by obtain ⟨x, _, rfl⟩ := List.mem_map.1 he; exact h x) ho
theorem noTok {b : Nat} : ∀ r n es, Own.ro = .tok r n es → r < b := fun r n es e => by cases e
theorem clean_ints {a b c : Nat} (xs : List Int) : Clean a b c (ints xs) := Clean.ints xs .ro noTok
theorem clean_st {a b c : Nat} (s : Int × Int) : Clean a b c (stPV s) := .agg _ (Clean.all_cons (.int _ _) (Clean.all_cons (.int _ _) Clean.all_nil))
theorem clean_gr {a b c : Nat} (g : Group) : Clean a b c (grPV g) :=
  .agg _ (Clean.all_cons (.int _ _) (Clean.all_cons (.int _ _) (Clean.all_cons (.int _ _) (Clean.all_cons (.int _ _) (Clean.all_cons (.int _ _) (Clean.all_cons (.int _ _) (Clean.all_cons (clean_ints _) Clean.all_nil)))))))
theorem cleans_bd {a b c : Nat} (x : Band) : ∀ p, p ∈ bdCells x → Clean a b c p :=
  Clean.all_cons (.int _ _) (Clean.all_cons (clean_ints _) (Clean.all_cons (.int _ _) (Clean.all_cons (.int _ _) (Clean.all_cons (.int _ _) (Clean.all_cons (.int _ _) Clean.all_nil)))))
theorem clean_bd {a b c : Nat} (x : Band) : Clean a b c (bdPV x) := .agg _ (cleans_bd x)
theorem cleans_tw {a b c : Nat} (t : Town) : ∀ p, p ∈ twCells t → Clean a b c p :=
  Clean.all_cons (clean_ints _) (Clean.all_cons (Clean.map noTok clean_st) (Clean.all_cons (Clean.map noTok clean_gr) (Clean.all_cons (.int _ _) Clean.all_nil)))
theorem Wk_int {a b c : Nat} {k : IntKind} {n m : Int} (h : n = m) : Wk a b c (.int k n) (.int k m) := by rw [h]; exact Wk.of_clean (.int _ _)
theorem Wk_bool {a b c : Nat} {n m : Bool} (h : n = m) : Wk a b c (.bool n) (.bool m) := by rw [h]; exact Wk.of_clean (.bool _)
def inR (n lo hi : Int) : Bool := decide (lo ≤ n) && decide (n ≤ hi)
def allIn (lo hi : Int) (l : List Int) : Bool := l.all fun n => inR n lo hi
def other (s : Int × Int) (at' : Int) : Int := if at' = s.1 then s.2 else if at' = s.2 then s.1 else -1
def chkSpan (lo hi limit : Int) : Int := if !(inR lo 0 limit && inR hi 0 limit) then 2 else if lo > hi then 9 else 0
theorem okC_st {xs : List (Int × Int)} : okC 2 (xs.map stPV) = True := okC_map fun x => by simp [okC, stPV, PV.cells, PV.scalar]
theorem okC_gr {xs : List Group} : okC 7 (xs.map grPV) = True := okC_map fun x => by simp [okC, grPV, PV.cells, PV.scalar]
theorem okC_bd {xs : List Band} : okC 6 (xs.map bdPV) = True := okC_map fun x => by simp [okC, bdPV, bdCells, PV.cells, PV.scalar]
theorem roL_st {xs : List (Int × Int)} : PV.roL (xs.map stPV) = xs.map stPV := roL_enc fun x => by simp only [stPV, ro_agg, roL_cons, roL_nil, ro_int]
theorem roL_gr {xs : List Group} : PV.roL (xs.map grPV) = xs.map grPV := roL_enc fun x => by simp only [grPV, ro_agg, roL_cons, roL_nil, ro_int, ro_isl, roL_ints]
theorem roL_bd {xs : List Band} : PV.roL (xs.map bdPV) = xs.map bdPV := roL_enc fun x => by simp only [bdPV, bdCells, ro_agg, roL_cons, roL_nil, ro_int, ro_isl, roL_ints]
theorem cA_st {a b c : Nat} {xs : List (Int × Int)} : CleanAll a b c (xs.map stPV) = True := CleanAll_map clean_st
theorem cA_gr {a b c : Nat} {xs : List Group} : CleanAll a b c (xs.map grPV) = True := CleanAll_map clean_gr
theorem cA_bd {a b c : Nat} {xs : List Band} : CleanAll a b c (xs.map bdPV) = True := CleanAll_map clean_bd
attribute [go_sem] okC_st okC_gr okC_bd roL_st roL_gr roL_bd cA_st cA_gr cA_bd stPV grPV twPV twCells ctPV ctCells bdPV bdCells
theorem mixed : Try.prog.follows .mixedOrders = true := by kernel_rfl
end Go.Proofs.Ytnpamcpoaklgeaa
namespace Go.Proofs.Ytnpamcpoaklgeaa
open Go Go.RowKit
theorem own : ownKnob Try.prog.godebug = none := by kernel_rfl
theorem laidOut : laidOutB Try.prog = true := by kernel_rfl
theorem rdInt : Rd Try.prog 3 fun p => ∃ n : Int, p = I n := (Rd.int Try.underlying3).mono fun _ ⟨n, h, _⟩ => ⟨n, h⟩
theorem rdInts : Rd Try.prog 22 fun p => ∃ xs : List Int, p = ints xs ∧ xs.length * 8 ≤ 140737488351232 :=
  (Rd.slice Try.underlying22 (by kernel_rfl) rdInt).mono fun p ⟨l, h1, h2, h3⟩ => by
    obtain ⟨xs, rfl, _⟩ := map_of (f := I) (Q := fun _ => True) fun x hx => let ⟨n, e⟩ := h1 x hx; ⟨n, e, trivial⟩
    have e : Try.prog.bytesOf 3 = 8 := by kernel_rfl
    rw [e] at h2
    exact ⟨xs, h3, by simpa [reachBytes] using h2⟩
end Go.Proofs.Ytnpamcpoaklgeaa
namespace Go.Proofs.Ytnpamcpoaklgeaa
open Go Go.RowKit
end Go.Proofs.Ytnpamcpoaklgeaa
namespace Go.Proofs.Ytnpamcpoaklgeaa
open Go Go.RowKit
theorem Weak.roV {N : Nat} {lo : Nat × Nat} {E : Env} {σ : Sg} {id off : Nat} {cs : List PV} {p : PV} (hid : σ.store[id]? = some (some cs)) (hc : cs[off]? = some p) : Weak N lo E σ E (σ.setVar id (cs.set off p.ro)) := by
  intro Ψ0 Ψ D a w hb le hr
  have hs2 := hr.sg.reread (cs' := cs.set off p.ro) hid (fun b hb2 h2 => h2.setRo hc)
  exact ⟨Ψ, le, hr.size, hr.env, hs2, hr.dsub, hr.defs⟩
theorem Weak.roX {N : Nat} {lo : Nat × Nat} {E : Env} {σ : Sg} {l : List (Option (List PV))} {rm : List Nat} {ys : List LState} {j off : Nat} {cs : List PV} {p : PV} (hid : l[j]? = some (some cs)) (hc : cs[off]? = some p) :
    Weak N lo E (σ.ext l rm ys) E (σ.ext (l.set j (some (cs.set off p.ro))) rm ys) := by
  have h := Weak.roV (N := N) (lo := lo) (E := E) (σ := σ.ext l rm ys) (id := σ.store.length + j) (off := off) (cs := cs) (p := p) (by rw [Sg.get_ext]; exact hid) hc
  rw [Sg.set_ext] at h
  exact h
theorem Weak.roSV {N : Nat} {lo : Nat × Nat} {E : Env} {σ : Sg} {d : Nat} {ds : List PV} {l : List (Option (List PV))} {rm : List Nat} {ys : List LState} {j off : Nat} {cs : List PV} {p : PV} (hid : l[j]? = some (some cs)) (hc : cs[off]? = some p) :
    Weak N lo E ((σ.setVar d ds).ext l rm ys) E ((σ.setVar d ds).ext (l.set j (some (cs.set off p.ro))) rm ys) := Weak.roX hid hc
end Go.Proofs.Ytnpamcpoaklgeaa
namespace Go.Proofs.Ytnpamcpoaklgeaa
open Go Go.RowKit
theorem op_step {D : List Nat} {P : Program} {N : Nat} {rd : Option Nat} {ops : Array Oper} {Ψ0 : Ty} {Q : Exit → Act → World → Prop} {E : Env} {σ : Sg} {Ψ : Ty} {a : Act} {w : World} {o : Oper} {i : Nat} {is : List Nat} {v : PV}
    (hr : Rel N D Ψ E σ a w) (ho : ops[i]? = some o) (hd : dstOK N o = true) (hg : o.guard = none) (hnd : ∀ c, o.op ≠ .defer c) {x : Value} (hx : (execOp a.eval o).run P w = .ok (.value x) w) (hv : VR Ψ v x)
    (k : ∀ a', Rel N D Ψ (E.put o.dst v) σ a' w → wpOpsIn (FnOf Ψ0 rd) 0 P ops Q is a' w) : wpOpsIn (FnOf Ψ0 rd) 0 P ops Q (i :: is) a w := by
  simp only [wpOpsIn, ho]
  have hw : wantedPV ops E o = some true := by simp [wantedPV, hg]
  rw [wanted_ok hw hr.env]
  simp only [if_true]
  refine ⟨fun f _ => FnOf_fn _ _ _, ?_⟩
  rw [Oper.semAt_eq _ _ _ hnd, hx]
  exact k _ (hr.put (Ty.le.refl _) hr.sg hd hv)
theorem W_isnil {P : Program} {Y : YEnv} {N : Nat} {rd : Option Nat} {lo : Nat × Nat} {id d1 d2 : Nat} {x : Operand} {t ty1 ty2 e : TypeId} {p1 p2 : String} {af1 af2 : Array Edge} {sh : TypeId} {E : Env} {σ : Sg} {Q : Exit → Env → Sg → Prop} {l : List PV} {own : Own} (ks : List Nat)
    (h1 : d1 < N) (h2 : d2 < N) (hx : ev E x = .isl l own) (ht : P.underlying t = some (.slice e))
    (h : ∀ b : Bool, (b = true → l = []) → Q .normal (keep ks ((d2, .bool b) :: (d1, .isl l own) :: E)) σ) :
    W P Y N rd lo (.region id #[{ dst := some d1, op := .move x, type := ty1, pos := p1, after := af1, guard := none }, { dst := some d2, op := .binOp .eql t (.tmp d1) (.const (.slice none 0 0)) sh, type := ty2, pos := p2, after := af2, guard := none }] false) E σ Q := by
  intro Ψ0 D _ hy _ Ψ a w le hr
  refine wpIn_region ?_
  have hv := ev_ok hr.env x
  rw [hx] at hv
  refine op_step (is := [1]) (v := .isl l own) hr rfl (by simp [dstOK, h1]) rfl (fun c e => by cases e) (x := a.eval x) rfl hv fun a1 hr1 => ?_
  have hv1 : VR Ψ (.isl l own) (a1.tmps.getD d1 undef) := by
    have : VR Ψ ((Env.put E (some d1) (.isl l own)).get d1) (a1.tmps.getD d1 undef) := hr1.env d1
    rw [show (Env.put E (some d1) (.isl l own)).get d1 = .isl l own by simp [Env.get]] at this
    exact this
  have hval : ∃ q n c, a1.tmps.getD d1 undef = .slice q n c ∧ (q.isNone = true → l = []) := by
    generalize a1.tmps.getD d1 undef = z at hv1
    cases hv1 with
    | islnil _ _ _ => exact ⟨_, _, _, rfl, fun _ => rfl⟩
    | isl es _ _ b o cap vals hs h1 h2 hc ho => exact ⟨_, _, _, rfl, fun h => by simp at h⟩
  obtain ⟨q, n, c, hz, hq⟩ := hval
  have he : (a1.eval (.tmp d1)) = .slice q n c := hz
  have hrun : ∀ o : Oper, o.op = .binOp .eql t (.tmp d1) (.const (.slice none 0 0)) sh → (execOp a1.eval o).run P w = .ok (.value (.bool q.isNone)) w := by
    intro o ho
    have e1 : execOp a1.eval o = (do pure (.value (← (do eqGuard .eql t (.tmp d1) (.const (.slice none 0 0)) (a1.eval (.tmp d1)) (a1.eval (.const (.slice none 0 0))); binOp .eql t (a1.eval (.tmp d1)) (a1.eval (.const (.slice none 0 0))) : Sem Value)))) := by
      unfold execOp; rw [ho]
    have he2 : a1.eval (.const (.slice none 0 0)) = .slice none 0 0 := rfl
    rw [e1, he, he2]
    have hg : (eqGuard .eql t (.tmp d1) (.const (.slice none 0 0)) (.slice q n c) (.slice none 0 0)).run P w = .ok () w := rfl
    have hb : (binOp .eql t (.slice q n c) (.slice none 0 0)).run P w = .ok (.bool q.isNone) w := by
      have heq : (Op.equal t (.slice q n c) (.slice none 0 0)).run P w = .ok q.isNone w := by
        unfold Op.equal
        show (Op.equalIn (9999 + 1) t (.slice q n c) (.slice none 0 0)).run P w = _
        unfold Op.equalIn
        rw [run_bind_ok (run_und ht)]
        cases q <;> rfl
      show (do pure (.bool (← Op.equal t (.slice q n c) (.slice none 0 0))) : Sem Value).run P w = _
      rw [run_bind_ok heq]; rfl
    have hgb : (do eqGuard .eql t (.tmp d1) (.const (.slice none 0 0)) (.slice q n c) (.slice none 0 0); binOp .eql t (.slice q n c) (.slice none 0 0) : Sem Value).run P w = .ok (.bool q.isNone) w := by
      rw [run_bind_ok hg]; exact hb
    rw [run_bind_ok hgb]
    rfl
  refine op_step (is := []) (v := .bool q.isNone) hr1 rfl (by simp [dstOK, h2]) rfl (fun c e => by cases e) (x := .bool q.isNone) (hrun _ rfl) (.bool _) fun a2 hr2 => ?_
  exact ⟨_, σ, Ψ, le, hr2.keep ks, Below.refl _ _, h _ hq⟩
end Go.Proofs.Ytnpamcpoaklgeaa
namespace Go.Proofs.Ytnpamcpoaklgeaa
open Go Go.RowKit
/-- The owner of a part of a slice. -/
theorem slHi_of {P : Program} {t e : TypeId} {d : TypeDesc} (h : P.underlying t = some (.slice e)) (he : P.underlying e = some d) (l : List PV) (own : Own) (k : IntKind) (n : Int) :
    slicePV P t (.isl l own) none (some (.int k n)) none = if 0 ≤ n then if n.toNat ≤ l.length then some (.isl (l.take n.toNat) (sliceOwn own 0 n.toNat l.length)) else none else none := by
  unfold slicePV
  rw [h]
  simp only [he, bnd]
  by_cases hn : 0 ≤ n
  · simp [hn]
  · simp [hn]
/-- Without an owner. -/
theorem sliceOwn_ro {lo h len : Nat} : sliceOwn .ro lo h len = .ro := by unfold sliceOwn; split <;> rfl
theorem sliceOwn_self {own : Own} {lo len : Nat} : sliceOwn own lo len len = own := by simp [sliceOwn]
attribute [go_sem] sliceOwn_ro sliceOwn_self
theorem slLo_of {P : Program} {t e : TypeId} {d : TypeDesc} {c : Nat} (h : P.underlying t = some (.slice e)) (he : P.underlying e = some d) (hc : P.cellsOf e = c) {α : Type} {f : α → PV} (hf : ∀ x, (f x).cells.length = c) (xs : List α) (own : Own) (k : IntKind) (n : Int) :
    slicePV P t (.isl (xs.map f) own) (some (.int k n)) none none = if 0 ≤ n then if n.toNat ≤ xs.length then some (.isl ((xs.drop n.toNat).map f) own) else none else none := by
  have hall : (xs.map f).all (fun el => el.cells.length == c) = true := by
    rw [List.all_eq_true]
    intro p hp
    obtain ⟨x, _, rfl⟩ := List.mem_map.1 hp
    simp [hf]
  unfold slicePV
  rw [h]
  simp only [he, bnd, hc]
  by_cases hn : 0 ≤ n
  · simp only [hn, if_true]
    by_cases hl : n.toNat ≤ xs.length
    · rw [if_pos ⟨by simpa using hl, Nat.le_refl _, .inr hall⟩, if_pos hl, sliceOwn_self, ← List.map_drop, List.take_of_length_le (by simp)]
    · rw [if_neg (fun q => hl (by simpa using q.1)), if_neg hl]
  · simp [hn]
end Go.Proofs.Ytnpamcpoaklgeaa
namespace Go.Proofs.Ytnpamcpoaklgeaa
open Go Go.RowKit
section
variable {P : Program} {t e : TypeId} {d : TypeDesc} {c b : Nat} {σ : Sg} {id len es : Nat}
theorem iaG_of (h : P.underlying t = some (.slice e)) (he : P.underlying e = some d) (hc : P.cellsOf e = c) (kd : IntKind) (len : Nat) (n : Int) : indexAddrPV P t (.gsl id len es) (.int kd n) = iaM c id 0 len n := by
  simp [indexAddrPV, h, he, hc, iaM]
theorem lenG_of (h : P.underlying t = some (.slice e)) (n : Nat) : lenPV P t (.gsl id n es) = some (.int .i64 n) := by simp [lenPV, h]
theorem lenN_of (h : P.underlying t = some (.slice e)) : lenPV P t .gnil = some (.int .i64 0) := by simp [lenPV, h]
def appG (c b : Nat) (σ : Sg) (x : PV) (m : List PV) : Option (PV × Sg) :=
  if m.all (fun q => (q.cells.length == c) && q.cells.all PV.scalar) && decide (0 < m.length) then
    (match x with
     | .gnil => if m.length * b ≤ 2 ^ 47 then some (.gsl σ.store.length m.length c, σ.push (rowC m)) else none
     | .gsl id len es => match σ.store[id]? with
       | some (some cs) => if es = c ∧ cs.length = len * es ∧ (len + m.length) * b ≤ 2 ^ 47 then some (.gsl σ.store.length (len + m.length) es, (σ.drop id).push (cs ++ rowC m)) else none
       | _ => none
     | _ => none)
  else none
theorem appG_of {zs : List PV} {x : PV} {m : List PV} {own : Own} (h : P.underlying t = some (.slice e)) (he : P.underlying e = some d) (hc : P.cellsOf e = c) (hb : P.bytesOf e = b) (hb0 : b ≠ 0) (hc0 : 0 < c) (hz : zeroPV P e = some zs) (hzl : zs.length = c) :
    appendG P σ t t x (.isl m own) = appG c b σ x m := by
  unfold appendG appG
  rw [h]
  simp only [he, hc, hb, hz, hzl, Option.isSome_some, Bool.true_and, Option.map_some, BEq.rfl, Bool.and_true, hb0, hc0, ne_eq, not_false_eq_true, and_self, decide_true]
  rfl
theorem appG_nil {m : List PV} (h1 : m.all (fun q => (q.cells.length == c) && q.cells.all PV.scalar) = true) (h2 : 0 < m.length) (h3 : m.length * b ≤ 2 ^ 47) : appG c b σ .gnil m = some (.gsl σ.store.length m.length c, σ.push (rowC m)) := by
  simp only [appG, h1, h2, h3, decide_true, Bool.and_true, if_true]
theorem appG_more {m cs : List PV} (hs : σ.store[id]? = some (some cs)) (hl : cs.length = len * c) (h1 : m.all (fun q => (q.cells.length == c) && q.cells.all PV.scalar) = true) (h2 : 0 < m.length) (h3 : (len + m.length) * b ≤ 2 ^ 47) :
    appG c b σ (.gsl id len c) m = some (.gsl σ.store.length (len + m.length) c, (σ.drop id).push (cs ++ rowC m)) := by
  simp only [appG, h1, h2, decide_true, Bool.and_true, if_true, hs]
  rw [if_pos ⟨trivial, hl, h3⟩]
end
theorem rowC_at {es : Nat} : ∀ {l : List PV} (_ : ∀ q ∈ l, q.cells.length = es) {k j : Nat} {q p : PV}, l[k]? = some q → q.cells[j]? = some p → (rowC l)[k * es + j]? = some p := by
  intro l
  induction l with
  | nil => intro _ k j q p h; simp at h
  | cons a l ih =>
    intro hl k j q p h1 h2
    have ha := hl a (by simp)
    have e : rowC (a :: l) = a.cells ++ rowC l := by simp [rowC]
    rw [e]
    cases k with
    | zero =>
      simp at h1
      subst h1
      rw [Nat.zero_mul, Nat.zero_add, List.getElem?_append_left (List.getElem?_eq_some_iff.1 h2).1]
      exact h2
    | succ k =>
      have := ih (fun q hq => hl q (by simp [hq])) (by simpa using h1) h2
      rw [List.getElem?_append_right (by rw [ha, Nat.add_mul]; omega), ha, show (k + 1) * es + j - es = k * es + j by rw [Nat.add_mul]; omega]
      exact this
theorem Sg.drop_ext {σ : Sg} {l : List (Option (List PV))} {rm : List Nat} {ys : List LState} (j : Nat) : (σ.ext l rm ys).drop (σ.store.length + j) = σ.ext (l.set j none) rm ys := by
  simp [Sg.drop, Sg.ext, List.set_append]
theorem Sg.drop_ext0 {σ : Sg} {l : List (Option (List PV))} {rm : List Nat} {ys : List LState} : (σ.ext l rm ys).drop σ.store.length = σ.ext (l.set 0 none) rm ys := Sg.drop_ext 0
attribute [go_sem] Sg.drop_ext Sg.drop_ext0
end Go.Proofs.Ytnpamcpoaklgeaa
namespace Go.Proofs.Ytnpamcpoaklgeaa
open Go Go.RowKit
/-- A map's entries. -/
def mapE {κ ν : Type} (ek : κ → PV) (ev : ν → PV) (l : List (κ × ν)) : List PV := l.map fun e => .tuple [ek e.1, ev e.2]
theorem mapE_cons {κ ν : Type} (ek : κ → PV) (ev : ν → PV) (e : κ × ν) (l : List (κ × ν)) : mapE ek ev (e :: l) = .tuple [ek e.1, ev e.2] :: mapE ek ev l := rfl
theorem mapE_append {κ ν : Type} (ek : κ → PV) (ev : ν → PV) (l m : List (κ × ν)) : mapE ek ev (l ++ m) = mapE ek ev l ++ mapE ek ev m := by simp [mapE]
section
variable {κ ν : Type} [DecidableEq κ]
def aget (k : κ) : List (κ × ν) → Option ν
  | [] => none
  | e :: l => if k = e.1 then some e.2 else aget k l
def aput (k : κ) (v : ν) : List (κ × ν) → List (κ × ν)
  | [] => [(k, v)]
  | e :: l => if k = e.1 then (k, v) :: l else e :: aput k v l
theorem aget_append (k : κ) : ∀ l m : List (κ × ν), aget k (l ++ m) = match aget k l with | some v => some v | none => aget k m := by
  intro l m
  induction l with
  | nil => rfl
  | cons e l ih =>
    simp only [List.cons_append, aget]
    split
    · rfl
    · exact ih
/-- The keys of a type are told apart as their readings are. -/
def KeyOK (P : Program) (kt : TypeId) (ek : κ → PV) : Prop := ∀ a b, keyEq P kt (ek a) (ek b) = some (decide (a = b))
def afind (k : κ) : List (κ × ν) → Nat → Option (Nat × ν)
  | [], _ => none
  | e :: l, i => if k = e.1 then some (i, e.2) else afind k l (i + 1)
theorem findPV_map {P : Program} {kt : TypeId} {ek : κ → PV} (h : KeyOK P kt ek) (ev : ν → PV) (k : κ) : ∀ (l : List (κ × ν)) (i : Nat), findPV P kt (ek k) (mapE ek ev l) i = some ((afind k l i).map fun r => (r.1, ev r.2)) := by
  intro l
  induction l with
  | nil => intro i; rfl
  | cons e l ih =>
    intro i
    simp only [mapE_cons, findPV, afind]
    rw [h k e.1]
    by_cases he : k = e.1
    · simp [he]
    · simp only [he, decide_false, if_neg, not_false_eq_true]
      exact ih (i + 1)
theorem afind_get (k : κ) : ∀ (l : List (κ × ν)) (i : Nat), (afind k l i).map (·.2) = aget k l := by
  intro l
  induction l with
  | nil => intro i; rfl
  | cons e l ih =>
    intro i
    simp only [afind, aget]
    split
    · rfl
    · exact ih (i + 1)
theorem afind_put (ek : κ → PV) (ev : ν → PV) (k : κ) (v : ν) : ∀ (l : List (κ × ν)) (i : Nat), match afind k l i with
    | none => aput k v l = l ++ [(k, v)]
    | some (j, _) => i ≤ j ∧ (mapE ek ev l).set (j - i) (.tuple [ek k, ev v]) = mapE ek ev (aput k v l) := by
  intro l
  induction l with
  | nil => intro i; rfl
  | cons e l ih =>
    intro i
    simp only [afind, aput]
    by_cases he : k = e.1
    · rw [if_pos he, if_pos he]
      simp [mapE_cons]
    · rw [if_neg he, if_neg he]
      have := ih (i + 1)
      cases hf : afind k l (i + 1) with
      | none => rw [hf] at this; simp only at this ⊢; rw [this]; rfl
      | some r =>
        rw [hf] at this
        obtain ⟨j, x⟩ := r
        simp only at this ⊢
        refine ⟨by omega, ?_⟩
        rw [show j - i = j - (i + 1) + 1 by omega, mapE_cons, List.set_cons_succ, this.2, mapE_cons]
def lkM (P : Program) (kt : TypeId) (z : PV) (b : Option (Option (List PV))) (k : PV) (ok : Bool) : Option PV :=
  match b with
  | some (some (.mark :: es)) => match findPV P kt k es 0 with
    | some (some (_, v)) => some (packPV ok v true)
    | some none => some (packPV ok z false)
    | none => none
  | _ => none
def lkX (P : Program) (kt : TypeId) (z : PV) (σ : Sg) (id : Nat) (k : PV) (ok : Bool) : Option PV := lkM P kt z σ.store[id]? k ok
def upM (P : Program) (kt : TypeId) (b : Option (Option (List PV))) (k v : PV) : Option (List PV) :=
  match b with
  | some (some (.mark :: es)) => match findPV P kt k es 0 with
    | some (some (j, _)) => some (.mark :: es.set j (.tuple [k, v]))
    | some none => some (.mark :: (es ++ [.tuple [k, v]]))
    | none => none
  | _ => none
def upX (P : Program) (kt : TypeId) (σ : Sg) (id : Nat) (k v : PV) : Option Sg := (upM P kt σ.store[id]? k v).map fun cs => σ.setVar id cs
theorem lk_of {P : Program} {t kt et : TypeId} {kd : TypeDesc} {z : PV} (h : P.underlying t = some (.map kt et)) (hk : P.underlying kt = some kd) (hz : zeroOne P et = some z) {k : PV} (hf : keyFor P kd k = true) (σ : Sg) (id : Nat) (ok : Bool) :
    lookupPV P σ t (.map id) k ok = lkX P kt z σ id k ok := by
  simp only [lookupPV, h, hk, hz, hf, if_true, lkX, lkM]
  rfl
theorem up_of {P : Program} {t kt et : TypeId} {kd : TypeDesc} (h : P.underlying t = some (.map kt et)) (hk : P.underlying kt = some kd) {k : PV} (hf : keyFor P kd k = true) (v : PV) (σ : Sg) (id : Nat) :
    updatePV P σ t (.map id) k v = upX P kt σ id k v := by
  simp only [updatePV, h, hk, hf, if_true, upX, upM]
  generalize σ.store[id]? = b
  rcases b with _ | _ | cs
  · rfl
  · rfl
  · rcases cs with _ | ⟨c, cs⟩
    · rfl
    · cases c <;> try rfl
      simp only
      rcases findPV P kt k cs 0 with _ | _ | ⟨j, x⟩ <;> rfl
theorem lkM_map {P : Program} {kt : TypeId} {z : PV} {ek : κ → PV} (h : KeyOK P kt ek) (ev : ν → PV) (l : List (κ × ν)) (k : κ) (ok : Bool) :
    lkM P kt z (some (some (.mark :: mapE ek ev l))) (ek k) ok = some (packPV ok (match aget k l with | some v => ev v | none => z) (aget k l).isSome) := by
  simp only [lkM, findPV_map h]
  rw [← afind_get k l 0]
  cases afind k l 0 with
  | none => rfl
  | some r => rfl
theorem upM_map {P : Program} {kt : TypeId} {ek : κ → PV} (h : KeyOK P kt ek) (ev : ν → PV) (l : List (κ × ν)) (k : κ) (v : ν) :
    upM P kt (some (some (.mark :: mapE ek ev l))) (ek k) (ev v) = some (.mark :: mapE ek ev (aput k v l)) := by
  simp only [upM, findPV_map h]
  have := afind_put ek ev k v l 0
  cases hf : afind k l 0 with
  | none =>
    rw [hf] at this
    simp only at this
    simp only [Option.map_none, this, mapE_append]
    rfl
  | some r =>
    rw [hf] at this
    obtain ⟨j, x⟩ := r
    simp only [Option.map_some]
    have h2 := this.2
    simp only [Nat.sub_zero] at h2
    rw [h2]
end
section
variable {P : Program} {kt : TypeId} {z : PV} {σ : Sg} {l : List (Option (List PV))} {rm : List Nat} {ys : List LState} {j d : Nat} {cs : List PV} {k v : PV} {ok : Bool}
theorem lkX_ext : lkX P kt z (σ.ext l rm ys) (σ.store.length + j) k ok = lkM P kt z l[j]? k ok := by simp only [lkX, Sg.get_ext]
theorem lkX_ext0 : lkX P kt z (σ.ext l rm ys) σ.store.length k ok = lkM P kt z l[0]? k ok := by simp only [lkX, Sg.get_ext0]
theorem upX_ext : upX P kt (σ.ext l rm ys) (σ.store.length + j) k v = (upM P kt l[j]? k v).map fun cs => σ.ext (l.set j (some cs)) rm ys := by simp only [upX, Sg.get_ext, Sg.set_ext]
theorem upX_ext0 : upX P kt (σ.ext l rm ys) σ.store.length k v = (upM P kt l[0]? k v).map fun cs => σ.ext (l.set 0 (some cs)) rm ys := by simp only [upX, Sg.get_ext0, Sg.set_ext0]
theorem lkX_svx : lkX P kt z ((σ.setVar d cs).ext l rm ys) (σ.store.length + j) k ok = lkM P kt z l[j]? k ok := by
  have := lkX_ext (P := P) (kt := kt) (z := z) (σ := σ.setVar d cs) (l := l) (rm := rm) (ys := ys) (j := j) (k := k) (ok := ok)
  rw [sv_len] at this
  exact this
theorem Cl_map {a b c id : Nat} : Clean a b c (.map id) = (id < a) := propext ⟨fun h => by cases h; assumption, fun h => .mapv _ h⟩
theorem Cl_nilmap {a b c : Nat} : Clean a b c .nilmap = True := eq_true .nilmap
theorem Cl_mark {a b c : Nat} : Clean a b c .mark = True := eq_true .mark
theorem Cl_gsl {a b c id len es : Nat} : Clean a b c (.gsl id len es) = (id < a) := propext ⟨fun h => by cases h; assumption, fun h => .gsl _ _ _ h⟩
theorem Cl_gnil {a b c : Nat} : Clean a b c .gnil = True := eq_true .gnil
theorem CleanAll_mapE {κ ν : Type} {a b c : Nat} {ek : κ → PV} {ev : ν → PV} {l : List (κ × ν)} (h1 : ∀ x, Clean a b c (ek x)) (h2 : ∀ x, Clean a b c (ev x)) : CleanAll a b c (mapE ek ev l) = True := eq_true fun p hp => by
  obtain ⟨e, _, rfl⟩ := List.mem_map.1 hp
  refine .tuple _ fun q hq => ?_
  simp only [List.mem_cons, List.not_mem_nil, or_false] at hq
  rcases hq with rfl | rfl
  · exact h1 _
  · exact h2 _
theorem CleanAll_mapI {a b c : Nat} {l : List (Int × Int)} : CleanAll a b c (mapE I I l) = True := CleanAll_mapE (fun _ => .int _ _) (fun _ => .int _ _)
end
end Go.Proofs.Ytnpamcpoaklgeaa
namespace Go.Proofs.Ytnpamcpoaklgeaa
open Go Go.RowKit
theorem rowC_single {l : List PV} (h : ∀ q, q ∈ l → q.cells = [q]) : rowC l = l := by
  induction l with
  | nil => rfl
  | cons q l ih =>
    have := ih fun q hq => h q (by simp [hq])
    simp only [rowC, List.flatMap_cons] at this ⊢
    rw [h q (by simp), this]
    rfl
theorem rowC_ints (xs : List Int) : rowC (xs.map I) = xs.map I := rowC_single fun q hq => by obtain ⟨x, _, rfl⟩ := List.mem_map.1 hq; rfl
theorem setI {xs : List Int} {i : Nat} {v : Int} : (xs.map I).set i (I v) = (xs.set i v).map I := by rw [List.map_set]
theorem setB {xs : List Bool} {i : Nat} {v : Bool} : (xs.map PV.bool).set i (.bool v) = (xs.set i v).map PV.bool := by rw [List.map_set]
end Go.Proofs.Ytnpamcpoaklgeaa
namespace Go.Proofs.Ytnpamcpoaklgeaa
open Go Go.RowKit
def NoGoto (Q : Exit → Env → Sg → Prop) : Exit → Env → Sg → Prop
  | .goto _, _, _ => False
  | e, E, σ => Q e E σ
section
variable {P : Program} {a : Act} {k : List Item} {cs : List Frame} {w : World} {Q : Exit → Env → Sg → Prop}
theorem ngN {E : Env} {σ : Sg} : NoGoto Q .normal E σ = Q .normal E σ := rfl
theorem ngR {E : Env} {σ : Sg} : NoGoto Q .ret E σ = Q .ret E σ := rfl
theorem ngX {E : Env} {σ : Sg} {i : Nat} : NoGoto Q (.exit i) E σ = Q (.exit i) E σ := rfl
attribute [go_sem] ngN ngR ngX
end
end Go.Proofs.Ytnpamcpoaklgeaa
namespace Go.Proofs.Ytnpamcpoaklgeaa
open Go Go.RowKit
/-- A contract of the library's, as a contract. -/
theorem PC_of_calls {P : Program} {Y : YEnv} {f : FuncId} {args : List PV} {σ σ' : Sg} {v : PV} (hg : goFn P f = true)
    (h : ∀ Ψ vals w, SR Ψ σ w → VRs Ψ args vals → Calls P f vals w (fun e w' => ∃ x Ψ', e = .returned x ∧ Ψ.le Ψ' ∧ SR Ψ' σ' w' ∧ VR Ψ' v x ∧ Below Ψ.base w w')) : PC P Y f args σ v σ' :=
  ⟨hg, fun Ψ vals w hs ha _ => callsIn_wide.2 (h Ψ vals w hs ha)⟩
/-- A variable's block is written anew. -/
theorem SR.rewrite {Ψ : Ty} {σ : Sg} {w w' : World} (h : SR Ψ σ w) {id b : Nat} {cs cs' : List PV} {c c' : Array Value} {e : TypeId} (hid : σ.store[id]? = some (some cs)) (hβ : Ψ.β[id]? = some b)
    (hb : w.heap[b]? = some (.cells c e (0, 0))) (hb' : w'.heap[b]? = some (.cells c' e (0, 0))) (hsz : c'.size = c.size) (hz : w.heap.size ≤ w'.heap.size) (ho : ∀ k, k < w.heap.size → k ≠ b → w'.heap[k]? = w.heap[k]?)
    (hl : cs'.length ≤ c'.size) (hv : ∀ (j : Nat) (p : PV) (v : Value), cs'[j]? = some p → c'[j]? = some v → VR Ψ p v) : SR Ψ (σ.setVar id cs') w' := by
  obtain ⟨p1, p2, p3⟩ := h.block id cs b hid hβ
  have old : ∀ (i : Nat) (x : List PV), (σ.setVar id cs').store[i]? = some (some x) → ∃ y, σ.store[i]? = some (some y) := fun i x hx => by
    rcases setVar_some hid hx with ⟨rfl, _⟩ | ⟨_, h'⟩
    · exact ⟨_, hid⟩
    · exact ⟨_, h'⟩
  have hbi : blockIs w b c := ⟨e, hb⟩
  have cel : ∀ b2 o v, b2 ≠ b → w.cell? ⟨b2, o, none⟩ = some v → w'.cell? ⟨b2, o, none⟩ = some v := fun b2 o v hne hv => by
    rw [cell_eq, ho b2 (cell_lt hv) hne, ← cell_eq]; exact hv
  have blk : ∀ b2 c2, b2 ≠ b → blockIs w b2 c2 → blockIs w' b2 c2 := fun b2 c2 hne hk => hk.of_heap (ho b2 hk.lt hne)
  refine ⟨Nat.le_trans h.base hz, fun b2 o v hk => cel b2 o v (fun e2 => by subst e2; rw [p2] at hk; cases hk) (h.imm b2 o v hk), by rw [sv_len]; exact h.blen, ?_, ?_, ?_, h.roomsApart, h.histlt, h.histle, fun i b2 hk => Nat.lt_of_lt_of_le (h.βlt i b2 hk) hz, ?_, h.ylen', ?_, ?_, ?_⟩
  · intro i x b2 hx hb2
    rcases setVar_some hid hx with ⟨rfl, rfl⟩ | ⟨hne, h'⟩
    · have : b2 = b := by rw [hβ] at hb2; injection hb2 with hb2; exact hb2.symm
      subst this
      exact ⟨p1, p2, .inl ⟨c', ⟨e, hb'⟩, hl, hv⟩⟩
    · have hbn : b2 ≠ b := fun e2 => hne (h.apart i id x cs b2 h' hid hb2 (e2 ▸ hβ))
      obtain ⟨a1, a2, a3⟩ := h.block i x b2 h' hb2
      exact ⟨a1, a2, a3.of_heap (ho b2 (h.βlt i b2 hb2) hbn)⟩
  · intro i i' x x' b2 hx hx' hb2 hb2'
    obtain ⟨y, hy⟩ := old i x hx
    obtain ⟨y', hy'⟩ := old i' x' hx'
    exact h.apart i i' y y' b2 hy hy' hb2 hb2'
  · intro r n b2 e2 c2 es hr hh hlt
    obtain ⟨a1, a2, a3, cc, a4, a5⟩ := h.room r n b2 e2 c2 es hr hh hlt
    have hbn : b2 ≠ b := fun e3 => a3 id (e3 ▸ hβ) cs hid
    refine ⟨a1, a2, fun i hi x hx => ?_, cc, blk _ _ hbn a4, a5⟩
    obtain ⟨y, hy⟩ := old i x hx
    exact a3 i hi y hy
  · intro y l d s k1 k2
    obtain ⟨a1, a0, a2⟩ := h.yok y l d s k1 k2
    have hne : l ≠ b := by rintro rfl; rw [hb] at a2; cases a2
    exact ⟨a1, a0, by rw [ho l (heap_lt a2) hne]; exact a2⟩
  · intro d k
    obtain ⟨a1, a2⟩ := h.dok d k
    have hne : d ≠ b := by rintro rfl; rw [hb] at a2; cases a2
    exact ⟨a1, by rw [ho d (heap_lt a2) hne]; exact a2⟩
  · intro b2 c2 hm
    obtain ⟨a1, a2, a3, a4, a5⟩ := h.rok b2 c2 hm
    have hbn : b2 ≠ b := fun e3 => a3 id (e3 ▸ hβ) cs hid
    refine ⟨a1, a2, fun i hi x hx => ?_, a4, blk _ _ hbn a5⟩
    obtain ⟨y, hy⟩ := old i x hx
    exact a3 i hi y hy
  · intro b2 n hm
    obtain ⟨a1, c2, a2, a3⟩ := h.szok b2 n hm
    by_cases hbn : b2 = b
    · subst hbn
      have := a2.eq hbi
      subst this
      exact ⟨a1, c', ⟨e, hb'⟩, by omega⟩
    · exact ⟨a1, c2, blk _ _ hbn a2, a3⟩
section
variable {P : Program} {Y : YEnv} {f : FuncId} {σ : Sg} {id : Nat} {xs ys : List Int}
theorem gsl_row {Ψ : Ty} {w : World} (hs : SR Ψ σ w) {n : Nat} {x : Value} (hid : σ.store[id]? = some (some (xs.map I))) (hn : n = xs.length) (hx : VR Ψ (.gsl id n 1) x) :
    ∃ b c e cap, x = .slice (some ⟨b, 0, none⟩) xs.length cap ∧ Ψ.β[id]? = some b ∧ w.heap[b]? = some (.cells c e (0, 0)) ∧ Sort.Holds (Value.int .i64) w b 0 xs.toArray ∧ xs.length ≤ c.size ∧ xs.length ≤ cap ∧ (b, cap * 1) ∈ Ψ.sz ∧ (b, 0) ∈ Ψ.sz ∧ Ψ.base ≤ b := by
  subst hn
  cases hx with
  | gsl _ _ _ b cap hβ hz hz0 hc =>
    obtain ⟨_, c, ⟨e, hb⟩, _⟩ := hs.szok b 0 hz0
    obtain ⟨p1, _, hk⟩ := hs.block id _ b hid hβ
    obtain ⟨k1, k2⟩ := hk.cells ⟨e, hb⟩
    rw [List.length_map] at k1
    have hbi : blockIs w b c := ⟨e, hb⟩
    refine ⟨b, c, e, cap, rfl, hβ, hb, fun j hj => ?_, k1, hc, hz, hz0, p1⟩
    have hj' : j < xs.length := by simpa using hj
    have hjc : j < c.size := by omega
    refine ⟨?_, hbi.free _⟩
    rw [Nat.zero_add, hbi.cell]
    have := k2 j (I xs[j]) c[j] (by simp [hj']) (by simp [hjc])
    cases hcj : c[j] with
    | _ => (rw [hcj] at this; cases this) <;> simp [hjc, hcj, hj']
theorem SR.row {Ψ : Ty} {w : World} (hs : SR Ψ σ w) {b : Nat} {c : Array Value} {e : TypeId} {n : Nat} {os : Array Obj} (hid : σ.store[id]? = some (some (xs.map I))) (hβ : Ψ.β[id]? = some b) (hb : w.heap[b]? = some (.cells c e (0, 0))) (hl : ys.length = xs.length) (hc : xs.length ≤ c.size) :
    SR Ψ (σ.setVar id (ys.map I)) (Sort.grow (Sort.putRow (Value.int .i64) (Sort.ahead w n) b 0 ys.toArray) os) := by
  have hg := grownBy_sortedI (w := w) (g := b) (n := n) (os := os) ys.toArray
  have ht := take_putCellsI c ys (by omega)
  refine hs.rewrite (c' := Sort.putCells (Value.int .i64) 0 ys.toArray c) hid hβ hb (heap_sortedI (w := w) (n := n) (os := os) ys.toArray hb) (by simp [Sort.putCells]) hg.size (fun k hk hne => hg.block k hk (fun e2 => hne (Option.some.inj e2))) (by simp [Sort.putCells]; omega) ?_
  intro j p v h1 h2
  simp only [List.getElem?_map, Option.map_eq_some_iff] at h1
  obtain ⟨y, hy, rfl⟩ := h1
  have hj := (List.getElem?_eq_some_iff.1 hy).1
  have h3 : ((Sort.putCells (Value.int .i64) 0 ys.toArray c).toList.take ys.length)[j]? = some v := by
    rw [List.getElem?_take_of_lt hj, Array.getElem?_toList]; exact h2
  rw [ht, List.getElem?_map, hy] at h3
  injection h3 with h3
  subst h3
  exact .int _ _
theorem Below.row {Ψ : Ty} {w : World} {b n : Nat} {os : Array Obj} {d : Array Int} (hB : Ψ.base ≤ w.heap.size) (h0 : Ψ.base ≤ b) : Below Ψ.base w (Sort.grow (Sort.putRow (Value.int .i64) (Sort.ahead w n) b 0 d) os) := by
  have hg := grownBy_sortedI (w := w) (g := b) (n := n) (os := os) d
  exact ⟨hg.os, hg.tape, hg.output, hg.size, fun k hk => hg.block k (by omega) (fun e2 => by injection e2 with e2; omega)⟩
/-- What a contract of the library's must say of sorting. -/
def SortsI (P : Program) (f : FuncId) : Prop := goFn P f = true ∧ (∀ (p : Option Addr) (cap : Nat) (w : World), Calls P f #[.slice p 0 cap] w fun e w' => e = .returned (.tuple #[]) ∧ w' = w) ∧
  ∀ (blk off cap : Nat) (zs : List Int) (w : World), Sort.Holds (Value.int .i64) w blk off zs.toArray → blk < w.heap.size → zs.length < 4611686018427387904 → Calls P f #[.slice (some ⟨blk, off, none⟩) zs.length cap] w fun e w' =>
    e = .returned (.tuple #[]) ∧ ∃ n os, w' = Sort.grow (Sort.putRow (Value.int .i64) (Sort.ahead w n) blk off (zs.mergeSort fun x y => decide (x ≤ y)).toArray) os
def sortI (xs : List Int) : List Int := xs.mergeSort fun x y => decide (x ≤ y)
theorem sortI_len (xs : List Int) : (sortI xs).length = xs.length := by simp [sortI, List.length_mergeSort]
theorem PC_sortI (h : SortsI P f) (hid : σ.store[id]? = some (some (xs.map I))) (hl : xs.length < 2 ^ 60) : PC P Y f [.gsl id xs.length 1] σ (.tuple []) (σ.setVar id ((sortI xs).map I)) := by
  refine PC_of_calls h.1 fun Ψ vals w hs ha => ?_
  obtain ⟨x, rfl⟩ : ∃ x, vals = #[x] := by
    have := ha.1
    match vals, this with
    | ⟨[x]⟩, _ => exact ⟨x, rfl⟩
  obtain ⟨b, c, e, cap, rfl, hβ, hb, hH, h1, _, _, _, h0⟩ := gsl_row hs hid rfl (ha.2 0 _ _ rfl rfl)
  have hbl : b < w.heap.size := (Array.getElem?_eq_some_iff.1 hb).1
  refine (h.2.2 b 0 cap xs w hH hbl (by omega)).mono ?_
  rintro e2 w2 ⟨rfl, n, os, rfl⟩
  exact ⟨_, Ψ, rfl, Ty.le.refl _, hs.row hid hβ hb (sortI_len xs) h1, skipped_ok _, Below.row hs.base h0⟩
theorem PC_sort0 (h : SortsI P f) : PC P Y f [.gnil] σ (.tuple []) σ := by
  refine PC_of_calls h.1 fun Ψ vals w hs ha => ?_
  obtain ⟨x, rfl⟩ : ∃ x, vals = #[x] := by
    have := ha.1
    match vals, this with
    | ⟨[x]⟩, _ => exact ⟨x, rfl⟩
  have hx := ha.2 0 _ _ rfl rfl
  cases hx with
  | gnil a =>
    refine (h.2.1 a 0 w).mono ?_
    rintro e2 w2 ⟨rfl, rfl⟩
    exact ⟨_, Ψ, rfl, Ty.le.refl _, hs, skipped_ok _, Below.refl _ _⟩
def CompactsI (P : Program) (f : FuncId) : Prop := goFn P f = true ∧ (∀ (a : Option Addr) (cap : Nat) (w : World), Calls P f #[.slice a 0 cap] w fun e w' => e = .returned (.slice a 0 cap) ∧ w' = w) ∧
  ∀ (blk off cap : Nat) (zs : List Int) (w : World), Sort.Holds (Value.int .i64) w blk off zs.toArray → zs.length ≤ 9223372036854775807 → zs.length ≤ cap → Calls P f #[.slice (some ⟨blk, off, none⟩) zs.length cap] w fun e w' =>
    e = .returned (.slice (some ⟨blk, off, none⟩) (Lib.compact zs).length cap) ∧ ∃ q, w' = Sort.putRow (Value.int .i64) (Sort.ahead w q) blk off (Lib.compact zs ++ List.replicate (zs.length - (Lib.compact zs).length) 0).toArray
theorem compact_len (xs : List Int) : (Lib.compact xs).length ≤ xs.length := by
  unfold Lib.compact Lib.compactUpTo
  rw [List.length_map]
  exact Nat.le_trans (List.length_filter_le _ _) (by simp)
theorem PC_compactI (h : CompactsI P f) (hid : σ.store[id]? = some (some (xs.map I))) (hl : xs.length < 2 ^ 60) :
    PC P Y f [.gsl id xs.length 1] σ (.gsl id (Lib.compact xs).length 1) (σ.setVar id ((Lib.compact xs ++ List.replicate (xs.length - (Lib.compact xs).length) 0).map I)) := by
  refine PC_of_calls h.1 fun Ψ vals w hs ha => ?_
  obtain ⟨x, rfl⟩ : ∃ x, vals = #[x] := by
    have := ha.1
    match vals, this with
    | ⟨[x]⟩, _ => exact ⟨x, rfl⟩
  obtain ⟨b, c, e, cap, rfl, hβ, hb, hH, h1, h2, h3, h4, h0⟩ := gsl_row hs hid rfl (ha.2 0 _ _ rfl rfl)
  refine (h.2.2 b 0 cap xs w hH (by omega) h2).mono ?_
  rintro e2 w2 ⟨rfl, n, rfl⟩
  have hcl := compact_len xs
  have hrow := hs.row (ys := Lib.compact xs ++ List.replicate (xs.length - (Lib.compact xs).length) 0) (n := n) (os := #[]) hid hβ hb (by simp; omega) h1
  have hbel := Below.row (n := n) (os := #[]) (d := (Lib.compact xs ++ List.replicate (xs.length - (Lib.compact xs).length) 0).toArray) hs.base h0
  rw [Sort.grow_empty] at hrow hbel
  exact ⟨_, Ψ, rfl, Ty.le.refl _, hrow, .gsl _ _ _ b cap hβ h3 h4 (by omega), hbel⟩
theorem PC_compact0 (h : CompactsI P f) : PC P Y f [.gnil] σ .gnil σ := by
  refine PC_of_calls h.1 fun Ψ vals w hs ha => ?_
  obtain ⟨x, rfl⟩ : ∃ x, vals = #[x] := by
    have := ha.1
    match vals, this with
    | ⟨[x]⟩, _ => exact ⟨x, rfl⟩
  have hx := ha.2 0 _ _ rfl rfl
  cases hx with
  | gnil a =>
    refine (h.2.1 a 0 w).mono ?_
    rintro e2 w2 ⟨rfl, rfl⟩
    exact ⟨_, Ψ, rfl, Ty.le.refl _, hs, .gnil a, Below.refl _ _⟩
end
section
variable {N : Nat} {lo : Nat × Nat} {E : Env} {σ : Sg}
theorem Keeps.setOne {Ψ : Ty} {w : World} {b off : Nat} {cs : List PV} {p q : PV} (h : Keeps Ψ w b cs) (hp : cs[off]? = some p) (h0 : p ≠ .mark) (h1 : ∀ k v, p ≠ .tuple [k, v]) (hq : ∀ x, VR Ψ p x → VR Ψ q x) : Keeps Ψ w b (cs.set off q) := by
  have hlt : off < cs.length := (List.getElem?_eq_some_iff.1 hp).1
  rcases h with ⟨c, a3, a4, a5⟩ | ⟨arr, es, rfl, a3, a4, a5⟩
  · refine .inl ⟨c, a3, by simpa using a4, fun j r v e1 e2 => ?_⟩
    rw [List.getElem?_set] at e1
    by_cases e : off = j
    · subst e
      rw [if_pos rfl, if_pos hlt] at e1
      injection e1 with e1
      subst e1
      exact hq _ (a5 off p v hp e2)
    · rw [if_neg e] at e1
      exact a5 j r v e1 e2
  · exfalso
    rcases off with _ | off
    · simp at hp; exact h0 hp.symm
    · simp only [List.getElem?_cons_succ] at hp
      have hlt' : off < arr.size := by rw [a4]; exact (List.getElem?_eq_some_iff.1 hp).1
      obtain ⟨_, k, v, e2, _⟩ := a5 off p arr[off] hp (by simp [hlt'])
      exact h1 k v e2
/-- A cell is told otherwise. -/
theorem Weak.cellV {id off : Nat} {cs : List PV} {p q : PV} (hid : σ.store[id]? = some (some cs)) (hc : cs[off]? = some p) (h0 : p ≠ .mark) (h1 : ∀ k v, p ≠ .tuple [k, v]) (hq : ∀ Ψ x, VR Ψ p x → VR Ψ q x) : Weak N lo E σ E (σ.setVar id (cs.set off q)) := by
  intro Ψ0 Ψ D a w hb le hr
  have hs2 := hr.sg.reread (cs' := cs.set off q) hid (fun b hb2 h2 => h2.setOne hc h0 h1 (hq Ψ))
  exact ⟨Ψ, le, hr.size, hr.env, hs2, hr.dsub, hr.defs⟩
theorem VR.to_gnil {Ψ : Ty} {x : Value} (hv : VR Ψ (.isl [] .exact) x) : VR Ψ .gnil x := by
  cases hv with
  | islnil _ a' _ => exact .gnil a'
  | isl es _ _ b o cap vals hs h1 h2 hc ho =>
    have : cap = 0 := ho
    subst this
    exact .gnil _
theorem VR.of_gnil {Ψ : Ty} {x : Value} (hv : VR Ψ .gnil x) : VR Ψ (.isl [] .ro) x := by
  cases hv with
  | gnil a => exact .islnil .ro a trivial
/-- A slice without room in a new variable's cell: to grow in place. -/
theorem Weak.gnilX {l : List (Option (List PV))} {rm : List Nat} {ys : List LState} {j off : Nat} {cs : List PV} (hid : l[j]? = some (some cs)) (hc : cs[off]? = some (.isl [] .exact)) :
    Weak N lo E (σ.ext l rm ys) E (σ.ext (l.set j (some (cs.set off .gnil))) rm ys) := by
  have h := Weak.cellV (N := N) (lo := lo) (E := E) (σ := σ.ext l rm ys) (id := σ.store.length + j) (off := off) (cs := cs) (q := .gnil) (by rw [Sg.get_ext]; exact hid) hc (by simp) (by simp) (fun _ _ => VR.to_gnil)
  rw [Sg.set_ext] at h
  exact h
theorem Weak.ungnilX {l : List (Option (List PV))} {rm : List Nat} {ys : List LState} {j off : Nat} {cs : List PV} (hid : l[j]? = some (some cs)) (hc : cs[off]? = some .gnil) :
    Weak N lo E (σ.ext l rm ys) E (σ.ext (l.set j (some (cs.set off (.isl [] .ro)))) rm ys) := by
  have h := Weak.cellV (N := N) (lo := lo) (E := E) (σ := σ.ext l rm ys) (id := σ.store.length + j) (off := off) (cs := cs) (q := .isl [] .ro) (by rw [Sg.get_ext]; exact hid) hc (by simp) (by simp) (fun _ _ => VR.of_gnil)
  rw [Sg.set_ext] at h
  exact h
/-- What a slice in a cell held is never written again. -/
theorem Weak.freezeV {cid off id len es : Nat} {ccs rest : List PV} {l : List PV} (hne : cid ≠ id) (hcid : σ.store[cid]? = some (some ccs)) (hc : ccs[off]? = some (.gsl id len es)) (hs : σ.store[id]? = some (some (rowC l ++ rest))) (hl : l.length = len) (hes : ∀ q ∈ l, q.cells.length = es) :
    Weak N lo E σ E ((σ.drop id).setVar cid (ccs.set off (.isl l .ro))) := by
  intro Ψ0 Ψ D a w hb le hr
  obtain ⟨b0, hβ0⟩ : ∃ b, Ψ.β[cid]? = some b := by
    have : cid < Ψ.β.length := by rw [hr.sg.blen]; exact (List.getElem?_eq_some_iff.1 hcid).1
    exact ⟨Ψ.β[cid], by simp [this]⟩
  obtain ⟨_, _, hkc⟩ := hr.sg.block cid ccs b0 hcid hβ0
  -- the slice
  have hv : ∃ x, VR Ψ (.gsl id len es) x := by
    rcases hkc with ⟨c, a3, a4, a5⟩ | ⟨arr, es', rfl, a3, a4, a5⟩
    · have hlt : off < c.size := Nat.lt_of_lt_of_le (List.getElem?_eq_some_iff.1 hc).1 a4
      exact ⟨c[off], a5 off _ _ hc (by simp [hlt])⟩
    · rcases off with _ | off
      · simp at hc
      · simp only [List.getElem?_cons_succ] at hc
        have hlt' : off < arr.size := by rw [a4]; exact (List.getElem?_eq_some_iff.1 hc).1
        obtain ⟨_, k, v, e2, _⟩ := a5 off _ arr[off] hc (by simp [hlt'])
        cases e2
  obtain ⟨x0, hx0⟩ := hv
  cases hx0 with
  | gsl _ _ _ b cap hβ hz1 hz0 hcap =>
  obtain ⟨_, c, hbk, _⟩ := hr.sg.szok b 0 hz0
  obtain ⟨_, _, hkp⟩ := hr.sg.block id _ b hs hβ
  obtain ⟨a4, a5⟩ := hkp.cells hbk
  obtain ⟨le2, hs2⟩ := hr.sg.freeze hs hβ hbk
  have hcid2 : (σ.drop id).store[cid]? = some (some ccs) := by
    show (σ.store.set id none)[cid]? = _
    rw [List.getElem?_set_ne (fun e => hne e.symm)]
    exact hcid
  have hat : ∀ (k : Nat) (q : PV) (j : Nat) (p : PV), l[k]? = some q → q.cells[j]? = some p → (rowC l ++ rest)[k * es + j]? = some p ∧ k * es + j < c.size := fun k q j p q1 q2 => by
    have h1 := rowC_at hes q1 q2
    have h2 : (rowC l ++ rest)[k * es + j]? = some p := by rw [List.getElem?_append_left (List.getElem?_eq_some_iff.1 h1).1]; exact h1
    exact ⟨h2, Nat.lt_of_lt_of_le (List.getElem?_eq_some_iff.1 h2).1 a4⟩
  have hs3 := hs2.reread (cs' := ccs.set off (.isl l .ro)) hcid2 (fun b2 hb2 h2 => h2.setOne hc (by simp) (by simp) (fun y hy => by
    cases hy with
    | gsl _ _ _ b' cap' hβ' _ _ hcap' =>
    have hbb : b' = b := by
      have := le2.β id b hβ
      rw [hβ'] at this
      injection this
    subst hbb
    rw [← hl]
    refine .isl es l .ro b' 0 cap' (fun k j => c.getD (k * es + j) undef) (fun k q hk => hes q (List.mem_of_getElem? hk)) (fun k q j p q1 q2 => ?_) (fun k q j p q1 q2 => ?_) (by omega) trivial
    · obtain ⟨_, hlt⟩ := hat k q j p q1 q2
      simp only [Ty.addImm, Nat.zero_add]
      rw [if_pos ⟨trivial, Nat.zero_le _, hlt⟩]
      simp [Array.getD, hlt]
    · obtain ⟨h1, hlt⟩ := hat k q j p q1 q2
      refine (a5 _ p _ h1 ?_).mono le2
      simp [Array.getD, hlt]))
  refine ⟨_, le.trans le2, hr.size, fun t' => (hr.env t').mono le2, hs3, fun d hd => le2.ds _ (hr.dsub d hd), ?_⟩
  obtain ⟨rs, r1, r2, r3⟩ := hr.defs
  exact ⟨rs, r1, r2, fun r hm => ⟨le2.ds _ (r3 r hm).1, (r3 r hm).2⟩⟩
theorem Weak.freezeX {l : List (Option (List PV))} {rm : List Nat} {ys : List LState} {j k off len es : Nat} {ccs rest m : List PV} (hne : j ≠ k) (hcid : l[j]? = some (some ccs)) (hc : ccs[off]? = some (.gsl (σ.store.length + k) len es)) (hs : l[k]? = some (some (rowC m ++ rest))) (hl : m.length = len) (hes : ∀ q ∈ m, q.cells.length = es) :
    Weak N lo E (σ.ext l rm ys) E (σ.ext ((l.set k none).set j (some (ccs.set off (.isl m .ro)))) rm ys) := by
  have h := Weak.freezeV (N := N) (lo := lo) (E := E) (σ := σ.ext l rm ys) (cid := σ.store.length + j) (id := σ.store.length + k) (by omega) (by rw [Sg.get_ext]; exact hcid) hc (by rw [Sg.get_ext]; exact hs) hl hes
  rw [Sg.drop_ext, Sg.set_ext] at h
  exact h
end
end Go.Proofs.Ytnpamcpoaklgeaa
namespace Go.Proofs.Ytnpamcpoaklgeaa
open Go Go.RowKit
set_option maxRecDepth 100000
def lays189_ren : Go.Shelf.Ren := ⟨fun | 189 => 92 | 125 => 127 | 257 => 126 | 128 => 144 | 129 => 145 | 294 => 135 | 295 => 136 | 296 => 137 | 297 => 138 | 298 => 139 | 299 => 140 | 216 => 141 | 300 => 142 | 301 => 143 | 328 => 148 | 329 => 149 | 330 => 150 | 331 => 151 | 332 => 152 | 215 => 133 | 343 => 153 | n => n, fun | 28 => 22 | 3 => 3 | 46 => 97 | 0 => 0 | 51 => 160 | 53 => 90 | 4 => 4 | 183 => 153 | 182 => 152 | 131 => 140 | 5 => 5 | 9 => 9 | 218 => 163 | 222 => 166 | 228 => 168 | 229 => 102 | n => n, fun n => n⟩
theorem lays189 : Lays.n189 Try.prog lays189_ren where
  mixed := by kernel_rfl
  f125 := Try.func127.trans (congrArg some (by kernel_rfl))
  f128 := Try.func144.trans (congrArg some (by kernel_rfl))
  f129 := Try.func145.trans (congrArg some (by kernel_rfl))
  f189 := Try.func92.trans (congrArg some (by kernel_rfl))
  f215 := Try.func133.trans (congrArg some (by kernel_rfl))
  f216 := Try.func141.trans (congrArg some (by kernel_rfl))
  f257 := Try.func126.trans (congrArg some (by kernel_rfl))
  f294 := Try.func135.trans (congrArg some (by kernel_rfl))
  f295 := Try.func136.trans (congrArg some (by kernel_rfl))
  f296 := Try.func137.trans (congrArg some (by kernel_rfl))
  f297 := Try.func138.trans (congrArg some (by kernel_rfl))
  f298 := Try.func139.trans (congrArg some (by kernel_rfl))
  f299 := Try.func140.trans (congrArg some (by kernel_rfl))
  f300 := Try.func142.trans (congrArg some (by kernel_rfl))
  f301 := Try.func143.trans (congrArg some (by kernel_rfl))
  f328 := Try.func148.trans (congrArg some (by kernel_rfl))
  f329 := Try.func149.trans (congrArg some (by kernel_rfl))
  f330 := Try.func150.trans (congrArg some (by kernel_rfl))
  f331 := Try.func151.trans (congrArg some (by kernel_rfl))
  f332 := Try.func152.trans (congrArg some (by kernel_rfl))
  f343 := Try.func153.trans (congrArg some (by kernel_rfl))
  t0 := Try.underlying0
  a0 := Try.isAgg0
  z0 := Try.sizeOf0
  v0 := Try.zeroValue0
  t3 := Try.underlying3
  a3 := Try.isAgg3
  z3 := Try.sizeOf3
  v3 := Try.zeroValue3
  t4 := Try.underlying4
  a4 := Try.isAgg4
  z4 := Try.sizeOf4
  v4 := Try.zeroValue4
  t5 := Try.underlying5
  a5 := Try.isAgg5
  z5 := Try.sizeOf5
  v5 := Try.zeroValue5
  t9 := Try.underlying9
  a9 := Try.isAgg9
  z9 := Try.sizeOf9
  v9 := Try.zeroValue9
  t28 := Try.underlying22
  a28 := Try.isAgg22
  z28 := Try.sizeOf22
  v28 := Try.zeroValue22
  t46 := Try.underlying97
  a46 := Try.isAgg97
  z46 := Try.sizeOf97
  v46 := Try.zeroValue97
  t51 := Try.underlying160
  a51 := Try.isAgg160
  z51 := Try.sizeOf160
  v51 := Try.zeroValue160
  t53 := Try.underlying90
  a53 := Try.isAgg90
  z53 := Try.sizeOf90
  v53 := Try.zeroValue90
  t131 := Try.underlying140
  a131 := Try.isAgg140
  z131 := Try.sizeOf140
  v131 := Try.zeroValue140
  t182 := Try.underlying152
  a182 := Try.isAgg152
  z182 := Try.sizeOf152
  v182 := Try.zeroValue152
  t183 := Try.underlying153
  a183 := Try.isAgg153
  z183 := Try.sizeOf153
  v183 := Try.zeroValue153
  t218 := Try.underlying163
  a218 := Try.isAgg163
  z218 := Try.sizeOf163
  v218 := Try.zeroValue163
  t222 := Try.underlying166
  a222 := Try.isAgg166
  z222 := Try.sizeOf166
  v222 := Try.zeroValue166
  t228 := Try.underlying168
  a228 := Try.isAgg168
  z228 := Try.sizeOf168
  v228 := Try.zeroValue168
  t229 := Try.underlying102
  a229 := Try.isAgg102
  z229 := Try.sizeOf102
  v229 := Try.zeroValue102
def lays2_20_ren : Go.Shelf.Ren := ⟨fun | 20 => 93 | n => n, fun | 22 => 22 | 3 => 3 | 4 => 4 | 0 => 0 | n => n, fun n => n⟩
theorem lays2_20 : Lays2.n20 Try.prog lays2_20_ren where
  mixed := by kernel_rfl
  f20 := Try.func93.trans (congrArg some (by kernel_rfl))
  t0 := Try.underlying0
  a0 := Try.isAgg0
  z0 := Try.sizeOf0
  v0 := Try.zeroValue0
  t3 := Try.underlying3
  a3 := Try.isAgg3
  z3 := Try.sizeOf3
  v3 := Try.zeroValue3
  t4 := Try.underlying4
  a4 := Try.isAgg4
  z4 := Try.sizeOf4
  v4 := Try.zeroValue4
  t22 := Try.underlying22
  a22 := Try.isAgg22
  z22 := Try.sizeOf22
  v22 := Try.zeroValue22
  i3 := by kernel_rfl
theorem sortsI : SortsI Try.prog 92 := ⟨by kernel_rfl, Any.slices_Sort_int_none lays189, Any.slices_Sort_int lays189⟩
theorem compactsI : CompactsI Try.prog 93 := ⟨by kernel_rfl, Any.slices_Compact_int_empty lays2_20, Any.slices_Compact_int lays2_20⟩
end Go.Proofs.Ytnpamcpoaklgeaa
namespace Go.Proofs.Ytnpamcpoaklgeaa
open Go Go.RowKit
set_option maxRecDepth 100000
end Go.Proofs.Ytnpamcpoaklgeaa
namespace Go.Proofs.Ytnpamcpoaklgeaa
open Go Go.RowKit
set_option maxRecDepth 100000
theorem in_pc (Y : YEnv) (σ : Sg) (n lo hi : Int) : PC Try.prog Y 69 [.int .i64 n, .int .i64 lo, .int .i64 hi] σ (.bool (inR n lo hi)) σ := by
  refine PC_of_W Try.func69 rfl (by kernel_rfl) Try.ntmps69 (by simp) fun hcl hca => ?_
  refine W_seq fun K1 h1 => ?_
  refine W_region [0, 1, 2, 6] fun K2 h2 => ?_
  simp only [go_sem]
  refine h2 _ _ (h1 _ _ ?_); clear h1 h2 K1 K2
  refine W_seq fun K1 h1 => ?_
  refine W_region [6] fun K2 h2 => ?_
  simp only [go_sem]
  refine GWant_split (fun c1 => ?_) (fun c1 => ?_)
  · simp only [go_sem, c1]
    refine h2 _ _ (h1 _ _ ?_); clear h1 h2 K1 K2
    simp only [go_sem]
    refine W_ret ⟨.inr rfl, ?_⟩
    refine Fin_self hcl rfl (Wk_bool (by simp [inR, c1]))
  · simp only [go_sem, c1]
    refine h2 _ _ (h1 _ _ ?_); clear h1 h2 K1 K2
    simp only [go_sem]
    refine W_ret ⟨.inr rfl, ?_⟩
    refine Fin_self hcl rfl (Wk_bool (by simp [inR, c1]))
end Go.Proofs.Ytnpamcpoaklgeaa
namespace Go.Proofs.Ytnpamcpoaklgeaa
open Go Go.RowKit
set_option maxRecDepth 100000
theorem cin_pc (Y : YEnv) (σ : Sg) (lo hi : Int) (l : List Int) (o : Own) (hl : l.length < 2 ^ 62) : PC Try.prog Y 115 [I lo, I hi, intsO o l] σ (.bool (allIn lo hi l)) σ := by
  refine PC_of_W Try.func115 rfl (by kernel_rfl) Try.ntmps115 (by simp) fun hcl hca => ?_
  refine W_seq fun K1 h1 => ?_
  refine W_region [0, 1, 2] fun R hR => ?_   -- r0
  simp only [go_sem]
  refine hR _ _ (h1 _ _ ?_); clear hR h1 R K1
  simp only [go_sem]
  refine W_seq fun K2 h2 => ?_
  refine W_seq fun K3 h3 => ?_
  refine W_region [0, 1, 9, 10, 11] fun R hR => ?_   -- r1
  simp only [go_sem]
  refine hR _ _ (h3 _ _ ?_); clear hR h3 R K3
  simp only [go_sem]
  refine W_block ?_
  refine W_loopK (fun k E σ' => ∃ i : Nat, k + i = l.length ∧ allIn lo hi (l.take i) = true ∧ E = [(0, I lo), (1, I hi), (9, intsO o l), (10, I l.length), (11, I i)] ∧ σ = σ') l.length ⟨0, rfl, rfl, rfl, rfl⟩ ?_
  rintro k E σ' ⟨i, hk, hall, rfl, rfl⟩
  refine W_seq fun K4 h4 => ?_
  refine W_region [0, 1, 9, 10, 11, 12] fun R hR => ?_   -- r2
  simp only [go_sem]
  refine hR _ _ (h4 _ _ ?_); clear hR h4 R K4
  simp only [go_sem]
  refine W_seq fun K5 h5 => ?_
  refine W_cond rfl (fun c => ?_) (fun c => ?_)
  · -- true
    have hi' : i < l.length := by simpa using c
    obtain ⟨x, hx⟩ : ∃ x, l[i]? = some x := ⟨l[i], by simp [hi']⟩
    have htake : l.take (i + 1) = l.take i ++ [x] := by rw [List.take_add_one, hx]; rfl
    refine W_skip (h5 _ _ ?_); clear h5 K5
    refine W_seq fun K6 h6 => ?_
    refine W_block ?_
    refine W_seq fun K7 h7 => ?_
    refine W_region [0, 1, 8, 9, 10, 11] fun R hR => ?_   -- r3
    simp only [go_sem, iaX_map (f := I) (c := 1) hx rfl, elS_map (f := I) hx]
    refine hR _ _ (h7 _ _ ?_); clear hR h7 R K7
    simp only [go_sem]
    refine W_seq fun K8 h8 => ?_
    have fin : K8 [(0, I lo), (1, I hi), (9, intsO o l), (10, I l.length), (11, I i), (22, .bool (!(inR x lo hi)))] σ := by
      refine h8 _ _ ?_
      clear h8
      refine W_cond rfl (fun c => ?_) (fun c => ?_)
      · -- true
        refine W_seq fun K9 h9 => ?_
        refine W_region [6] fun R hR => ?_   -- r5
        simp only [go_sem]
        refine hR _ _ (h9 _ _ ?_); clear hR h9 R K9
        simp only [go_sem]
        refine W_ret ?_
        simp only [go_sem]
        refine ⟨.inr (by trivial), Fin_self hcl rfl (Wk_bool ?_)⟩
        have hxm : x ∈ l := List.mem_of_getElem? hx
        symm
        rw [Bool.eq_false_iff]
        intro hh
        have := List.all_eq_true.1 hh x hxm
        rw [this] at c
        cases c
      · -- false
        refine W_skip (h6 _ _ ?_); clear h6 K6
        refine W_region [0, 1, 9, 10, 11] fun R hR => ?_   -- r6
        simp only [go_sem]
        refine hR _ _ ?_; clear hR R
        simp only [go_sem]
        rw [wrap_i64_id (by omega) (by omega)]
        refine ⟨k - 1, by omega, i + 1, by omega, ?_, rfl⟩
        rw [htake]
        unfold allIn at hall ⊢
        rw [List.all_append, hall]
        simpa using c
    clear h6 h8
    refine W_region [0, 1, 9, 10, 11, 22] fun R hR => ?_   -- r4
    by_cases c1 : x < lo
    · simp only [go_sem, c1]
      refine hR _ _ ?_
      simp only [go_sem]
      have : inR x lo hi = false := by simp [inR]; omega
      rw [this] at fin
      exact fin
    · simp only [go_sem, c1]
      refine hR _ _ ?_
      simp only [go_sem]
      have : (!inR x lo hi) = decide (hi < x) := by
        rw [Bool.eq_iff_iff]; simp [inR]; omega
      rw [this] at fin
      exact fin
  · -- false
    have hi' : i = l.length := by simp at c; omega
    subst hi'
    refine W_exit ?_
    simp only [go_sem]
    refine h2 _ _ ?_; clear h5 K5 h2 K2
    refine W_seq fun K10 h10 => ?_
    refine W_region [6] fun R hR => ?_   -- r7
    simp only [go_sem]
    refine hR _ _ (h10 _ _ ?_); clear hR h10 R K10
    simp only [go_sem]
    refine W_ret ?_
    simp only [go_sem]
    refine ⟨.inr (by trivial), Fin_self hcl rfl (Wk_bool ?_)⟩
    rw [List.take_length] at hall
    exact hall.symm
theorem cother_pc (Y : YEnv) (σ : Sg) (s : Int × Int) (at' : Int) : PC Try.prog Y 117 [stPV s, I at'] σ (I (other s at')) σ := by
  refine PC_of_W Try.func117 rfl (by kernel_rfl) Try.ntmps117 (by simp) fun hcl hca => ?_
  obtain ⟨a, b⟩ := s
  refine W_seq fun K1 h1 => ?_
  refine W_region [1, 2] fun R hR => ?_   -- r0
  simp only [go_sem, stPV]
  refine hR _ _ (h1 _ _ ?_); clear hR h1 R K1
  simp only [go_sem]
  refine W_seq fun K2 h2 => ?_
  refine W_seq fun K3 h3 => ?_
  refine W_region [2, 5] fun R hR => ?_   -- r1
  simp only [go_sem]
  refine hR _ _ (h3 _ _ ?_); clear hR h3 R K3
  simp only [go_sem]
  refine W_block ?_
  refine W_seq fun K4 h4 => ?_
  refine W_region [2, 5, 6] fun R hR => ?_   -- r2
  simp only [go_sem]
  refine hR _ _ (h4 _ _ ?_); clear hR h4 R K4
  simp only [go_sem]
  refine W_cond rfl (fun c => ?_) (fun c => ?_)
  · -- true
    refine W_seq fun K5 h5 => ?_
    refine W_region [4] fun R hR => ?_   -- r3
    simp only [go_sem]
    refine hR _ _ (h5 _ _ ?_); clear hR h5 R K5
    simp only [go_sem]
    refine W_ret ?_
    simp only [go_sem]
    refine ⟨.inr (by trivial), Fin_same hcl rfl (Wk_int ?_)⟩
    simp_all [other]
  · -- false
    refine W_seq fun K6 h6 => ?_
    refine W_region [2, 12] fun R hR => ?_   -- r4
    simp only [go_sem]
    refine hR _ _ (h6 _ _ ?_); clear hR h6 R K6
    simp only [go_sem]
    refine W_cond rfl (fun c => ?_) (fun c => ?_)
    · -- true
      refine W_seq fun K7 h7 => ?_
      refine W_region [4] fun R hR => ?_   -- r5
      simp only [go_sem]
      refine hR _ _ (h7 _ _ ?_); clear hR h7 R K7
      simp only [go_sem]
      refine W_ret ?_
      simp only [go_sem]
      refine ⟨.inr (by trivial), Fin_same hcl rfl (Wk_int ?_)⟩
      simp_all [other]
    · -- false
      refine W_skip ?_
      simp only [go_sem]
      refine h2 _ _ ?_
      refine W_seq fun K8 h8 => ?_
      refine W_region [4] fun R hR => ?_   -- r6
      simp only [go_sem]
      refine hR _ _ (h8 _ _ ?_); clear hR h8 R K8
      simp only [go_sem]
      refine W_ret ?_
      simp only [go_sem]
      refine ⟨.inr (by trivial), Fin_same hcl rfl (Wk_int ?_)⟩
      simp_all [other]
end Go.Proofs.Ytnpamcpoaklgeaa
namespace Go.Proofs.Ytnpamcpoaklgeaa
open Go Go.RowKit
set_option maxRecDepth 100000
theorem cspan_pc (Y : YEnv) (σ : Sg) (lo hi m : Int) : PC Try.prog Y 146 [.agg [I lo, I hi], I m] σ (I (chkSpan lo hi m)) σ := by
  refine PC_of_W Try.func146 rfl (by kernel_rfl) Try.ntmps146 (by simp) fun hcl hca => ?_
  refine W_seq fun K1 h1 => ?_
  refine W_region [1, 2] fun R hR => ?_   -- r0
  simp only [go_sem]
  refine hR _ _ (h1 _ _ ?_); clear hR h1 R K1
  simp only [go_sem]
  refine W_seq fun K2 h2 => ?_
  refine W_block ?_
  refine W_seq fun K3 h3 => ?_
  refine W_region [2, 5] fun R hR => ?_   -- r1
  simp only [go_sem, bsX]
  refine GCall_of (cin_pc Y _ 0 m [lo, hi] .exact (by simp)) ?_   -- t12 := call F115(0,t6,t11) : 4   <0,5>
  simp only [go_sem]
  refine hR _ _ (h3 _ _ ?_); clear hR h3 R K3
  simp only [go_sem]
  refine W_cond rfl (fun c => ?_) (fun c => ?_)
  · -- true
    refine W_seq fun K4 h4 => ?_
    refine W_region [4] fun R hR => ?_   -- r2
    simp only [go_sem]
    refine hR _ _ (h4 _ _ ?_); clear hR h4 R K4
    simp only [go_sem]
    refine W_ret ?_
    simp only [go_sem]
    refine ⟨.inr (by trivial), Fin_same hcl rfl (Wk_int (by simp_all [chkSpan, allIn]))⟩
  · -- false
    refine W_seq fun K5 h5 => ?_
    refine W_region [14] fun R hR => ?_   -- r3
    simp only [go_sem]
    refine hR _ _ (h5 _ _ ?_); clear hR h5 R K5
    simp only [go_sem]
    refine W_cond rfl (fun c => ?_) (fun c => ?_)
    · -- true
      refine W_seq fun K6 h6 => ?_
      refine W_region [4] fun R hR => ?_   -- r4
      simp only [go_sem]
      refine hR _ _ (h6 _ _ ?_); clear hR h6 R K6
      simp only [go_sem]
      refine W_ret ?_
      simp only [go_sem]
      refine ⟨.inr (by trivial), Fin_same hcl rfl (Wk_int (by simp_all [chkSpan, allIn]))⟩
    · -- false
      refine W_skip (h2 _ _ ?_)
      refine W_seq fun K7 h7 => ?_
      refine W_region [4] fun R hR => ?_   -- r5
      simp only [go_sem]
      refine hR _ _ (h7 _ _ ?_); clear hR h7 R K7
      simp only [go_sem]
      refine W_ret ?_
      simp only [go_sem]
      refine ⟨.inr (by trivial), Fin_same hcl rfl (Wk_int (by simp_all [chkSpan, allIn]))⟩
def chkPath (streets : List (Int × Int)) : List Int → Int → Int
  | [], _ => 0
  | n :: r, at' => if !(inR n 0 (streets.length - 1)) then 7 else
    match streets[n.toNat]? with
    | none => 7
    | some s => if other s at' < 0 then 1 else chkPath streets r (other s at')
def chkGroup (t : Town) (g : Group) : Int :=
  if chkSpan g.slo g.shi 1000000 ≠ 0 then chkSpan g.slo g.shi 1000000 else
  if chkSpan g.alo g.ahi 96 ≠ 0 then chkSpan g.alo g.ahi 96 else
  if !(inR g.stay 1 96) then 2 else if !(inR g.first 0 (t.rooms.length - 1)) then 7 else if g.path.length > 12 then 5 else chkPath t.streets g.path g.first
theorem cgroup_pc (Y : YEnv) (σ : Sg) (t : Town) (g : Group) (hr : t.rooms.length < 2 ^ 62) (hs : t.streets.length < 2 ^ 62) (hp : g.path.length < 2 ^ 62) : PC Try.prog Y 128 [twPV t, grPV g] σ (I (chkGroup t g)) σ := by
  refine PC_of_W Try.func128 rfl (by kernel_rfl) Try.ntmps128 (by simp) fun hcl hca => ?_
  have wr : IntKind.i64.wrap ((t.rooms.length : Int) - 1) = (t.rooms.length : Int) - 1 := wrap_i64_id (by omega) (by omega)
  have ws : IntKind.i64.wrap ((t.streets.length : Int) - 1) = (t.streets.length : Int) - 1 := wrap_i64_id (by omega) (by omega)
  refine W_seq fun K1 h1 => ?_
  refine W_region [2, 3] fun R hR => ?_   -- r0
  simp only [go_sem, twPV, twCells, grPV]
  refine hR _ _ (h1 _ _ ?_); clear hR h1 R K1
  simp only [go_sem, bsX, wr, ws]
  refine W_seq fun K2 h2 => ?_
  refine W_seq fun K3 h3 => ?_
  refine W_region [2, 3, 5] fun R hR => ?_   -- r1
  simp only [go_sem, bsX, wr, ws]
  refine GCall_of (cspan_pc Y _ g.slo g.shi 1000000) ?_   -- t12 := call F146(t11,1000000) : 46   <1>
  simp only [go_sem, bsX, wr, ws]
  refine hR _ _ (h3 _ _ ?_); clear hR h3 R K3
  simp only [go_sem, bsX, wr, ws]
  refine W_seq fun K4 h4 => ?_
  refine W_region [2, 3, 5, 14] fun R hR => ?_   -- r2
  simp only [go_sem, bsX, wr, ws]
  refine hR _ _ (h4 _ _ ?_); clear hR h4 R K4
  simp only [go_sem, bsX, wr, ws]
  refine W_cond rfl (fun c => ?_) (fun c => ?_)
  · -- true
    refine W_seq fun K5 h5 => ?_
    refine W_region [4] fun R hR => ?_   -- r3
    simp only [go_sem, bsX, wr, ws]
    refine hR _ _ (h5 _ _ ?_); clear hR h5 R K5
    simp only [go_sem, bsX, wr, ws]
    refine W_ret ?_
    simp only [go_sem, bsX, wr, ws]
    refine ⟨.inr (by trivial), Fin_same hcl rfl (Wk_int (by simp_all [chkGroup, allIn] <;> (intros; omega)))⟩
  · -- false
    refine W_skip (h2 _ _ ?_)
    refine W_seq fun K6 h6 => ?_
    refine W_seq fun K7 h7 => ?_
    refine W_region [2, 3, 6] fun R hR => ?_   -- r4
    simp only [go_sem, bsX, wr, ws]
    refine GCall_of (cspan_pc Y _ g.alo g.ahi 96) ?_   -- t18 := call F146(t17,96) : 46   <1>
    simp only [go_sem, bsX, wr, ws]
    refine hR _ _ (h7 _ _ ?_); clear hR h7 R K7
    simp only [go_sem, bsX, wr, ws]
    refine W_seq fun K8 h8 => ?_
    refine W_region [2, 3, 6, 20] fun R hR => ?_   -- r5
    simp only [go_sem, bsX, wr, ws]
    refine hR _ _ (h8 _ _ ?_); clear hR h8 R K8
    simp only [go_sem, bsX, wr, ws]
    refine W_cond rfl (fun c => ?_) (fun c => ?_)
    · -- true
      refine W_seq fun K9 h9 => ?_
      refine W_region [4] fun R hR => ?_   -- r6
      simp only [go_sem, bsX, wr, ws]
      refine hR _ _ (h9 _ _ ?_); clear hR h9 R K9
      simp only [go_sem, bsX, wr, ws]
      refine W_ret ?_
      simp only [go_sem, bsX, wr, ws]
      refine ⟨.inr (by trivial), Fin_same hcl rfl (Wk_int (by simp_all [chkGroup, allIn] <;> (intros; omega)))⟩
    · -- false
      refine W_skip (h6 _ _ ?_)
      refine W_seq fun K10 h10 => ?_
      refine W_block ?_
      refine W_seq fun K11 h11 => ?_
      refine W_region [2, 3, 22] fun R hR => ?_   -- r7
      simp only [go_sem, bsX, wr, ws]
      refine GCall_of (cin_pc Y _ 1 96 [g.stay] .exact (by simp)) ?_   -- t26 := call F115(1,96,t25) : 4   <2>
      simp only [go_sem, bsX, wr, ws]
      refine hR _ _ (h11 _ _ ?_); clear hR h11 R K11
      simp only [go_sem, bsX, wr, ws]
      refine W_cond rfl (fun c => ?_) (fun c => ?_)
      · -- true
        refine W_seq fun K12 h12 => ?_
        refine W_region [4] fun R hR => ?_   -- r8
        simp only [go_sem, bsX, wr, ws]
        refine hR _ _ (h12 _ _ ?_); clear hR h12 R K12
        simp only [go_sem, bsX, wr, ws]
        refine W_ret ?_
        simp only [go_sem, bsX, wr, ws]
        refine ⟨.inr (by trivial), Fin_same hcl rfl (Wk_int (by simp_all [chkGroup, allIn] <;> (intros; omega)))⟩
      · -- false
        refine W_seq fun K13 h13 => ?_
        refine W_region [2, 3, 28] fun R hR => ?_   -- r9
        simp only [go_sem, bsX, wr, ws]
        refine GCall_of (cin_pc Y _ 0 _ [g.first] .exact (by simp)) ?_   -- t36 := call F115(0,t32,t35) : 4   <3,6>
        simp only [go_sem, bsX, wr, ws]
        refine hR _ _ (h13 _ _ ?_); clear hR h13 R K13
        simp only [go_sem, bsX, wr, ws]
        refine W_cond rfl (fun c => ?_) (fun c => ?_)
        · -- true
          refine W_seq fun K14 h14 => ?_
          refine W_region [4] fun R hR => ?_   -- r10
          simp only [go_sem, bsX, wr, ws]
          refine hR _ _ (h14 _ _ ?_); clear hR h14 R K14
          simp only [go_sem, bsX, wr, ws]
          refine W_ret ?_
          simp only [go_sem, bsX, wr, ws]
          refine ⟨.inr (by trivial), Fin_same hcl rfl (Wk_int (by simp_all [chkGroup, allIn] <;> (intros; omega)))⟩
        · -- false
          refine W_seq fun K15 h15 => ?_
          refine W_region [2, 3, 38] fun R hR => ?_   -- r11
          simp only [go_sem, bsX, wr, ws]
          refine hR _ _ (h15 _ _ ?_); clear hR h15 R K15
          simp only [go_sem, bsX, wr, ws]
          refine W_cond rfl (fun c => ?_) (fun c => ?_)
          · -- true
            refine W_seq fun K16 h16 => ?_
            refine W_region [4] fun R hR => ?_   -- r12
            simp only [go_sem, bsX, wr, ws]
            refine hR _ _ (h16 _ _ ?_); clear hR h16 R K16
            simp only [go_sem, bsX, wr, ws]
            refine W_ret ?_
            simp only [go_sem, bsX, wr, ws]
            refine ⟨.inr (by trivial), Fin_same hcl rfl (Wk_int (by simp_all [chkGroup, allIn] <;> (intros; omega)))⟩
          · -- false
            refine W_skip (h10 _ _ ?_)
            refine W_seq fun K17 h17 => ?_
            refine W_region [2, 3, 7] fun R hR => ?_   -- r13
            simp only [go_sem, bsX, wr, ws]
            refine hR _ _ (h17 _ _ ?_); clear hR h17 R K17
            simp only [go_sem, bsX, wr, ws]
            refine W_seq fun K18 h18 => ?_
            refine W_seq fun K19 h19 => ?_
            refine W_region [2, 7, 46, 47, 48] fun R hR => ?_   -- r14
            simp only [go_sem, bsX, wr, ws]
            refine hR _ _ (h19 _ _ ?_); clear hR h19 R K19
            simp only [go_sem, bsX, wr, ws]
            refine W_block ?_
            have hgr : chkGroup t g = chkPath t.streets g.path g.first := by
              simp_all [chkGroup, allIn]
              try (intros; omega)
            refine W_loopK (fun k E σ' => ∃ (i : Nat) (at' : Int), k + i = g.path.length ∧ chkPath t.streets (g.path.drop i) at' = chkPath t.streets g.path g.first ∧ E = [(2, .ptr σ.store.length 0), (7, I at'), (46, ints g.path), (47, I g.path.length), (48, I i)] ∧ σ.ext [some (twCells t), some (grPV g).cells] [] = σ') g.path.length ⟨0, g.first, rfl, rfl, rfl, rfl⟩ ?_
            rintro k E σ' ⟨i, at', hk, hinv, rfl, rfl⟩
            simp only [twCells, grPV, go_sem]
            refine W_seq fun K20 h20 => ?_
            refine W_region [2, 7, 46, 47, 48, 49] fun R hR => ?_   -- r15
            simp only [go_sem, bsX, wr, ws]
            refine hR _ _ (h20 _ _ ?_); clear hR h20 R K20
            simp only [go_sem, bsX, wr, ws]
            refine W_seq fun K21 h21 => ?_
            refine W_cond rfl (fun c => ?_) (fun c => ?_)
            · -- true
              have hi' : i < g.path.length := by simpa using c
              obtain ⟨x, hx⟩ : ∃ x, g.path[i]? = some x := ⟨g.path[i], by simp [hi']⟩
              have hdrop : g.path.drop i = x :: g.path.drop (i + 1) := by
                rw [List.drop_eq_getElem_cons hi']; congr 1; exact (List.getElem?_eq_some_iff.1 hx).2
              rw [hdrop] at hinv
              refine W_skip (h21 _ _ ?_)
              refine W_seq fun K22 h22 => ?_
              refine W_block ?_
              refine W_seq fun K23 h23 => ?_
              refine W_region [2, 7, 9, 46, 47, 48] fun R hR => ?_   -- r16
              simp only [go_sem, bsX, wr, ws, iaX_map (f := I) (c := 1) hx rfl, elS_map (f := I) hx]
              refine hR _ _ (h23 _ _ ?_); clear hR h23 R K23
              simp only [go_sem, bsX, wr, ws]
              refine W_seq fun K24 h24 => ?_
              refine W_seq fun K25 h25 => ?_
              refine W_region [2, 7, 9, 46, 47, 48, 59] fun R hR => ?_   -- r17
              simp only [go_sem, bsX, wr, ws]
              refine GCall_of (cin_pc Y _ 0 _ [x] .exact (by simp)) ?_   -- t58 := call F115(0,t55,t57) : 4   <3,5>
              simp only [go_sem, bsX, wr, ws]
              refine hR _ _ (h25 _ _ ?_); clear hR h25 R K25
              simp only [go_sem, bsX, wr, ws]
              refine W_cond rfl (fun c => ?_) (fun c => ?_)
              · -- true
                have hin : inR x 0 ((t.streets.length : Int) - 1) = false := by simpa [allIn] using c
                refine W_seq fun K26 h26 => ?_
                refine W_region [4] fun R hR => ?_   -- r18
                simp only [go_sem, bsX, wr, ws]
                refine hR _ _ (h26 _ _ ?_); clear hR h26 R K26
                simp only [go_sem, bsX, wr, ws]
                refine W_ret ?_
                simp only [go_sem, bsX, wr, ws]
                refine ⟨.inr (by trivial), Fin_same hcl rfl (Wk_int ?_)⟩
                rw [hgr, ← hinv]; simp only [chkPath, hin]; rfl
              · -- false
                have hin : inR x 0 ((t.streets.length : Int) - 1) = true := by simpa [allIn] using c
                have hin' : 0 ≤ x ∧ x ≤ (t.streets.length : Int) - 1 := by simpa [inR] using hin
                obtain ⟨n, hn⟩ : ∃ n : Nat, x = (n : Int) := ⟨x.toNat, by omega⟩
                subst hn
                obtain ⟨s, hs'⟩ : ∃ s, t.streets[n]? = some s := ⟨t.streets[n]'(by omega), by simp⟩
                have hstep : chkPath t.streets ((n : Int) :: g.path.drop (i + 1)) at' = if other s at' < 0 then 1 else chkPath t.streets (g.path.drop (i + 1)) (other s at') := by
                  simp only [chkPath, hin, Int.toNat_natCast, hs']; rfl
                rw [hstep] at hinv
                refine W_skip (h24 _ _ ?_)
                refine W_seq fun K27 h27 => ?_
                refine W_region [2, 7, 46, 47, 48] fun R hR => ?_   -- r19
                simp only [go_sem, bsX, wr, ws, iaX_map (f := stPV) (c := 2) hs' rfl, elA_map (f := stPV) hs', stPV]
                refine GCall_of (cother_pc Y _ s at') ?_   -- t66 := call F117(t64,t65) : 3   <4,5>
                simp only [go_sem, bsX, wr, ws]
                refine hR _ _ (h27 _ _ ?_); clear hR h27 R K27
                simp only [go_sem, bsX, wr, ws]
                refine W_seq fun K28 h28 => ?_
                refine W_region [2, 7, 46, 47, 48, 68] fun R hR => ?_   -- r20
                simp only [go_sem, bsX, wr, ws]
                refine hR _ _ (h28 _ _ ?_); clear hR h28 R K28
                simp only [go_sem, bsX, wr, ws]
                refine W_cond rfl (fun c => ?_) (fun c => ?_)
                · -- true
                  refine W_seq fun K29 h29 => ?_
                  refine W_region [4] fun R hR => ?_   -- r21
                  simp only [go_sem, bsX, wr, ws]
                  refine hR _ _ (h29 _ _ ?_); clear hR h29 R K29
                  simp only [go_sem, bsX, wr, ws]
                  refine W_ret ?_
                  simp only [go_sem, bsX, wr, ws]
                  refine ⟨.inr (by trivial), Fin_same hcl rfl (Wk_int ?_)⟩
                  rw [hgr, ← hinv, if_pos (by simpa using c)]
                · -- false
                  refine W_skip (h22 _ _ ?_)
                  refine W_region [2, 7, 46, 47, 48] fun R hR => ?_   -- r22
                  simp only [go_sem, bsX, wr, ws]
                  refine hR _ _ ?_; clear hR R
                  simp only [go_sem, bsX, wr, ws]
                  rw [if_neg (by simpa using c)] at hinv
                  rw [wrap_i64_id (by omega) (by omega)]
                  exact ⟨k - 1, by omega, i + 1, _, by omega, hinv, rfl⟩
            · -- false
              refine W_exit ?_
              simp only [go_sem, bsX, wr, ws]
              refine h18 _ _ ?_
              refine W_seq fun K30 h30 => ?_
              refine W_region [4] fun R hR => ?_   -- r23
              simp only [go_sem, bsX, wr, ws]
              refine hR _ _ (h30 _ _ ?_); clear hR h30 R K30
              simp only [go_sem, bsX, wr, ws]
              refine W_ret ?_
              simp only [go_sem, bsX, wr, ws]
              refine ⟨.inr (by trivial), Fin_same hcl rfl (Wk_int ?_)⟩
              rw [hgr, ← hinv, List.drop_eq_nil_of_le (by simp at c; omega)]; rfl
end Go.Proofs.Ytnpamcpoaklgeaa
namespace Go.Proofs.Ytnpamcpoaklgeaa
open Go Go.RowKit
set_option maxRecDepth 100000
def chkStreets (n : Int) : List (Int × Int) → Int
  | [] => 0
  | s :: r => if !(inR s.1 0 (n - 1) && inR s.2 0 (n - 1)) then 7 else if s.1 = s.2 then 1 else chkStreets n r
def chkGroups (t : Town) : List Group → Int
  | [] => 0
  | g :: r => if chkGroup t g ≠ 0 then chkGroup t g else chkGroups t r
def chkTown (t : Town) : Int :=
  if t.rooms.length = 0 then 4 else if t.rooms.length > 12 then 5 else if !(allIn 0 1000000 t.rooms) then 2 else if t.streets.length > 12 then 5 else
  if chkStreets t.rooms.length t.streets ≠ 0 then chkStreets t.rooms.length t.streets else if !(inR t.steps 0 96) then 2 else if t.groups.length > 12 then 5 else chkGroups t t.groups
theorem ctown_pc (Y : YEnv) (σ : Sg) (t : Town) (hr : t.rooms.length < 2 ^ 62) (hs : t.streets.length < 2 ^ 62) (hg : t.groups.length < 2 ^ 62) (hp : ∀ g, g ∈ t.groups → g.path.length < 2 ^ 62) : PC Try.prog Y 95 [twPV t] σ (I (chkTown t)) σ := by
  refine PC_of_W Try.func95 rfl (by kernel_rfl) Try.ntmps95 (by simp) fun hcl hca => ?_
  have wr : IntKind.i64.wrap ((t.rooms.length : Int) - 1) = (t.rooms.length : Int) - 1 := wrap_i64_id (by omega) (by omega)
  refine W_seq fun K1 h1 => ?_
  refine W_region [1] fun R hR => ?_   -- r0
  simp only [go_sem, bsX, wr, twPV, twCells]
  refine hR _ _ (h1 _ _ ?_); clear hR h1 R K1
  simp only [go_sem, bsX, wr]
  refine W_seq fun K2 h2 => ?_
  refine W_region [1, 3] fun R hR => ?_   -- r1
  simp only [go_sem, bsX, wr]
  refine hR _ _ (h2 _ _ ?_); clear hR h2 R K2
  simp only [go_sem, bsX, wr]
  refine W_seq fun K3 h3 => ?_
  refine W_block ?_
  refine W_seq fun K4 h4 => ?_
  refine W_region [1, 3, 12] fun R hR => ?_   -- r2
  simp only [go_sem, bsX, wr]
  refine hR _ _ (h4 _ _ ?_); clear hR h4 R K4
  simp only [go_sem, bsX, wr]
  refine W_cond rfl (fun c => ?_) (fun c => ?_)
  · -- true
    refine W_seq fun K5 h5 => ?_
    refine W_region [2] fun R hR => ?_   -- r3
    simp only [go_sem, bsX, wr]
    refine hR _ _ (h5 _ _ ?_); clear hR h5 R K5
    simp only [go_sem, bsX, wr]
    refine W_ret ?_
    simp only [go_sem, bsX, wr]
    refine ⟨.inr (by trivial), Fin_same hcl rfl (Wk_int ?_)⟩
    simp_all [chkTown]
  · -- false
    refine W_seq fun K6 h6 => ?_
    refine W_region [1, 3, 15] fun R hR => ?_   -- r4
    simp only [go_sem, bsX, wr]
    refine hR _ _ (h6 _ _ ?_); clear hR h6 R K6
    simp only [go_sem, bsX, wr]
    refine W_cond rfl (fun c => ?_) (fun c => ?_)
    · -- true
      refine W_seq fun K7 h7 => ?_
      refine W_region [2] fun R hR => ?_   -- r5
      simp only [go_sem, bsX, wr]
      refine hR _ _ (h7 _ _ ?_); clear hR h7 R K7
      simp only [go_sem, bsX, wr]
      refine W_ret ?_
      simp only [go_sem, bsX, wr]
      refine ⟨.inr (by trivial), Fin_same hcl rfl (Wk_int ?_)⟩
      simp_all [chkTown] <;> (intros; omega)
    · -- false
      refine W_seq fun K8 h8 => ?_
      refine W_region [1, 3, 18] fun R hR => ?_   -- r6
      simp only [go_sem, bsX, wr]
      refine GCall_of (cin_pc Y _ 0 1000000 t.rooms .ro hr) ?_
      simp only [go_sem, bsX, wr]
      refine hR _ _ (h8 _ _ ?_); clear hR h8 R K8
      simp only [go_sem, bsX, wr]
      refine W_cond rfl (fun c => ?_) (fun c => ?_)
      · -- true
        refine W_seq fun K9 h9 => ?_
        refine W_region [2] fun R hR => ?_   -- r7
        simp only [go_sem, bsX, wr]
        refine hR _ _ (h9 _ _ ?_); clear hR h9 R K9
        simp only [go_sem, bsX, wr]
        refine W_ret ?_
        simp only [go_sem, bsX, wr]
        refine ⟨.inr (by trivial), Fin_same hcl rfl (Wk_int ?_)⟩
        simp_all [chkTown] <;> (intros; omega)
      · -- false
        refine W_seq fun K10 h10 => ?_
        refine W_region [1, 3, 23] fun R hR => ?_   -- r8
        simp only [go_sem, bsX, wr]
        refine hR _ _ (h10 _ _ ?_); clear hR h10 R K10
        simp only [go_sem, bsX, wr]
        refine W_cond rfl (fun c => ?_) (fun c => ?_)
        · -- true
          refine W_seq fun K11 h11 => ?_
          refine W_region [2] fun R hR => ?_   -- r9
          simp only [go_sem, bsX, wr]
          refine hR _ _ (h11 _ _ ?_); clear hR h11 R K11
          simp only [go_sem, bsX, wr]
          refine W_ret ?_
          simp only [go_sem, bsX, wr]
          refine ⟨.inr (by trivial), Fin_same hcl rfl (Wk_int ?_)⟩
          simp_all [chkTown] <;> (intros; omega)
        · -- false
          refine W_skip (h3 _ _ ?_)
          refine W_seq fun K12 h12 => ?_
          refine W_seq fun K13 h13 => ?_
          refine W_region [1, 3, 29, 30, 31] fun R hR => ?_   -- r10
          simp only [go_sem, bsX, wr]
          refine hR _ _ (h13 _ _ ?_); clear hR h13 R K13
          simp only [go_sem, bsX, wr]
          refine W_block ?_
          have hq : chkTown t = if chkStreets t.rooms.length t.streets ≠ 0 then chkStreets t.rooms.length t.streets else if !(inR t.steps 0 96) then 2 else if t.groups.length > 12 then 5 else chkGroups t t.groups := by
            simp_all [chkTown]
            try (intros; omega)
          refine W_loopK (fun k E σ' => ∃ i : Nat, k + i = t.streets.length ∧ chkStreets t.rooms.length (t.streets.drop i) = chkStreets t.rooms.length t.streets ∧ E = [(1, .ptr σ.store.length 0), (3, I t.rooms.length), (29, .isl (t.streets.map stPV) .ro), (30, I t.streets.length), (31, I i)] ∧ σ.ext [some (twCells t)] [] = σ') t.streets.length ⟨0, rfl, rfl, rfl, rfl⟩ ?_
          rintro k E σ' ⟨i, hk, hinv, rfl, rfl⟩
          simp only [twCells, go_sem]
          refine W_seq fun K14 h14 => ?_
          refine W_region [1, 3, 29, 30, 31, 32] fun R hR => ?_   -- r11
          simp only [go_sem, bsX, wr]
          refine hR _ _ (h14 _ _ ?_); clear hR h14 R K14
          simp only [go_sem, bsX, wr]
          refine W_seq fun K15 h15 => ?_
          refine W_cond rfl (fun c => ?_) (fun c => ?_)
          · -- true
            have hi' : i < t.streets.length := by simpa using c
            obtain ⟨x, hx⟩ : ∃ x, t.streets[i]? = some x := ⟨t.streets[i], by simp [hi']⟩
            have hdrop : t.streets.drop i = x :: t.streets.drop (i + 1) := by
              rw [List.drop_eq_getElem_cons hi']; congr 1; exact (List.getElem?_eq_some_iff.1 hx).2
            rw [hdrop] at hinv
            simp only [chkStreets] at hinv
            refine W_skip (h15 _ _ ?_)
            refine W_seq fun K16 h16 => ?_
            refine W_block ?_
            refine W_seq fun K17 h17 => ?_
            refine W_region [1, 3, 5, 29, 30, 31] fun R hR => ?_   -- r12
            simp only [go_sem, bsX, wr, iaX_map (f := stPV) (c := 2) hx rfl, elA_map (f := stPV) hx, stPV]
            refine hR _ _ (h17 _ _ ?_); clear hR h17 R K17
            simp only [go_sem, bsX, wr]
            refine W_block ?_
            refine W_seq fun K18 h18 => ?_
            refine W_region [1, 3, 5, 29, 30, 31, 35] fun R hR => ?_   -- r13
            simp only [go_sem, bsX, wr]
            refine GCall_of (cin_pc Y _ 0 _ [x.1, x.2] .exact (by simp)) ?_
            simp only [go_sem, bsX, wr]
            refine hR _ _ (h18 _ _ ?_); clear hR h18 R K18
            simp only [go_sem, bsX, wr]
            refine W_cond rfl (fun c => ?_) (fun c => ?_)
            · -- true
              refine W_seq fun K19 h19 => ?_
              refine W_region [2] fun R hR => ?_   -- r14
              simp only [go_sem, bsX, wr]
              refine hR _ _ (h19 _ _ ?_); clear hR h19 R K19
              simp only [go_sem, bsX, wr]
              refine W_ret ?_
              simp only [go_sem, bsX, wr]
              refine ⟨.inr (by trivial), Fin_same hcl rfl (Wk_int ?_)⟩
              rw [hq, ← hinv]; simp_all [allIn]
            · -- false
              refine W_seq fun K20 h20 => ?_
              refine W_region [1, 3, 29, 30, 31, 45] fun R hR => ?_   -- r15
              simp only [go_sem, bsX, wr]
              refine hR _ _ (h20 _ _ ?_); clear hR h20 R K20
              simp only [go_sem, bsX, wr]
              refine W_cond rfl (fun c => ?_) (fun c => ?_)
              · -- true
                refine W_seq fun K21 h21 => ?_
                refine W_region [2] fun R hR => ?_   -- r16
                simp only [go_sem, bsX, wr]
                refine hR _ _ (h21 _ _ ?_); clear hR h21 R K21
                simp only [go_sem, bsX, wr]
                refine W_ret ?_
                simp only [go_sem, bsX, wr]
                refine ⟨.inr (by trivial), Fin_same hcl rfl (Wk_int ?_)⟩
                rw [hq, ← hinv]; simp_all [allIn]
              · -- false
                refine W_skip (h16 _ _ ?_)
                refine W_weak (Weak.cutExt 1 0 (Nat.le_add_right _ _) (Nat.le_refl _) hcl (CleanL_cons (cleans_tw t) CleanL_nil) (Wk.env (cleanE_cons (.ptr _ _ (by omega)) (cleanE_cons (.int _ _) (cleanE_cons (Clean.map noTok clean_st) (cleanE_cons (.int _ _) (cleanE_cons (.int _ _) (cleanE_cons (.bool _) cleanE_nil)))))))) ?_
                refine W_region [1, 3, 29, 30, 31] fun R hR => ?_   -- r17
                simp only [go_sem, bsX, wr]
                refine hR _ _ ?_; clear hR R
                simp only [go_sem, bsX, wr]
                rw [wrap_i64_id (by omega) (by omega)]
                exact ⟨k - 1, by omega, i + 1, by omega, by simp_all [allIn], rfl⟩
          · -- false
            have hz : chkStreets t.rooms.length t.streets = 0 := by rw [← hinv, List.drop_eq_nil_of_le (by simp at c; omega)]; rfl
            refine W_exit ?_
            simp only [go_sem, bsX, wr]
            refine h12 _ _ ?_
            refine W_seq fun K22 h22 => ?_
            refine W_block ?_
            refine W_seq fun K23 h23 => ?_
            refine W_region [1, 52] fun R hR => ?_   -- r18
            simp only [go_sem, bsX, wr]
            refine GCall_of (cin_pc Y _ 0 96 [t.steps] .exact (by simp)) ?_
            simp only [go_sem, bsX, wr]
            refine hR _ _ (h23 _ _ ?_); clear hR h23 R K23
            simp only [go_sem, bsX, wr]
            refine W_cond rfl (fun c => ?_) (fun c => ?_)
            · -- true
              refine W_seq fun K24 h24 => ?_
              refine W_region [2] fun R hR => ?_   -- r19
              simp only [go_sem, bsX, wr]
              refine hR _ _ (h24 _ _ ?_); clear hR h24 R K24
              simp only [go_sem, bsX, wr]
              refine W_ret ?_
              simp only [go_sem, bsX, wr]
              refine ⟨.inr (by trivial), Fin_same hcl rfl (Wk_int ?_)⟩
              rw [hq, hz]; simp_all [allIn]
            · -- false
              refine W_seq fun K25 h25 => ?_
              refine W_region [1, 58] fun R hR => ?_   -- r20
              simp only [go_sem, bsX, wr]
              refine hR _ _ (h25 _ _ ?_); clear hR h25 R K25
              simp only [go_sem, bsX, wr]
              refine W_cond rfl (fun c => ?_) (fun c => ?_)
              · -- true
                refine W_seq fun K26 h26 => ?_
                refine W_region [2] fun R hR => ?_   -- r21
                simp only [go_sem, bsX, wr]
                refine hR _ _ (h26 _ _ ?_); clear hR h26 R K26
                simp only [go_sem, bsX, wr]
                refine W_ret ?_
                simp only [go_sem, bsX, wr]
                refine ⟨.inr (by trivial), Fin_same hcl rfl (Wk_int ?_)⟩
                rw [hq, hz]; simp_all [allIn] <;> (intros; omega)
              · -- false
                refine W_skip (h22 _ _ ?_)
                refine W_seq fun K27 h27 => ?_
                refine W_seq fun K28 h28 => ?_
                refine W_region [1, 64, 65, 66] fun R hR => ?_   -- r22
                simp only [go_sem, bsX, wr]
                refine hR _ _ (h28 _ _ ?_); clear hR h28 R K28
                simp only [go_sem, bsX, wr]
                refine W_block ?_
                have hq2 : chkTown t = chkGroups t t.groups := by
                  simp_all [allIn]
                  try (intros; omega)
                refine W_loopK (fun k E σ' => ∃ i : Nat, k + i = t.groups.length ∧ chkGroups t (t.groups.drop i) = chkGroups t t.groups ∧ E = [(1, .ptr σ.store.length 0), (64, .isl (t.groups.map grPV) .ro), (65, I t.groups.length), (66, I i)] ∧ σ.ext [some (twCells t)] [] = σ') t.groups.length ⟨0, rfl, rfl, rfl, rfl⟩ ?_
                rintro k E σ' ⟨i, hk, hinv, rfl, rfl⟩
                simp only [twCells, go_sem]
                refine W_seq fun K29 h29 => ?_
                refine W_region [1, 64, 65, 66, 67] fun R hR => ?_   -- r23
                simp only [go_sem, bsX, wr]
                refine hR _ _ (h29 _ _ ?_); clear hR h29 R K29
                simp only [go_sem, bsX, wr]
                refine W_seq fun K30 h30 => ?_
                refine W_cond rfl (fun c => ?_) (fun c => ?_)
                · -- true
                  have hi' : i < t.groups.length := by simpa using c
                  obtain ⟨x, hx⟩ : ∃ x, t.groups[i]? = some x := ⟨t.groups[i], by simp [hi']⟩
                  have hdrop : t.groups.drop i = x :: t.groups.drop (i + 1) := by
                    rw [List.drop_eq_getElem_cons hi']; congr 1; exact (List.getElem?_eq_some_iff.1 hx).2
                  rw [hdrop] at hinv
                  simp only [chkGroups] at hinv
                  refine W_skip (h30 _ _ ?_)
                  refine W_seq fun K31 h31 => ?_
                  refine W_block ?_
                  refine W_seq fun K32 h32 => ?_
                  refine W_region [1, 7, 64, 65, 66] fun R hR => ?_   -- r24
                  simp only [go_sem, bsX, wr, iaX_map (f := grPV) (c := 7) hx rfl, elA_map (f := grPV) hx, grPV]
                  refine hR _ _ (h32 _ _ ?_); clear hR h32 R K32
                  simp only [go_sem, bsX, wr]
                  refine W_seq fun K33 h33 => ?_
                  refine W_region [1, 8, 64, 65, 66] fun R hR => ?_   -- r25
                  simp only [go_sem, bsX, wr]
                  refine GCall_of (cgroup_pc Y _ t x hr hs (hp x (List.mem_of_getElem? hx))) ?_
                  simp only [go_sem, bsX, wr]
                  refine hR _ _ (h33 _ _ ?_); clear hR h33 R K33
                  simp only [go_sem, bsX, wr]
                  refine W_seq fun K34 h34 => ?_
                  refine W_region [1, 8, 64, 65, 66, 74] fun R hR => ?_   -- r26
                  simp only [go_sem, bsX, wr]
                  refine hR _ _ (h34 _ _ ?_); clear hR h34 R K34
                  simp only [go_sem, bsX, wr]
                  refine W_cond rfl (fun c => ?_) (fun c => ?_)
                  · -- true
                    refine W_seq fun K35 h35 => ?_
                    refine W_region [2] fun R hR => ?_   -- r27
                    simp only [go_sem, bsX, wr]
                    refine hR _ _ (h35 _ _ ?_); clear hR h35 R K35
                    simp only [go_sem, bsX, wr]
                    refine W_ret ?_
                    simp only [go_sem, bsX, wr]
                    refine ⟨.inr (by trivial), Fin_same hcl rfl (Wk_int ?_)⟩
                    rw [hq2, ← hinv, if_pos (by simpa using c)]
                  · -- false
                    refine W_skip (h31 _ _ ?_)
                    refine W_weak (Weak.cutExt 1 0 (Nat.le_add_right _ _) (Nat.le_refl _) hcl (CleanL_cons (cleans_tw t) CleanL_nil) (Wk.env (cleanE_cons (.ptr _ _ (by omega)) (cleanE_cons (.int _ _) (cleanE_cons (Clean.map noTok clean_gr) (cleanE_cons (.int _ _) (cleanE_cons (.int _ _) (cleanE_cons (.bool _) cleanE_nil)))))))) ?_
                    refine W_region [1, 64, 65, 66] fun R hR => ?_   -- r28
                    simp only [go_sem, bsX, wr]
                    refine hR _ _ ?_; clear hR R
                    simp only [go_sem, bsX, wr]
                    rw [if_neg (by simpa using c)] at hinv
                    rw [wrap_i64_id (by omega) (by omega)]
                    exact ⟨k - 1, by omega, i + 1, by omega, hinv, rfl⟩
                · -- false
                  refine W_exit ?_
                  simp only [go_sem, bsX, wr]
                  refine h27 _ _ ?_
                  refine W_seq fun K36 h36 => ?_
                  refine W_region [2] fun R hR => ?_   -- r29
                  simp only [go_sem, bsX, wr]
                  refine hR _ _ (h36 _ _ ?_); clear hR h36 R K36
                  simp only [go_sem, bsX, wr]
                  refine W_ret ?_
                  simp only [go_sem, bsX, wr]
                  refine ⟨.inr (by trivial), Fin_same hcl rfl (Wk_int ?_)⟩
                  rw [hq2, ← hinv, List.drop_eq_nil_of_le (by simp at c; omega)]; rfl
end Go.Proofs.Ytnpamcpoaklgeaa
