/-
  The law BandRoutes: whatever comes in, it answers true and leaves what came in as it was.
  The law BandRoutes, walked: streets from square to square.
  Walks: the streets of a shortest way (band.Route, bateriaref07.Route).
  Walk: a shortest way (bateriaref06.Way).
  Both ways back are one.
  Steps from square to square, round by round: they are the distances.
  Walk: steps from square to square (bateriaref06).
  Walks: the states of streets, steps from square to square (bateriaref06).
  Walk: a shortest way (crowd.Way).
  Variables renumbered: the live ones, in a new order; whatever speaks of them follows.
-/
import Derived.Test.YtnpamcpoaklgeaaPe
import Derived.CallsIn
import Derived.RangeFuncLeaves
import Derived.RangeFuncRecord
import Derived.OrdersIn
import Derived.Below
import Derived.Laws.World
import Derived.Laws.StructEq
import Derived.Laws.Append
import Derived.MapKept
import Derived.ProofKit
import Derived.Carry
import Derived.Handed
import Derived.ChangeCalls
import Derived.RangeFuncIn
import Derived.RangeFuncNested
import Derived.Test.YtnpamcpoaklgeaaProg
import Derived.KernelRfl
import Derived.IntWalk
import Derived.Test.YtnpamcpoaklgeaaRows
import Derived.JoinedOf
set_option linter.unusedSimpArgs false
set_option linter.unusedVariables false
namespace Go.Proofs.Ytnpamcpoaklgeaa
open Go Go.RowKit
/-- A value, and what it is when the variables n + ks[i] become the variables n + i. -/
inductive Rn (n nr ny : Nat) (ks : List Nat) : PV → PV → Prop where
  | gone (p : PV) : Rn n nr ny ks p .undef
  | same (p : PV) (h : Clean n nr ny p) : Rn n nr ny ks p p
  | ptr (i k id id' off : Nat) (h : ks[i]? = some k) (e : id = n + k) (e' : id' = n + i) : Rn n nr ny ks (.ptr id off) (.ptr id' off)
  | msl (i k id id' off len : Nat) (h : ks[i]? = some k) (e : id = n + k) (e' : id' = n + i) : Rn n nr ny ks (.msl id off len) (.msl id' off len)
  | gsl (i k id id' len es : Nat) (h : ks[i]? = some k) (e : id = n + k) (e' : id' = n + i) : Rn n nr ny ks (.gsl id len es) (.gsl id' len es)
  | mapv (i k id id' : Nat) (h : ks[i]? = some k) (e : id = n + k) (e' : id' = n + i) : Rn n nr ny ks (.map id) (.map id')
  | func (fn : Fn) (fs cs cs' : List PV) (hf : ∀ p, p ∈ fs → Clean n nr ny p) (hl : cs'.length = cs.length) (h : ∀ (j : Nat) (p v : PV), cs[j]? = some p → cs'[j]? = some v → Rn n nr ny ks p v) : Rn n nr ny ks (.func fn fs cs) (.func fn fs cs')
  | agg (cs cs' : List PV) (hl : cs'.length = cs.length) (h : ∀ (j : Nat) (p v : PV), cs[j]? = some p → cs'[j]? = some v → Rn n nr ny ks p v) : Rn n nr ny ks (.agg cs) (.agg cs')
  | tuple (cs cs' : List PV) (hl : cs'.length = cs.length) (h : ∀ (j : Nat) (p v : PV), cs[j]? = some p → cs'[j]? = some v → Rn n nr ny ks p v) : Rn n nr ny ks (.tuple cs) (.tuple cs')
def RnL (n nr ny : Nat) (ks : List Nat) : List PV → List PV → Prop
  | [], [] => True
  | p :: l, v :: m => Rn n nr ny ks p v ∧ RnL n nr ny ks l m
  | _, _ => False
theorem RnL.get {n nr ny : Nat} {ks : List Nat} : ∀ {l m : List PV}, RnL n nr ny ks l m → m.length = l.length ∧ ∀ (j : Nat) (p v : PV), l[j]? = some p → m[j]? = some v → Rn n nr ny ks p v := by
  intro l
  induction l with
  | nil =>
    intro m h
    cases m with
    | nil => exact ⟨rfl, fun j p v h => by simp at h⟩
    | cons => exact h.elim
  | cons q l ih =>
    intro m h
    cases m with
    | nil => exact h.elim
    | cons u m =>
      obtain ⟨h1, h2⟩ := h
      obtain ⟨g1, g2⟩ := ih h2
      refine ⟨by simp [g1], fun j p v hp hv => ?_⟩
      cases j with
      | zero => simp at hp hv; subst hp hv; exact h1
      | succ j => exact g2 j p v (by simpa using hp) (by simpa using hv)
theorem Rn.funcL {n nr ny : Nat} {ks : List Nat} {fn : Fn} {cs cs' : List PV} (h : RnL n nr ny ks cs cs') : Rn n nr ny ks (.func fn [] cs) (.func fn [] cs') := .func fn [] cs cs' (fun p hp => by cases hp) h.get.1 h.get.2
def RnE (n nr ny : Nat) (ks : List Nat) : Env → Env → Prop
  | [], [] => True
  | (t, p) :: E, (t', v) :: E' => t = t' ∧ Rn n nr ny ks p v ∧ RnE n nr ny ks E E'
  | _, _ => False
theorem RnE.get {n nr ny : Nat} {ks : List Nat} : ∀ {E E' : Env}, RnE n nr ny ks E E' → ∀ t, Rn n nr ny ks (E.get t) (E'.get t) := by
  intro E
  induction E with
  | nil =>
    intro E' h t
    cases E' with
    | nil => exact .gone _
    | cons => exact h.elim
  | cons kv E ih =>
    intro E' h t
    obtain ⟨a, p⟩ := kv
    cases E' with
    | nil => exact h.elim
    | cons kv' E' =>
      obtain ⟨a', v⟩ := kv'
      obtain ⟨rfl, h1, h2⟩ := h
      simp only [Env.get]
      split
      · exact h1
      · exact ih h2 t
/-- A variable's cells: a map's stay as they are. -/
def RnV (n nr ny : Nat) (ks : List Nat) (cs cs' : List PV) : Prop := (CleanAll n nr ny cs ∧ cs' = cs) ∨ (cs.head? ≠ some .mark ∧ RnL n nr ny ks cs cs')
def RnS (n nr ny : Nat) (ks : List Nat) (l : List (Option (List PV))) : List Nat → List (Option (List PV)) → Prop
  | [], [] => True
  | k :: r, some cs' :: m => (∃ cs, l[k]? = some (some cs) ∧ RnV n nr ny ks cs cs') ∧ RnS n nr ny ks l r m
  | _ :: r, none :: m => RnS n nr ny ks l r m
  | _, _ => False
theorem RnS.get {n nr ny : Nat} {ks : List Nat} {l : List (Option (List PV))} : ∀ {r : List Nat} {m : List (Option (List PV))}, RnS n nr ny ks l r m → m.length = r.length ∧
    ∀ (i : Nat) (cs' : List PV), m[i]? = some (some cs') → ∃ k cs, r[i]? = some k ∧ l[k]? = some (some cs) ∧ RnV n nr ny ks cs cs' := by
  intro r
  induction r with
  | nil =>
    intro m h
    cases m with
    | nil => exact ⟨rfl, fun i cs' h => by simp at h⟩
    | cons => exact h.elim
  | cons k r ih =>
    intro m h
    cases m with
    | nil => exact h.elim
    | cons o m =>
      cases o with
      | none =>
        obtain ⟨g1, g2⟩ := ih (m := m) h
        refine ⟨by simp [g1], fun i cs' hi => ?_⟩
        cases i with
        | zero => simp at hi
        | succ i =>
          obtain ⟨k', cs, q1, q2⟩ := g2 i cs' (by simpa using hi)
          exact ⟨k', cs, by simpa using q1, q2⟩
      | some c =>
        obtain ⟨⟨cs, h1, h2⟩, h3⟩ := h
        obtain ⟨g1, g2⟩ := ih h3
        refine ⟨by simp [g1], fun i cs' hi => ?_⟩
        cases i with
        | zero => simp at hi; subst hi; exact ⟨k, cs, rfl, h1, h2⟩
        | succ i =>
          obtain ⟨k', cs, q1, q2⟩ := g2 i cs' (by simpa using hi)
          exact ⟨k', cs, by simpa using q1, q2⟩
def Ty.ren (Ψ : Ty) (n : Nat) (ks : List Nat) : Ty := { Ψ with β := Ψ.β.take n ++ ks.map fun k => Ψ.β.getD (n + k) 0 }
theorem Ty.ren_low {Ψ : Ty} {n : Nat} {ks : List Nat} {i b : Nat} (hi : i < n) (h : Ψ.β[i]? = some b) : (Ψ.ren n ks).β[i]? = some b := by
  have hl := (List.getElem?_eq_some_iff.1 h).1
  simp only [Ty.ren]
  rw [List.getElem?_append_left (by simp; omega), List.getElem?_take_of_lt hi]
  exact h
theorem Ty.ren_high {Ψ : Ty} {n : Nat} {ks : List Nat} {i k b : Nat} (hn : n ≤ Ψ.β.length) (hi : ks[i]? = some k) (h : Ψ.β[n + k]? = some b) : (Ψ.ren n ks).β[n + i]? = some b := by
  have hl : (Ψ.β.take n).length = n := by simp; omega
  simp only [Ty.ren]
  rw [List.getElem?_append_right (by omega), hl, show n + i - n = i by omega, List.getElem?_map, hi]
  simp only [Option.map_some, List.getD_eq_getElem?_getD, h, Option.getD_some]
theorem Ty.ren_inv {Ψ : Ty} {n : Nat} {ks : List Nat} {id b : Nat} (hn : n ≤ Ψ.β.length) (h : (Ψ.ren n ks).β[id]? = some b) : (id < n ∧ Ψ.β[id]? = some b) ∨ ∃ i k, id = n + i ∧ ks[i]? = some k ∧ b = Ψ.β.getD (n + k) 0 := by
  have hl : (Ψ.β.take n).length = n := by simp; omega
  simp only [Ty.ren] at h
  by_cases hi : id < n
  · rw [List.getElem?_append_left (by omega), List.getElem?_take_of_lt hi] at h
    exact .inl ⟨hi, h⟩
  · rw [List.getElem?_append_right (by omega), hl, List.getElem?_map] at h
    cases hk : ks[id - n]? with
    | none => rw [hk] at h; cases h
    | some k =>
      rw [hk] at h
      injection h with h
      exact .inr ⟨id - n, k, by omega, hk, h.symm⟩
theorem VR.renClean {Ψ : Ty} {n nr ny : Nat} {ks : List Nat} {p : PV} {x : Value} (h : VR Ψ p x) (hc : Clean n nr ny p) : VR (Ψ.ren n ks) p x := by
  refine VR.mono0 (Ψ := Ψ.trim n nr ny) (Ψ' := Ψ.ren n ks) (fun b o v k => k) (fun i b k => ?_) (fun r m y k => ?_) (fun i b k => ?_) (fun d k => k) (h.trim hc)
  · simp only [Ty.trim] at k
    have hi : i < n := by have := (List.getElem?_eq_some_iff.1 k).1; simp at this; omega
    rw [List.getElem?_take_of_lt hi] at k
    exact Ty.ren_low hi k
  · simp only [Ty.trim] at k
    split at k
    · exact k
    · cases k
  · simp only [Ty.trim, List.getElem?_take] at k
    split at k
    · exact k
    · cases k
theorem VR.ren {Ψ : Ty} {n nr ny : Nat} {ks : List Nat} (hn : n ≤ Ψ.β.length) {p v : PV} (hr : Rn n nr ny ks p v) : ∀ {x : Value}, VR Ψ p x → VR (Ψ.ren n ks) v x := by
  induction hr with
  | gone p => intro x _; exact .undef x
  | same p hc =>
    intro x h
    exact h.renClean hc
  | ptr i k id id' off h e e' =>
    intro x hx
    cases hx with
    | ptr _ _ b hb hz => subst e e'; exact .ptr _ _ b (Ty.ren_high hn h hb) hz
  | msl i k id id' off len h e e' =>
    intro x hx
    cases hx with
    | msl _ _ _ b cap hb hz hc => subst e e'; exact .msl _ _ _ b cap (Ty.ren_high hn h hb) hz hc
  | gsl i k id id' len es h e e' =>
    intro x hx
    cases hx with
    | gsl _ _ _ b cap hb hz h0 hc => subst e e'; exact .gsl _ _ _ b cap (Ty.ren_high hn h hb) hz h0 hc
  | mapv i k id id' h e e' =>
    intro x hx
    cases hx with
    | map _ b hb => subst e e'; exact .map _ b (Ty.ren_high hn h hb)
  | func fn fs cs cs' hf hl h ih =>
    intro x hx
    cases hx with
    | func _ _ _ xs ys h1 h2 h3 h4 =>
      refine .func fn fs cs' xs ys h1 (by rw [h2, hl]) (fun j p v q1 q2 => ?_) (fun j p v q1 q2 => ?_)
      · have hc := hf p (List.mem_of_getElem? q1)
        exact (h3 j p v q1 q2).renClean hc
      · have hj : j < cs.length := by rw [← hl]; exact (List.getElem?_eq_some_iff.1 q1).1
        exact ih j cs[j] p (by simp [hj]) q1 (h4 j cs[j] v (by simp [hj]) q2)
  | agg cs cs' hl h ih =>
    intro x hx
    cases hx with
    | agg _ vs h1 h2 =>
      refine .agg cs' vs (by rw [h1, hl]) fun j p v q1 q2 => ?_
      have hj : j < cs.length := by rw [← hl]; exact (List.getElem?_eq_some_iff.1 q1).1
      exact ih j cs[j] p (by simp [hj]) q1 (h2 j cs[j] v (by simp [hj]) q2)
  | tuple cs cs' hl h ih =>
    intro x hx
    cases hx with
    | tuple _ vs h1 h2 =>
      refine .tuple cs' vs (by rw [h1, hl]) fun j p v q1 q2 => ?_
      have hj : j < cs.length := by rw [← hl]; exact (List.getElem?_eq_some_iff.1 q1).1
      exact ih j cs[j] p (by simp [hj]) q1 (h2 j cs[j] v (by simp [hj]) q2)
theorem Keeps.ren {Ψ : Ty} {w : World} {n nr ny b : Nat} {ks : List Nat} {cs cs' : List PV} (hn : n ≤ Ψ.β.length) (h : Keeps Ψ w b cs) (hv : RnV n nr ny ks cs cs') : Keeps (Ψ.ren n ks) w b cs' := by
  rcases hv with ⟨hc, rfl⟩ | ⟨hm, hL⟩
  · rcases h with ⟨c, h1, h2, h3⟩ | ⟨arr, es, h0, h1, h2, h3⟩
    · exact .inl ⟨c, h1, h2, fun j p v q1 q2 => (h3 j p v q1 q2).ren hn (.same p (hc p (List.mem_of_getElem? q1)))⟩
    · refine .inr ⟨arr, es, h0, h1, h2, fun j p e q1 q2 => ?_⟩
      obtain ⟨g1, k, v, rfl, g3, g4⟩ := h3 j p e q1 q2
      have hcl := hc _ (by rw [h0]; exact List.mem_cons_of_mem _ (List.mem_of_getElem? q1))
      cases hcl with
      | tuple _ hh => exact ⟨g1, k, v, rfl, g3.ren hn (.same k (hh k (by simp))), g4.ren hn (.same v (hh v (by simp)))⟩
  · obtain ⟨g1, g2⟩ := hL.get
    rcases h with ⟨c, h1, h2, h3⟩ | ⟨arr, es, h0, _⟩
    · refine .inl ⟨c, h1, by omega, fun j p v q1 q2 => ?_⟩
      have hj : j < cs.length := by rw [← g1]; exact (List.getElem?_eq_some_iff.1 q1).1
      exact (h3 j cs[j] v (by simp [hj]) q2).ren hn (g2 j cs[j] p (by simp [hj]) q1)
    · rw [h0] at hm
      exact absurd rfl hm
theorem Weak.ren {N : Nat} {lo : Nat × Nat} {E E' : Env} {σ : Sg} {l l' : List (Option (List PV))} {rm : List Nat} {ys : List LState} (ks : List Nat) (hnd : ks.Nodup) (hkl : ∀ k, k ∈ ks → k < l.length) (h1 : lo.1 ≤ σ.store.length) (hcl : CleanSg σ)
    (hE : ∀ t, Rn σ.store.length (σ.rooms.length + rm.length) (σ.ys.length + ys.length) ks (E.get t) (E'.get t))
    (hL : RnS σ.store.length (σ.rooms.length + rm.length) (σ.ys.length + ys.length) ks l ks l') :
    Weak N lo E (σ.ext l rm ys) E' (σ.ext l' rm ys) := by
  intro Ψ0 Ψ D a w hb le hr
  have hs := hr.sg
  have hblen : Ψ.β.length = σ.store.length + l.length := by rw [hs.blen]; simp [Sg.ext]
  have hn : σ.store.length ≤ Ψ.β.length := by omega
  obtain ⟨l1, l2⟩ := hL.get
  have live : ∀ (id : Nat) (cs : List PV), (σ.ext l' rm ys).store[id]? = some (some cs) → ∃ id0 cs0, (σ.ext l rm ys).store[id0]? = some (some cs0) ∧ (∀ b, (Ψ.ren σ.store.length ks).β[id]? = some b → Ψ.β[id0]? = some b) ∧
      RnV σ.store.length (σ.rooms.length + rm.length) (σ.ys.length + ys.length) ks cs0 cs ∧ ((id < σ.store.length ∧ id0 = id) ∨ ∃ i k, id = σ.store.length + i ∧ ks[i]? = some k ∧ id0 = σ.store.length + k) := by
    intro id cs hid
    have hid' : (σ.store ++ l')[id]? = some (some cs) := hid
    by_cases h : id < σ.store.length
    · rw [List.getElem?_append_left h] at hid'
      refine ⟨id, cs, ?_, fun b hb2 => ?_, .inl ⟨fun p hp => (hcl id cs h hid' p hp).mono (Nat.le_refl _) (Nat.le_add_right _ _) (Nat.le_add_right _ _), rfl⟩, .inl ⟨h, rfl⟩⟩
      · show (σ.store ++ l)[id]? = _
        rw [List.getElem?_append_left h]; exact hid'
      · rcases Ty.ren_inv hn hb2 with ⟨_, q⟩ | ⟨i, k, q, _⟩
        · exact q
        · omega
    · rw [List.getElem?_append_right (by omega)] at hid'
      obtain ⟨k, cs0, q1, q2, q3⟩ := l2 _ cs hid'
      refine ⟨σ.store.length + k, cs0, ?_, fun b hb2 => ?_, q3, .inr ⟨id - σ.store.length, k, by omega, q1, rfl⟩⟩
      · rw [Sg.get_ext]; exact q2
      · rcases Ty.ren_inv hn hb2 with ⟨q, _⟩ | ⟨i, k', q4, q5, q6⟩
        · omega
        · have : i = id - σ.store.length := by omega
          subst this
          rw [q1] at q5
          injection q5 with q5
          subst q5
          have hkl : k < l.length := (List.getElem?_eq_some_iff.1 q2).1
          have : σ.store.length + k < Ψ.β.length := by omega
          rw [q6, List.getD_eq_getElem?_getD, List.getElem?_eq_getElem this]
          rfl
  refine ⟨Ψ.ren σ.store.length ks, ⟨le.base, le.imm, fun i b k => ?_, le.hist, le.ys, le.ds, le.rs, le.sz⟩, hr.size, fun t => (hr.env t).ren hn (hE t), ?_, hr.dsub, hr.defs⟩
  · have hi : i < σ.store.length := by
      have := (List.getElem?_eq_some_iff.1 k).1
      have := hb.1
      omega
    exact Ty.ren_low hi (le.β i b k)
  · refine ⟨hs.base, hs.imm, by simp [Ty.ren, Sg.ext, hblen, l1], ?_, ?_, ?_, hs.roomsApart, hs.histlt, hs.histle, ?_, hs.yok, hs.ylen', hs.dok, ?_, hs.szok⟩
    · intro id cs b k1 k2
      obtain ⟨id0, cs0, g1, g2, g3, _⟩ := live id cs k1
      obtain ⟨a1, a2, a3⟩ := hs.block id0 cs0 b g1 (g2 b k2)
      exact ⟨a1, a2, a3.ren hn g3⟩
    · intro id id' cs cs' b k1 k2 k3 k4
      obtain ⟨i0, c0, g1, g2, _, g4⟩ := live id cs k1
      obtain ⟨i1, c1, f1, f2, _, f4⟩ := live id' cs' k2
      have he := hs.apart i0 i1 c0 c1 b g1 f1 (g2 b k3) (f2 b k4)
      rcases g4 with ⟨q1, q2⟩ | ⟨i, k, q1, q2, q3⟩
      · rcases f4 with ⟨p1, p2⟩ | ⟨i', k', p1, p2, p3⟩
        · omega
        · omega
      · rcases f4 with ⟨p1, p2⟩ | ⟨i', k', p1, p2, p3⟩
        · omega
        · have : k = k' := by omega
          subst this
          have hi1 := (List.getElem?_eq_some_iff.1 q2)
          have hi2 := (List.getElem?_eq_some_iff.1 p2)
          have := (List.getElem_inj hnd).1 (hi1.2.trans hi2.2.symm)
          omega
    · intro r n b e c es k hx hlt
      obtain ⟨a1, a2, a3, a4⟩ := hs.room r n b e c es k hx hlt
      refine ⟨a1, a2, fun id q cs q' => ?_, a4⟩
      obtain ⟨id0, cs0, g1, g2, _⟩ := live id cs q'
      exact a3 id0 (g2 b q) cs0 g1
    · intro id b k
      rcases Ty.ren_inv hn k with ⟨_, q⟩ | ⟨i, k', q1, q2, q3⟩
      · exact hs.βlt id b q
      · have hk : σ.store.length + k' < Ψ.β.length := by have := hkl k' (List.mem_of_getElem? q2); omega
        refine hs.βlt (σ.store.length + k') b ?_
        rw [q3, List.getD_eq_getElem?_getD, List.getElem?_eq_getElem hk]
        rfl
    · intro b c k
      obtain ⟨a1, a2, a3, a4, a5⟩ := hs.rok b c k
      refine ⟨a1, a2, fun id q cs q' => ?_, a4, a5⟩
      obtain ⟨id0, cs0, g1, g2, _⟩ := live id cs q'
      exact a3 id0 (g2 b q) cs0 g1
def NoGoto (Q : Exit → Env → Sg → Prop) : Exit → Env → Sg → Prop
  | .goto _, _, _ => False
  | e, E, σ => Q e E σ
section
variable {P : Program} {a : Act} {k : List Item} {cs : List Frame} {w : World} {Q : Exit → Env → Sg → Prop}
theorem stepR_scope {b : Frame} {c : Code} : step P (lone (b.atR a (.code (.scope c) :: k)) cs w) = .next (lone (b.atR a (.code c :: .inScope c :: k)) cs w) :=
  step_lone_go (by simp [stepG, stepG.exec, Frame.atR])
theorem stepR_inScope {b : Frame} {c : Code} : step P (lone (b.atR a (.inScope c :: k)) cs w) = .next (lone (b.atR a k) cs w) :=
  step_lone_go (by simp [stepG, stepG.exec, Frame.atR])
theorem W_scope {Y : YEnv} {N : Nat} {rd : Option Nat} {lo : Nat × Nat} {E : Env} {σ : Sg} {c : Code} (h : W P Y N rd lo c E σ (NoGoto Q)) : W P Y N rd lo (.scope c) E σ Q := by
  intro Ψ0 D h1 h2 h4 Ψ a w le hr b k cs hro hbf hroom
  obtain ⟨e, a1, w1, ⟨E1, σ1, Ψ1, k1, k2, k3, k4⟩, harr⟩ := h Ψ0 D h1 h2 h4 Ψ a w le hr b (.inScope c :: k) cs hro hbf hroom
  have h0 : (lone (b.atR a (.code (.scope c) :: k)) cs w).fenced P (FnOf Ψ0 rd) := fenced_calm hbf hroom rfl
  cases e with
  | normal => exact ⟨.normal, a1, w1, ⟨E1, σ1, Ψ1, k1, k2, k3, k4⟩, .head h0 stepR_scope (StepsIn.trans harr (.one (fenced_calm hbf hroom rfl) stepR_inScope))⟩
  | exit id =>
    refine ⟨.exit id, a1, w1, ⟨E1, σ1, Ψ1, k1, k2, k3, k4⟩, .of_steps (.one h0 stepR_scope) ?_⟩
    exact ⟨fun k' hk => harr.1 k' (by simpa [exitTo] using hk), fun hr' hk => harr.2 hr' (by simpa [exitTo] using hk)⟩
  | goto l => exact k4.elim
  | ret => exact ⟨_, a1, w1, ⟨E1, σ1, Ψ1, k1, k2, k3, k4⟩, .of_steps (.one h0 stepR_scope) harr⟩
  | panic ch => exact ⟨_, a1, w1, ⟨E1, σ1, Ψ1, k1, k2, k3, k4⟩, .of_steps (.one h0 stepR_scope) harr⟩
  | outgrown => exact ⟨_, a1, w1, ⟨E1, σ1, Ψ1, k1, k2, k3, k4⟩, .of_steps (.one h0 stepR_scope) harr⟩
theorem ngN {E : Env} {σ : Sg} : NoGoto Q .normal E σ = Q .normal E σ := rfl
theorem ngR {E : Env} {σ : Sg} : NoGoto Q .ret E σ = Q .ret E σ := rfl
theorem ngX {E : Env} {σ : Sg} {i : Nat} : NoGoto Q (.exit i) E σ = Q (.exit i) E σ := rfl
attribute [go_sem] ngN ngR ngX
end
end Go.Proofs.Ytnpamcpoaklgeaa
namespace Go.Proofs.Ytnpamcpoaklgeaa
open Go Go.RowKit
set_option maxRecDepth 100000
set_option maxHeartbeats 8000000 in
theorem Way_pc (Y : YEnv) (σ : Sg) (t : Town) (cl : List Int) (from' to' : Int) (hs : t.streets.length < 2 ^ 40) (hc : cl.length < 2 ^ 40) (hN : t.rooms.length < 2 ^ 40) (hg : t.groups.length < 2 ^ 40) (hp : ∀ g, g ∈ t.groups → g.path.length < 2 ^ 40) (hv : chkTown t = 0 → ValidSt t) :
    PC Try.prog Y 84 [twPV t, ints cl, I from', I to'] σ (.tuple [ints (wayAns t cl from' to').1, I (wayAns t cl from' to').2]) (σ) := by
  refine PC_of_W Try.func84 rfl (by kernel_rfl) Try.ntmps84 (by simp) fun hcl hca => ?_
  obtain ⟨res, hres⟩ : ∃ r, wayAns t cl from' to' = r := ⟨_, rfl⟩
  rw [hres]
  refine W_seq fun kz1 kq1 => ?_
  refine W_region [2, 3, 4, 5] fun R hR => ?_   -- r0
  simp only [go_sem]
  refine hR _ _ (kq1 _ _ ?_); clear hR R; try clear kq1 kz1
  try simp only [go_sem]
  refine W_scope ?_
  refine W_seq fun kz2 kq2 => ?_
  refine W_seq fun kz3 kq3 => ?_
  refine W_region [2, 3, 4, 5, 10] fun R hR => ?_   -- r1
  simp only [go_sem]
  refine GCall_of (cclosed_pc Y _ t cl .ro (by omega) (by omega) (by omega) (by omega) (fun g hg => by have := hp g hg; omega)) ?_   -- t22
  simp only [go_sem]
  refine hR _ _ (kq3 _ _ ?_); clear hR R; try clear kq3 kz3
  try simp only [go_sem]
  refine W_seq fun kz4 kq4 => ?_
  refine W_region [2, 3, 4, 5, 10, 24] fun R hR => ?_   -- r2
  simp only [go_sem]
  refine hR _ _ (kq4 _ _ ?_); clear hR R; try clear kq4 kz4
  try simp only [go_sem]
  refine W_cond rfl (fun c1 => ?_) (fun c1 => ?_)
  · -- c1 true
    try simp only [nrm] at c1
    refine W_seq fun kz5 kq5 => ?_
    refine W_region [8, 9] fun R hR => ?_   -- r3
    simp only [go_sem]
    refine hR _ _ (kq5 _ _ ?_); clear hR R; try clear kq5 kz5
    try simp only [go_sem]
    refine W_ret ?_
    simp only [go_sem]
    refine ⟨.inr (by trivial), ?_⟩
    refine Fin_same hcl rfl (Wk.ro (by simp only [go_sem]) ?_)
    try simp only [go_sem]
    all_goals
      rw [← hres]; simp only [wayAns]; rw [if_pos (by simpa using c1)]; rfl
  · -- c1 false
    try simp only [nrm] at c1
    have hck : closedAns t cl = 0 := by simpa using c1
    have hct : chkTown t = 0 := by
      unfold closedAns at hck
      by_cases h : chkTown t = 0
      · exact h
      · rw [if_pos h] at hck; exact hck
    have hv' : ValidSt t := hv hct
    refine W_skip (kq2 _ _ ?_)
    refine W_seq fun kz6 kq6 => ?_
    refine W_seq fun kz7 kq7 => ?_
    refine W_region [2, 3, 4, 5, 34] fun R hR => ?_   -- r4
    simp only [go_sem]
    try simp (disch := omega) only [wrapI, wrapU]
    refine GCall_of (cin_pc Y _ 0 _ [from', to'] .exact (by simp)) ?_   -- t33
    simp only [go_sem]
    try simp (disch := omega) only [wrapI, wrapU]
    refine hR _ _ (kq7 _ _ ?_); clear hR R; try clear kq7 kz7
    try simp only [go_sem]
    refine W_cond rfl (fun c2 => ?_) (fun c2 => ?_)
    · -- c2 true
      try simp only [nrm] at c2
      refine W_seq fun kz8 kq8 => ?_
      refine W_region [8, 9] fun R hR => ?_   -- r5
      simp only [go_sem]
      refine hR _ _ (kq8 _ _ ?_); clear hR R; try clear kq8 kz8
      try simp only [go_sem]
      refine W_ret ?_
      simp only [go_sem]
      refine ⟨.inr (by trivial), ?_⟩
      refine Fin_same hcl rfl (Wk.ro (by simp only [go_sem]) ?_)
      try simp only [go_sem]
      all_goals
        rw [← hres]; simp only [wayAns]; rw [if_neg (by simpa using c1), if_pos (by simpa using c2)]; rfl
    · -- c2 false
      try simp only [nrm] at c2
      have hft : allIn 0 ((t.rooms.length : Int) - 1) [from', to'] = true := by simpa using c2
      have hft2 : (0 ≤ from' ∧ from' < t.rooms.length) ∧ (0 ≤ to' ∧ to' < t.rooms.length) := by simp [allIn, inR] at hft; omega
      have hBI := BI.start (nb := nbT t cl) (N := t.rooms.length) hft2.2.1 hft2.2.2
      refine W_skip (kq6 _ _ ?_)
      refine W_seq fun kz9 kq9 => ?_
      refine W_region [2, 3, 4, 5, 11] fun R hR => ?_   -- r6
      simp only [go_sem]
      refine hR _ _ (kq9 _ _ ?_); clear hR R; try clear kq9 kz9
      try simp only [go_sem]
      refine W_seq fun kz10 kq10 => ?_
      refine W_region [2, 3, 4, 5, 11, 12] fun R hR => ?_   -- r7
      simp only [go_sem]
      refine hR _ _ (kq10 _ _ ?_); clear hR R; try clear kq10 kz10
      try simp only [go_sem]
      refine W_seq fun kz11 kq11 => ?_
      refine W_region [2, 3, 4, 11, 12, 13] fun R hR => ?_   -- r8
      simp only [go_sem]
      refine hR _ _ (kq11 _ _ ?_); clear hR R; try clear kq11 kz11
      try simp only [go_sem]
      refine W_seq fun kz12 kq12 => ?_
      refine W_label (kq12 _ _ ?_)
      refine W_seq fun kz13 kq13 => ?_
      refine W_block ?_
      refine W_weak (Weak.roomX (j := 4) (off := 0) (es := 1) rfl rfl (by simp)) ?_
      simp only [go_sem]
      refine W_loopT (α := Nat × (List (Int × Int)) × (List Int) × Nat) (fun ⟨k, far, q, n⟩ => []) (fun ⟨k, far, q, n⟩ => σ.ext [some (twCells t), some [ints cl], some (.mark :: mapE I I far), some [.map (σ.store.length + 2)], some [.isl ((q).map I) (.tok σ.rooms.length n 1)]] [n]) (fun ⟨k, far, q, n⟩ => wayFar t cl from' to' = bfs (nbT t cl) from' k far q ∧ FI t.rooms.length far q ∧ meas t.rooms.length far q ≤ k) (fun ⟨k, far, q, n⟩ => k) ((2 * t.rooms.length, [(to', 0)], [to'], 1)) rfl (by first | rfl | (simp only [go_sem]; done) | (simp only [go_sem]; rfl)) (⟨rfl, hBI.fi, by simp only [meas, List.length_cons, List.length_nil]; omega⟩) ?_
      rintro ⟨k, far, q, n⟩ ⟨hinv, hf, hm⟩
      refine W_seq fun kz14 kq14 => ?_
      refine W_seq fun kz15 kq15 => ?_
      refine W_region [2, 3, 4, 11, 12, 13, 43] fun R hR => ?_   -- r9
      simp only [go_sem]
      refine hR _ _ (kq15 _ _ ?_); clear hR R; try clear kq15 kz15
      try simp only [go_sem]
      refine W_cond rfl (fun c3 => ?_) (fun c3 => ?_)
      · -- c3 true
        try simp only [nrm] at c3
        obtain ⟨at', q', hqc⟩ : ∃ a r, q = a :: r := by
          cases q with
          | nil => simp at c3
          | cons a r => exact ⟨a, r, rfl⟩
        have hq0 : q[0]? = some at' := by rw [hqc]; rfl
        have hq1 : q.drop 1 = q' := by rw [hqc]; rfl
        have hql : 1 ≤ q.length := by rw [hqc]; simp
        obtain ⟨k, rfl⟩ : ∃ j, k = j + 1 := ⟨k - 1, by simp only [meas] at hm; omega⟩
        rw [hqc] at hinv hf hm
        simp only [bfs] at hinv
        refine W_skip (kq14 _ _ ?_)
        refine W_block ?_
        refine W_seq fun kz16 kq16 => ?_
        refine W_region [2, 3, 4, 11, 12, 13, 14] fun R hR => ?_   -- r10
        simp only [go_sem, hq0, hq1, hql, Int.reduceLE, Int.reduceToNat]
        refine hR _ _ (kq16 _ _ ?_); clear hR R; try clear kq16 kz16
        try simp only [go_sem, hq0, hq1, hql, Int.reduceLE, Int.reduceToNat]
        refine W_seq fun kz17 kq17 => ?_
        refine W_region [2, 3, 4, 11, 12, 13, 14] fun R hR => ?_   -- r11
        simp only [go_sem, hq0, hq1, hql, Int.reduceLE, Int.reduceToNat]
        refine hR _ _ (kq17 _ _ ?_); clear hR R; try clear kq17 kz17
        try simp only [go_sem, hq0, hq1, hql, Int.reduceLE, Int.reduceToNat]
        refine W_seq fun kz18 kq18 => ?_
        refine W_seq fun kz19 kq19 => ?_
        refine W_region [2, 3, 4, 11, 12, 13, 14, 51] fun R hR => ?_   -- r12
        simp only [go_sem, hq0, hq1, hql, Int.reduceLE, Int.reduceToNat]
        refine hR _ _ (kq19 _ _ ?_); clear hR R; try clear kq19 kz19
        try simp only [go_sem, hq0, hq1, hql, Int.reduceLE, Int.reduceToNat]
        refine W_cond rfl (fun c4 => ?_) (fun c4 => ?_)
        · -- c4 true
          try simp only [nrm] at c4
          rw [if_pos c4] at hinv
          have hf := hf.pop
          have hbf : wayFar t cl from' to' = far := hinv
          obtain ⟨q, hqq⟩ : ∃ z, q' = z := ⟨_, rfl⟩
          rw [hqq] at hf
          refine W_exit ?_
          simp only [go_sem, hq0, hq1, hql, Int.reduceLE, Int.reduceToNat, hqq]
          refine kq13 _ _ ?_
          refine W_seq fun kz20 kq20 => ?_
          refine W_seq fun kz21 kq21 => ?_
          refine W_weak (Weak.keep [2, 3, 4, 11, 13]) ?_
          simp only [go_sem]
          refine W_weak (Weak.cutX 5 1 (by omega) (by omega) hcl (by simp only [go_sem] <;> omega) (by simp only [go_sem] <;> omega)) ?_
          simp only [go_sem]
          refine W_region [2, 3, 4, 11, 13, 16] fun R hR => ?_   -- r14
          simp only [go_sem, hq0, hq1, hql, Int.reduceLE, Int.reduceToNat, hqq]
          refine hR _ _ (kq21 _ _ ?_); clear hR R; try clear kq21 kz21
          try simp only [go_sem, hq0, hq1, hql, Int.reduceLE, Int.reduceToNat, hqq]
          refine W_seq fun kz22 kq22 => ?_
          refine W_region [2, 3, 4, 11, 13, 63] fun R hR => ?_   -- r15
          simp only [go_sem, hq0, hq1, hql, Int.reduceLE, Int.reduceToNat, hqq]
          refine hR _ _ (kq22 _ _ ?_); clear hR R; try clear kq22 kz22
          try simp only [go_sem, hq0, hq1, hql, Int.reduceLE, Int.reduceToNat, hqq]
          refine W_cond rfl (fun c5 => ?_) (fun c5 => ?_)
          · -- c5 true
            try simp only [nrm] at c5
            refine W_seq fun kz23 kq23 => ?_
            refine W_region [8, 9] fun R hR => ?_   -- r16
            simp only [go_sem, hq0, hq1, hql, Int.reduceLE, Int.reduceToNat, hqq]
            refine hR _ _ (kq23 _ _ ?_); clear hR R; try clear kq23 kz23
            try simp only [go_sem, hq0, hq1, hql, Int.reduceLE, Int.reduceToNat, hqq]
            refine W_ret ?_
            simp only [go_sem, hq0, hq1, hql, Int.reduceLE, Int.reduceToNat, hqq]
            refine ⟨.inr (by trivial), ?_⟩
            refine Fin_same hcl rfl (Wk.ro (by simp only [go_sem]) ?_)
            try simp only [go_sem]
            all_goals
              rw [← hres]; simp only [wayAns]; rw [if_neg (by simpa using c1), if_neg (by simpa using c2), hbf, if_neg (by intro h; first | (rw [h] at c5; cases c5; done) | (rw [h] at c7; cases c7))]; rfl
          · -- c5 false
            try simp only [nrm] at c5
            have hok : FarOK (nbT t cl) to' from' far := by rw [← hbf]; exact wayFar_ok hv' hft2.2.1 hft2.2.2
            obtain ⟨D, hD⟩ := Option.isSome_iff_exists.1 (by simpa using c5)
            refine W_skip (kq20 _ _ ?_)
            refine W_seq fun kz24 kq24 => ?_
            refine W_region [2, 3, 4, 11, 13, 17] fun R hR => ?_   -- r17
            simp only [go_sem, hq0, hq1, hql, Int.reduceLE, Int.reduceToNat, hqq]
            refine hR _ _ (kq24 _ _ ?_); clear hR R; try clear kq24 kz24
            try simp only [go_sem, hq0, hq1, hql, Int.reduceLE, Int.reduceToNat, hqq]
            refine W_seq fun kz25 kq25 => ?_
            refine W_seq fun kz26 kq26 => ?_
            refine W_region [3, 4, 11, 13, 17, 18] fun R hR => ?_   -- r18
            simp only [go_sem, hq0, hq1, hql, Int.reduceLE, Int.reduceToNat, hqq]
            refine hR _ _ (kq26 _ _ ?_); clear hR R; try clear kq26 kz26
            try simp only [go_sem, hq0, hq1, hql, Int.reduceLE, Int.reduceToNat, hqq]
            refine W_block ?_
            refine W_weak (Weak.room (t := 17) (es := 1) rfl (by simp)) ?_
            refine W_weak (Weak.keep [3, 4, 11, 13, 17, 18]) ?_
            simp only [go_sem, hq0, hq1, hql, Int.reduceLE, Int.reduceToNat, hqq]
            refine W_loopT (α := Nat × Int × (List Int)) (fun ⟨k, at', acc⟩ => [(17, .isl (acc.map I) (.tok (σ.rooms.length + 1) acc.length 1))]) (fun ⟨k, at', acc⟩ => σ.ext [some (twCells t), some [ints cl], some (.mark :: mapE I I far), some [.map (σ.store.length + 2)], some [.isl ((q).map I) (.tok σ.rooms.length n 1)], some [I at']] [n, acc.length]) (fun ⟨k, at', acc⟩ => backs far (nbT t cl) t.rooms.length to' (t.rooms.length + 1) from' [from'] = backs far (nbT t cl) t.rooms.length to' k at' acc ∧ acc.length + k = t.rooms.length + 2 ∧ ∃ d, aget at' far = some d ∧ d < k ∧ d ≤ D) (fun ⟨k, at', acc⟩ => k) ((t.rooms.length + 1, from', [from'])) rfl (by first | rfl | (simp only [go_sem]; done) | (simp only [go_sem]; rfl)) (⟨rfl, by simp; omega, D, hD, by have h1 := hf.val from'; rw [hD] at h1; simp only [Option.getD_some] at h1; have := hf.le; omega, Int.le_refl _⟩) ?_
            rintro ⟨k, at', acc⟩ ⟨hinv2, hal, d, hd1, hd2, hd3⟩
            refine W_seq fun kz27 kq27 => ?_
            refine W_seq fun kz28 kq28 => ?_
            refine W_region [3, 4, 11, 13, 17, 18, 69] fun R hR => ?_   -- r19
            simp only [go_sem, hq0, hq1, hql, Int.reduceLE, Int.reduceToNat, hqq]
            refine hR _ _ (kq28 _ _ ?_); clear hR R; try clear kq28 kz28
            try simp only [go_sem, hq0, hq1, hql, Int.reduceLE, Int.reduceToNat, hqq]
            refine W_cond rfl (fun c6 => ?_) (fun c6 => ?_)
            · -- c6 true
              try simp only [nrm] at c6
              obtain ⟨b1, b2, b3, b4⟩ := back_ok hok (nbT_bd hv') hD hd1 hd3 c6
              obtain ⟨k, rfl⟩ : ∃ j, k = j + 1 := ⟨k - 1, by omega⟩
              simp only [backs] at hinv2
              rw [if_neg c6] at hinv2
              have hbd := nbT_bd hv' _ _ b3
              refine W_skip (kq27 _ _ ?_)
              refine W_seq fun kz29 kq29 => ?_
              refine W_block ?_
              refine W_seq fun kz30 kq30 => ?_
              refine W_region [3, 4, 11, 13, 17, 18, 19] fun R hR => ?_   -- r20
              simp only [go_sem, hq0, hq1, hql, Int.reduceLE, Int.reduceToNat, hqq]
              refine hR _ _ (kq30 _ _ ?_); clear hR R; try clear kq30 kz30
              try simp only [go_sem, hq0, hq1, hql, Int.reduceLE, Int.reduceToNat, hqq]
              refine W_seq fun kz31 kq31 => ?_
              refine W_region [3, 4, 11, 13, 17, 18, 19] fun R hR => ?_   -- r21
              simp only [go_sem, hq0, hq1, hql, Int.reduceLE, Int.reduceToNat, hqq]
              refine GCall_of (Way1b_pc Y σ hcl t cl far q n acc.length at' t.rooms.length hs hc hN hv' (hf.val at').1 (by have := (hf.val at').2; have := hf.le; omega)) ?_   -- t76
              simp only [go_sem, hq0, hq1, hql, Int.reduceLE, Int.reduceToNat, hqq]
              refine hR _ _ (kq31 _ _ ?_); clear hR R; try clear kq31 kz31
              try simp only [go_sem, hq0, hq1, hql, Int.reduceLE, Int.reduceToNat, hqq]
              refine W_seq fun kz32 kq32 => ?_
              refine W_region [3, 4, 11, 13, 17, 18] fun R hR => ?_   -- r22
              simp only [go_sem, hq0, hq1, hql, Int.reduceLE, Int.reduceToNat, hqq]
              refine hR _ _ (kq32 _ _ ?_); clear hR R; try clear kq32 kz32
              try simp only [go_sem, hq0, hq1, hql, Int.reduceLE, Int.reduceToNat, hqq]
              refine W_region [3, 4, 11, 13, 17, 18] fun R hR => ?_   -- r23
              simp only [go_sem, hq0, hq1, hql, Int.reduceLE, Int.reduceToNat, hqq]
              simp (disch := first | omega | (simp only [go_sem] <;> omega)) only [wrapI, wrapU, appX_exact, appX_tok]
              try simp only [go_sem, hq0, hq1, hql, Int.reduceLE, Int.reduceToNat, hqq]
              refine hR _ _ (kq29 _ _ ?_); clear hR R; try clear kq29 kz29
              try simp only [go_sem, hq0, hq1, hql, Int.reduceLE, Int.reduceToNat, hqq]
              refine W_seq fun kz33 kq33 => ?_
              refine W_region [3, 4, 11, 13, 17, 82] fun R hR => ?_   -- r24
              simp only [go_sem, hq0, hq1, hql, Int.reduceLE, Int.reduceToNat, hqq]
              refine hR _ _ (kq33 _ _ ?_); clear hR R; try clear kq33 kz33
              try simp only [go_sem, hq0, hq1, hql, Int.reduceLE, Int.reduceToNat, hqq]
              refine W_region [3, 4, 11, 13, 17, 18] fun R hR => ?_   -- r25
              simp only [go_sem, hq0, hq1, hql, Int.reduceLE, Int.reduceToNat, hqq]
              refine hR _ _ ?_; clear hR R
              try simp only [go_sem, hq0, hq1, hql, Int.reduceLE, Int.reduceToNat, hqq]
              refine ⟨(k, bmins far at' (nbs cl at' t.streets 0) t.rooms.length, acc ++ [bmins far at' (nbs cl at' t.streets 0) t.rooms.length]), ?_, by (try simp only []); omega, ?_⟩
              · simp only [go_sem]
                refine Weak.ren [0, 1, 2, 3, 4, 7] (by decide) (by simp) (by first | omega | (simp only [go_sem] <;> omega)) hcl (RnE.get ?_) ?_
                · repeat' (first | exact trivial | (refine .same _ ?_; simp only [go_sem]; done) | (refine .same _ ?_; simp only [go_sem]; omega) | exact .ptr 0 0 _ _ _  rfl rfl rfl | exact .msl 0 0 _ _ _ _  rfl rfl rfl | exact .gsl 0 0 _ _ _ _  rfl rfl rfl | exact .mapv 0 0 _ _  rfl rfl rfl | exact .ptr 1 1 _ _ _  rfl rfl rfl | exact .msl 1 1 _ _ _ _  rfl rfl rfl | exact .gsl 1 1 _ _ _ _  rfl rfl rfl | exact .mapv 1 1 _ _  rfl rfl rfl | exact .ptr 2 2 _ _ _  rfl rfl rfl | exact .msl 2 2 _ _ _ _  rfl rfl rfl | exact .gsl 2 2 _ _ _ _  rfl rfl rfl | exact .mapv 2 2 _ _  rfl rfl rfl | exact .ptr 3 3 _ _ _  rfl rfl rfl | exact .msl 3 3 _ _ _ _  rfl rfl rfl | exact .gsl 3 3 _ _ _ _  rfl rfl rfl | exact .mapv 3 3 _ _  rfl rfl rfl | exact .ptr 4 4 _ _ _  rfl rfl rfl | exact .msl 4 4 _ _ _ _  rfl rfl rfl | exact .gsl 4 4 _ _ _ _  rfl rfl rfl | exact .mapv 4 4 _ _  rfl rfl rfl | exact .ptr 5 7 _ _ _  rfl rfl rfl | exact .msl 5 7 _ _ _ _  rfl rfl rfl | exact .gsl 5 7 _ _ _ _  rfl rfl rfl | exact .mapv 5 7 _ _  rfl rfl rfl | refine .funcL ?_ | refine ⟨rfl, ?_, ?_⟩ | refine ⟨?_, ?_⟩)
                · repeat' (first | exact trivial | (refine .inl ⟨?_, rfl⟩; simp only [go_sem]; done) | (refine .inl ⟨?_, rfl⟩; simp only [go_sem]; omega) | (refine .same _ ?_; simp only [go_sem]; done) | (refine .same _ ?_; simp only [go_sem]; omega) | exact .ptr 0 0 _ _ _  rfl rfl rfl | exact .msl 0 0 _ _ _ _  rfl rfl rfl | exact .gsl 0 0 _ _ _ _  rfl rfl rfl | exact .mapv 0 0 _ _  rfl rfl rfl | exact .ptr 1 1 _ _ _  rfl rfl rfl | exact .msl 1 1 _ _ _ _  rfl rfl rfl | exact .gsl 1 1 _ _ _ _  rfl rfl rfl | exact .mapv 1 1 _ _  rfl rfl rfl | exact .ptr 2 2 _ _ _  rfl rfl rfl | exact .msl 2 2 _ _ _ _  rfl rfl rfl | exact .gsl 2 2 _ _ _ _  rfl rfl rfl | exact .mapv 2 2 _ _  rfl rfl rfl | exact .ptr 3 3 _ _ _  rfl rfl rfl | exact .msl 3 3 _ _ _ _  rfl rfl rfl | exact .gsl 3 3 _ _ _ _  rfl rfl rfl | exact .mapv 3 3 _ _  rfl rfl rfl | exact .ptr 4 4 _ _ _  rfl rfl rfl | exact .msl 4 4 _ _ _ _  rfl rfl rfl | exact .gsl 4 4 _ _ _ _  rfl rfl rfl | exact .mapv 4 4 _ _  rfl rfl rfl | exact .ptr 5 7 _ _ _  rfl rfl rfl | exact .msl 5 7 _ _ _ _  rfl rfl rfl | exact .gsl 5 7 _ _ _ _  rfl rfl rfl | exact .mapv 5 7 _ _  rfl rfl rfl | refine .inr ⟨by simp, ?_⟩ | refine ⟨⟨_, rfl, ?_⟩, ?_⟩ | refine ⟨?_, ?_⟩)
              · try dsimp only
                refine ⟨hinv2, by simp; omega, d - 1, b2, by omega, by omega⟩
            · -- c6 false
              try simp only [nrm] at c6
              obtain ⟨k, rfl⟩ : ∃ j, k = j + 1 := ⟨k - 1, by have := hok.dist _ _ hd1; omega⟩
              simp only [backs] at hinv2
              have hat : at' = to' := by first | exact c6 | simpa using c6
              rw [if_pos hat] at hinv2
              refine W_exit ?_
              simp only [go_sem, hq0, hq1, hql, Int.reduceLE, Int.reduceToNat, hqq]
              refine kq25 _ _ ?_
              refine W_seq fun kz34 kq34 => ?_
              refine W_region [8, 9] fun R hR => ?_   -- r26
              simp only [go_sem, hq0, hq1, hql, Int.reduceLE, Int.reduceToNat, hqq]
              refine hR _ _ (kq34 _ _ ?_); clear hR R; try clear kq34 kz34
              try simp only [go_sem, hq0, hq1, hql, Int.reduceLE, Int.reduceToNat, hqq]
              refine W_ret ?_
              simp only [go_sem, hq0, hq1, hql, Int.reduceLE, Int.reduceToNat, hqq]
              refine ⟨.inr (by trivial), ?_⟩
              refine Fin_same hcl rfl (Wk.ro (by simp only [go_sem]) ?_)
              try simp only [go_sem]
              all_goals
                rw [← hres]; simp only [wayAns]; rw [if_neg (by simpa using c1), if_neg (by simpa using c2), hbf, if_pos (by rw [hD]; rfl)]
                show _ = PV.tuple [ints (backs far (nbT t cl) t.rooms.length to' (t.rooms.length + 1) from' [from']), I 0]
                simp only [backs]
                rw [hinv2]
        · -- c4 false
          try simp only [nrm] at c4
          refine W_skip (kq18 _ _ ?_)
          refine W_region [2, 3, 4, 11, 12, 13] fun R hR => ?_   -- r13
          simp only [go_sem, hq0, hq1, hql, Int.reduceLE, Int.reduceToNat]
          refine GCall_of (Way1a_pc Y σ hcl t cl far q' n at' hs hc hN hv' hf.pop) ?_   -- t55
          simp only [go_sem, hq0, hq1, hql, Int.reduceLE, Int.reduceToNat]
          refine hR _ _ ?_; clear hR R
          try simp only [go_sem, hq0, hq1, hql, Int.reduceLE, Int.reduceToNat]
          refine ⟨(k, (bstepsN at' (nbs cl at' t.streets 0) (far, q') n).1.1, (bstepsN at' (nbs cl at' t.streets 0) (far, q') n).1.2, (bstepsN at' (nbs cl at' t.streets 0) (far, q') n).2), ?_, by (try simp only []); omega, ?_⟩
          · refine Weak.trans (Weak.cutX 5 1 (by omega) (by omega) hcl (by simp only [go_sem] <;> omega) (by simp only [go_sem] <;> omega)) ?_
            simp only [go_sem]
            exact Weak.eq (by first | rfl | (simp only [go_sem]; done) | (simp only [go_sem]; rfl) | (simp [go_sem]; done) | (simp [go_sem]; omega)) (by first | rfl | (simp only [go_sem]; done) | (simp [go_sem]; done))
          · try dsimp only
            rw [if_neg c4] at hinv
            have hst := FI.steps at' (nbT t cl at') hf.pop (nbT_bd hv' at')
            rw [bstepsN_fst]
            refine ⟨hinv, hst.1, ?_⟩
            have h2 := hst.2
            simp only [meas, List.length_cons] at hm h2 ⊢
            show 2 * (t.rooms.length - (bsteps at' (nbs cl at' t.streets 0) (far, q')).1.length) + _ ≤ k
            have e : nbs cl at' t.streets 0 = nbT t cl at' := rfl
            rw [e]
            omega
      · -- c3 false
        try simp only [nrm] at c3
        have hqe : q = [] := by
          cases q with
          | nil => rfl
          | cons => first | (simp at c3; done) | (simp at c3; omega)
        have hbf : wayFar t cl from' to' = far := by rw [hinv, hqe]; cases k <;> rfl
        refine W_exit ?_
        simp only [go_sem]
        refine kq13 _ _ ?_
        refine W_seq fun kz35 kq35 => ?_
        refine W_seq fun kz36 kq36 => ?_
        refine W_weak (Weak.keep [2, 3, 4, 11, 13]) ?_
        simp only [go_sem]
        refine W_weak (Weak.cutX 5 1 (by omega) (by omega) hcl (by simp only [go_sem] <;> omega) (by simp only [go_sem] <;> omega)) ?_
        simp only [go_sem]
        refine W_region [2, 3, 4, 11, 13, 16] fun R hR => ?_   -- r14
        simp only [go_sem]
        refine hR _ _ (kq36 _ _ ?_); clear hR R; try clear kq36 kz36
        try simp only [go_sem]
        refine W_seq fun kz37 kq37 => ?_
        refine W_region [2, 3, 4, 11, 13, 63] fun R hR => ?_   -- r15
        simp only [go_sem]
        refine hR _ _ (kq37 _ _ ?_); clear hR R; try clear kq37 kz37
        try simp only [go_sem]
        refine W_cond rfl (fun c7 => ?_) (fun c7 => ?_)
        · -- c7 true
          try simp only [nrm] at c7
          refine W_seq fun kz38 kq38 => ?_
          refine W_region [8, 9] fun R hR => ?_   -- r16
          simp only [go_sem]
          refine hR _ _ (kq38 _ _ ?_); clear hR R; try clear kq38 kz38
          try simp only [go_sem]
          refine W_ret ?_
          simp only [go_sem]
          refine ⟨.inr (by trivial), ?_⟩
          refine Fin_same hcl rfl (Wk.ro (by simp only [go_sem]) ?_)
          try simp only [go_sem]
          all_goals
            rw [← hres]; simp only [wayAns]; rw [if_neg (by simpa using c1), if_neg (by simpa using c2), hbf, if_neg (by intro h; first | (rw [h] at c5; cases c5; done) | (rw [h] at c7; cases c7))]; rfl
        · -- c7 false
          try simp only [nrm] at c7
          have hok : FarOK (nbT t cl) to' from' far := by rw [← hbf]; exact wayFar_ok hv' hft2.2.1 hft2.2.2
          obtain ⟨D, hD⟩ := Option.isSome_iff_exists.1 (by simpa using c7)
          refine W_skip (kq35 _ _ ?_)
          refine W_seq fun kz39 kq39 => ?_
          refine W_region [2, 3, 4, 11, 13, 17] fun R hR => ?_   -- r17
          simp only [go_sem]
          refine hR _ _ (kq39 _ _ ?_); clear hR R; try clear kq39 kz39
          try simp only [go_sem]
          refine W_seq fun kz40 kq40 => ?_
          refine W_seq fun kz41 kq41 => ?_
          refine W_region [3, 4, 11, 13, 17, 18] fun R hR => ?_   -- r18
          simp only [go_sem]
          refine hR _ _ (kq41 _ _ ?_); clear hR R; try clear kq41 kz41
          try simp only [go_sem]
          refine W_block ?_
          refine W_weak (Weak.room (t := 17) (es := 1) rfl (by simp)) ?_
          refine W_weak (Weak.keep [3, 4, 11, 13, 17, 18]) ?_
          simp only [go_sem]
          refine W_loopT (α := Nat × Int × (List Int)) (fun ⟨k, at', acc⟩ => [(17, .isl (acc.map I) (.tok (σ.rooms.length + 1) acc.length 1))]) (fun ⟨k, at', acc⟩ => σ.ext [some (twCells t), some [ints cl], some (.mark :: mapE I I far), some [.map (σ.store.length + 2)], some [.isl ((q).map I) (.tok σ.rooms.length n 1)], some [I at']] [n, acc.length]) (fun ⟨k, at', acc⟩ => backs far (nbT t cl) t.rooms.length to' (t.rooms.length + 1) from' [from'] = backs far (nbT t cl) t.rooms.length to' k at' acc ∧ acc.length + k = t.rooms.length + 2 ∧ ∃ d, aget at' far = some d ∧ d < k ∧ d ≤ D) (fun ⟨k, at', acc⟩ => k) ((t.rooms.length + 1, from', [from'])) rfl (by first | rfl | (simp only [go_sem]; done) | (simp only [go_sem]; rfl)) (⟨rfl, by simp; omega, D, hD, by have h1 := hf.val from'; rw [hD] at h1; simp only [Option.getD_some] at h1; have := hf.le; omega, Int.le_refl _⟩) ?_
          rintro ⟨k, at', acc⟩ ⟨hinv2, hal, d, hd1, hd2, hd3⟩
          refine W_seq fun kz42 kq42 => ?_
          refine W_seq fun kz43 kq43 => ?_
          refine W_region [3, 4, 11, 13, 17, 18, 69] fun R hR => ?_   -- r19
          simp only [go_sem]
          refine hR _ _ (kq43 _ _ ?_); clear hR R; try clear kq43 kz43
          try simp only [go_sem]
          refine W_cond rfl (fun c8 => ?_) (fun c8 => ?_)
          · -- c8 true
            try simp only [nrm] at c8
            obtain ⟨b1, b2, b3, b4⟩ := back_ok hok (nbT_bd hv') hD hd1 hd3 c8
            obtain ⟨k, rfl⟩ : ∃ j, k = j + 1 := ⟨k - 1, by omega⟩
            simp only [backs] at hinv2
            rw [if_neg c8] at hinv2
            have hbd := nbT_bd hv' _ _ b3
            refine W_skip (kq42 _ _ ?_)
            refine W_seq fun kz44 kq44 => ?_
            refine W_block ?_
            refine W_seq fun kz45 kq45 => ?_
            refine W_region [3, 4, 11, 13, 17, 18, 19] fun R hR => ?_   -- r20
            simp only [go_sem]
            refine hR _ _ (kq45 _ _ ?_); clear hR R; try clear kq45 kz45
            try simp only [go_sem]
            refine W_seq fun kz46 kq46 => ?_
            refine W_region [3, 4, 11, 13, 17, 18, 19] fun R hR => ?_   -- r21
            simp only [go_sem]
            refine GCall_of (Way1b_pc Y σ hcl t cl far q n acc.length at' t.rooms.length hs hc hN hv' (hf.val at').1 (by have := (hf.val at').2; have := hf.le; omega)) ?_   -- t76
            simp only [go_sem]
            refine hR _ _ (kq46 _ _ ?_); clear hR R; try clear kq46 kz46
            try simp only [go_sem]
            refine W_seq fun kz47 kq47 => ?_
            refine W_region [3, 4, 11, 13, 17, 18] fun R hR => ?_   -- r22
            simp only [go_sem]
            refine hR _ _ (kq47 _ _ ?_); clear hR R; try clear kq47 kz47
            try simp only [go_sem]
            refine W_region [3, 4, 11, 13, 17, 18] fun R hR => ?_   -- r23
            simp only [go_sem]
            simp (disch := first | omega | (simp only [go_sem] <;> omega)) only [wrapI, wrapU, appX_exact, appX_tok]
            try simp only [go_sem]
            refine hR _ _ (kq44 _ _ ?_); clear hR R; try clear kq44 kz44
            try simp only [go_sem]
            refine W_seq fun kz48 kq48 => ?_
            refine W_region [3, 4, 11, 13, 17, 82] fun R hR => ?_   -- r24
            simp only [go_sem]
            refine hR _ _ (kq48 _ _ ?_); clear hR R; try clear kq48 kz48
            try simp only [go_sem]
            refine W_region [3, 4, 11, 13, 17, 18] fun R hR => ?_   -- r25
            simp only [go_sem]
            refine hR _ _ ?_; clear hR R
            try simp only [go_sem]
            refine ⟨(k, bmins far at' (nbs cl at' t.streets 0) t.rooms.length, acc ++ [bmins far at' (nbs cl at' t.streets 0) t.rooms.length]), ?_, by (try simp only []); omega, ?_⟩
            · simp only [go_sem]
              refine Weak.ren [0, 1, 2, 3, 4, 7] (by decide) (by simp) (by first | omega | (simp only [go_sem] <;> omega)) hcl (RnE.get ?_) ?_
              · repeat' (first | exact trivial | (refine .same _ ?_; simp only [go_sem]; done) | (refine .same _ ?_; simp only [go_sem]; omega) | exact .ptr 0 0 _ _ _  rfl rfl rfl | exact .msl 0 0 _ _ _ _  rfl rfl rfl | exact .gsl 0 0 _ _ _ _  rfl rfl rfl | exact .mapv 0 0 _ _  rfl rfl rfl | exact .ptr 1 1 _ _ _  rfl rfl rfl | exact .msl 1 1 _ _ _ _  rfl rfl rfl | exact .gsl 1 1 _ _ _ _  rfl rfl rfl | exact .mapv 1 1 _ _  rfl rfl rfl | exact .ptr 2 2 _ _ _  rfl rfl rfl | exact .msl 2 2 _ _ _ _  rfl rfl rfl | exact .gsl 2 2 _ _ _ _  rfl rfl rfl | exact .mapv 2 2 _ _  rfl rfl rfl | exact .ptr 3 3 _ _ _  rfl rfl rfl | exact .msl 3 3 _ _ _ _  rfl rfl rfl | exact .gsl 3 3 _ _ _ _  rfl rfl rfl | exact .mapv 3 3 _ _  rfl rfl rfl | exact .ptr 4 4 _ _ _  rfl rfl rfl | exact .msl 4 4 _ _ _ _  rfl rfl rfl | exact .gsl 4 4 _ _ _ _  rfl rfl rfl | exact .mapv 4 4 _ _  rfl rfl rfl | exact .ptr 5 7 _ _ _  rfl rfl rfl | exact .msl 5 7 _ _ _ _  rfl rfl rfl | exact .gsl 5 7 _ _ _ _  rfl rfl rfl | exact .mapv 5 7 _ _  rfl rfl rfl | refine .funcL ?_ | refine ⟨rfl, ?_, ?_⟩ | refine ⟨?_, ?_⟩)
              · repeat' (first | exact trivial | (refine .inl ⟨?_, rfl⟩; simp only [go_sem]; done) | (refine .inl ⟨?_, rfl⟩; simp only [go_sem]; omega) | (refine .same _ ?_; simp only [go_sem]; done) | (refine .same _ ?_; simp only [go_sem]; omega) | exact .ptr 0 0 _ _ _  rfl rfl rfl | exact .msl 0 0 _ _ _ _  rfl rfl rfl | exact .gsl 0 0 _ _ _ _  rfl rfl rfl | exact .mapv 0 0 _ _  rfl rfl rfl | exact .ptr 1 1 _ _ _  rfl rfl rfl | exact .msl 1 1 _ _ _ _  rfl rfl rfl | exact .gsl 1 1 _ _ _ _  rfl rfl rfl | exact .mapv 1 1 _ _  rfl rfl rfl | exact .ptr 2 2 _ _ _  rfl rfl rfl | exact .msl 2 2 _ _ _ _  rfl rfl rfl | exact .gsl 2 2 _ _ _ _  rfl rfl rfl | exact .mapv 2 2 _ _  rfl rfl rfl | exact .ptr 3 3 _ _ _  rfl rfl rfl | exact .msl 3 3 _ _ _ _  rfl rfl rfl | exact .gsl 3 3 _ _ _ _  rfl rfl rfl | exact .mapv 3 3 _ _  rfl rfl rfl | exact .ptr 4 4 _ _ _  rfl rfl rfl | exact .msl 4 4 _ _ _ _  rfl rfl rfl | exact .gsl 4 4 _ _ _ _  rfl rfl rfl | exact .mapv 4 4 _ _  rfl rfl rfl | exact .ptr 5 7 _ _ _  rfl rfl rfl | exact .msl 5 7 _ _ _ _  rfl rfl rfl | exact .gsl 5 7 _ _ _ _  rfl rfl rfl | exact .mapv 5 7 _ _  rfl rfl rfl | refine .inr ⟨by simp, ?_⟩ | refine ⟨⟨_, rfl, ?_⟩, ?_⟩ | refine ⟨?_, ?_⟩)
            · try dsimp only
              refine ⟨hinv2, by simp; omega, d - 1, b2, by omega, by omega⟩
          · -- c8 false
            try simp only [nrm] at c8
            obtain ⟨k, rfl⟩ : ∃ j, k = j + 1 := ⟨k - 1, by have := hok.dist _ _ hd1; omega⟩
            simp only [backs] at hinv2
            have hat : at' = to' := by first | exact c8 | simpa using c8
            rw [if_pos hat] at hinv2
            refine W_exit ?_
            simp only [go_sem]
            refine kq40 _ _ ?_
            refine W_seq fun kz49 kq49 => ?_
            refine W_region [8, 9] fun R hR => ?_   -- r26
            simp only [go_sem]
            refine hR _ _ (kq49 _ _ ?_); clear hR R; try clear kq49 kz49
            try simp only [go_sem]
            refine W_ret ?_
            simp only [go_sem]
            refine ⟨.inr (by trivial), ?_⟩
            refine Fin_same hcl rfl (Wk.ro (by simp only [go_sem]) ?_)
            try simp only [go_sem]
            all_goals
              rw [← hres]; simp only [wayAns]; rw [if_neg (by simpa using c1), if_neg (by simpa using c2), hbf, if_pos (by rw [hD]; rfl)]
              show _ = PV.tuple [ints (backs far (nbT t cl) t.rooms.length to' (t.rooms.length + 1) from' [from']), I 0]
              simp only [backs]
              rw [hinv2]
end Go.Proofs.Ytnpamcpoaklgeaa
namespace Go.Proofs.Ytnpamcpoaklgeaa
open Go Go.RowKit
set_option maxRecDepth 100000
def stF (cl : List Int) (l : List Int) : List Int := cl.foldl (fun l c => l.set c.toNat 2) l
def stOf (n : Nat) (cl : List Int) : List Int := stF cl (List.replicate n 1)
theorem stF_len : ∀ (cl l : List Int), (stF cl l).length = l.length := by
  intro cl
  induction cl with
  | nil => intro l; rfl
  | cons c cl ih => intro l; simp only [stF, List.foldl_cons]; exact (ih _).trans List.length_set
theorem stOf_len (n : Nat) (cl : List Int) : (stOf n cl).length = n := by simp [stOf, stF_len]
theorem stF_cons (c : Int) (cl l : List Int) : stF (c :: cl) l = stF cl (l.set c.toNat 2) := rfl
def fillTo (v : Int) (i : Nat) (l : List Int) : List Int := List.replicate i v ++ l.drop i
theorem fillTo_len {v : Int} {i : Nat} {l : List Int} (h : i ≤ l.length) : (fillTo v i l).length = l.length := by simp [fillTo]; omega
theorem fillTo_set {v : Int} {i : Nat} {l : List Int} (h : i < l.length) : (fillTo v i l).set i v = fillTo v (i + 1) l := by
  unfold fillTo
  rw [List.set_append_right _ _ (by simp), show i - (List.replicate i v).length = 0 by simp, List.drop_eq_getElem_cons h, List.set_cons_zero, List.replicate_succ', List.append_assoc]
  rfl
theorem fillTo_end {v : Int} {l : List Int} : fillTo v l.length l = List.replicate l.length v := by simp [fillTo]
theorem fillTo_zero {v : Int} {l : List Int} : fillTo v 0 l = l := by simp [fillTo]
/-- One street in the round n. -/
def stepA (n : Int) (isOpen : Bool) (a b : Nat) (out : List Int) : List Int :=
  if isOpen = true ∧ out[a]? = some n ∧ (out[b]?).getD 0 < 0 then out.set b (n + 1) else out
def stepS (n : Int) (l out : List Int) (i : Nat) (s : Int × Int) : List Int :=
  stepA n (decide (l[i]? = some 1)) s.2.toNat s.1.toNat (stepA n (decide (l[i]? = some 1)) s.1.toNat s.2.toNat out)
def lvl (n : Int) (l : List Int) : List (Int × Int) → Nat → List Int → List Int
  | [], _, out => out
  | s :: r, i, out => lvl n l r (i + 1) (stepS n l out i s)
def lvls (l : List Int) (sts : List (Int × Int)) : Nat → Nat → List Int → List Int
  | 0, _, out => out
  | k + 1, n, out => lvls l sts k (n + 1) (lvl n l sts 0 out)
def stepsOf (l : List Int) (t : Town) (to' : Int) : List Int := lvls l t.streets t.rooms.length 0 ((List.replicate t.rooms.length (-1)).set to'.toNat 0)
theorem stepA_len {n : Int} {o : Bool} {a b : Nat} {out : List Int} : (stepA n o a b out).length = out.length := by unfold stepA; split <;> simp
theorem stepS_len {n : Int} {l out : List Int} {i : Nat} {s : Int × Int} : (stepS n l out i s).length = out.length := by simp [stepS, stepA_len]
theorem lvl_len {n : Int} {l : List Int} : ∀ (sts : List (Int × Int)) (i : Nat) (out : List Int), (lvl n l sts i out).length = out.length := by
  intro sts
  induction sts with
  | nil => intro i out; rfl
  | cons s sts ih => intro i out; simp [lvl, ih, stepS_len]
theorem lvls_len {l : List Int} {sts : List (Int × Int)} : ∀ (k n : Nat) (out : List Int), (lvls l sts k n out).length = out.length := by
  intro k
  induction k with
  | zero => intro n out; rfl
  | succ k ih => intro n out; simp [lvls, ih, lvl_len]
theorem stepsOf_len (l : List Int) (t : Town) (to' : Int) : (stepsOf l t to').length = t.rooms.length := by simp [stepsOf, lvls_len]
set_option maxHeartbeats 2000000 in
theorem rstates_pc (Y : YEnv) (σ : Sg) (t : Town) (cl : List Int) (o : Own) (hl : cl.length < 2 ^ 50) (hs : t.streets.length < 2 ^ 40) (hc : ∀ x, x ∈ cl → 0 ≤ x ∧ x < t.streets.length) :
    PC Try.prog Y 123 [twPV t, intsO o cl] σ (ints (stOf t.streets.length cl)) (σ) := by
  refine PC_of_W Try.func123 rfl (by kernel_rfl) Try.ntmps123 (by simp) fun hcl hca => ?_
  obtain ⟨n, hn⟩ : ∃ n, t.streets.length = n := ⟨_, rfl⟩
  have hn40 : n < 2 ^ 40 := by omega
  refine W_seq fun kz1 kq1 => ?_
  refine W_region [1, 2] fun R hR => ?_   -- r0
  simp only [go_sem]
  refine hR _ _ (kq1 _ _ ?_); clear hR R; try clear kq1 kz1
  try simp only [go_sem]
  refine W_seq fun kz2 kq2 => ?_
  refine W_region [1, 5] fun R hR => ?_   -- r1
  simp only [go_sem, mk22 (k := t.streets.length) (by omega)]
  refine hR _ _ (kq2 _ _ ?_); clear hR R; try clear kq2 kz2
  try simp only [go_sem]
  refine W_seq fun kz3 kq3 => ?_
  refine W_seq fun kz4 kq4 => ?_
  refine W_region [1, 5, 6] fun R hR => ?_   -- r2
  simp only [go_sem]
  refine hR _ _ (kq4 _ _ ?_); clear hR R; try clear kq4 kz4
  try simp only [go_sem]
  refine W_block ?_
  refine W_loopT (α := Nat) (fun (i : Nat) => [(6, I i)]) (fun (i : Nat) => σ.ext [some (twCells t), some ((fillTo 1 i (List.replicate t.streets.length 0)).map I)] []) (fun (i : Nat) => i ≤ t.streets.length) (fun (i : Nat) => t.streets.length - i) (0) rfl (by rw [fillTo_zero]; rfl) (Nat.zero_le _) ?_
  rintro i hi
  refine W_seq fun kz5 kq5 => ?_
  refine W_seq fun kz6 kq6 => ?_
  refine W_region [1, 5, 6, 15] fun R hR => ?_   -- r3
  simp only [go_sem]
  refine hR _ _ (kq6 _ _ ?_); clear hR R; try clear kq6 kz6
  try simp only [go_sem]
  refine W_cond rfl (fun c1 => ?_) (fun c1 => ?_)
  · -- c1 true
    try simp only [nrm] at c1
    have hic : (i : Int) < (t.streets.length : Int) := by omega
    have hi2 : i < t.streets.length := by omega
    have hi3 : i + 1 ≤ t.streets.length := by omega
    have hi4 : (fillTo 1 i (List.replicate t.streets.length 0)).length = t.streets.length := by rw [fillTo_len (by simp; omega)]; simp
    have hi5 := fillTo_set (v := 1) (i := i) (l := List.replicate t.streets.length 0) (by simp; omega)
    refine W_skip (kq5 _ _ ?_)
    refine W_seq fun kz7 kq7 => ?_
    refine W_block ?_
    refine W_region [1, 5, 6] fun R hR => ?_   -- r5
    simp only [go_sem, hi5, hic, Nat.mul_one, hi3, hi4]
    refine hR _ _ (kq7 _ _ ?_); clear hR R; try clear kq7 kz7
    try simp only [go_sem, hi5]
    refine W_region [1, 5, 6] fun R hR => ?_   -- r4
    simp only [go_sem, hi5]
    try simp (disch := omega) only [wrapI, wrapU]
    refine hR _ _ ?_; clear hR R
    try simp only [go_sem, hi5]
    refine ⟨i + 1, ?_, by (try simp only []); omega, ?_⟩
    · first | exact Weak.refl | exact Weak.eq (by first | rfl | (simp only [go_sem]; done) | (simp only [go_sem]; rfl) | (simp [go_sem]; done) | (simp [go_sem]; omega)) (by first | rfl | (simp only [go_sem]; done) | (simp [go_sem]; done))
    · try dsimp only
      omega
  · -- c1 false
    try simp only [nrm] at c1
    have hie : i = t.streets.length := by omega
    subst hie
    refine W_exit ?_
    simp only [go_sem]
    refine kq3 _ _ ?_
    refine W_seq fun kz8 kq8 => ?_
    refine W_seq fun kz9 kq9 => ?_
    refine W_region [1, 5, 7] fun R hR => ?_   -- r6
    simp only [go_sem]
    refine hR _ _ (kq9 _ _ ?_); clear hR R; try clear kq9 kz9
    try simp only [go_sem]
    refine W_block ?_
    refine W_loopT (α := Nat × (List Int)) (fun ⟨k, l⟩ => [(7, I k)]) (fun ⟨k, l⟩ => σ.ext [some (twCells t), some (l.map I)] []) (fun ⟨k, l⟩ => k ≤ cl.length ∧ l.length = t.streets.length ∧ stOf t.streets.length cl = stF (cl.drop k) l) (fun ⟨k, l⟩ => cl.length - k) ((0, List.replicate t.streets.length 1)) rfl (by have := fillTo_end (v := 1) (l := List.replicate t.streets.length 0); rw [List.length_replicate] at this; simp only [go_sem, this]) (⟨Nat.zero_le _, by simp, rfl⟩) ?_
    rintro ⟨k, l⟩ ⟨hk, hll, hinv⟩
    refine W_seq fun kz10 kq10 => ?_
    refine W_seq fun kz11 kq11 => ?_
    refine W_region [1, 5, 7, 24] fun R hR => ?_   -- r7
    simp only [go_sem]
    refine hR _ _ (kq11 _ _ ?_); clear hR R; try clear kq11 kz11
    try simp only [go_sem]
    refine W_cond rfl (fun c2 => ?_) (fun c2 => ?_)
    · -- c2 true
      try simp only [nrm] at c2
      have hi' : k < cl.length := by first | assumption | omega
      obtain ⟨x, hx⟩ : ∃ x, cl[k]? = some x := ⟨cl[k], by simp [hi']⟩
      have hdrop : cl.drop k = x :: cl.drop (k + 1) := by
        rw [List.drop_eq_getElem_cons hi']; congr 1; exact (List.getElem?_eq_some_iff.1 hx).2
      rw [hdrop, stF_cons] at hinv
      obtain ⟨hx0, hx1⟩ := hc x (List.mem_of_getElem? hx)
      have hx2 : x.toNat + 1 ≤ l.length := by omega
      have hx3 : x.toNat + 1 ≤ t.streets.length := by omega
      refine W_skip (kq10 _ _ ?_)
      refine W_seq fun kz12 kq12 => ?_
      refine W_block ?_
      refine W_region [1, 5, 7] fun R hR => ?_   -- r9
      simp only [go_sem, hx, hx0, hx1, hx2, hx3, hll, Nat.mul_one]
      refine hR _ _ (kq12 _ _ ?_); clear hR R; try clear kq12 kz12
      try simp only [go_sem, hx]
      refine W_region [1, 5, 7] fun R hR => ?_   -- r8
      simp only [go_sem, hx]
      try simp (disch := omega) only [wrapI, wrapU]
      refine hR _ _ ?_; clear hR R
      try simp only [go_sem, hx]
      refine ⟨(k + 1, l.set x.toNat 2), ?_, by (try simp only []); omega, ?_⟩
      · first | exact Weak.refl | exact Weak.eq (by first | rfl | (simp only [go_sem]; done) | (simp only [go_sem]; rfl) | (simp [go_sem]; done) | (simp [go_sem]; omega)) (by first | rfl | (simp only [go_sem]; done) | (simp [go_sem]; done))
      · try dsimp only
        exact ⟨hi', by simp [hll], hinv⟩
    · -- c2 false
      try simp only [nrm] at c2
      have hdrop : cl.drop k = [] := List.drop_eq_nil_of_le (by omega)
      rw [hdrop] at hinv
      simp only [stF, List.foldl_nil] at hinv
      refine W_exit ?_
      simp only [go_sem]
      refine kq8 _ _ ?_
      refine W_seq fun kz13 kq13 => ?_
      refine W_weak (Weak.freezeI (t := 5) (j := 1) (xs := l) (by rw [hll]; rfl) rfl) ?_
      refine W_weak (Weak.keep [5]) ?_
      simp only [go_sem]
      refine W_region [4] fun R hR => ?_   -- r10
      simp only [go_sem]
      refine hR _ _ (kq13 _ _ ?_); clear hR R; try clear kq13 kz13
      try simp only [go_sem]
      refine W_ret ?_
      simp only [go_sem]
      refine ⟨.inr (by trivial), ?_⟩
      first | refine Fin_same hcl rfl (Wk_eq ?_ (by simp only [go_sem])) | refine Fin_self hcl rfl (Wk_eq ?_ (by simp only [go_sem]))
      try simp only [go_sem]
      all_goals
        rw [hinv]
end Go.Proofs.Ytnpamcpoaklgeaa
namespace Go.Proofs.Ytnpamcpoaklgeaa
open Go Go.RowKit
set_option maxRecDepth 100000
theorem stepA_true {n v va vb : Int} {l out : List Int} {i a b : Nat} (hl : l[i]? = some v) (ha : out[a]? = some va) (hb : out[b]? = some vb) (h : v = 1 ∧ va = n ∧ vb < 0) : stepA n (decide (l[i]? = some 1)) a b out = out.set b (n + 1) := by
  obtain ⟨rfl, rfl, h⟩ := h
  simp [stepA, hl, ha, hb, h]
theorem stepA_false {n v va vb : Int} {l out : List Int} {i a b : Nat} (hl : l[i]? = some v) (ha : out[a]? = some va) (hb : out[b]? = some vb) (h : ¬ (v = 1 ∧ va = n ∧ vb < 0)) : stepA n (decide (l[i]? = some 1)) a b out = out := by
  unfold stepA
  rw [if_neg]
  rintro ⟨h1, h2, h3⟩
  rw [hl] at h1
  rw [ha] at h2
  rw [hb] at h3
  refine h ⟨by simpa using h1, by simpa using h2, by simpa using h3⟩
set_option maxHeartbeats 4000000 in
theorem rsteps_pc (Y : YEnv) (σ : Sg) (t : Town) (l : List Int) (to' : Int) (hs : t.streets.length < 2 ^ 40) (hr : t.rooms.length < 2 ^ 40) (hl : l.length = t.streets.length) (h0 : 0 ≤ to') (h1 : to' < t.rooms.length) (hv : ∀ s, s ∈ t.streets → 0 ≤ s.1 ∧ s.1 < t.rooms.length ∧ 0 ≤ s.2 ∧ s.2 < t.rooms.length) :
    PC Try.prog Y 124 [twPV t, ints l, I to'] σ (ints (stepsOf l t to')) (σ) := by
  refine PC_of_W Try.func124 rfl (by kernel_rfl) Try.ntmps124 (by simp) fun hcl hca => ?_
  have t1 : to'.toNat + 1 ≤ t.rooms.length := by omega
  refine W_seq fun kz1 kq1 => ?_
  refine W_region [1, 2, 3] fun R hR => ?_   -- r0
  simp only [go_sem]
  refine hR _ _ (kq1 _ _ ?_); clear hR R; try clear kq1 kz1
  try simp only [go_sem]
  refine W_seq fun kz2 kq2 => ?_
  refine W_region [1, 2, 3, 7] fun R hR => ?_   -- r1
  simp only [go_sem, mk22 (k := t.rooms.length) (by omega)]
  refine hR _ _ (kq2 _ _ ?_); clear hR R; try clear kq2 kz2
  try simp only [go_sem]
  refine W_seq fun kz3 kq3 => ?_
  refine W_seq fun kz4 kq4 => ?_
  refine W_region [1, 2, 3, 7, 8] fun R hR => ?_   -- r2
  simp only [go_sem]
  refine hR _ _ (kq4 _ _ ?_); clear hR R; try clear kq4 kz4
  try simp only [go_sem]
  refine W_block ?_
  refine W_loopT (α := Nat) (fun (i : Nat) => [(8, I i)]) (fun (i : Nat) => σ.ext [some (twCells t), some ((fillTo (-1) i (List.replicate t.rooms.length 0)).map I)] []) (fun (i : Nat) => i ≤ t.rooms.length) (fun (i : Nat) => t.rooms.length - i) (0) rfl (by rw [fillTo_zero]; rfl) (Nat.zero_le _) ?_
  rintro i hi
  refine W_seq fun kz5 kq5 => ?_
  refine W_seq fun kz6 kq6 => ?_
  refine W_region [1, 2, 3, 7, 8, 20] fun R hR => ?_   -- r3
  simp only [go_sem]
  refine hR _ _ (kq6 _ _ ?_); clear hR R; try clear kq6 kz6
  try simp only [go_sem]
  refine W_cond rfl (fun c1 => ?_) (fun c1 => ?_)
  · -- c1 true
    try simp only [nrm] at c1
    have hic : (i : Int) < (t.rooms.length : Int) := by omega
    have hi3 : i + 1 ≤ t.rooms.length := by omega
    have hi4 : (fillTo (-1) i (List.replicate t.rooms.length 0)).length = t.rooms.length := by rw [fillTo_len (by simp; omega)]; simp
    have hi5 := fillTo_set (v := -1) (i := i) (l := List.replicate t.rooms.length 0) (by simp; omega)
    refine W_skip (kq5 _ _ ?_)
    refine W_seq fun kz7 kq7 => ?_
    refine W_block ?_
    refine W_region [1, 2, 3, 7, 8] fun R hR => ?_   -- r5
    simp only [go_sem, hi5, hic, Nat.mul_one, hi3, hi4]
    refine hR _ _ (kq7 _ _ ?_); clear hR R; try clear kq7 kz7
    try simp only [go_sem, hi5]
    refine W_region [1, 2, 3, 7, 8] fun R hR => ?_   -- r4
    simp only [go_sem, hi5]
    try simp (disch := omega) only [wrapI, wrapU]
    refine hR _ _ ?_; clear hR R
    try simp only [go_sem, hi5]
    refine ⟨i + 1, ?_, by (try simp only []); omega, ?_⟩
    · first | exact Weak.refl | exact Weak.eq (by first | rfl | (simp only [go_sem]; done) | (simp only [go_sem]; rfl) | (simp [go_sem]; done) | (simp [go_sem]; omega)) (by first | rfl | (simp only [go_sem]; done) | (simp [go_sem]; done))
    · try dsimp only
      omega
  · -- c1 false
    try simp only [nrm] at c1
    have hie : i = t.rooms.length := by omega
    subst hie
    have hft := fillTo_end (v := -1) (l := List.replicate t.rooms.length 0)
    rw [List.length_replicate] at hft
    have hlr : (List.replicate t.rooms.length (-1 : Int)).length = t.rooms.length := by simp
    refine W_exit ?_
    simp only [go_sem, hft, hlr]
    refine kq3 _ _ ?_
    refine W_seq fun kz8 kq8 => ?_
    refine W_region [1, 3, 7] fun R hR => ?_   -- r6
    simp only [go_sem, hft, hlr, h0, h1, t1, Nat.mul_one]
    refine hR _ _ (kq8 _ _ ?_); clear hR R; try clear kq8 kz8
    try simp only [go_sem, hft, hlr]
    refine W_seq fun kz9 kq9 => ?_
    refine W_seq fun kz10 kq10 => ?_
    refine W_region [1, 3, 7, 9] fun R hR => ?_   -- r7
    simp only [go_sem, hft, hlr]
    refine hR _ _ (kq10 _ _ ?_); clear hR R; try clear kq10 kz10
    try simp only [go_sem, hft, hlr]
    refine W_block ?_
    refine W_loopT (α := Nat × (List Int)) (fun ⟨n, out⟩ => [(9, I n)]) (fun ⟨n, out⟩ => σ.ext [some (twCells t), some (out.map I)] []) (fun ⟨n, out⟩ => n ≤ t.rooms.length ∧ out.length = t.rooms.length ∧ stepsOf l t to' = lvls l t.streets (t.rooms.length - n) n out) (fun ⟨n, out⟩ => t.rooms.length - n) ((0, (List.replicate t.rooms.length (-1)).set to'.toNat 0)) rfl (by first | rfl | (simp only [go_sem]; done) | (simp only [go_sem]; rfl)) (⟨Nat.zero_le _, by simp, rfl⟩) ?_
    rintro ⟨n, out⟩ ⟨hnn, hol, hinv⟩
    refine W_seq fun kz11 kq11 => ?_
    refine W_seq fun kz12 kq12 => ?_
    refine W_region [1, 3, 7, 9, 32] fun R hR => ?_   -- r8
    simp only [go_sem, hft, hlr]
    refine hR _ _ (kq12 _ _ ?_); clear hR R; try clear kq12 kz12
    try simp only [go_sem, hft, hlr]
    refine W_cond rfl (fun c2 => ?_) (fun c2 => ?_)
    · -- c2 true
      try simp only [nrm] at c2
      rw [show t.rooms.length - n = (t.rooms.length - (n + 1)) + 1 by omega] at hinv
      simp only [lvls] at hinv
      have hn : IntKind.i64.wrap ((n : Int) + 1) = (n : Int) + 1 := wrapI (by omega) (by omega)
      refine W_skip (kq11 _ _ ?_)
      refine W_seq fun kz13 kq13 => ?_
      refine W_block ?_
      refine W_seq fun kz14 kq14 => ?_
      refine W_region [1, 3, 7, 9, 10] fun R hR => ?_   -- r10
      simp only [go_sem, hft, hlr]
      refine hR _ _ (kq14 _ _ ?_); clear hR R; try clear kq14 kz14
      try simp only [go_sem, hft, hlr]
      refine W_block ?_
      refine W_loopT (α := Nat × (List Int)) (fun ⟨i, cur⟩ => [(10, I i)]) (fun ⟨i, cur⟩ => σ.ext [some (twCells t), some (cur.map I)] []) (fun ⟨i, cur⟩ => i ≤ t.streets.length ∧ cur.length = t.rooms.length ∧ lvl n l t.streets 0 out = lvl n l (t.streets.drop i) i cur) (fun ⟨i, cur⟩ => t.streets.length - i) ((0, out)) rfl (by first | rfl | (simp only [go_sem]; done) | (simp only [go_sem]; rfl)) (⟨Nat.zero_le _, hol, rfl⟩) ?_
      rintro ⟨i, cur⟩ ⟨hi, hcl2, hinv2⟩
      refine W_seq fun kz15 kq15 => ?_
      refine W_seq fun kz16 kq16 => ?_
      refine W_region [1, 3, 7, 9, 10, 39] fun R hR => ?_   -- r11
      simp only [go_sem, hft, hlr]
      refine hR _ _ (kq16 _ _ ?_); clear hR R; try clear kq16 kz16
      try simp only [go_sem, hft, hlr]
      refine W_cond rfl (fun c3 => ?_) (fun c3 => ?_)
      · -- c3 true
        try simp only [nrm] at c3
        have hi' : i < t.streets.length := by first | assumption | omega
        obtain ⟨s, hx⟩ : ∃ s, t.streets[i]? = some s := ⟨t.streets[i], by simp [hi']⟩
        have hdrop : t.streets.drop i = s :: t.streets.drop (i + 1) := by
          rw [List.drop_eq_getElem_cons hi']; congr 1; exact (List.getElem?_eq_some_iff.1 hx).2
        have hsm : s ∈ t.streets := List.mem_of_getElem? hx
        obtain ⟨a0, a1, b0, b1⟩ := hv s hsm
        have hin : i < l.length := by omega
        have hic : (i : Int) < (l.length : Int) := by omega
        have aN : s.1.toNat < cur.length := by omega
        have bN : s.2.toNat < cur.length := by omega
        have aN1 : s.1.toNat + 1 ≤ t.rooms.length := by omega
        have bN1 : s.2.toNat + 1 ≤ t.rooms.length := by omega
        obtain ⟨v, hlv⟩ : ∃ v, l[i]? = some v := ⟨l[i], by simp⟩
        obtain ⟨va, hva⟩ : ∃ v, cur[s.1.toNat]? = some v := ⟨cur[s.1.toNat], by simp⟩
        obtain ⟨vb, hvb⟩ : ∃ v, cur[s.2.toNat]? = some v := ⟨cur[s.2.toNat], by simp⟩
        rw [hdrop] at hinv2
        simp only [lvl] at hinv2
        refine W_skip (kq15 _ _ ?_)
        refine W_seq fun kz17 kq17 => ?_
        refine W_block ?_
        refine W_seq fun kz18 kq18 => ?_
        refine W_draw [1, 3, 7, 9, 10, 11, 12] [0, 1, 2, 3, 4, 5, 6, 7, 8, 9, 10, 11, 12, 13] [] [[], [0], [], [0, 1, 2], [0, 1, 2, 3], [0, 1, 2, 3, 4], [], [6], [], [6, 7, 8], [6, 7, 8, 9], [6, 7, 8, 9, 10], [0, 1, 2, 3, 4, 5], [0, 1, 2, 3, 4, 5, 6, 7, 8, 9, 10, 11, 12]] mixed (by kernel_rfl) fun R hR => ?_   -- r13
        simp only [go_sem, hft, hlr, List.getElem?_map, hx, hlv, hva, hvb, a0, a1, b0, b1, aN1, bN1, Nat.mul_one, hcl2, hn]
        try refine And.intro (by repeat' (first | refine And.intro ?_ ?_ | exact GOr_right (fun _ => by simp only [go_sem, hft, hlr, List.getElem?_map, hx, hlv, hva, hvb, a0, a1, b0, b1, aN1, bN1, Nat.mul_one, hcl2, hn]))) ?_
        refine hR _ _ (kq18 _ _ ?_); clear hR R; try clear kq18 kz18
        try simp only [go_sem, hft, hlr, List.getElem?_map, hx, hlv, hva, hvb, a0, a1, b0, b1, aN1, bN1, Nat.mul_one, hcl2, hn]
        refine W_seq fun kz19 kq19 => ?_
        refine W_seq fun kz20 kq20 => ?_
        refine W_regionJ [1, 3, 7, 9, 10, 11, 12, 73] [(73, .bool ((decide (v = 1) && decide (va = (n : Int))) && decide (vb < 0)))] ?_ fun R hR => ?_   -- r14
        · refine kq20 _ _ ?_
          simp only [go_sem, hft, hlr, List.getElem?_map, hx, hlv, hva, hvb, a0, a1, b0, b1, aN1, bN1, Nat.mul_one, hcl2, hn]
          refine W_cond rfl (fun c4 => ?_) (fun c4 => ?_)
          · -- c4 true
            try simp only [nrm] at c4
            have hs1 := stepA_true (n := (n : Int)) hlv hva hvb (by simpa [and_assoc] using c4)
            obtain ⟨cur1, hcur1⟩ : ∃ z, cur.set s.2.toNat ((n : Int) + 1) = z := ⟨_, rfl⟩
            rw [hcur1] at hs1
            have hcl3 : cur1.length = t.rooms.length := by rw [← hcur1]; simp [hcl2]
            obtain ⟨va1, hva1⟩ : ∃ v, cur1[s.1.toNat]? = some v := ⟨cur1[s.1.toNat]'(by omega), by simp⟩
            obtain ⟨vb1, hvb1⟩ : ∃ v, cur1[s.2.toNat]? = some v := ⟨cur1[s.2.toNat]'(by omega), by simp⟩
            refine W_region [1, 3, 7, 9, 10, 11, 12] fun R hR => ?_   -- r15
            simp only [go_sem, hft, hlr, List.getElem?_map, hx, hlv, hva, hvb, a0, a1, b0, b1, aN1, bN1, Nat.mul_one, hcl2, hn, hcur1, hva1, hvb1, hcl3]
            try simp (disch := omega) only [wrapI, wrapU]
            refine hR _ _ (kq19 _ _ ?_); clear hR R; try clear kq19 kz19
            try simp only [go_sem, hft, hlr, List.getElem?_map, hx, hlv, hva, hvb, a0, a1, b0, b1, aN1, bN1, Nat.mul_one, hcl2, hn, hcur1, hva1, hvb1, hcl3]
            refine W_seq fun kz21 kq21 => ?_
            refine W_regionJ [1, 3, 7, 9, 10, 11, 98] [(98, .bool ((decide (v = 1) && decide (vb1 = (n : Int))) && decide (va1 < 0)))] ?_ fun R hR => ?_   -- r16
            · refine kq21 _ _ ?_
              simp only [go_sem, hft, hlr, List.getElem?_map, hx, hlv, hva, hvb, a0, a1, b0, b1, aN1, bN1, Nat.mul_one, hcl2, hn, hcur1, hva1, hvb1, hcl3]
              refine W_cond rfl (fun c5 => ?_) (fun c5 => ?_)
              · -- c5 true
                try simp only [nrm] at c5
                refine W_region [1, 3, 7, 9, 10] fun R hR => ?_   -- r17
                simp only [go_sem, hft, hlr, List.getElem?_map, hx, hlv, hva, hvb, a0, a1, b0, b1, aN1, bN1, Nat.mul_one, hcl2, hn, hcur1, hva1, hvb1, hcl3]
                try simp (disch := omega) only [wrapI, wrapU]
                refine hR _ _ (kq17 _ _ ?_); clear hR R; try clear kq17 kz17
                try simp only [go_sem, hft, hlr, List.getElem?_map, hx, hlv, hva, hvb, a0, a1, b0, b1, aN1, bN1, Nat.mul_one, hcl2, hn, hcur1, hva1, hvb1, hcl3]
                refine W_region [1, 3, 7, 9, 10] fun R hR => ?_   -- r12
                simp only [go_sem, hft, hlr, List.getElem?_map, hx, hlv, hva, hvb, a0, a1, b0, b1, aN1, bN1, Nat.mul_one, hcl2, hn, hcur1, hva1, hvb1, hcl3]
                try simp (disch := omega) only [wrapI, wrapU]
                refine hR _ _ ?_; clear hR R
                try simp only [go_sem, hft, hlr, List.getElem?_map, hx, hlv, hva, hvb, a0, a1, b0, b1, aN1, bN1, Nat.mul_one, hcl2, hn, hcur1, hva1, hvb1, hcl3]
                refine ⟨(i + 1, cur1.set s.1.toNat ((n : Int) + 1)), ?_, by (try simp only []); omega, ?_⟩
                · first | exact Weak.refl | exact Weak.eq (by first | rfl | (simp only [go_sem]; done) | (simp only [go_sem]; rfl) | (simp [go_sem]; done) | (simp [go_sem]; omega)) (by first | rfl | (simp only [go_sem]; done) | (simp [go_sem]; done))
                · try dsimp only
                  refine ⟨by omega, by simp [*], ?_⟩
                  rw [hinv2, stepS, hs1]
                  first | rw [stepA_true (n := (n : Int)) hlv hvb1 hva1 (by simpa [and_assoc] using c5)] | rw [stepA_false (n := (n : Int)) hlv hvb1 hva1 (by simpa [and_assoc] using c5)] | rw [stepA_true (n := (n : Int)) hlv hvb hva (by simpa [and_assoc] using c6)] | rw [stepA_false (n := (n : Int)) hlv hvb hva (by simpa [and_assoc] using c6)]
              · -- c5 false
                try simp only [nrm] at c5
                refine W_skip (kq17 _ _ ?_)
                refine W_region [1, 3, 7, 9, 10] fun R hR => ?_   -- r12
                simp only [go_sem, hft, hlr, List.getElem?_map, hx, hlv, hva, hvb, a0, a1, b0, b1, aN1, bN1, Nat.mul_one, hcl2, hn, hcur1, hva1, hvb1, hcl3]
                try simp (disch := omega) only [wrapI, wrapU]
                refine hR _ _ ?_; clear hR R
                try simp only [go_sem, hft, hlr, List.getElem?_map, hx, hlv, hva, hvb, a0, a1, b0, b1, aN1, bN1, Nat.mul_one, hcl2, hn, hcur1, hva1, hvb1, hcl3]
                refine ⟨(i + 1, cur1), ?_, by (try simp only []); omega, ?_⟩
                · first | exact Weak.refl | exact Weak.eq (by first | rfl | (simp only [go_sem]; done) | (simp only [go_sem]; rfl) | (simp [go_sem]; done) | (simp [go_sem]; omega)) (by first | rfl | (simp only [go_sem]; done) | (simp [go_sem]; done))
                · try dsimp only
                  refine ⟨by omega, by simp [*], ?_⟩
                  rw [hinv2, stepS, hs1]
                  first | rw [stepA_true (n := (n : Int)) hlv hvb1 hva1 (by simpa [and_assoc] using c5)] | rw [stepA_false (n := (n : Int)) hlv hvb1 hva1 (by simpa [and_assoc] using c5)] | rw [stepA_true (n := (n : Int)) hlv hvb hva (by simpa [and_assoc] using c6)] | rw [stepA_false (n := (n : Int)) hlv hvb hva (by simpa [and_assoc] using c6)]
            · simp only [go_sem, hft, hlr, List.getElem?_map, hx, hlv, hva, hvb, a0, a1, b0, b1, aN1, bN1, Nat.mul_one, hcl2, hn, hcur1, hva1, hvb1, hcl3, hic]
              refine GWant_split (fun g1 => ?_) (fun g1 => ?_)
              · try simp only [Bool.not_eq_true', Bool.not_eq_false'] at g1
                have n1 := g1; try simp only [nrm] at n1
                simp only [go_sem, hft, hlr, List.getElem?_map, hx, hlv, hva, hvb, a0, a1, b0, b1, aN1, bN1, Nat.mul_one, hcl2, hn, hcur1, hva1, hvb1, hcl3, hic, g1]
                refine GWant_split (fun g2 => ?_) (fun g2 => ?_)
                · try simp only [Bool.not_eq_true', Bool.not_eq_false'] at g2
                  have n2 := g2; try simp only [nrm] at n2
                  simp only [go_sem, hft, hlr, List.getElem?_map, hx, hlv, hva, hvb, a0, a1, b0, b1, aN1, bN1, Nat.mul_one, hcl2, hn, hcur1, hva1, hvb1, hcl3, hic, g1, g2]
                  refine hR _ ?_
                  try simp only [go_sem, hft, hlr, List.getElem?_map, hx, hlv, hva, hvb, a0, a1, b0, b1, aN1, bN1, Nat.mul_one, hcl2, hn, hcur1, hva1, hvb1, hcl3, hic]
                  all_goals
                    first | rfl | (simp [*]; done) | (simp [*]; omega)
                · try simp only [Bool.not_eq_true', Bool.not_eq_false'] at g2
                  have n2 := g2; try simp only [nrm] at n2
                  simp only [go_sem, hft, hlr, List.getElem?_map, hx, hlv, hva, hvb, a0, a1, b0, b1, aN1, bN1, Nat.mul_one, hcl2, hn, hcur1, hva1, hvb1, hcl3, hic, g1, g2]
                  refine hR _ ?_
                  try simp only [go_sem, hft, hlr, List.getElem?_map, hx, hlv, hva, hvb, a0, a1, b0, b1, aN1, bN1, Nat.mul_one, hcl2, hn, hcur1, hva1, hvb1, hcl3, hic]
                  all_goals
                    first | rfl | (simp [*]; done) | (simp [*]; omega)
              · try simp only [Bool.not_eq_true', Bool.not_eq_false'] at g1
                have n1 := g1; try simp only [nrm] at n1
                simp only [go_sem, hft, hlr, List.getElem?_map, hx, hlv, hva, hvb, a0, a1, b0, b1, aN1, bN1, Nat.mul_one, hcl2, hn, hcur1, hva1, hvb1, hcl3, hic, g1]
                refine hR _ ?_
                try simp only [go_sem, hft, hlr, List.getElem?_map, hx, hlv, hva, hvb, a0, a1, b0, b1, aN1, bN1, Nat.mul_one, hcl2, hn, hcur1, hva1, hvb1, hcl3, hic]
                all_goals
                  first | rfl | (simp [*]; done) | (simp [*]; omega)
          · -- c4 false
            try simp only [nrm] at c4
            have hs1 := stepA_false (n := (n : Int)) hlv hva hvb (by simpa [and_assoc] using c4)
            refine W_skip (kq19 _ _ ?_)
            refine W_seq fun kz22 kq22 => ?_
            refine W_regionJ [1, 3, 7, 9, 10, 11, 98] [(98, .bool ((decide (v = 1) && decide (vb = (n : Int))) && decide (va < 0)))] ?_ fun R hR => ?_   -- r16
            · refine kq22 _ _ ?_
              simp only [go_sem, hft, hlr, List.getElem?_map, hx, hlv, hva, hvb, a0, a1, b0, b1, aN1, bN1, Nat.mul_one, hcl2, hn]
              refine W_cond rfl (fun c6 => ?_) (fun c6 => ?_)
              · -- c6 true
                try simp only [nrm] at c6
                refine W_region [1, 3, 7, 9, 10] fun R hR => ?_   -- r17
                simp only [go_sem, hft, hlr, List.getElem?_map, hx, hlv, hva, hvb, a0, a1, b0, b1, aN1, bN1, Nat.mul_one, hcl2, hn]
                try simp (disch := omega) only [wrapI, wrapU]
                refine hR _ _ (kq17 _ _ ?_); clear hR R; try clear kq17 kz17
                try simp only [go_sem, hft, hlr, List.getElem?_map, hx, hlv, hva, hvb, a0, a1, b0, b1, aN1, bN1, Nat.mul_one, hcl2, hn]
                refine W_region [1, 3, 7, 9, 10] fun R hR => ?_   -- r12
                simp only [go_sem, hft, hlr, List.getElem?_map, hx, hlv, hva, hvb, a0, a1, b0, b1, aN1, bN1, Nat.mul_one, hcl2, hn]
                try simp (disch := omega) only [wrapI, wrapU]
                refine hR _ _ ?_; clear hR R
                try simp only [go_sem, hft, hlr, List.getElem?_map, hx, hlv, hva, hvb, a0, a1, b0, b1, aN1, bN1, Nat.mul_one, hcl2, hn]
                refine ⟨(i + 1, cur.set s.1.toNat ((n : Int) + 1)), ?_, by (try simp only []); omega, ?_⟩
                · first | exact Weak.refl | exact Weak.eq (by first | rfl | (simp only [go_sem]; done) | (simp only [go_sem]; rfl) | (simp [go_sem]; done) | (simp [go_sem]; omega)) (by first | rfl | (simp only [go_sem]; done) | (simp [go_sem]; done))
                · try dsimp only
                  refine ⟨by omega, by simp [*], ?_⟩
                  rw [hinv2, stepS, hs1]
                  first | rw [stepA_true (n := (n : Int)) hlv hvb1 hva1 (by simpa [and_assoc] using c5)] | rw [stepA_false (n := (n : Int)) hlv hvb1 hva1 (by simpa [and_assoc] using c5)] | rw [stepA_true (n := (n : Int)) hlv hvb hva (by simpa [and_assoc] using c6)] | rw [stepA_false (n := (n : Int)) hlv hvb hva (by simpa [and_assoc] using c6)]
              · -- c6 false
                try simp only [nrm] at c6
                refine W_skip (kq17 _ _ ?_)
                refine W_region [1, 3, 7, 9, 10] fun R hR => ?_   -- r12
                simp only [go_sem, hft, hlr, List.getElem?_map, hx, hlv, hva, hvb, a0, a1, b0, b1, aN1, bN1, Nat.mul_one, hcl2, hn]
                try simp (disch := omega) only [wrapI, wrapU]
                refine hR _ _ ?_; clear hR R
                try simp only [go_sem, hft, hlr, List.getElem?_map, hx, hlv, hva, hvb, a0, a1, b0, b1, aN1, bN1, Nat.mul_one, hcl2, hn]
                refine ⟨(i + 1, cur), ?_, by (try simp only []); omega, ?_⟩
                · first | exact Weak.refl | exact Weak.eq (by first | rfl | (simp only [go_sem]; done) | (simp only [go_sem]; rfl) | (simp [go_sem]; done) | (simp [go_sem]; omega)) (by first | rfl | (simp only [go_sem]; done) | (simp [go_sem]; done))
                · try dsimp only
                  refine ⟨by omega, by simp [*], ?_⟩
                  rw [hinv2, stepS, hs1]
                  first | rw [stepA_true (n := (n : Int)) hlv hvb1 hva1 (by simpa [and_assoc] using c5)] | rw [stepA_false (n := (n : Int)) hlv hvb1 hva1 (by simpa [and_assoc] using c5)] | rw [stepA_true (n := (n : Int)) hlv hvb hva (by simpa [and_assoc] using c6)] | rw [stepA_false (n := (n : Int)) hlv hvb hva (by simpa [and_assoc] using c6)]
            · simp only [go_sem, hft, hlr, List.getElem?_map, hx, hlv, hva, hvb, a0, a1, b0, b1, aN1, bN1, Nat.mul_one, hcl2, hn, hic]
              refine GWant_split (fun g3 => ?_) (fun g3 => ?_)
              · try simp only [Bool.not_eq_true', Bool.not_eq_false'] at g3
                have n3 := g3; try simp only [nrm] at n3
                simp only [go_sem, hft, hlr, List.getElem?_map, hx, hlv, hva, hvb, a0, a1, b0, b1, aN1, bN1, Nat.mul_one, hcl2, hn, hic, g3]
                refine GWant_split (fun g4 => ?_) (fun g4 => ?_)
                · try simp only [Bool.not_eq_true', Bool.not_eq_false'] at g4
                  have n4 := g4; try simp only [nrm] at n4
                  simp only [go_sem, hft, hlr, List.getElem?_map, hx, hlv, hva, hvb, a0, a1, b0, b1, aN1, bN1, Nat.mul_one, hcl2, hn, hic, g3, g4]
                  refine hR _ ?_
                  try simp only [go_sem, hft, hlr, List.getElem?_map, hx, hlv, hva, hvb, a0, a1, b0, b1, aN1, bN1, Nat.mul_one, hcl2, hn, hic]
                  all_goals
                    first | rfl | (simp [*]; done) | (simp [*]; omega)
                · try simp only [Bool.not_eq_true', Bool.not_eq_false'] at g4
                  have n4 := g4; try simp only [nrm] at n4
                  simp only [go_sem, hft, hlr, List.getElem?_map, hx, hlv, hva, hvb, a0, a1, b0, b1, aN1, bN1, Nat.mul_one, hcl2, hn, hic, g3, g4]
                  refine hR _ ?_
                  try simp only [go_sem, hft, hlr, List.getElem?_map, hx, hlv, hva, hvb, a0, a1, b0, b1, aN1, bN1, Nat.mul_one, hcl2, hn, hic]
                  all_goals
                    first | rfl | (simp [*]; done) | (simp [*]; omega)
              · try simp only [Bool.not_eq_true', Bool.not_eq_false'] at g3
                have n3 := g3; try simp only [nrm] at n3
                simp only [go_sem, hft, hlr, List.getElem?_map, hx, hlv, hva, hvb, a0, a1, b0, b1, aN1, bN1, Nat.mul_one, hcl2, hn, hic, g3]
                refine hR _ ?_
                try simp only [go_sem, hft, hlr, List.getElem?_map, hx, hlv, hva, hvb, a0, a1, b0, b1, aN1, bN1, Nat.mul_one, hcl2, hn, hic]
                all_goals
                  first | rfl | (simp [*]; done) | (simp [*]; omega)
        · simp only [go_sem, hft, hlr, List.getElem?_map, hx, hlv, hva, hvb, a0, a1, b0, b1, aN1, bN1, Nat.mul_one, hcl2, hn, hic]
          refine GWant_split (fun g5 => ?_) (fun g5 => ?_)
          · try simp only [Bool.not_eq_true', Bool.not_eq_false'] at g5
            have n5 := g5; try simp only [nrm] at n5
            simp only [go_sem, hft, hlr, List.getElem?_map, hx, hlv, hva, hvb, a0, a1, b0, b1, aN1, bN1, Nat.mul_one, hcl2, hn, hic, g5]
            refine GWant_split (fun g6 => ?_) (fun g6 => ?_)
            · try simp only [Bool.not_eq_true', Bool.not_eq_false'] at g6
              have n6 := g6; try simp only [nrm] at n6
              simp only [go_sem, hft, hlr, List.getElem?_map, hx, hlv, hva, hvb, a0, a1, b0, b1, aN1, bN1, Nat.mul_one, hcl2, hn, hic, g5, g6]
              refine hR _ ?_
              try simp only [go_sem, hft, hlr, List.getElem?_map, hx, hlv, hva, hvb, a0, a1, b0, b1, aN1, bN1, Nat.mul_one, hcl2, hn, hic]
              all_goals
                first | rfl | (simp [*]; done) | (simp [*]; omega)
            · try simp only [Bool.not_eq_true', Bool.not_eq_false'] at g6
              have n6 := g6; try simp only [nrm] at n6
              simp only [go_sem, hft, hlr, List.getElem?_map, hx, hlv, hva, hvb, a0, a1, b0, b1, aN1, bN1, Nat.mul_one, hcl2, hn, hic, g5, g6]
              refine hR _ ?_
              try simp only [go_sem, hft, hlr, List.getElem?_map, hx, hlv, hva, hvb, a0, a1, b0, b1, aN1, bN1, Nat.mul_one, hcl2, hn, hic]
              all_goals
                first | rfl | (simp [*]; done) | (simp [*]; omega)
          · try simp only [Bool.not_eq_true', Bool.not_eq_false'] at g5
            have n5 := g5; try simp only [nrm] at n5
            simp only [go_sem, hft, hlr, List.getElem?_map, hx, hlv, hva, hvb, a0, a1, b0, b1, aN1, bN1, Nat.mul_one, hcl2, hn, hic, g5]
            refine hR _ ?_
            try simp only [go_sem, hft, hlr, List.getElem?_map, hx, hlv, hva, hvb, a0, a1, b0, b1, aN1, bN1, Nat.mul_one, hcl2, hn, hic]
            all_goals
              first | rfl | (simp [*]; done) | (simp [*]; omega)
      · -- c3 false
        try simp only [nrm] at c3
        have hdrop : t.streets.drop i = [] := List.drop_eq_nil_of_le (by omega)
        rw [hdrop] at hinv2
        simp only [lvl] at hinv2
        refine W_exit ?_
        simp only [go_sem, hft, hlr]
        refine kq13 _ _ ?_
        refine W_region [1, 3, 7, 9] fun R hR => ?_   -- r9
        simp only [go_sem, hft, hlr]
        try simp (disch := omega) only [wrapI, wrapU]
        refine hR _ _ ?_; clear hR R
        try simp only [go_sem, hft, hlr]
        refine ⟨(n + 1, cur), ?_, by (try simp only []); omega, ?_⟩
        · first | exact Weak.refl | exact Weak.eq (by first | rfl | (simp only [go_sem]; done) | (simp only [go_sem]; rfl) | (simp [go_sem]; done) | (simp [go_sem]; omega)) (by first | rfl | (simp only [go_sem]; done) | (simp [go_sem]; done))
        · try dsimp only
          refine ⟨by omega, hcl2, ?_⟩
          rw [hinv, hinv2]
    · -- c2 false
      try simp only [nrm] at c2
      rw [show t.rooms.length - n = 0 by omega] at hinv
      simp only [lvls] at hinv
      refine W_exit ?_
      simp only [go_sem, hft, hlr]
      refine kq9 _ _ ?_
      refine W_seq fun kz23 kq23 => ?_
      refine W_weak (Weak.freezeI (t := 7) (j := 1) (xs := out) (by rw [hol]; rfl) rfl) ?_
      refine W_weak (Weak.keep [7]) ?_
      simp only [go_sem]
      refine W_region [6] fun R hR => ?_   -- r18
      simp only [go_sem, hft, hlr]
      refine hR _ _ (kq23 _ _ ?_); clear hR R; try clear kq23 kz23
      try simp only [go_sem, hft, hlr]
      refine W_ret ?_
      simp only [go_sem, hft, hlr]
      refine ⟨.inr (by trivial), ?_⟩
      first | refine Fin_same hcl rfl (Wk_eq ?_ (by simp only [go_sem])) | refine Fin_self hcl rfl (Wk_eq ?_ (by simp only [go_sem]))
      try simp only [go_sem]
      all_goals
        rw [hinv]
end Go.Proofs.Ytnpamcpoaklgeaa
namespace Go.Proofs.Ytnpamcpoaklgeaa
theorem stF_get : ∀ (cl l : List Int) (i : Nat), i < l.length → (∀ x, x ∈ cl → 0 ≤ x) → (stF cl l)[i]? = if has cl i then some 2 else l[i]? := by
  intro cl
  induction cl with
  | nil => intro l i _ _; rfl
  | cons c cl ih =>
    intro l i hi hc
    rw [stF_cons, ih _ i (by simpa using hi) (fun x hx => hc x (by simp [hx])), has_cons]
    have hc0 := hc c (by simp)
    by_cases h : has cl i = true
    · rw [if_pos h, h]; simp
    · simp only [Bool.not_eq_true] at h
      rw [h]
      simp only [Bool.or_false, Bool.false_eq_true, if_false]
      by_cases e : c = (i : Int)
      · rw [if_pos (by simpa using e)]
        subst e
        simp [hi]
      · rw [if_neg (by simpa using e), List.getElem?_set_ne (by omega)]
theorem stOf_get {n i : Nat} {cl : List Int} (hi : i < n) (hc : ∀ x, x ∈ cl → 0 ≤ x) : (stOf n cl)[i]? = some (if has cl i then 2 else 1) := by
  rw [stOf, stF_get cl _ i (by simpa using hi) hc]
  split
  · rfl
  · simp [hi]
theorem stOf_open {n i : Nat} {cl : List Int} (hi : i < n) (hc : ∀ x, x ∈ cl → 0 ≤ x) : decide ((stOf n cl)[i]? = some 1) = !(has cl i) := by
  rw [stOf_get hi hc]
  cases has cl i <;> simp
section
variable {t : Town} {cl : List Int} {to' : Int}
/-- In the round n. -/
def MI (t : Town) (cl : List Int) (to' : Int) (m n : Nat) (out : List Int) : Prop :=
  out.length = t.rooms.length ∧ ∀ (v : Nat) (x : Int), out[v]? = some x → (0 ≤ x → Dist (nbT t cl) to' v x.toNat ∧ x ≤ m) ∧ ∀ k : Nat, k ≤ n → Dist (nbT t cl) to' v k → x = k
theorem MI.stepA {n a b : Nat} {o : Bool} {out : List Int} (h : MI t cl to' (n + 1) n out) (hadj : o = true → (a : Int) ∈ nbT t cl b) (ha : a < t.rooms.length) (hb : b < t.rooms.length) :
    MI t cl to' (n + 1) n (stepA n o a b out) ∧ (o = true → (stepA n o a b out)[a]? = some (n : Int) → ∀ y, (stepA n o a b out)[b]? = some y → 0 ≤ y) ∧
    (∀ (v : Nat) (x : Int), out[v]? = some x → 0 ≤ x → (stepA n o a b out)[v]? = some x) ∧ ∀ v : Nat, (stepA n o a b out)[v]? = some (n : Int) → out[v]? = some (n : Int) := by
  obtain ⟨hl, hm⟩ := h
  obtain ⟨xb, hxb⟩ : ∃ x, out[b]? = some x := ⟨out[b]'(by omega), by simp⟩
  by_cases hc : o = true ∧ out[a]? = some (n : Int) ∧ (out[b]?).getD 0 < 0
  · obtain ⟨h1, h2, h3⟩ := hc
    have e : Go.Proofs.Ytnpamcpoaklgeaa.stepA (n : Int) o a b out = out.set b ((n : Int) + 1) := by rw [Go.Proofs.Ytnpamcpoaklgeaa.stepA, if_pos ⟨h1, h2, h3⟩]
    rw [e]
    rw [hxb] at h3
    simp only [Option.getD_some] at h3
    have hbl : b < out.length := by omega
    have hda := ((hm a n h2).1 (by omega)).1
    simp only [Int.toNat_natCast] at hda
    have hdb : Dist (nbT t cl) to' b (n + 1) := by
      refine ⟨⟨a, hadj h1, hda.1⟩, fun j hj => Nat.le_of_not_lt fun hlt => ?_⟩
      obtain ⟨i, hi, hd⟩ := hj.dist
      have := (hm b xb hxb).2 i (by omega) hd
      omega
    refine ⟨⟨by simpa using hl, fun v x hx => ?_⟩, fun _ _ y hy => ?_, fun v x hx h0 => ?_, fun v hv => ?_⟩
    · by_cases hv : b = v
      · subst hv
        rw [List.getElem?_set_self hbl] at hx
        injection hx with hx
        subst hx
        refine ⟨fun _ => ⟨?_, by omega⟩, fun k hk hd => ?_⟩
        · rw [show ((n : Int) + 1).toNat = n + 1 by omega]; exact hdb
        · have := hd.uniq hdb; omega
      · rw [List.getElem?_set_ne hv] at hx
        exact hm v x hx
    · rw [List.getElem?_set_self hbl] at hy
      injection hy with hy
      omega
    · by_cases hv : b = v
      · subst hv
        rw [hxb] at hx
        injection hx with hx
        omega
      · rw [List.getElem?_set_ne hv]; exact hx
    · by_cases hv' : b = v
      · subst hv'
        rw [List.getElem?_set_self hbl] at hv
        injection hv with hv
        omega
      · rw [List.getElem?_set_ne hv'] at hv; exact hv
  · have e : Go.Proofs.Ytnpamcpoaklgeaa.stepA (n : Int) o a b out = out := by rw [Go.Proofs.Ytnpamcpoaklgeaa.stepA, if_neg hc]
    rw [e]
    refine ⟨⟨hl, hm⟩, fun ho ha2 y hy => ?_, fun v x hx _ => hx, fun v hv => hv⟩
    refine Int.not_lt.1 fun hlt => hc ⟨ho, ha2, ?_⟩
    rw [hy]
    exact hlt
theorem street_adj {s : Int × Int} {k : Nat} (hv : ValidSt t) (hs : t.streets[k]? = some s) (ho : has cl k = false) : s.2 ∈ nbT t cl s.1 ∧ s.1 ∈ nbT t cl s.2 := by
  obtain ⟨a, b, c, d⟩ := hv s (List.mem_of_getElem? hs)
  constructor
  · exact nbs_mem.2 ⟨k, s, hs, by simp [other], c, by simpa using ho⟩
  · refine nbs_mem.2 ⟨k, s, hs, ?_, a, by simpa using ho⟩
    unfold other
    split
    · rename_i e; exact e.symm
    · rw [if_pos rfl]
theorem lvl_ok (hv : ValidSt t) (hc : ∀ x, x ∈ cl → 0 ≤ x) (n : Nat) : ∀ (r : List (Int × Int)) (i : Nat) (out : List Int), (∀ k : Nat, r[k]? = t.streets[i + k]?) → MI t cl to' (n + 1) n out →
    MI t cl to' (n + 1) n (lvl n (stOf t.streets.length cl) r i out) ∧ (∀ (v : Nat) (x : Int), out[v]? = some x → 0 ≤ x → (lvl n (stOf t.streets.length cl) r i out)[v]? = some x) ∧
    (∀ v : Nat, (lvl n (stOf t.streets.length cl) r i out)[v]? = some (n : Int) → out[v]? = some (n : Int)) ∧
    ∀ (k : Nat) (s : Int × Int), i ≤ k → t.streets[k]? = some s → has cl k = false →
      ((lvl n (stOf t.streets.length cl) r i out)[s.1.toNat]? = some (n : Int) → ∀ y, (lvl n (stOf t.streets.length cl) r i out)[s.2.toNat]? = some y → 0 ≤ y) ∧
      ((lvl n (stOf t.streets.length cl) r i out)[s.2.toNat]? = some (n : Int) → ∀ y, (lvl n (stOf t.streets.length cl) r i out)[s.1.toNat]? = some y → 0 ≤ y) := by
  intro r
  induction r with
  | nil =>
    intro i out hr h
    refine ⟨h, fun v x hx _ => hx, fun v hv => hv, fun k s hk hs _ => ?_⟩
    have := hr (k - i)
    rw [show i + (k - i) = k by omega, hs] at this
    simp at this
  | cons s r ih =>
    intro i out hr h
    have hs : t.streets[i]? = some s := by have := hr 0; simpa using this.symm
    have hi : i < t.streets.length := (List.getElem?_eq_some_iff.1 hs).1
    obtain ⟨a0, a1, b0, b1⟩ := hv s (List.mem_of_getElem? hs)
    have eop := stOf_open hi hc
    simp only [lvl, stepS]
    rw [eop]
    have n1 : s.1.toNat < t.rooms.length := by omega
    have n2 : s.2.toNat < t.rooms.length := by omega
    have c1 : ((s.1.toNat : Nat) : Int) = s.1 := by omega
    have c2 : ((s.2.toNat : Nat) : Int) = s.2 := by omega
    have adj : (!(has cl i)) = true → s.2 ∈ nbT t cl s.1 ∧ s.1 ∈ nbT t cl s.2 := fun ho => street_adj hv hs (by simpa using ho)
    obtain ⟨g1, g2, g3, g4⟩ := h.stepA (a := s.1.toNat) (b := s.2.toNat) (o := !(has cl i)) (fun ho => by rw [c1, c2]; exact (adj ho).2) n1 n2
    obtain ⟨f1, f2, f3, f4⟩ := g1.stepA (a := s.2.toNat) (b := s.1.toNat) (o := !(has cl i)) (fun ho => by rw [c1, c2]; exact (adj ho).1) n2 n1
    obtain ⟨h1, h2, h3, h4⟩ := ih (i + 1) _ (fun k => by have := hr (k + 1); simp only [List.getElem?_cons_succ] at this; rw [this]; congr 1; omega) f1
    refine ⟨h1, fun v x hx h0 => h2 v x (f3 v x (g3 v x hx h0) h0) h0, fun v hv => g4 v (f4 v (h3 v hv)), fun k s' hk hs' ho => ?_⟩
    by_cases he : k = i
    · subst he
      rw [hs] at hs'
      injection hs' with hs'
      subst hs'
      have hop : (!(has cl k)) = true := by simp [ho]
      -- what is not below zero stays
      have keep : ∀ (b : Nat), b < t.rooms.length → ∀ (o1 : List Int), o1.length = t.rooms.length → (∀ y, o1[b]? = some y → 0 ≤ y) → (∀ (v : Nat) (x : Int), o1[v]? = some x → 0 ≤ x → (lvl n (stOf t.streets.length cl) r (k + 1) (stepA n (!(has cl k)) s.2.toNat s.1.toNat (stepA n (!(has cl k)) s.1.toNat s.2.toNat out)))[v]? = some x) →
          ∀ y, (lvl n (stOf t.streets.length cl) r (k + 1) (stepA n (!(has cl k)) s.2.toNat s.1.toNat (stepA n (!(has cl k)) s.1.toNat s.2.toNat out)))[b]? = some y → 0 ≤ y := by
        intro b hb o1 hl1 hy hmono y hyy
        obtain ⟨z, hz⟩ : ∃ z, o1[b]? = some z := ⟨o1[b]'(by omega), by simp⟩
        have := hmono b z hz (hy z hz)
        rw [hyy] at this
        injection this with this
        rw [this]
        exact hy z hz
      constructor
      · intro hn
        refine keep _ n2 _ g1.1 (fun y hy => g2 hop (f4 _ (h3 _ hn)) y hy) (fun v x hx h0 => h2 v x (f3 v x hx h0) h0)
      · intro hn
        exact keep _ n1 _ f1.1 (fun y hy => f2 hop (h3 _ hn) y hy) (fun v x hx h0 => h2 v x hx h0)
    · exact h4 k s' (by omega) hs' ho
theorem lvl_up (hv : ValidSt t) (hc : ∀ x, x ∈ cl → 0 ≤ x) {n : Nat} {out : List Int} (h : MI t cl to' n n out) : MI t cl to' (n + 1) (n + 1) (lvl n (stOf t.streets.length cl) t.streets 0 out) := by
  have h0 : MI t cl to' (n + 1) n out := ⟨h.1, fun v x hx => ⟨fun h0 => ⟨((h.2 v x hx).1 h0).1, by have := ((h.2 v x hx).1 h0).2; omega⟩, (h.2 v x hx).2⟩⟩
  obtain ⟨g1, g2, g3, g4⟩ := lvl_ok hv hc n t.streets 0 out (fun k => by simp) h0
  refine ⟨g1.1, fun v x hx => ⟨(g1.2 v x hx).1, fun k hk hd => ?_⟩⟩
  by_cases hkn : k ≤ n
  · exact (g1.2 v x hx).2 k hkn hd
  · have hk1 : k = n + 1 := by omega
    subst hk1
    obtain ⟨u, hu, hr⟩ := hd.1
    have hun := nbT_bd hv _ _ hu
    have hdu : Dist (nbT t cl) to' u n := ⟨hr, fun j hj => by have := hd.2 (j + 1) ⟨u, hu, hj⟩; omega⟩
    have hcu : ((u.toNat : Nat) : Int) = u := by omega
    obtain ⟨z, hz⟩ : ∃ z, (lvl n (stOf t.streets.length cl) t.streets 0 out)[u.toNat]? = some z := ⟨(lvl n (stOf t.streets.length cl) t.streets 0 out)[u.toNat]'(by rw [g1.1]; omega), by simp⟩
    have hzn : z = (n : Int) := (g1.2 _ z hz).2 n (Nat.le_refl _) (by rw [hcu]; exact hdu)
    subst hzn
    obtain ⟨k, s, q1, q2, q3, q4⟩ := nbs_mem.1 hu
    have q4' : has cl k = false := by simpa using q4
    obtain ⟨a0, a1, b0, b1⟩ := hv s (List.mem_of_getElem? q1)
    have hnn : 0 ≤ x := by
      have hor : (u = s.2 ∧ (v : Int) = s.1) ∨ (u = s.1 ∧ (v : Int) = s.2) := by
        unfold other at q2
        split at q2
        · rename_i e; exact .inl ⟨q2, e⟩
        · split at q2
          · rename_i e; exact .inr ⟨q2, e⟩
          · omega
      rcases hor with ⟨e1, e2⟩ | ⟨e1, e2⟩
      · refine (g4 k s (Nat.zero_le _) q1 q4').2 (by rw [← e1]; exact hz) x ?_
        rw [← e2, Int.toNat_natCast]; exact hx
      · refine (g4 k s (Nat.zero_le _) q1 q4').1 (by rw [← e1]; exact hz) x ?_
        rw [← e2, Int.toNat_natCast]; exact hx
    have := ((g1.2 v x hx).1 hnn).1.uniq hd
    omega
theorem lvls_ok (hv : ValidSt t) (hc : ∀ x, x ∈ cl → 0 ≤ x) : ∀ (k n : Nat) (out : List Int), MI t cl to' n n out → MI t cl to' (n + k) (n + k) (lvls (stOf t.streets.length cl) t.streets k n out) := by
  intro k
  induction k with
  | zero => intro n out h; exact h
  | succ k ih =>
    intro n out h
    simp only [lvls]
    have := ih (n + 1) _ (lvl_up hv hc h)
    rw [show n + (k + 1) = n + 1 + k by omega]
    exact this
/-- Where a square is at a distance, it is less than the number of squares. -/
theorem dist_lt (hv : ValidSt t) (h0 : 0 ≤ to') (h1 : to' < t.rooms.length) {v : Int} (hv0 : 0 ≤ v) (hv1 : v < t.rooms.length) {k : Nat} (hd : Dist (nbT t cl) to' v k) : k < t.rooms.length := by
  have hf := wayFar_ok (cl := cl) hv (from' := v) h0 h1
  obtain ⟨D, hD⟩ := Option.isSome_iff_exists.1 (hf.met.2 ⟨k, hd.1⟩)
  have hdd := (hf.dist _ _ hD).2.uniq hd
  -- the squares at 0, 1, .. k steps are different
  have path : ∀ j : Nat, j ≤ k → ∃ u : Int, 0 ≤ u ∧ u < t.rooms.length ∧ Dist (nbT t cl) to' u j := by
    intro j hj
    obtain ⟨i, hi⟩ : ∃ i, i + j = k := ⟨k - j, by omega⟩
    clear hj
    induction i generalizing j with
    | zero => exact ⟨v, hv0, hv1, by rw [← hi, Nat.zero_add] at hd; exact hd⟩
    | succ i ih =>
      obtain ⟨u, u0, u1, hu⟩ := ih (j + 1) (by omega)
      obtain ⟨z, hz, hr⟩ := hu.1
      have := nbT_bd hv _ _ hz
      exact ⟨z, this.1, this.2, hr, fun m hm => by have := hu.2 (m + 1) ⟨z, hz, hm⟩; omega⟩
  have all : ∃ l : List Int, l.length = k + 1 ∧ l.Nodup ∧ ∀ x, x ∈ l → 0 ≤ x ∧ x < t.rooms.length := by
    have gen : ∀ m : Nat, m ≤ k + 1 → ∃ l : List Int, l.length = m ∧ l.Nodup ∧ ∀ x, x ∈ l → (0 ≤ x ∧ x < t.rooms.length) ∧ ∃ j, j < m ∧ Dist (nbT t cl) to' x j := by
      intro m
      induction m with
      | zero => intro _; exact ⟨[], rfl, List.nodup_nil, fun x hx => by cases hx⟩
      | succ m ih =>
        intro hm
        obtain ⟨l, l1, l2, l3⟩ := ih (by omega)
        obtain ⟨u, u0, u1, hu⟩ := path m (by omega)
        refine ⟨u :: l, by simp [l1], List.nodup_cons.2 ⟨fun hin => ?_, l2⟩, fun x hx => ?_⟩
        · obtain ⟨_, j, hj, hdj⟩ := l3 u hin
          have := hdj.uniq hu
          omega
        · rcases List.mem_cons.1 hx with rfl | hx
          · exact ⟨⟨u0, u1⟩, m, by omega, hu⟩
          · obtain ⟨a, j, hj, hdj⟩ := l3 x hx
            exact ⟨a, j, by omega, hdj⟩
    obtain ⟨l, l1, l2, l3⟩ := gen (k + 1) (Nat.le_refl _)
    exact ⟨l, l1, l2, fun x hx => (l3 x hx).1⟩
  obtain ⟨l, l1, l2, l3⟩ := all
  have := nodup_len t.rooms.length l l2 l3
  omega
theorem stepsOf_ok (hv : ValidSt t) (hc : ∀ x, x ∈ cl → 0 ≤ x) (h0 : 0 ≤ to') (h1 : to' < t.rooms.length) {v x : Int} (hv0 : 0 ≤ v) (hx : (stepsOf (stOf t.streets.length cl) t to')[v.toNat]? = some x) :
    (0 ≤ x → Dist (nbT t cl) to' v x.toNat) ∧ ∀ k : Nat, Dist (nbT t cl) to' v k → x = k := by
  have hst : MI t cl to' 0 0 ((List.replicate t.rooms.length (-1 : Int)).set to'.toNat 0) := by
    refine ⟨by simp, fun v x hx => ?_⟩
    by_cases e : to'.toNat = v
    · subst e
      rw [List.getElem?_set_self (by simp; omega)] at hx
      injection hx with hx
      subst hx
      have hct : ((to'.toNat : Nat) : Int) = to' := by omega
      refine ⟨fun _ => ⟨by rw [hct]; exact ⟨rfl, fun j _ => Nat.zero_le _⟩, by omega⟩, fun k hk _ => by omega⟩
    · rw [List.getElem?_set_ne e] at hx
      have : x = -1 := by
        rw [List.getElem?_replicate] at hx
        split at hx
        · injection hx with hx; exact hx.symm
        · cases hx
      subst this
      refine ⟨fun h => by omega, fun k hk hd => ?_⟩
      have hk0 : k = 0 := by omega
      subst hk0
      have := hd.1
      simp only [Reach] at this
      omega
  have hl := lvls_ok hv hc t.rooms.length 0 _ hst
  simp only [Nat.zero_add] at hl
  have hcv : ((v.toNat : Nat) : Int) = v := by omega
  have hvl : v.toNat < t.rooms.length := by
    have := (List.getElem?_eq_some_iff.1 hx).1
    rwa [stepsOf_len] at this
  have hm := hl.2 v.toNat x hx
  rw [hcv] at hm
  refine ⟨fun h => (hm.1 h).1, fun k hd => hm.2 k ?_ hd⟩
  have := dist_lt hv h0 h1 hv0 (by omega) hd
  omega
end
end Go.Proofs.Ytnpamcpoaklgeaa
namespace Go.Proofs.Ytnpamcpoaklgeaa
def bmG (c : Int → Bool) : List Int → Int → Int
  | [], b => b
  | o :: os, b => bmG c os (bmin (c o) b o)
theorem bmins_G (far : List (Int × Int)) (at' : Int) : ∀ (os : List Int) (b : Int), bmins far at' os b = bmG (nearer far at') os b := by
  intro os
  induction os with
  | nil => intro b; rfl
  | cons o os ih => intro b; simp only [bmins, bmG, ih]
theorem bmG_congr {c c' : Int → Bool} : ∀ {os : List Int} {b : Int}, (∀ o, o ∈ os → c o = c' o) → bmG c os b = bmG c' os b := by
  intro os
  induction os with
  | nil => intro b _; rfl
  | cons o os ih =>
    intro b h
    simp only [bmG, h o (by simp)]
    exact ih fun x hx => h x (by simp [hx])
def nearR (farL : List Int) (at' o : Int) : Bool := decide ((farL[o.toNat]?).getD 0 = (farL[at'.toNat]?).getD 0 - 1)
def backsR (farL : List Int) (nb : Int → List Int) (n : Int) (to' : Int) : Nat → Int → List Int → List Int
  | 0, _, acc => acc
  | k + 1, at', acc => if at' = to' then acc else backsR farL nb n to' k (bmG (nearR farL at') (nb at') n) (acc ++ [bmG (nearR farL at') (nb at') n])
section
variable {t : Town} {cl : List Int} {from' to' : Int}
theorem near_same (hv : ValidSt t) (hc : ∀ x, x ∈ cl → 0 ≤ x) (h0 : 0 ≤ to') (h1 : to' < t.rooms.length) {D d at' : Int} (hD : aget from' (wayFar t cl from' to') = some D) (ha : aget at' (wayFar t cl from' to') = some d) (hd : d ≤ D) (hne : at' ≠ to')
    (ha0 : 0 ≤ at') (ha1 : at' < t.rooms.length) : ∀ o, o ∈ nbT t cl at' → nearR (stepsOf (stOf t.streets.length cl) t to') at' o = nearer (wayFar t cl from' to') at' o := by
  intro o ho
  have hf := wayFar_ok (cl := cl) hv (from' := from') h0 h1
  have hb := back_ok hf (nbT_bd hv) hD ha hd hne
  obtain ⟨d0, dd⟩ := hf.dist _ _ ha
  obtain ⟨o0, o1⟩ := nbT_bd hv _ _ ho
  have hl := stepsOf_len (stOf t.streets.length cl) t to'
  obtain ⟨xa, hxa⟩ : ∃ x, (stepsOf (stOf t.streets.length cl) t to')[at'.toNat]? = some x := ⟨(stepsOf (stOf t.streets.length cl) t to')[at'.toNat]'(by omega), by simp⟩
  obtain ⟨xo, hxo⟩ : ∃ x, (stepsOf (stOf t.streets.length cl) t to')[o.toNat]? = some x := ⟨(stepsOf (stOf t.streets.length cl) t to')[o.toNat]'(by omega), by simp⟩
  have hxa2 := (stepsOf_ok hv hc h0 h1 ha0 hxa).2 _ dd
  have hxo2 := stepsOf_ok hv hc h0 h1 o0 hxo
  rw [Bool.eq_iff_iff, nearer_iff ha]
  simp only [nearR, hxa, hxo, Option.getD_some, decide_eq_true_eq]
  constructor
  · intro h
    have hx0 : 0 ≤ xo := by omega
    obtain ⟨k, hk⟩ := hf.all D hD _ _ (hxo2.1 hx0).1 (by omega)
    obtain ⟨k0, dk⟩ := hf.dist _ _ hk
    have := dk.uniq (hxo2.1 hx0)
    rw [hk]
    congr 1
    omega
  · intro h
    have := hxo2.2 _ (hf.dist _ _ h).2
    omega
theorem backs_same (hv : ValidSt t) (hc : ∀ x, x ∈ cl → 0 ≤ x) (h0 : 0 ≤ to') (h1 : to' < t.rooms.length) {D : Int} (hD : aget from' (wayFar t cl from' to') = some D) : ∀ (k : Nat) (at' d : Int) (acc : List Int), aget at' (wayFar t cl from' to') = some d → d ≤ D → 0 ≤ at' → at' < t.rooms.length →
    backsR (stepsOf (stOf t.streets.length cl) t to') (nbT t cl) t.rooms.length to' k at' acc = backs (wayFar t cl from' to') (nbT t cl) t.rooms.length to' k at' acc := by
  intro k
  induction k with
  | zero => intro at' d acc _ _ _ _; rfl
  | succ k ih =>
    intro at' d acc ha hd ha0 ha1
    simp only [backsR, backs]
    by_cases hne : at' = to'
    · rw [if_pos hne, if_pos hne]
    · rw [if_neg hne, if_neg hne]
      have hf := wayFar_ok (cl := cl) hv (from' := from') h0 h1
      obtain ⟨b1, b2, b3, _⟩ := back_ok hf (nbT_bd hv) hD ha hd hne
      have hbd := nbT_bd hv _ _ b3
      rw [bmG_congr (near_same hv hc h0 h1 hD ha hd hne ha0 ha1), ← bmins_G]
      exact ih _ (d - 1) _ b2 (by omega) hbd.1 hbd.2
theorem from_met (hv : ValidSt t) (hc : ∀ x, x ∈ cl → 0 ≤ x) (h0 : 0 ≤ to') (h1 : to' < t.rooms.length) (f0 : 0 ≤ from') (f1 : from' < t.rooms.length) {x : Int} (hx : (stepsOf (stOf t.streets.length cl) t to')[from'.toNat]? = some x) :
    (aget from' (wayFar t cl from' to')).isSome = !(decide (x < 0)) ∧ (0 ≤ x → aget from' (wayFar t cl from' to') = some x) := by
  have hf := wayFar_ok (cl := cl) hv (from' := from') h0 h1
  have hs := stepsOf_ok hv hc h0 h1 f0 hx
  have hmet : 0 ≤ x → aget from' (wayFar t cl from' to') = some x := by
    intro h
    obtain ⟨D, hD⟩ := Option.isSome_iff_exists.1 (hf.met.2 ⟨_, (hs.1 h).1⟩)
    obtain ⟨d0, dd⟩ := hf.dist _ _ hD
    have := dd.uniq (hs.1 h)
    rw [hD]
    congr 1
    omega
  refine ⟨?_, hmet⟩
  by_cases h : 0 ≤ x
  · rw [hmet h]; simp; omega
  · have hn : (aget from' (wayFar t cl from' to')).isSome = false := by
      rw [Bool.eq_false_iff]
      intro hh
      obtain ⟨k, hk⟩ := hf.met.1 hh
      obtain ⟨j, _, hj⟩ := hk.dist
      have := hs.2 j hj
      omega
    rw [hn]
    simp
    omega
end
end Go.Proofs.Ytnpamcpoaklgeaa
namespace Go.Proofs.Ytnpamcpoaklgeaa
open Go Go.RowKit
set_option maxRecDepth 100000
theorem bmG_yes {c : Int → Bool} {o b : Int} {os : List Int} (h : c o = true) : bmG c (o :: os) b = bmG c os (min b o) := by simp [bmG, bmin, h]
theorem bmG_no {c : Int → Bool} {o b : Int} {os : List Int} (h : c o = false) : bmG c (o :: os) b = bmG c os b := by simp [bmG, bmin, h]
set_option maxHeartbeats 8000000 in
theorem rWay_pc (Y : YEnv) (σ : Sg) (t : Town) (cl : List Int) (from' to' : Int) (hs : t.streets.length < 2 ^ 40) (hc : cl.length < 2 ^ 40) (hN : t.rooms.length < 2 ^ 40) (hg : t.groups.length < 2 ^ 40) (hp : ∀ g, g ∈ t.groups → g.path.length < 2 ^ 40) (hv : chkTown t = 0 → ValidSt t) :
    PC Try.prog Y 86 [twPV t, ints cl, I from', I to'] σ (.tuple [ints (wayAns t cl from' to').1, I (wayAns t cl from' to').2]) (σ) := by
  refine PC_of_W Try.func86 rfl (by kernel_rfl) Try.ntmps86 (by simp) fun hcl hca => ?_
  obtain ⟨res, hres⟩ : ∃ r, wayAns t cl from' to' = r := ⟨_, rfl⟩
  rw [hres]
  refine W_seq fun kz1 kq1 => ?_
  refine W_region [1, 2, 3, 4] fun R hR => ?_   -- r0
  simp only [go_sem]
  refine hR _ _ (kq1 _ _ ?_); clear hR R; try clear kq1 kz1
  try simp only [go_sem]
  refine W_seq fun kz2 kq2 => ?_
  refine W_seq fun kz3 kq3 => ?_
  refine W_region [1, 2, 3, 4, 10] fun R hR => ?_   -- r1
  simp only [go_sem]
  refine GCall_of (rall_pc Y _ t cl .ro (by omega) (by omega) (by omega) (by omega) (fun g hg => by have := hp g hg; omega)) ?_   -- t20
  simp only [go_sem]
  refine hR _ _ (kq3 _ _ ?_); clear hR R; try clear kq3 kz3
  try simp only [go_sem]
  refine W_seq fun kz4 kq4 => ?_
  refine W_region [1, 2, 3, 4, 10, 22] fun R hR => ?_   -- r2
  simp only [go_sem]
  refine hR _ _ (kq4 _ _ ?_); clear hR R; try clear kq4 kz4
  try simp only [go_sem]
  refine W_cond rfl (fun c1 => ?_) (fun c1 => ?_)
  · -- c1 true
    try simp only [nrm] at c1
    refine W_seq fun kz5 kq5 => ?_
    refine W_region [8, 9] fun R hR => ?_   -- r3
    simp only [go_sem]
    refine hR _ _ (kq5 _ _ ?_); clear hR R; try clear kq5 kz5
    try simp only [go_sem]
    refine W_ret ?_
    simp only [go_sem]
    refine ⟨.inr (by trivial), ?_⟩
    refine Fin_same hcl rfl (Wk.ro (by simp only [go_sem]) ?_)
    try simp only [go_sem]
    all_goals
      rw [← hres]; simp only [wayAns]; rw [if_pos (by simpa using c1)]; rfl
  · -- c1 false
    try simp only [nrm] at c1
    have hck : closedAns t cl = 0 := by simpa using c1
    have hct : chkTown t = 0 := by
      unfold closedAns at hck
      by_cases h : chkTown t = 0
      · exact h
      · rw [if_pos h] at hck; exact hck
    have hv' : ValidSt t := hv hct
    have hcl0 : ∀ x, x ∈ cl → 0 ≤ x ∧ x < t.streets.length := by
      unfold closedAns at hck
      rw [if_neg (by simpa using hct)] at hck
      exact chkCl_ok hck
    refine W_skip (kq2 _ _ ?_)
    refine W_seq fun kz6 kq6 => ?_
    refine W_seq fun kz7 kq7 => ?_
    refine W_regionJ [1, 2, 3, 4, 39] [(39, (.bool (!(inR from' 0 ((t.rooms.length : Int) - 1) && inR to' 0 ((t.rooms.length : Int) - 1)))))] ?_ fun R hR => ?_   -- r4
    · refine kq7 _ _ ?_
      simp only [go_sem]
      refine W_cond rfl (fun c2 => ?_) (fun c2 => ?_)
      · -- c2 true
        try simp only [nrm] at c2
        refine W_seq fun kz8 kq8 => ?_
        refine W_region [8, 9] fun R hR => ?_   -- r5
        simp only [go_sem]
        refine hR _ _ (kq8 _ _ ?_); clear hR R; try clear kq8 kz8
        try simp only [go_sem]
        refine W_ret ?_
        simp only [go_sem]
        refine ⟨.inr (by trivial), ?_⟩
        refine Fin_same hcl rfl (Wk.ro (by simp only [go_sem]) ?_)
        try simp only [go_sem]
        all_goals
          rw [← hres]; simp only [wayAns]; rw [if_neg (by simpa using c1), if_pos (by rw [show allIn 0 ((t.rooms.length : Int) - 1) [from', to'] = (inR from' 0 ((t.rooms.length : Int) - 1) && inR to' 0 ((t.rooms.length : Int) - 1)) by simp [allIn]]; revert c2; cases inR from' 0 ((t.rooms.length : Int) - 1) <;> cases inR to' 0 ((t.rooms.length : Int) - 1) <;> simp)]; rfl
      · -- c2 false
        try simp only [nrm] at c2
        have hft : (inR from' 0 ((t.rooms.length : Int) - 1) && inR to' 0 ((t.rooms.length : Int) - 1)) = true := by simpa using c2
        have hft2 : (0 ≤ from' ∧ from' < t.rooms.length) ∧ (0 ≤ to' ∧ to' < t.rooms.length) := by simp [inR] at hft; omega
        obtain ⟨farL, hfarL⟩ : ∃ z, (stepsOf (stOf t.streets.length cl) t to') = z := ⟨_, rfl⟩
        have hfl : farL.length = t.rooms.length := by rw [← hfarL]; exact stepsOf_len _ _ _
        obtain ⟨xf, hxf⟩ : ∃ x, farL[from'.toNat]? = some x := ⟨farL[from'.toNat]'(by omega), by simp⟩
        have hmet := from_met (from' := from') hv' (fun x hx => (hcl0 x hx).1) hft2.2.1 hft2.2.2 hft2.1.1 hft2.1.2 (by rw [hfarL]; exact hxf)
        have hf0 := hft2.1.1
        refine W_skip (kq6 _ _ ?_)
        refine W_seq fun kz9 kq9 => ?_
        refine W_region [2, 3, 4, 11] fun R hR => ?_   -- r6
        simp only [go_sem, hfarL, hxf, hf0]
        refine GCall_of (rstates_pc Y _ t cl .ro (by omega) hs hcl0) ?_   -- t42
        simp only [go_sem, hfarL, hxf, hf0]
        refine hR _ _ (kq9 _ _ ?_); clear hR R; try clear kq9 kz9
        try simp only [go_sem, hfarL, hxf, hf0]
        refine W_seq fun kz10 kq10 => ?_
        refine W_region [2, 3, 4, 11, 12] fun R hR => ?_   -- r7
        simp only [go_sem, hfarL, hxf, hf0]
        refine GCall_of (rsteps_pc Y _ t (stOf t.streets.length cl) to' hs hN (stOf_len _ _) hft2.2.1 hft2.2.2 hv') ?_   -- t46
        simp only [go_sem, hfarL, hxf, hf0]
        refine hR _ _ (kq10 _ _ ?_); clear hR R; try clear kq10 kz10
        try simp only [go_sem, hfarL, hxf, hf0]
        refine W_seq fun kz11 kq11 => ?_
        refine W_seq fun kz12 kq12 => ?_
        refine W_region [2, 3, 4, 11, 12, 51] fun R hR => ?_   -- r8
        simp only [go_sem, hfarL, hxf, hf0]
        refine hR _ _ (kq12 _ _ ?_); clear hR R; try clear kq12 kz12
        try simp only [go_sem, hfarL, hxf, hf0]
        refine W_cond rfl (fun c3 => ?_) (fun c3 => ?_)
        · -- c3 true
          try simp only [nrm] at c3
          refine W_seq fun kz13 kq13 => ?_
          refine W_region [8, 9] fun R hR => ?_   -- r9
          simp only [go_sem, hfarL, hxf, hf0]
          refine hR _ _ (kq13 _ _ ?_); clear hR R; try clear kq13 kz13
          try simp only [go_sem, hfarL, hxf, hf0]
          refine W_ret ?_
          simp only [go_sem, hfarL, hxf, hf0]
          refine ⟨.inr (by trivial), ?_⟩
          refine Fin_same hcl rfl (Wk.ro (by simp only [go_sem]) ?_)
          try simp only [go_sem]
          all_goals
            rw [← hres]; simp only [wayAns]; rw [if_neg (by simpa using c1), if_neg (by simpa [allIn] using c2), hmet.1, if_neg (by simp; omega)]; rfl
        · -- c3 false
          try simp only [nrm] at c3
          have hx0 : 0 ≤ xf := by omega
          have hD := hmet.2 hx0
          have hok := wayFar_ok (cl := cl) hv' (from' := from') hft2.2.1 hft2.2.2
          have hdl := dist_lt hv' hft2.2.1 hft2.2.2 hft2.1.1 hft2.1.2 (hok.dist _ _ hD).2
          refine W_skip (kq11 _ _ ?_)
          refine W_seq fun kz14 kq14 => ?_
          refine W_region [2, 3, 4, 11, 12, 13] fun R hR => ?_   -- r10
          simp only [go_sem, hfarL, hxf, hf0]
          refine hR _ _ (kq14 _ _ ?_); clear hR R; try clear kq14 kz14
          try simp only [go_sem, hfarL, hxf, hf0]
          refine W_seq fun kz15 kq15 => ?_
          refine W_seq fun kz16 kq16 => ?_
          refine W_region [3, 4, 11, 12, 13, 14] fun R hR => ?_   -- r11
          simp only [go_sem, hfarL, hxf, hf0]
          refine hR _ _ (kq16 _ _ ?_); clear hR R; try clear kq16 kz16
          try simp only [go_sem, hfarL, hxf, hf0]
          refine W_block ?_
          refine W_weak (Weak.room (t := 13) (es := 1) rfl (by simp)) ?_
          refine W_weak (Weak.keep [3, 4, 11, 12, 13, 14]) ?_
          simp only [go_sem, hfarL, hxf, hf0]
          refine W_loopT (α := Nat × Int × (List Int)) (fun ⟨k, at', acc⟩ => [(13, .isl (acc.map I) (.tok σ.rooms.length acc.length 1)), (14, I at')]) (fun ⟨k, at', acc⟩ => σ.ext [some (twCells t)] [acc.length]) (fun ⟨k, at', acc⟩ => backsR farL (nbT t cl) t.rooms.length to' (t.rooms.length + 1) from' [from'] = backsR farL (nbT t cl) t.rooms.length to' k at' acc ∧ acc.length + k = t.rooms.length + 2 ∧ (0 ≤ at' ∧ at' < t.rooms.length) ∧ ∃ d, aget at' (wayFar t cl from' to') = some d ∧ d < k ∧ d ≤ xf) (fun ⟨k, at', acc⟩ => k) ((t.rooms.length + 1, from', [from'])) rfl (by first | rfl | (simp only [go_sem]; done) | (simp only [go_sem]; rfl)) (⟨rfl, by simp; omega, hft2.1, xf, hD, by omega, Int.le_refl _⟩) ?_
          rintro ⟨k, at', acc⟩ ⟨hinv2, hal, hat0, d, hd1, hd2, hd3⟩
          refine W_seq fun kz17 kq17 => ?_
          refine W_seq fun kz18 kq18 => ?_
          refine W_region [3, 4, 11, 12, 13, 14, 57] fun R hR => ?_   -- r12
          simp only [go_sem, hfarL, hxf, hf0]
          refine hR _ _ (kq18 _ _ ?_); clear hR R; try clear kq18 kz18
          try simp only [go_sem, hfarL, hxf, hf0]
          refine W_cond rfl (fun c4 => ?_) (fun c4 => ?_)
          · -- c4 true
            try simp only [nrm] at c4
            obtain ⟨b1, b2, b3, b4⟩ := back_ok hok (nbT_bd hv') hD hd1 hd3 c4
            have hns := near_same hv' (fun x hx => (hcl0 x hx).1) hft2.2.1 hft2.2.2 hD hd1 hd3 c4 hat0.1 hat0.2
            rw [hfarL] at hns
            have hbb : bmins (wayFar t cl from' to') at' (nbT t cl at') t.rooms.length = bmG (nearR farL at') (nbT t cl at') t.rooms.length := by rw [bmG_congr hns, ← bmins_G]
            rw [hbb] at b2 b3
            obtain ⟨k, rfl⟩ : ∃ j, k = j + 1 := ⟨k - 1, by omega⟩
            simp only [backsR] at hinv2
            rw [if_neg c4] at hinv2
            have hbd := nbT_bd hv' _ _ b3
            obtain ⟨xa, hxa⟩ : ∃ x, farL[at'.toNat]? = some x := ⟨farL[at'.toNat]'(by omega), by simp⟩
            have hat1 := hat0.1
            have hxa1 : xa = d := by have := (stepsOf_ok hv' (fun x hx => (hcl0 x hx).1) hft2.2.1 hft2.2.2 hat1 (by rw [hfarL]; exact hxa)).2 _ (hok.dist _ _ hd1).2; omega
            have hwx : IntKind.i64.wrap (xa - 1) = xa - 1 := wrapI (by omega) (by omega)
            refine W_skip (kq17 _ _ ?_)
            refine W_block ?_
            refine W_seq fun kz19 kq19 => ?_
            refine W_region [3, 4, 11, 12, 13, 14, 15] fun R hR => ?_   -- r13
            simp only [go_sem, hfarL, hxf, hf0, hxa, hat1, hwx, List.getElem?_map]
            refine hR _ _ (kq19 _ _ ?_); clear hR R; try clear kq19 kz19
            try simp only [go_sem, hfarL, hxf, hf0, hxa, hat1, hwx, List.getElem?_map]
            refine W_seq fun kz20 kq20 => ?_
            refine W_seq fun kz21 kq21 => ?_
            refine W_region [3, 4, 11, 12, 13, 14, 15, 16] fun R hR => ?_   -- r14
            simp only [go_sem, hfarL, hxf, hf0, hxa, hat1, hwx, List.getElem?_map]
            refine hR _ _ (kq21 _ _ ?_); clear hR R; try clear kq21 kz21
            try simp only [go_sem, hfarL, hxf, hf0, hxa, hat1, hwx, List.getElem?_map]
            refine W_block ?_
            refine W_loopT (α := Nat × Int) (fun ⟨i, b⟩ => [(15, I b), (16, I i)]) (fun ⟨i, b⟩ => σ.ext [some (twCells t)] [acc.length]) (fun ⟨i, b⟩ => i ≤ t.streets.length ∧ bmG (nearR farL at') (nbs cl at' t.streets 0) t.rooms.length = bmG (nearR farL at') (nbs cl at' (t.streets.drop i) i) b) (fun ⟨i, b⟩ => t.streets.length - i) ((0, (t.rooms.length : Int))) rfl (by first | rfl | (simp only [go_sem]; done) | (simp only [go_sem]; rfl)) (⟨Nat.zero_le _, rfl⟩) ?_
            rintro ⟨i, b⟩ ⟨hi, hinv3⟩
            refine W_seq fun kz22 kq22 => ?_
            refine W_seq fun kz23 kq23 => ?_
            refine W_region [3, 4, 11, 12, 13, 14, 15, 16, 65] fun R hR => ?_   -- r15
            simp only [go_sem, hfarL, hxf, hf0, hxa, hat1, hwx, List.getElem?_map]
            refine hR _ _ (kq23 _ _ ?_); clear hR R; try clear kq23 kz23
            try simp only [go_sem, hfarL, hxf, hf0, hxa, hat1, hwx, List.getElem?_map]
            refine W_cond rfl (fun c5 => ?_) (fun c5 => ?_)
            · -- c5 true
              try simp only [nrm] at c5
              have hi' : i < t.streets.length := by first | assumption | omega
              obtain ⟨s, hx⟩ : ∃ s, t.streets[i]? = some s := ⟨t.streets[i], by simp [hi']⟩
              have hdrop : t.streets.drop i = s :: t.streets.drop (i + 1) := by
                rw [List.drop_eq_getElem_cons hi']; congr 1; exact (List.getElem?_eq_some_iff.1 hx).2
              rw [hdrop] at hinv3
              obtain ⟨v0, v1, v2, v3⟩ := hv' s (List.mem_of_getElem? hx)
              have hor : other s at' < t.rooms.length := by unfold other; split <;> (try split) <;> omega
              obtain ⟨v, hvv⟩ : ∃ v, (if has cl i then (2 : Int) else 1) = v := ⟨_, rfl⟩
              have hst := stOf_get (cl := cl) hi' (fun x hx => (hcl0 x hx).1)
              rw [hvv] at hst
              have hvo : v = 1 ↔ has cl i = false := by rw [← hvv]; cases has cl i <;> simp
              refine W_skip (kq22 _ _ ?_)
              refine W_seq fun kz24 kq24 => ?_
              refine W_block ?_
              refine W_seq fun kz25 kq25 => ?_
              refine W_region [3, 4, 11, 12, 13, 14, 15, 16, 17] fun R hR => ?_   -- r17
              simp only [go_sem, hfarL, hxf, hf0, hxa, hat1, hwx, List.getElem?_map, hx, hst]
              refine GCall_of (rother_pc Y _ s at') ?_   -- t74
              simp only [go_sem, hfarL, hxf, hf0, hxa, hat1, hwx, List.getElem?_map, hx, hst]
              refine hR _ _ (kq25 _ _ ?_); clear hR R; try clear kq25 kz25
              try simp only [go_sem, hfarL, hxf, hf0, hxa, hat1, hwx, List.getElem?_map, hx, hst]
              refine W_seq fun kz26 kq26 => ?_
              refine W_drawJ [3, 4, 11, 12, 13, 14, 15, 16, 17, 95] [(95, (.bool (decide (v = 1) && decide (0 ≤ other s at') && nearR farL at' (other s at'))))] [0, 1, 2, 3, 4, 5, 6, 7, 8, 9, 10, 11, 12, 13, 14, 15, 16, 17, 18, 19, 20] [] [[], [], [0, 1], [0, 1, 2], [0, 1, 2, 3], [0, 1, 2, 3, 4], [0, 1, 2, 3, 4, 5], [0, 1, 2, 3, 4, 5, 6], [0, 1, 2, 3, 4, 5, 6, 7], [0, 1, 2, 3, 4, 5, 6, 7, 8], [0, 1, 2, 3, 4, 5, 6, 7, 8, 9], [0, 1, 2, 3, 4, 5, 6, 7, 8, 9], [0, 1, 2, 3, 4, 5, 6, 7, 8, 9, 10, 11], [0, 1, 2, 3, 4, 5, 6, 7, 8, 9, 10, 11, 12], [0, 1, 2, 3, 4, 5, 6, 7, 8, 9], [0, 1, 2, 3, 4, 5, 6, 7, 8, 9], [0, 1, 2, 3, 4, 5, 6, 7, 8, 9, 14, 15], [0, 1, 2, 3, 4, 5, 6, 7, 8, 9, 14, 15, 16], [0, 1, 2, 3, 4, 5, 6, 7, 8, 9, 14, 15, 16, 17], [0, 1, 2, 3, 4, 5, 6, 7, 8, 9, 10, 11, 12, 13, 14, 15, 16, 17, 18], [0, 1, 2, 3, 4, 5, 6, 7, 8, 9, 10, 11, 12, 13, 14, 15, 16, 17, 18, 19]] mixed (by kernel_rfl) ?_ fun R hR => ?_   -- r18
              · refine kq26 _ _ ?_
                simp only [go_sem, hfarL, hxf, hf0, hxa, hat1, hwx, List.getElem?_map, hx, hst]
                refine W_cond rfl (fun c6 => ?_) (fun c6 => ?_)
                · -- c6 true
                  try simp only [nrm] at c6
                  refine W_region [3, 4, 11, 12, 13, 14, 15, 16] fun R hR => ?_   -- r19
                  simp only [go_sem, hfarL, hxf, hf0, hxa, hat1, hwx, List.getElem?_map, hx, hst]
                  refine hR _ _ (kq24 _ _ ?_); clear hR R; try clear kq24 kz24
                  try simp only [go_sem, hfarL, hxf, hf0, hxa, hat1, hwx, List.getElem?_map, hx, hst]
                  refine W_region [3, 4, 11, 12, 13, 14, 15, 16] fun R hR => ?_   -- r16
                  simp only [go_sem, hfarL, hxf, hf0, hxa, hat1, hwx, List.getElem?_map, hx, hst]
                  try simp (disch := omega) only [wrapI, wrapU]
                  refine hR _ _ ?_; clear hR R
                  try simp only [go_sem, hfarL, hxf, hf0, hxa, hat1, hwx, List.getElem?_map, hx, hst]
                  refine ⟨(i + 1, min b (other s at')), ?_, by (try simp only []); omega, ?_⟩
                  · first | exact Weak.refl | exact Weak.eq (by first | rfl | (simp only [go_sem]; done) | (simp only [go_sem]; rfl) | (simp [go_sem]; done) | (simp [go_sem]; omega)) (by first | rfl | (simp only [go_sem]; done) | (simp [go_sem]; done))
                  · try dsimp only
                    refine ⟨hi', ?_⟩
                    rw [hinv3]
                    by_cases hop : 0 ≤ other s at' ∧ has cl i = false
                    · rw [nbs_yes hop.1 hop.2]
                      first | rw [bmG_yes (by simp at c6; exact c6.2)] | rw [bmG_no (by simp at c6; exact c6 (hvo.2 hop.2) hop.1)]
                    · rw [nbs_no hop]
                      all_goals first | rfl | (exfalso; simp at c6; exact hop ⟨c6.1.2, hvo.1 c6.1.1⟩) | (exfalso; simp at c6)
                · -- c6 false
                  try simp only [nrm] at c6
                  refine W_skip (kq24 _ _ ?_)
                  refine W_region [3, 4, 11, 12, 13, 14, 15, 16] fun R hR => ?_   -- r16
                  simp only [go_sem, hfarL, hxf, hf0, hxa, hat1, hwx, List.getElem?_map, hx, hst]
                  try simp (disch := omega) only [wrapI, wrapU]
                  refine hR _ _ ?_; clear hR R
                  try simp only [go_sem, hfarL, hxf, hf0, hxa, hat1, hwx, List.getElem?_map, hx, hst]
                  refine ⟨(i + 1, b), ?_, by (try simp only []); omega, ?_⟩
                  · first | exact Weak.refl | exact Weak.eq (by first | rfl | (simp only [go_sem]; done) | (simp only [go_sem]; rfl) | (simp [go_sem]; done) | (simp [go_sem]; omega)) (by first | rfl | (simp only [go_sem]; done) | (simp [go_sem]; done))
                  · try dsimp only
                    refine ⟨hi', ?_⟩
                    rw [hinv3]
                    by_cases hop : 0 ≤ other s at' ∧ has cl i = false
                    · rw [nbs_yes hop.1 hop.2]
                      first | rw [bmG_yes (by simp at c6; exact c6.2)] | rw [bmG_no (by simp at c6; exact c6 (hvo.2 hop.2) hop.1)]
                    · rw [nbs_no hop]
                      all_goals first | rfl | (exfalso; simp at c6; exact hop ⟨c6.1.2, hvo.1 c6.1.1⟩) | (exfalso; simp at c6)
              · simp only [go_sem, hfarL, hxf, hf0, hxa, hat1, hwx, List.getElem?_map, hx, hst]
                refine GWant_split (fun g1 => ?_) (fun g1 => ?_)
                · try simp only [Bool.not_eq_true', Bool.not_eq_false'] at g1
                  have n1 := g1; try simp only [nrm] at n1
                  simp only [go_sem, hfarL, hxf, hf0, hxa, hat1, hwx, List.getElem?_map, hx, hst, g1]
                  refine GWant_split (fun g2 => ?_) (fun g2 => ?_)
                  · try simp only [Bool.not_eq_true', Bool.not_eq_false'] at g2
                    have n2 := g2; try simp only [nrm] at n2
                    have hno : 0 ≤ other s at' := by omega
                    obtain ⟨fo, hfo⟩ : ∃ x, farL[(other s at').toNat]? = some x := ⟨farL[(other s at').toNat]'(by omega), by simp⟩
                    simp only [go_sem, hfarL, hxf, hf0, hxa, hat1, hwx, List.getElem?_map, hx, hst, hno, hfo, g1, g2]
                    try simp (disch := omega) only [wrapI, wrapU]
                    try refine And.intro (by repeat' (first | refine And.intro ?_ ?_ | exact GOr_right (fun _ => by simp only [go_sem, hfarL, hxf, hf0, hxa, hat1, hwx, List.getElem?_map, hx, hst, hno, hfo]))) ?_
                    refine hR _ ?_
                    try simp only [go_sem, hfarL, hxf, hf0, hxa, hat1, hwx, List.getElem?_map, hx, hst, hno, hfo]
                    all_goals
                      first | rfl | (simp [show ¬ v = 1 from n1]; done) | (simp [show ¬ (0 ≤ other s at') by omega]; done) | (simp [nearR, hfo, hxa, show v = 1 by omega, show 0 ≤ other s at' by omega]; done) | (simp [nearR, hfo, hxa, show v = 1 by omega, show 0 ≤ other s at' by omega]; rfl)
                  · try simp only [Bool.not_eq_true', Bool.not_eq_false'] at g2
                    have n2 := g2; try simp only [nrm] at n2
                    simp only [go_sem, hfarL, hxf, hf0, hxa, hat1, hwx, List.getElem?_map, hx, hst, g1, g2]
                    try simp (disch := omega) only [wrapI, wrapU]
                    try refine And.intro (by repeat' (first | refine And.intro ?_ ?_ | exact GOr_right (fun _ => by simp only [go_sem, hfarL, hxf, hf0, hxa, hat1, hwx, List.getElem?_map, hx, hst]))) ?_
                    refine hR _ ?_
                    try simp only [go_sem, hfarL, hxf, hf0, hxa, hat1, hwx, List.getElem?_map, hx, hst]
                    all_goals
                      first | rfl | (simp [show ¬ v = 1 from n1]; done) | (simp [show ¬ (0 ≤ other s at') by omega]; done) | (simp [nearR, hfo, hxa, show v = 1 by omega, show 0 ≤ other s at' by omega]; done) | (simp [nearR, hfo, hxa, show v = 1 by omega, show 0 ≤ other s at' by omega]; rfl)
                · try simp only [Bool.not_eq_true', Bool.not_eq_false'] at g1
                  have n1 := g1; try simp only [nrm] at n1
                  simp only [go_sem, hfarL, hxf, hf0, hxa, hat1, hwx, List.getElem?_map, hx, hst, g1]
                  try simp (disch := omega) only [wrapI, wrapU]
                  try refine And.intro (by repeat' (first | refine And.intro ?_ ?_ | exact GOr_right (fun _ => by simp only [go_sem, hfarL, hxf, hf0, hxa, hat1, hwx, List.getElem?_map, hx, hst]))) ?_
                  refine hR _ ?_
                  try simp only [go_sem, hfarL, hxf, hf0, hxa, hat1, hwx, List.getElem?_map, hx, hst]
                  all_goals
                    first | rfl | (simp [show ¬ v = 1 from n1]; done) | (simp [show ¬ (0 ≤ other s at') by omega]; done) | (simp [nearR, hfo, hxa, show v = 1 by omega, show 0 ≤ other s at' by omega]; done) | (simp [nearR, hfo, hxa, show v = 1 by omega, show 0 ≤ other s at' by omega]; rfl)
            · -- c5 false
              try simp only [nrm] at c5
              have hdrop : t.streets.drop i = [] := List.drop_eq_nil_of_le (by omega)
              rw [hdrop] at hinv3
              simp only [nbs, bmG] at hinv3
              have hb : bmG (nearR farL at') (nbT t cl at') t.rooms.length = b := hinv3
              have hb := hb.symm
              refine W_exit ?_
              simp only [go_sem, hfarL, hxf, hf0, hxa, hat1, hwx, List.getElem?_map]
              refine kq20 _ _ ?_
              refine W_seq fun kz27 kq27 => ?_
              refine W_region [3, 4, 11, 12, 13, 14] fun R hR => ?_   -- r20
              simp only [go_sem, hfarL, hxf, hf0, hxa, hat1, hwx, List.getElem?_map]
              refine hR _ _ (kq27 _ _ ?_); clear hR R; try clear kq27 kz27
              try simp only [go_sem, hfarL, hxf, hf0, hxa, hat1, hwx, List.getElem?_map]
              refine W_region [3, 4, 11, 12, 13, 14] fun R hR => ?_   -- r21
              simp only [go_sem, hfarL, hxf, hf0, hxa, hat1, hwx, List.getElem?_map]
              simp (disch := first | omega | (simp only [go_sem] <;> omega)) only [wrapI, wrapU, appX_exact, appX_tok]
              try simp only [go_sem, hfarL, hxf, hf0, hxa, hat1, hwx, List.getElem?_map]
              refine hR _ _ ?_; clear hR R
              try simp only [go_sem, hfarL, hxf, hf0, hxa, hat1, hwx, List.getElem?_map]
              refine ⟨(k, b, acc ++ [b]), ?_, by (try simp only []); omega, ?_⟩
              · refine Weak.trans (Weak.cutX 1 1 (by omega) (by omega) hcl (by simp only [go_sem] <;> omega) (by simp only [go_sem] <;> omega)) ?_
                simp only [go_sem]
                exact Weak.eq (by first | rfl | (simp only [go_sem]; done) | (simp only [go_sem]; rfl) | (simp [go_sem]; done) | (simp [go_sem]; omega)) (by first | rfl | (simp only [go_sem]; done) | (simp [go_sem]; done))
              · try dsimp only
                rw [← hb] at b2 hbd hinv2
                exact ⟨hinv2, by simp; omega, hbd, d - 1, b2, by omega, by omega⟩
          · -- c4 false
            try simp only [nrm] at c4
            obtain ⟨k, rfl⟩ : ∃ j, k = j + 1 := ⟨k - 1, by have := hok.dist _ _ hd1; omega⟩
            simp only [backsR] at hinv2
            have hat : at' = to' := by first | exact c4 | simpa using c4
            rw [if_pos hat] at hinv2
            refine W_exit ?_
            simp only [go_sem, hfarL, hxf, hf0]
            refine kq15 _ _ ?_
            refine W_seq fun kz28 kq28 => ?_
            refine W_region [8, 9] fun R hR => ?_   -- r22
            simp only [go_sem, hfarL, hxf, hf0]
            refine hR _ _ (kq28 _ _ ?_); clear hR R; try clear kq28 kz28
            try simp only [go_sem, hfarL, hxf, hf0]
            refine W_ret ?_
            simp only [go_sem, hfarL, hxf, hf0]
            refine ⟨.inr (by trivial), ?_⟩
            refine Fin_same hcl rfl (Wk.ro (by simp only [go_sem]) ?_)
            try simp only [go_sem]
            all_goals
              rw [← hres]; simp only [wayAns]; rw [if_neg (by simpa using c1), if_neg (by simpa [allIn] using c2), hmet.1, if_pos (by simp; omega), ← backs_same hv' (fun x hx => (hcl0 x hx).1) hft2.2.1 hft2.2.2 hD (t.rooms.length + 1) from' xf [from'] hD (Int.le_refl _) hft2.1.1 hft2.1.2, hfarL]
              simp only [backsR]
              rw [hinv2]
    · simp only [go_sem]
      try simp (disch := omega) only [wrapI, wrapU]
      refine GCall_of (rin6_pc Y _ from' 0 _) ?_   -- t29
      simp only [go_sem]
      refine GWant_split (fun g3 => ?_) (fun g3 => ?_)
      · try simp only [Bool.not_eq_true', Bool.not_eq_false'] at g3
        have n3 := g3; try simp only [nrm] at n3
        try simp (disch := omega) only [wrapI, wrapU] at n3
        simp only [go_sem, g3]
        try simp (disch := omega) only [wrapI, wrapU]
        refine GCall_of (rin6_pc Y _ to' 0 _) ?_   -- t37
        simp only [go_sem, g3]
        try simp (disch := omega) only [wrapI, wrapU]
        refine hR _ ?_
        try simp only [go_sem]
        all_goals
          first | rfl | (simp [*]; done) | (simp [*]; omega)
      · try simp only [Bool.not_eq_true', Bool.not_eq_false'] at g3
        have n3 := g3; try simp only [nrm] at n3
        try simp (disch := omega) only [wrapI, wrapU] at n3
        simp only [go_sem, g3]
        try simp (disch := omega) only [wrapI, wrapU]
        refine hR _ ?_
        try simp only [go_sem]
        all_goals
          first | rfl | (simp [*]; done) | (simp [*]; omega)
end Go.Proofs.Ytnpamcpoaklgeaa
namespace Go.Proofs.Ytnpamcpoaklgeaa
open Go Go.RowKit
set_option maxRecDepth 100000
def isSt (cl : List Int) (a b : Int) (i : Nat) (s : Int × Int) : Bool := !(has cl i) && ((decide (s.1 = a) && decide (s.2 = b)) || (decide (s.1 = b) && decide (s.2 = a)))
theorem stA1 {cl : List Int} {a b : Int} {j : Nat} {s : Int × Int} (h : has cl j = false) (g : (s.1 == a && s.2 == b) = true) : isSt cl a b j s = true := by
  simp at g
  simp [isSt, h, g]
theorem stA2 {cl : List Int} {a b : Int} {j : Nat} {s : Int × Int} (h : has cl j = false) (g : (s.1 == a && s.2 == b) = false) : isSt cl a b j s = (s.1 == b && s.2 == a) := by
  symm
  simp at g
  rw [Bool.eq_iff_iff]
  simp only [isSt, h, Bool.not_false, Bool.true_and, Bool.or_eq_true, Bool.and_eq_true, decide_eq_true_eq, beq_iff_eq]
  exact ⟨fun q => .inr q, fun q => q.resolve_left fun q => g q.1 q.2⟩
theorem stB {cl : List Int} {a b : Int} {j : Nat} {s : Int × Int} (h : has cl j = false) (g : ¬ (s.1 = a ∧ s.2 = b)) (g2 : (s.2 == a) = true) : isSt cl a b j s = (s.1 == b) := by
  symm
  simp at g2
  rw [Bool.eq_iff_iff]
  simp only [isSt, h, Bool.not_false, Bool.true_and, Bool.or_eq_true, Bool.and_eq_true, decide_eq_true_eq, beq_iff_eq]
  exact ⟨fun q => .inr ⟨q, g2⟩, fun q => (q.resolve_left fun q => g q).1⟩
def firstSt (cl : List Int) (a b : Int) : List (Int × Int) → Nat → Option Nat
  | [], _ => none
  | s :: r, i => if isSt cl a b i s then some i else firstSt cl a b r (i + 1)
def addSt (out : List Int) (o : Option Nat) : List Int := match o with
  | some n => out ++ [(n : Int)]
  | none => out
def routeOf (cl : List Int) (sts : List (Int × Int)) : List Int → List Int → List Int
  | [], out => out
  | [_], out => out
  | a :: b :: r, out => routeOf cl sts (b :: r) (addSt out (firstSt cl a b sts 0))
def routeAns (c : City) (cl : List Int) (from' to' : Int) : List Int × Int :=
  if chkCity c ≠ 0 then ([], chkCity c) else if (wayAns c.town cl from' to').2 ≠ 0 then ([], (wayAns c.town cl from' to').2) else (routeOf cl c.town.streets (wayAns c.town cl from' to').1 [], 0)
theorem routeOf_step {cl : List Int} {sts : List (Int × Int)} {way : List Int} {i : Nat} {a b : Int} (h1 : way[i]? = some a) (h2 : way[i + 1]? = some b) (out : List Int) :
    routeOf cl sts (way.drop i) out = routeOf cl sts (way.drop (i + 1)) (addSt out (firstSt cl a b sts 0)) := by
  have l1 := (List.getElem?_eq_some_iff.1 h1)
  have l2 := (List.getElem?_eq_some_iff.1 h2)
  rw [List.drop_eq_getElem_cons l1.1, List.drop_eq_getElem_cons l2.1, l1.2, l2.2]
  rfl
theorem routeOf_end {cl : List Int} {sts : List (Int × Int)} {way : List Int} {i : Nat} (h : way.length ≤ i + 1) (out : List Int) : routeOf cl sts (way.drop i) out = out := by
  have : (way.drop i).length ≤ 1 := by simp; omega
  cases hd : way.drop i with
  | nil => rfl
  | cons a r =>
    cases r with
    | nil => rfl
    | cons b r => rw [hd] at this; simp at this
theorem chkStreets_valid {n : Int} : ∀ {l : List (Int × Int)}, chkStreets n l = 0 → ∀ s, s ∈ l → 0 ≤ s.1 ∧ s.1 < n ∧ 0 ≤ s.2 ∧ s.2 < n := by
  intro l
  induction l with
  | nil => intro _ s hs; cases hs
  | cons x l ih =>
    intro h s hs
    unfold chkStreets at h
    by_cases e : (inR x.1 0 (n - 1) && inR x.2 0 (n - 1)) = true
    · rw [if_neg (by simp [e])] at h
      by_cases e2 : x.1 = x.2
      · rw [if_pos e2] at h; cases h
      · rw [if_neg e2] at h
        rcases List.mem_cons.1 hs with rfl | hs
        · simp only [Bool.and_eq_true, inR_true] at e; omega
        · exact ih h s hs
    · simp only [Bool.not_eq_true] at e
      rw [e] at h
      cases h
theorem chkTown_valid {t : Town} (h : chkTown t = 0) : ValidSt t ∧ t.rooms.length ≤ 12 ∧ t.streets.length ≤ 12 := by
  unfold chkTown at h
  repeat' (split at h <;> try (first | omega | (cases h; done)))
  rename_i h1 h2 h3 h4 h5 h6 h7
  exact ⟨fun s hs => chkStreets_valid (by simpa using h5) s hs, by omega, by omega⟩
set_option maxHeartbeats 8000000 in
theorem Route_pc (Y : YEnv) (σ : Sg) (ct : City) (hc : ct.Ok) (cl : List Int) (from' to' : Int) (hcl' : cl.length < 2 ^ 40) (hs : ct.town.streets.length < 2 ^ 40) (hN : ct.town.rooms.length < 2 ^ 40) (hg : ct.town.groups.length < 2 ^ 40) (hp : ∀ g, g ∈ ct.town.groups → g.path.length < 2 ^ 40) (hwl : (wayAns ct.town cl from' to').1.length < 2 ^ 42) :
    PC Try.prog Y 46 [ctPV ct, ints cl, I from', I to'] σ (.tuple [ints (routeAns ct cl from' to').1, I (routeAns ct cl from' to').2]) (σ) := by
  refine PC_of_W Try.func46 rfl (by kernel_rfl) Try.ntmps46 (by simp) fun hcl hca => ?_
  obtain ⟨way, hway⟩ : ∃ z, (wayAns ct.town cl from' to').1 = z := ⟨_, rfl⟩
  obtain ⟨we, hwe⟩ : ∃ z, (wayAns ct.town cl from' to').2 = z := ⟨_, rfl⟩
  rw [hway] at hwl
  obtain ⟨res, hres⟩ : ∃ r, routeAns ct cl from' to' = r := ⟨_, rfl⟩
  rw [hres]
  refine W_seq fun kz1 kq1 => ?_
  refine W_region [1, 2, 3, 4] fun R hR => ?_   -- r0
  simp only [go_sem, hway, hwe]
  refine hR _ _ (kq1 _ _ ?_); clear hR R; try clear kq1 kz1
  try simp only [go_sem, hway, hwe]
  refine W_seq fun kz2 kq2 => ?_
  refine W_seq fun kz3 kq3 => ?_
  refine W_region [1, 2, 3, 4, 10] fun R hR => ?_   -- r1
  simp only [go_sem, hway, hwe]
  refine GCall_of (bcheck_pc Y _ ct hc) ?_   -- t20
  simp only [go_sem, hway, hwe]
  refine hR _ _ (kq3 _ _ ?_); clear hR R; try clear kq3 kz3
  try simp only [go_sem, hway, hwe]
  refine W_seq fun kz4 kq4 => ?_
  refine W_region [1, 2, 3, 4, 10, 22] fun R hR => ?_   -- r2
  simp only [go_sem, hway, hwe]
  refine hR _ _ (kq4 _ _ ?_); clear hR R; try clear kq4 kz4
  try simp only [go_sem, hway, hwe]
  refine W_cond rfl (fun c1 => ?_) (fun c1 => ?_)
  · -- c1 true
    try simp only [nrm] at c1
    refine W_seq fun kz5 kq5 => ?_
    refine W_region [8, 9] fun R hR => ?_   -- r3
    simp only [go_sem, hway, hwe]
    refine hR _ _ (kq5 _ _ ?_); clear hR R; try clear kq5 kz5
    try simp only [go_sem, hway, hwe]
    refine W_ret ?_
    simp only [go_sem, hway, hwe]
    refine ⟨.inr (by trivial), ?_⟩
    refine Fin_same hcl rfl (Wk.ro (by simp only [go_sem]) ?_)
    try simp only [go_sem]
    all_goals
      rw [← hres]; simp only [routeAns]; rw [if_pos (by simpa using c1)]; rfl
  · -- c1 false
    try simp only [nrm] at c1
    refine W_skip (kq2 _ _ ?_)
    refine W_seq fun kz6 kq6 => ?_
    refine W_region [1, 4, 11, 12] fun R hR => ?_   -- r4
    simp only [go_sem, hway, hwe]
    refine GCall_of (Way_pc Y _ ct.town cl from' to' hs hcl' hN hg hp (fun h => (chkTown_valid h).1)) ?_   -- t30
    simp only [go_sem, hway, hwe]
    refine hR _ _ (kq6 _ _ ?_); clear hR R; try clear kq6 kz6
    try simp only [go_sem, hway, hwe]
    refine W_seq fun kz7 kq7 => ?_
    refine W_seq fun kz8 kq8 => ?_
    refine W_region [1, 4, 11, 12, 34] fun R hR => ?_   -- r5
    simp only [go_sem, hway, hwe]
    refine hR _ _ (kq8 _ _ ?_); clear hR R; try clear kq8 kz8
    try simp only [go_sem, hway, hwe]
    refine W_cond rfl (fun c2 => ?_) (fun c2 => ?_)
    · -- c2 true
      try simp only [nrm] at c2
      refine W_seq fun kz9 kq9 => ?_
      refine W_region [8, 9] fun R hR => ?_   -- r6
      simp only [go_sem, hway, hwe]
      refine hR _ _ (kq9 _ _ ?_); clear hR R; try clear kq9 kz9
      try simp only [go_sem, hway, hwe]
      refine W_ret ?_
      simp only [go_sem, hway, hwe]
      refine ⟨.inr (by trivial), ?_⟩
      refine Fin_same hcl rfl (Wk.ro (by simp only [go_sem]) ?_)
      try simp only [go_sem]
      all_goals
        rw [← hres]; simp only [routeAns]; rw [if_neg (by simpa using c1), if_pos (by rw [hwe]; simpa using c2), hwe]; rfl
    · -- c2 false
      try simp only [nrm] at c2
      refine W_skip (kq7 _ _ ?_)
      refine W_seq fun kz10 kq10 => ?_
      refine W_region [1, 4, 11, 13] fun R hR => ?_   -- r7
      simp only [go_sem, hway, hwe]
      refine hR _ _ (kq10 _ _ ?_); clear hR R; try clear kq10 kz10
      try simp only [go_sem, hway, hwe]
      refine W_seq fun kz11 kq11 => ?_
      refine W_seq fun kz12 kq12 => ?_
      refine W_region [1, 4, 11, 13, 38, 39] fun R hR => ?_   -- r8
      simp only [go_sem, hway, hwe]
      try simp (disch := omega) only [wrapI, wrapU]
      refine hR _ _ (kq12 _ _ ?_); clear hR R; try clear kq12 kz12
      try simp only [go_sem, hway, hwe]
      refine W_block ?_
      refine W_weak (Weak.room (t := 13) (es := 1) rfl (by simp)) ?_
      refine W_weak (Weak.keep [1, 4, 11, 13, 38, 39]) ?_
      simp only [go_sem, hway, hwe]
      refine W_loopT (α := Nat × (List Int)) (fun ⟨i, out⟩ => [(13, .isl (out.map I) (.tok σ.rooms.length out.length 1)), (39, I i)]) (fun ⟨i, out⟩ => σ.ext [some (ctCells ct)] [out.length]) (fun ⟨i, out⟩ => out.length ≤ i ∧ routeOf cl ct.town.streets way [] = routeOf cl ct.town.streets (way.drop i) out) (fun ⟨i, out⟩ => way.length - i) ((0, [])) rfl (by first | rfl | (simp only [go_sem]; done) | (simp only [go_sem]; rfl)) (⟨Nat.le_refl _, rfl⟩) ?_
      rintro ⟨i, out⟩ ⟨hol, hinv⟩
      refine W_seq fun kz13 kq13 => ?_
      refine W_region [1, 4, 11, 13, 38, 39, 40] fun R hR => ?_   -- r9
      simp only [go_sem, hway, hwe]
      refine hR _ _ (kq13 _ _ ?_); clear hR R; try clear kq13 kz13
      try simp only [go_sem, hway, hwe]
      refine W_seq fun kz14 kq14 => ?_
      refine W_cond rfl (fun c3 => ?_) (fun c3 => ?_)
      · -- c3 true
        try simp only [nrm] at c3
        have hi1 : i + 1 < way.length := by omega
        obtain ⟨a, ha⟩ : ∃ x, way[i]? = some x := ⟨way[i]'(by omega), by simp⟩
        obtain ⟨b, hb⟩ : ∃ x, way[i + 1]? = some x := ⟨way[i + 1]'(by omega), by simp⟩
        have hb2 : way[((i : Int) + 1).toNat]? = some b := by rw [show ((i : Int) + 1).toNat = i + 1 by omega]; exact hb
        have hi0 : 0 ≤ (i : Int) + 1 := by omega
        have hw1 : IntKind.i64.wrap ((i : Int) + 1) = (i : Int) + 1 := wrapI (by omega) (by omega)
        rw [routeOf_step ha hb] at hinv
        refine W_skip (kq14 _ _ ?_)
        refine W_seq fun kz15 kq15 => ?_
        refine W_block ?_
        refine W_seq fun kz16 kq16 => ?_
        refine W_region [1, 4, 11, 13, 14, 38, 39] fun R hR => ?_   -- r10
        simp only [go_sem, hway, hwe, ha, hb2, hi0, hw1]
        refine hR _ _ (kq16 _ _ ?_); clear hR R; try clear kq16 kz16
        try simp only [go_sem, hway, hwe, ha, hb2, hi0, hw1]
        refine W_seq fun kz17 kq17 => ?_
        refine W_draw [1, 4, 11, 13, 15, 16, 38, 39] [0, 1, 2, 3, 4, 5, 6, 7, 8, 9, 10] [] [[], [], [0, 1], [0, 1, 2], [], [], [5], [4, 5, 6], [4, 5, 6, 7], [0, 1, 2, 3], [0, 1, 2, 3, 4, 5, 6, 7, 8, 9]] mixed (by kernel_rfl) fun R hR => ?_   -- r11
        simp only [go_sem, hway, hwe, ha, hb2, hi0, hw1]
        try simp (disch := omega) only [wrapI, wrapU]
        try refine And.intro (by repeat' (first | refine And.intro ?_ ?_ | exact GOr_right (fun _ => by simp only [go_sem, hway, hwe, ha, hb2, hi0, hw1]))) ?_
        refine hR _ _ (kq17 _ _ ?_); clear hR R; try clear kq17 kz17
        try simp only [go_sem, hway, hwe, ha, hb2, hi0, hw1]
        refine W_seq fun kz18 kq18 => ?_
        refine W_region [1, 4, 11, 13, 15, 16, 38, 39, 53, 54, 55] fun R hR => ?_   -- r12
        simp only [go_sem, hway, hwe, ha, hb2, hi0, hw1]
        refine hR _ _ (kq18 _ _ ?_); clear hR R; try clear kq18 kz18
        try simp only [go_sem, hway, hwe, ha, hb2, hi0, hw1]
        refine W_block ?_
        refine W_loopT (α := Nat) (fun (j : Nat) => [(55, I j)]) (fun (j : Nat) => σ.ext [some (ctCells ct)] [out.length]) (fun (j : Nat) => j ≤ ct.town.streets.length ∧ firstSt cl a b ct.town.streets 0 = firstSt cl a b (ct.town.streets.drop j) j) (fun (j : Nat) => ct.town.streets.length - j) (0) rfl (by first | rfl | (simp only [go_sem]; done) | (simp only [go_sem]; rfl)) (⟨Nat.zero_le _, rfl⟩) ?_
        rintro j ⟨hj, hinv2⟩
        refine W_seq fun kz19 kq19 => ?_
        refine W_region [1, 4, 11, 13, 15, 16, 38, 39, 53, 54, 55, 56] fun R hR => ?_   -- r13
        simp only [go_sem, hway, hwe, ha, hb2, hi0, hw1]
        refine hR _ _ (kq19 _ _ ?_); clear hR R; try clear kq19 kz19
        try simp only [go_sem, hway, hwe, ha, hb2, hi0, hw1]
        refine W_seq fun kz20 kq20 => ?_
        refine W_cond rfl (fun c4 => ?_) (fun c4 => ?_)
        · -- c4 true
          try simp only [nrm] at c4
          have hi' : j < ct.town.streets.length := by first | assumption | omega
          obtain ⟨s, hx⟩ : ∃ s, ct.town.streets[j]? = some s := ⟨ct.town.streets[j], by simp [hi']⟩
          have hdrop : ct.town.streets.drop j = s :: ct.town.streets.drop (j + 1) := by
            rw [List.drop_eq_getElem_cons hi']; congr 1; exact (List.getElem?_eq_some_iff.1 hx).2
          rw [hdrop] at hinv2
          simp only [firstSt] at hinv2
          refine W_skip (kq20 _ _ ?_)
          refine W_seq fun kz21 kq21 => ?_
          refine W_block ?_
          refine W_seq fun kz22 kq22 => ?_
          refine W_region [1, 4, 11, 13, 15, 16, 17, 18, 38, 39, 53, 54, 55] fun R hR => ?_   -- r14
          simp only [go_sem, hway, hwe, ha, hb2, hi0, hw1, hx]
          refine hR _ _ (kq22 _ _ ?_); clear hR R; try clear kq22 kz22
          try simp only [go_sem, hway, hwe, ha, hb2, hi0, hw1, hx]
          refine W_seq fun kz23 kq23 => ?_
          refine W_regionJ [1, 4, 11, 13, 15, 16, 17, 38, 39, 53, 54, 55, 77] [(77, .bool (isSt cl a b j s))] ?_ fun R hR => ?_   -- r15
          · refine kq23 _ _ ?_
            simp only [go_sem, hway, hwe, ha, hb2, hi0, hw1, hx]
            refine W_cond rfl (fun c5 => ?_) (fun c5 => ?_)
            · -- c5 true
              try simp only [nrm] at c5
              refine W_seq fun kz24 kq24 => ?_
              refine W_region [1, 4, 11, 13, 38, 39] fun R hR => ?_   -- r16
              simp only [go_sem, hway, hwe, ha, hb2, hi0, hw1, hx]
              simp (disch := first | omega | (simp only [go_sem] <;> omega)) only [wrapI, wrapU, appX_exact, appX_tok]
              try simp only [go_sem, hway, hwe, ha, hb2, hi0, hw1, hx]
              refine hR _ _ (kq24 _ _ ?_); clear hR R; try clear kq24 kz24
              try simp only [go_sem, hway, hwe, ha, hb2, hi0, hw1, hx]
              refine W_exit ?_
              simp only [go_sem, hway, hwe, ha, hb2, hi0, hw1, hx]
              refine kq15 _ _ ?_
              refine W_region [1, 4, 11, 13, 38, 39] fun R hR => ?_   -- r18
              simp only [go_sem, hway, hwe, ha, hb2, hi0, hw1, hx]
              try simp (disch := omega) only [wrapI, wrapU]
              refine hR _ _ ?_; clear hR R
              try simp only [go_sem, hway, hwe, ha, hb2, hi0, hw1, hx]
              refine ⟨(i + 1, out ++ [(j : Int)]), ?_, by (try simp only []); omega, ?_⟩
              · refine Weak.trans (Weak.cutX 1 1 (by omega) (by omega) hcl (by simp only [go_sem] <;> omega) (by simp only [go_sem] <;> omega)) ?_
                simp only [go_sem]
                exact Weak.eq (by first | rfl | (simp only [go_sem]; done) | (simp only [go_sem]; rfl) | (simp [go_sem]; done) | (simp [go_sem]; omega)) (by first | rfl | (simp only [go_sem]; done) | (simp [go_sem]; done))
              · try dsimp only
                first | exact ⟨by simp; omega, by rw [hinv, hinv2, if_pos c5]; rfl⟩ | exact ⟨by omega, by rw [hinv, hinv2]; rfl⟩
            · -- c5 false
              try simp only [nrm] at c5
              refine W_skip (kq21 _ _ ?_)
              refine W_region [1, 4, 11, 13, 15, 16, 38, 39, 53, 54, 55] fun R hR => ?_   -- r17
              simp only [go_sem, hway, hwe, ha, hb2, hi0, hw1, hx]
              try simp (disch := omega) only [wrapI, wrapU]
              refine hR _ _ ?_; clear hR R
              try simp only [go_sem, hway, hwe, ha, hb2, hi0, hw1, hx]
              refine ⟨j + 1, ?_, by (try simp only []); omega, ?_⟩
              · refine Weak.trans (Weak.cutX 1 1 (by omega) (by omega) hcl (by simp only [go_sem] <;> omega) (by simp only [go_sem] <;> omega)) ?_
                simp only [go_sem]
                exact Weak.eq (by first | rfl | (simp only [go_sem]; done) | (simp only [go_sem]; rfl) | (simp [go_sem]; done) | (simp [go_sem]; omega)) (by first | rfl | (simp only [go_sem]; done) | (simp [go_sem]; done))
              · try dsimp only
                exact ⟨hi', by rw [hinv2, if_neg (by simpa using c5)]⟩
          · simp only [go_sem, hway, hwe, ha, hb2, hi0, hw1, hx]
            refine GCall_of (Contains_pc Y _ cl (j : Int) .ro (by omega)) ?_   -- t62
            simp only [go_sem, hway, hwe, ha, hb2, hi0, hw1, hx]
            refine GWant_split (fun g1 => ?_) (fun g1 => ?_)
            · try simp only [Bool.not_eq_true', Bool.not_eq_false'] at g1
              have n1 := g1; try simp only [nrm] at n1
              simp only [go_sem, hway, hwe, ha, hb2, hi0, hw1, hx, g1]
              refine GWant_split (fun g2 => ?_) (fun g2 => ?_)
              · try simp only [Bool.not_eq_true', Bool.not_eq_false'] at g2
                have n2 := g2; try simp only [nrm] at n2
                simp only [go_sem, hway, hwe, ha, hb2, hi0, hw1, hx, g1, g2]
                refine hR _ ?_
                try simp only [go_sem, hway, hwe, ha, hb2, hi0, hw1, hx]
                all_goals
                  first | rfl | (rw [stA1 g1 g2]; done) | (rw [stA2 g1 g2]; done) | (rw [stB g1 (by omega) g4]; done) | (rw [stB g1 (by omega) g5]; done) | (rw [stA1 g1 g2]; rfl) | (rw [stA2 g1 g2]; rfl) | (rw [stB g1 (by omega) g4]; rfl) | (rw [stB g1 (by omega) g5]; rfl) | (simp [isSt, *]; done)
              · try simp only [Bool.not_eq_true', Bool.not_eq_false'] at g2
                have n2 := g2; try simp only [nrm] at n2
                simp only [go_sem, hway, hwe, ha, hb2, hi0, hw1, hx, g1, g2]
                refine hR _ ?_
                try simp only [go_sem, hway, hwe, ha, hb2, hi0, hw1, hx]
                all_goals
                  first | rfl | (rw [stA1 g1 g2]; done) | (rw [stA2 g1 g2]; done) | (rw [stB g1 (by omega) g4]; done) | (rw [stB g1 (by omega) g5]; done) | (rw [stA1 g1 g2]; rfl) | (rw [stA2 g1 g2]; rfl) | (rw [stB g1 (by omega) g4]; rfl) | (rw [stB g1 (by omega) g5]; rfl) | (simp [isSt, *]; done)
            · try simp only [Bool.not_eq_true', Bool.not_eq_false'] at g1
              have n1 := g1; try simp only [nrm] at n1
              simp only [go_sem, hway, hwe, ha, hb2, hi0, hw1, hx, g1]
              refine hR _ ?_
              try simp only [go_sem, hway, hwe, ha, hb2, hi0, hw1, hx]
              all_goals
                first | rfl | (rw [stA1 g1 g2]; done) | (rw [stA2 g1 g2]; done) | (rw [stB g1 (by omega) g4]; done) | (rw [stB g1 (by omega) g5]; done) | (rw [stA1 g1 g2]; rfl) | (rw [stA2 g1 g2]; rfl) | (rw [stB g1 (by omega) g4]; rfl) | (rw [stB g1 (by omega) g5]; rfl) | (simp [isSt, *]; done)
        · -- c4 false
          try simp only [nrm] at c4
          have hdrop : ct.town.streets.drop j = [] := List.drop_eq_nil_of_le (by omega)
          rw [hdrop] at hinv2
          simp only [firstSt] at hinv2
          obtain ⟨o2, ho2⟩ : ∃ z, out = z := ⟨_, rfl⟩
          refine W_exit ?_
          simp only [go_sem, hway, hwe, ha, hb2, hi0, hw1]
          refine kq15 _ _ ?_
          refine W_region [1, 4, 11, 13, 38, 39] fun R hR => ?_   -- r18
          simp only [go_sem, hway, hwe, ha, hb2, hi0, hw1]
          try simp (disch := omega) only [wrapI, wrapU]
          refine hR _ _ ?_; clear hR R
          try simp only [go_sem, hway, hwe, ha, hb2, hi0, hw1]
          refine ⟨(i + 1, out), ?_, by (try simp only []); omega, ?_⟩
          · refine Weak.trans (Weak.cutX 1 1 (by omega) (by omega) hcl (by simp only [go_sem] <;> omega) (by simp only [go_sem] <;> omega)) ?_
            simp only [go_sem]
            exact Weak.eq (by first | rfl | (simp only [go_sem]; done) | (simp only [go_sem]; rfl) | (simp [go_sem]; done) | (simp [go_sem]; omega)) (by first | rfl | (simp only [go_sem]; done) | (simp [go_sem]; done))
          · try dsimp only
            first | exact ⟨by simp; omega, by rw [hinv, hinv2, if_pos c5]; rfl⟩ | exact ⟨by omega, by rw [hinv, hinv2]; rfl⟩
      · -- c3 false
        try simp only [nrm] at c3
        rw [routeOf_end (by omega)] at hinv
        refine W_exit ?_
        simp only [go_sem, hway, hwe]
        refine kq11 _ _ ?_
        refine W_seq fun kz25 kq25 => ?_
        refine W_region [8, 9] fun R hR => ?_   -- r19
        simp only [go_sem, hway, hwe]
        refine hR _ _ (kq25 _ _ ?_); clear hR R; try clear kq25 kz25
        try simp only [go_sem, hway, hwe]
        refine W_ret ?_
        simp only [go_sem, hway, hwe]
        refine ⟨.inr (by trivial), ?_⟩
        refine Fin_same hcl rfl (Wk.ro (by simp only [go_sem]) ?_)
        try simp only [go_sem]
        all_goals
          rw [← hres]; simp only [routeAns]; rw [if_neg (by simpa using c1), if_neg (by rw [hwe]; simpa using c2), hway, hinv]
set_option maxHeartbeats 8000000 in
theorem rRoute_pc (Y : YEnv) (σ : Sg) (ct : City) (hc : ct.Ok) (cl : List Int) (from' to' : Int) (hcl' : cl.length < 2 ^ 40) (hs : ct.town.streets.length < 2 ^ 40) (hN : ct.town.rooms.length < 2 ^ 40) (hg : ct.town.groups.length < 2 ^ 40) (hp : ∀ g, g ∈ ct.town.groups → g.path.length < 2 ^ 40) (hwl : (wayAns ct.town cl from' to').1.length < 2 ^ 42) :
    PC Try.prog Y 47 [ctPV ct, ints cl, I from', I to'] σ (.tuple [ints (routeAns ct cl from' to').1, I (routeAns ct cl from' to').2]) (σ) := by
  refine PC_of_W Try.func47 rfl (by kernel_rfl) Try.ntmps47 (by simp) fun hcl hca => ?_
  obtain ⟨way, hway⟩ : ∃ z, (wayAns ct.town cl from' to').1 = z := ⟨_, rfl⟩
  obtain ⟨we, hwe⟩ : ∃ z, (wayAns ct.town cl from' to').2 = z := ⟨_, rfl⟩
  rw [hway] at hwl
  obtain ⟨res, hres⟩ : ∃ r, routeAns ct cl from' to' = r := ⟨_, rfl⟩
  rw [hres]
  refine W_seq fun kz1 kq1 => ?_
  refine W_region [1, 2, 3, 4] fun R hR => ?_   -- r0
  simp only [go_sem, hway, hwe]
  refine hR _ _ (kq1 _ _ ?_); clear hR R; try clear kq1 kz1
  try simp only [go_sem, hway, hwe]
  refine W_seq fun kz2 kq2 => ?_
  refine W_seq fun kz3 kq3 => ?_
  refine W_region [1, 2, 3, 4, 10] fun R hR => ?_   -- r1
  simp only [go_sem, hway, hwe]
  refine GCall_of (rcheck_pc Y _ ct hc) ?_   -- t18
  simp only [go_sem, hway, hwe]
  refine hR _ _ (kq3 _ _ ?_); clear hR R; try clear kq3 kz3
  try simp only [go_sem, hway, hwe]
  refine W_seq fun kz4 kq4 => ?_
  refine W_region [1, 2, 3, 4, 10, 20] fun R hR => ?_   -- r2
  simp only [go_sem, hway, hwe]
  refine hR _ _ (kq4 _ _ ?_); clear hR R; try clear kq4 kz4
  try simp only [go_sem, hway, hwe]
  refine W_cond rfl (fun c1 => ?_) (fun c1 => ?_)
  · -- c1 true
    try simp only [nrm] at c1
    refine W_seq fun kz5 kq5 => ?_
    refine W_region [8, 9] fun R hR => ?_   -- r3
    simp only [go_sem, hway, hwe]
    refine hR _ _ (kq5 _ _ ?_); clear hR R; try clear kq5 kz5
    try simp only [go_sem, hway, hwe]
    refine W_ret ?_
    simp only [go_sem, hway, hwe]
    refine ⟨.inr (by trivial), ?_⟩
    refine Fin_same hcl rfl (Wk.ro (by simp only [go_sem]) ?_)
    try simp only [go_sem]
    all_goals
      rw [← hres]; simp only [routeAns]; rw [if_pos (by simpa using c1)]; rfl
  · -- c1 false
    try simp only [nrm] at c1
    refine W_skip (kq2 _ _ ?_)
    refine W_seq fun kz6 kq6 => ?_
    refine W_region [1, 4, 11, 12] fun R hR => ?_   -- r4
    simp only [go_sem, hway, hwe]
    refine GCall_of (rWay_pc Y _ ct.town cl from' to' hs hcl' hN hg hp (fun h => (chkTown_valid h).1)) ?_   -- t28
    simp only [go_sem, hway, hwe]
    refine hR _ _ (kq6 _ _ ?_); clear hR R; try clear kq6 kz6
    try simp only [go_sem, hway, hwe]
    refine W_seq fun kz7 kq7 => ?_
    refine W_seq fun kz8 kq8 => ?_
    refine W_region [1, 4, 11, 12, 32] fun R hR => ?_   -- r5
    simp only [go_sem, hway, hwe]
    refine hR _ _ (kq8 _ _ ?_); clear hR R; try clear kq8 kz8
    try simp only [go_sem, hway, hwe]
    refine W_cond rfl (fun c2 => ?_) (fun c2 => ?_)
    · -- c2 true
      try simp only [nrm] at c2
      refine W_seq fun kz9 kq9 => ?_
      refine W_region [8, 9] fun R hR => ?_   -- r6
      simp only [go_sem, hway, hwe]
      refine hR _ _ (kq9 _ _ ?_); clear hR R; try clear kq9 kz9
      try simp only [go_sem, hway, hwe]
      refine W_ret ?_
      simp only [go_sem, hway, hwe]
      refine ⟨.inr (by trivial), ?_⟩
      refine Fin_same hcl rfl (Wk.ro (by simp only [go_sem]) ?_)
      try simp only [go_sem]
      all_goals
        rw [← hres]; simp only [routeAns]; rw [if_neg (by simpa using c1), if_pos (by rw [hwe]; simpa using c2), hwe]; rfl
    · -- c2 false
      try simp only [nrm] at c2
      refine W_skip (kq7 _ _ ?_)
      refine W_seq fun kz10 kq10 => ?_
      refine W_region [1, 4, 11, 13] fun R hR => ?_   -- r7
      simp only [go_sem, hway, hwe]
      refine hR _ _ (kq10 _ _ ?_); clear hR R; try clear kq10 kz10
      try simp only [go_sem, hway, hwe]
      refine W_seq fun kz11 kq11 => ?_
      refine W_seq fun kz12 kq12 => ?_
      refine W_region [1, 4, 11, 13, 14] fun R hR => ?_   -- r8
      simp only [go_sem, hway, hwe]
      refine hR _ _ (kq12 _ _ ?_); clear hR R; try clear kq12 kz12
      try simp only [go_sem, hway, hwe]
      refine W_block ?_
      refine W_weak (Weak.room (t := 13) (es := 1) rfl (by simp)) ?_
      refine W_weak (Weak.keep [1, 4, 11, 13, 14]) ?_
      simp only [go_sem, hway, hwe]
      refine W_loopT (α := Nat × (List Int)) (fun ⟨i, out⟩ => [(13, .isl (out.map I) (.tok σ.rooms.length out.length 1)), (14, I ((i : Int) + 1))]) (fun ⟨i, out⟩ => σ.ext [some (ctCells ct)] [out.length]) (fun ⟨i, out⟩ => out.length ≤ i ∧ i ≤ way.length ∧ routeOf cl ct.town.streets way [] = routeOf cl ct.town.streets (way.drop i) out) (fun ⟨i, out⟩ => way.length - i) ((0, [])) rfl (by first | rfl | (simp only [go_sem]; done) | (simp only [go_sem]; rfl)) (⟨Nat.le_refl _, Nat.zero_le _, rfl⟩) ?_
      rintro ⟨i, out⟩ ⟨hol, hil, hinv⟩
      refine W_seq fun kz13 kq13 => ?_
      refine W_seq fun kz14 kq14 => ?_
      refine W_region [1, 4, 11, 13, 14, 37] fun R hR => ?_   -- r9
      simp only [go_sem, hway, hwe]
      refine hR _ _ (kq14 _ _ ?_); clear hR R; try clear kq14 kz14
      try simp only [go_sem, hway, hwe]
      refine W_cond rfl (fun c3 => ?_) (fun c3 => ?_)
      · -- c3 true
        try simp only [nrm] at c3
        have hi1 : i + 1 < way.length := by omega
        obtain ⟨a, ha⟩ : ∃ x, way[i]? = some x := ⟨way[i]'(by omega), by simp⟩
        obtain ⟨b, hb⟩ : ∃ x, way[i + 1]? = some x := ⟨way[i + 1]'(by omega), by simp⟩
        have hb2 : way[((i : Int) + 1).toNat]? = some b := by rw [show ((i : Int) + 1).toNat = i + 1 by omega]; exact hb
        have hi0 : 0 ≤ (i : Int) + 1 := by omega
        have hw1 : IntKind.i64.wrap ((i : Int) + 1 - 1) = (i : Int) := by rw [show (i : Int) + 1 - 1 = (i : Int) by omega]; exact wrapI (by omega) (by omega)
        have hw2 : IntKind.i64.wrap ((i : Int) + 1 + 1) = (i : Int) + 1 + 1 := wrapI (by omega) (by omega)
        rw [routeOf_step ha hb] at hinv
        refine W_skip (kq13 _ _ ?_)
        refine W_seq fun kz15 kq15 => ?_
        refine W_block ?_
        refine W_seq fun kz16 kq16 => ?_
        refine W_region [1, 4, 11, 13, 14, 15] fun R hR => ?_   -- r11
        simp only [go_sem, hway, hwe, ha, hb2, hi0, hw1, hw2]
        refine hR _ _ (kq16 _ _ ?_); clear hR R; try clear kq16 kz16
        try simp only [go_sem, hway, hwe, ha, hb2, hi0, hw1, hw2]
        refine W_block ?_
        refine W_loopT (α := Nat) (fun (j : Nat) => [(15, I j)]) (fun (j : Nat) => σ.ext [some (ctCells ct)] [out.length]) (fun (j : Nat) => j ≤ ct.town.streets.length ∧ firstSt cl a b ct.town.streets 0 = firstSt cl a b (ct.town.streets.drop j) j) (fun (j : Nat) => ct.town.streets.length - j) (0) rfl (by first | rfl | (simp only [go_sem]; done) | (simp only [go_sem]; rfl)) (⟨Nat.zero_le _, rfl⟩) ?_
        rintro j ⟨hj, hinv2⟩
        refine W_seq fun kz17 kq17 => ?_
        refine W_seq fun kz18 kq18 => ?_
        refine W_region [1, 4, 11, 13, 14, 15, 45] fun R hR => ?_   -- r12
        simp only [go_sem, hway, hwe, ha, hb2, hi0, hw1, hw2]
        refine hR _ _ (kq18 _ _ ?_); clear hR R; try clear kq18 kz18
        try simp only [go_sem, hway, hwe, ha, hb2, hi0, hw1, hw2]
        refine W_cond rfl (fun c4 => ?_) (fun c4 => ?_)
        · -- c4 true
          try simp only [nrm] at c4
          have hi' : j < ct.town.streets.length := by first | assumption | omega
          obtain ⟨s, hx⟩ : ∃ s, ct.town.streets[j]? = some s := ⟨ct.town.streets[j], by simp [hi']⟩
          have hdrop : ct.town.streets.drop j = s :: ct.town.streets.drop (j + 1) := by
            rw [List.drop_eq_getElem_cons hi']; congr 1; exact (List.getElem?_eq_some_iff.1 hx).2
          rw [hdrop] at hinv2
          simp only [firstSt] at hinv2
          refine W_skip (kq17 _ _ ?_)
          refine W_seq fun kz19 kq19 => ?_
          refine W_block ?_
          refine W_seq fun kz20 kq20 => ?_
          refine W_region [1, 4, 11, 13, 14, 15, 16] fun R hR => ?_   -- r14
          simp only [go_sem, hway, hwe, ha, hb2, hi0, hw1, hw2, hx]
          refine hR _ _ (kq20 _ _ ?_); clear hR R; try clear kq20 kz20
          try simp only [go_sem, hway, hwe, ha, hb2, hi0, hw1, hw2, hx]
          refine W_seq fun kz21 kq21 => ?_
          refine W_drawJ [1, 4, 11, 13, 14, 15, 95] [(95, .bool (isSt cl a b j s))] [0, 1, 2, 3, 4, 5, 6, 7, 8, 9, 10, 11, 12, 13, 14, 15, 16, 17, 18, 19, 20, 21, 22, 23, 24, 25, 26, 27, 28, 29, 30, 31, 32, 33, 34, 35, 36, 37, 38, 39, 40, 41] [] [[], [], [0, 1], [0, 1, 2], [0, 1, 2, 3], [0, 1, 2, 3, 4], [0, 1, 2, 3, 4, 5], [0, 1, 2, 3, 4], [0, 1, 2, 3, 4], [0, 1, 2, 3, 4, 8], [0, 1, 2, 3, 4, 7, 8, 9], [0, 1, 2, 3, 4, 7, 8, 9, 10], [0, 1, 2, 3, 4, 5, 6, 7, 8, 9, 10, 11], [0, 1, 2, 3, 4, 5, 6, 7, 8, 9, 10, 11, 12], [0, 1, 2, 3, 4, 5, 6, 7, 8, 9, 10, 11, 12, 13], [0, 1, 2, 3, 4, 5, 6, 7, 8, 9, 10, 11, 12, 13, 14], [0, 1, 2, 3, 4, 5, 6, 7, 8, 9, 10, 11, 12, 13], [0, 1, 2, 3, 4, 5, 6, 7, 8, 9, 10, 11, 12, 13], [0, 1, 2, 3, 4, 5, 6, 7, 8, 9, 10, 11, 12, 13, 16, 17], [0, 1, 2, 3, 4, 5, 6, 7, 8, 9, 10, 11, 12, 13, 16, 17, 18], [0, 1, 2, 3, 4, 5, 6, 7, 8, 9, 10, 11, 12, 13, 14, 15, 16, 17, 18, 19], [0, 1, 2, 3, 4, 5, 6, 7, 8, 9, 10, 11, 12, 13, 14, 15, 16, 17, 18, 19, 20], [0, 1, 2, 3, 4, 5, 6, 7, 8, 9, 10, 11, 12, 13, 14, 15, 16, 17, 18, 19, 20, 21], [0, 1, 2, 3, 4, 5, 6, 7, 8, 9, 10, 11, 12, 13, 14, 15, 16, 17, 18, 19, 20, 21, 22], [0, 1, 2, 3, 4, 5, 6, 7, 8, 9, 10, 11, 12, 13, 14, 15, 16, 17, 18, 19, 20, 21, 22, 23], [0, 1, 2, 3, 4, 5, 6, 7, 8, 9, 10, 11, 12, 13, 14, 15, 16, 17, 18, 19, 20, 21, 22], [0, 1, 2, 3, 4, 5, 6, 7, 8, 9, 10, 11, 12, 13, 14, 15, 16, 17, 18, 19, 20, 21, 22], [0, 1, 2, 3, 4, 5, 6, 7, 8, 9, 10, 11, 12, 13, 14, 15, 16, 17, 18, 19, 20, 21, 22, 26], [0, 1, 2, 3, 4, 5, 6, 7, 8, 9, 10, 11, 12, 13, 14, 15, 16, 17, 18, 19, 20, 21, 22, 25, 26, 27], [0, 1, 2, 3, 4, 5, 6, 7, 8, 9, 10, 11, 12, 13, 14, 15, 16, 17, 18, 19, 20, 21, 22, 25, 26, 27, 28], [0, 1, 2, 3, 4, 5, 6, 7, 8, 9, 10, 11, 12, 13, 14, 15, 16, 17, 18, 19, 20, 21, 22, 23, 24, 25, 26, 27, 28, 29], [0, 1, 2, 3, 4, 5, 6, 7, 8, 9, 10, 11, 12, 13, 14, 15, 16, 17, 18, 19, 20, 21, 22, 23, 24, 25, 26, 27, 28, 29, 30], [0, 1, 2, 3, 4, 5, 6, 7, 8, 9, 10, 11, 12, 13, 14, 15, 16, 17, 18, 19, 20, 21, 22, 23, 24, 25, 26, 27, 28, 29, 30, 31], [0, 1, 2, 3, 4, 5, 6, 7, 8, 9, 10, 11, 12, 13, 14, 15, 16, 17, 18, 19, 20, 21, 22, 23, 24, 25, 26, 27, 28, 29, 30, 31, 32], [0, 1, 2, 3, 4, 5, 6, 7, 8, 9, 10, 11, 12, 13, 14, 15, 16, 17, 18, 19, 20, 21, 22, 23, 24, 25, 26, 27, 28, 29, 30, 31], [0, 1, 2, 3, 4, 5, 6, 7, 8, 9, 10, 11, 12, 13, 14, 15, 16, 17, 18, 19, 20, 21, 22, 23, 24, 25, 26, 27, 28, 29, 30, 31], [0, 1, 2, 3, 4, 5, 6, 7, 8, 9, 10, 11, 12, 13, 14, 15, 16, 17, 18, 19, 20, 21, 22, 23, 24, 25, 26, 27, 28, 29, 30, 31, 34, 35], [0, 1, 2, 3, 4, 5, 6, 7, 8, 9, 10, 11, 12, 13, 14, 15, 16, 17, 18, 19, 20, 21, 22, 23, 24, 25, 26, 27, 28, 29, 30, 31, 34, 35, 36], [0, 1, 2, 3, 4, 5, 6, 7, 8, 9, 10, 11, 12, 13, 14, 15, 16, 17, 18, 19, 20, 21, 22, 23, 24, 25, 26, 27, 28, 29, 30, 31, 32, 33, 34, 35, 36, 37], [0, 1, 2, 3, 4, 5, 6, 7, 8, 9, 10, 11, 12, 13, 14, 15, 16, 17, 18, 19, 20, 21, 22, 23, 24, 25, 26, 27, 28, 29, 30, 31, 32, 33, 34, 35, 36, 37, 38], [0, 1, 2, 3, 4, 5, 6, 7, 8, 9, 10, 11, 12, 13, 14, 15, 16, 17, 18, 19, 20, 21, 22, 23, 24, 25, 26, 27, 28, 29, 30, 31, 32, 33, 34, 35, 36, 37, 38, 39], [0, 1, 2, 3, 4, 5, 6, 7, 8, 9, 10, 11, 12, 13, 14, 15, 16, 17, 18, 19, 20, 21, 22, 23, 24, 25, 26, 27, 28, 29, 30, 31, 32, 33, 34, 35, 36, 37, 38, 39, 40]] mixed (by kernel_rfl) ?_ fun R hR => ?_   -- r15
          · refine kq21 _ _ ?_
            simp only [go_sem, hway, hwe, ha, hb2, hi0, hw1, hw2, hx]
            refine W_cond rfl (fun c5 => ?_) (fun c5 => ?_)
            · -- c5 true
              try simp only [nrm] at c5
              refine W_seq fun kz22 kq22 => ?_
              refine W_region [1, 4, 11, 13, 14] fun R hR => ?_   -- r16
              simp only [go_sem, hway, hwe, ha, hb2, hi0, hw1, hw2, hx]
              simp (disch := first | omega | (simp only [go_sem] <;> omega)) only [wrapI, wrapU, appX_exact, appX_tok]
              try simp only [go_sem, hway, hwe, ha, hb2, hi0, hw1, hw2, hx]
              refine hR _ _ (kq22 _ _ ?_); clear hR R; try clear kq22 kz22
              try simp only [go_sem, hway, hwe, ha, hb2, hi0, hw1, hw2, hx]
              refine W_exit ?_
              simp only [go_sem, hway, hwe, ha, hb2, hi0, hw1, hw2, hx]
              refine kq15 _ _ ?_
              refine W_region [1, 4, 11, 13, 14] fun R hR => ?_   -- r10
              simp only [go_sem, hway, hwe, ha, hb2, hi0, hw1, hw2, hx]
              try simp (disch := omega) only [wrapI, wrapU]
              refine hR _ _ ?_; clear hR R
              try simp only [go_sem, hway, hwe, ha, hb2, hi0, hw1, hw2, hx]
              refine ⟨(i + 1, out ++ [(j : Int)]), ?_, by (try simp only []); omega, ?_⟩
              · refine Weak.trans (Weak.cutX 1 1 (by omega) (by omega) hcl (by simp only [go_sem] <;> omega) (by simp only [go_sem] <;> omega)) ?_
                simp only [go_sem]
                exact Weak.eq (by first | rfl | (simp only [go_sem]; done) | (simp only [go_sem]; rfl) | (simp [go_sem]; done) | (simp [go_sem]; omega)) (by first | rfl | (simp only [go_sem]; done) | (simp [go_sem]; done))
              · try dsimp only
                first | exact ⟨by simp; omega, by omega, by rw [hinv, hinv2, if_pos c5]; rfl⟩ | exact ⟨by omega, by omega, by rw [hinv, hinv2]; rfl⟩
            · -- c5 false
              try simp only [nrm] at c5
              refine W_skip (kq19 _ _ ?_)
              refine W_region [1, 4, 11, 13, 14, 15] fun R hR => ?_   -- r13
              simp only [go_sem, hway, hwe, ha, hb2, hi0, hw1, hw2, hx]
              try simp (disch := omega) only [wrapI, wrapU]
              refine hR _ _ ?_; clear hR R
              try simp only [go_sem, hway, hwe, ha, hb2, hi0, hw1, hw2, hx]
              refine ⟨j + 1, ?_, by (try simp only []); omega, ?_⟩
              · refine Weak.trans (Weak.cutX 1 1 (by omega) (by omega) hcl (by simp only [go_sem] <;> omega) (by simp only [go_sem] <;> omega)) ?_
                simp only [go_sem]
                exact Weak.eq (by first | rfl | (simp only [go_sem]; done) | (simp only [go_sem]; rfl) | (simp [go_sem]; done) | (simp [go_sem]; omega)) (by first | rfl | (simp only [go_sem]; done) | (simp [go_sem]; done))
              · try dsimp only
                exact ⟨hi', by rw [hinv2, if_neg (by simpa using c5)]⟩
          · simp only [go_sem, hway, hwe, ha, hb2, hi0, hw1, hw2, hx]
            refine GCall_of (rhas_pc Y _ cl (j : Int) .ro (by omega)) ?_   -- t56
            simp only [go_sem, hway, hwe, ha, hb2, hi0, hw1, hw2, hx]
            refine GWant_split (fun g1 => ?_) (fun g1 => ?_)
            · try simp only [Bool.not_eq_true', Bool.not_eq_false'] at g1
              have n1 := g1; try simp only [nrm] at n1
              simp only [go_sem, hway, hwe, ha, hb2, hi0, hw1, hw2, hx, g1]
              refine GWant_split (fun g2 => ?_) (fun g2 => ?_)
              · try simp only [Bool.not_eq_true', Bool.not_eq_false'] at g2
                have n2 := g2; try simp only [nrm] at n2
                try simp (disch := omega) only [wrapI, wrapU] at n2
                simp only [go_sem, hway, hwe, ha, hb2, hi0, hw1, hw2, hx, g1, g2]
                refine GWant_split (fun g3 => ?_) (fun g3 => ?_)
                · try simp only [Bool.not_eq_true', Bool.not_eq_false'] at g3
                  have n3 := g3; try simp only [nrm] at n3
                  try simp (disch := omega) only [wrapI, wrapU] at n3
                  simp only [go_sem, hway, hwe, ha, hb2, hi0, hw1, hw2, hx, g1, g2, g3]
                  refine GWant_split (fun g4 => ?_) (fun g4 => ?_)
                  · try simp only [Bool.not_eq_true', Bool.not_eq_false'] at g4
                    have n4 := g4; try simp only [nrm] at n4
                    try simp (disch := omega) only [wrapI, wrapU] at n4
                    simp only [go_sem, hway, hwe, ha, hb2, hi0, hw1, hw2, hx, g1, g2, g3, g4]
                    try simp (disch := omega) only [wrapI, wrapU]
                    try refine And.intro (by repeat' (first | refine And.intro ?_ ?_ | exact GOr_right (fun _ => by simp only [go_sem, hway, hwe, ha, hb2, hi0, hw1, hw2, hx]))) ?_
                    refine hR _ ?_
                    try simp only [go_sem, hway, hwe, ha, hb2, hi0, hw1, hw2, hx]
                    all_goals
                      first | rfl | (rw [stA1 g1 g2]; done) | (rw [stA2 g1 g2]; done) | (rw [stB g1 (by omega) g4]; done) | (rw [stB g1 (by omega) g5]; done) | (rw [stA1 g1 g2]; rfl) | (rw [stA2 g1 g2]; rfl) | (rw [stB g1 (by omega) g4]; rfl) | (rw [stB g1 (by omega) g5]; rfl) | (simp [isSt, *]; done)
                  · try simp only [Bool.not_eq_true', Bool.not_eq_false'] at g4
                    have n4 := g4; try simp only [nrm] at n4
                    try simp (disch := omega) only [wrapI, wrapU] at n4
                    simp only [go_sem, hway, hwe, ha, hb2, hi0, hw1, hw2, hx, g1, g2, g3, g4]
                    try simp (disch := omega) only [wrapI, wrapU]
                    try refine And.intro (by repeat' (first | refine And.intro ?_ ?_ | exact GOr_right (fun _ => by simp only [go_sem, hway, hwe, ha, hb2, hi0, hw1, hw2, hx]))) ?_
                    refine hR _ ?_
                    try simp only [go_sem, hway, hwe, ha, hb2, hi0, hw1, hw2, hx]
                    all_goals
                      first | rfl | (rw [stA1 g1 g2]; done) | (rw [stA2 g1 g2]; done) | (rw [stB g1 (by omega) g4]; done) | (rw [stB g1 (by omega) g5]; done) | (rw [stA1 g1 g2]; rfl) | (rw [stA2 g1 g2]; rfl) | (rw [stB g1 (by omega) g4]; rfl) | (rw [stB g1 (by omega) g5]; rfl) | (simp [isSt, *]; done)
                · try simp only [Bool.not_eq_true', Bool.not_eq_false'] at g3
                  have n3 := g3; try simp only [nrm] at n3
                  try simp (disch := omega) only [wrapI, wrapU] at n3
                  simp only [go_sem, hway, hwe, ha, hb2, hi0, hw1, hw2, hx, g1, g2, g3]
                  try simp (disch := omega) only [wrapI, wrapU]
                  try refine And.intro (by repeat' (first | refine And.intro ?_ ?_ | exact GOr_right (fun _ => by simp only [go_sem, hway, hwe, ha, hb2, hi0, hw1, hw2, hx]))) ?_
                  refine hR _ ?_
                  try simp only [go_sem, hway, hwe, ha, hb2, hi0, hw1, hw2, hx]
                  all_goals
                    first | rfl | (rw [stA1 g1 g2]; done) | (rw [stA2 g1 g2]; done) | (rw [stB g1 (by omega) g4]; done) | (rw [stB g1 (by omega) g5]; done) | (rw [stA1 g1 g2]; rfl) | (rw [stA2 g1 g2]; rfl) | (rw [stB g1 (by omega) g4]; rfl) | (rw [stB g1 (by omega) g5]; rfl) | (simp [isSt, *]; done)
              · try simp only [Bool.not_eq_true', Bool.not_eq_false'] at g2
                have n2 := g2; try simp only [nrm] at n2
                try simp (disch := omega) only [wrapI, wrapU] at n2
                simp only [go_sem, hway, hwe, ha, hb2, hi0, hw1, hw2, hx, g1, g2]
                refine GWant_split (fun g5 => ?_) (fun g5 => ?_)
                · try simp only [Bool.not_eq_true', Bool.not_eq_false'] at g5
                  have n5 := g5; try simp only [nrm] at n5
                  try simp (disch := omega) only [wrapI, wrapU] at n5
                  simp only [go_sem, hway, hwe, ha, hb2, hi0, hw1, hw2, hx, g1, g2, g5]
                  try simp (disch := omega) only [wrapI, wrapU]
                  try refine And.intro (by repeat' (first | refine And.intro ?_ ?_ | exact GOr_right (fun _ => by simp only [go_sem, hway, hwe, ha, hb2, hi0, hw1, hw2, hx]))) ?_
                  refine hR _ ?_
                  try simp only [go_sem, hway, hwe, ha, hb2, hi0, hw1, hw2, hx]
                  all_goals
                    first | rfl | (rw [stA1 g1 g2]; done) | (rw [stA2 g1 g2]; done) | (rw [stB g1 (by omega) g4]; done) | (rw [stB g1 (by omega) g5]; done) | (rw [stA1 g1 g2]; rfl) | (rw [stA2 g1 g2]; rfl) | (rw [stB g1 (by omega) g4]; rfl) | (rw [stB g1 (by omega) g5]; rfl) | (simp [isSt, *]; done)
                · try simp only [Bool.not_eq_true', Bool.not_eq_false'] at g5
                  have n5 := g5; try simp only [nrm] at n5
                  try simp (disch := omega) only [wrapI, wrapU] at n5
                  simp only [go_sem, hway, hwe, ha, hb2, hi0, hw1, hw2, hx, g1, g2, g5]
                  try simp (disch := omega) only [wrapI, wrapU]
                  try refine And.intro (by repeat' (first | refine And.intro ?_ ?_ | exact GOr_right (fun _ => by simp only [go_sem, hway, hwe, ha, hb2, hi0, hw1, hw2, hx]))) ?_
                  refine hR _ ?_
                  try simp only [go_sem, hway, hwe, ha, hb2, hi0, hw1, hw2, hx]
                  all_goals
                    first | rfl | (rw [stA1 g1 g2]; done) | (rw [stA2 g1 g2]; done) | (rw [stB g1 (by omega) g4]; done) | (rw [stB g1 (by omega) g5]; done) | (rw [stA1 g1 g2]; rfl) | (rw [stA2 g1 g2]; rfl) | (rw [stB g1 (by omega) g4]; rfl) | (rw [stB g1 (by omega) g5]; rfl) | (simp [isSt, *]; done)
            · try simp only [Bool.not_eq_true', Bool.not_eq_false'] at g1
              have n1 := g1; try simp only [nrm] at n1
              simp only [go_sem, hway, hwe, ha, hb2, hi0, hw1, hw2, hx, g1]
              try simp (disch := omega) only [wrapI, wrapU]
              try refine And.intro (by repeat' (first | refine And.intro ?_ ?_ | exact GOr_right (fun _ => by simp only [go_sem, hway, hwe, ha, hb2, hi0, hw1, hw2, hx]))) ?_
              refine hR _ ?_
              try simp only [go_sem, hway, hwe, ha, hb2, hi0, hw1, hw2, hx]
              all_goals
                first | rfl | (rw [stA1 g1 g2]; done) | (rw [stA2 g1 g2]; done) | (rw [stB g1 (by omega) g4]; done) | (rw [stB g1 (by omega) g5]; done) | (rw [stA1 g1 g2]; rfl) | (rw [stA2 g1 g2]; rfl) | (rw [stB g1 (by omega) g4]; rfl) | (rw [stB g1 (by omega) g5]; rfl) | (simp [isSt, *]; done)
        · -- c4 false
          try simp only [nrm] at c4
          have hdrop : ct.town.streets.drop j = [] := List.drop_eq_nil_of_le (by omega)
          rw [hdrop] at hinv2
          simp only [firstSt] at hinv2
          obtain ⟨o2, ho2⟩ : ∃ z, out = z := ⟨_, rfl⟩
          refine W_exit ?_
          simp only [go_sem, hway, hwe, ha, hb2, hi0, hw1, hw2]
          refine kq15 _ _ ?_
          refine W_region [1, 4, 11, 13, 14] fun R hR => ?_   -- r10
          simp only [go_sem, hway, hwe, ha, hb2, hi0, hw1, hw2]
          try simp (disch := omega) only [wrapI, wrapU]
          refine hR _ _ ?_; clear hR R
          try simp only [go_sem, hway, hwe, ha, hb2, hi0, hw1, hw2]
          refine ⟨(i + 1, out), ?_, by (try simp only []); omega, ?_⟩
          · refine Weak.trans (Weak.cutX 1 1 (by omega) (by omega) hcl (by simp only [go_sem] <;> omega) (by simp only [go_sem] <;> omega)) ?_
            simp only [go_sem]
            exact Weak.eq (by first | rfl | (simp only [go_sem]; done) | (simp only [go_sem]; rfl) | (simp [go_sem]; done) | (simp [go_sem]; omega)) (by first | rfl | (simp only [go_sem]; done) | (simp [go_sem]; done))
          · try dsimp only
            first | exact ⟨by simp; omega, by omega, by rw [hinv, hinv2, if_pos c5]; rfl⟩ | exact ⟨by omega, by omega, by rw [hinv, hinv2]; rfl⟩
      · -- c3 false
        try simp only [nrm] at c3
        rw [routeOf_end (by omega)] at hinv
        refine W_exit ?_
        simp only [go_sem, hway, hwe]
        refine kq11 _ _ ?_
        refine W_seq fun kz23 kq23 => ?_
        refine W_region [8, 9] fun R hR => ?_   -- r17
        simp only [go_sem, hway, hwe]
        refine hR _ _ (kq23 _ _ ?_); clear hR R; try clear kq23 kz23
        try simp only [go_sem, hway, hwe]
        refine W_ret ?_
        simp only [go_sem, hway, hwe]
        refine ⟨.inr (by trivial), ?_⟩
        refine Fin_same hcl rfl (Wk.ro (by simp only [go_sem]) ?_)
        try simp only [go_sem]
        all_goals
          rw [← hres]; simp only [routeAns]; rw [if_neg (by simpa using c1), if_neg (by rw [hwe]; simpa using c2), hway, hinv]
end Go.Proofs.Ytnpamcpoaklgeaa
namespace Go.Proofs.Ytnpamcpoaklgeaa
open Go Go.RowKit
set_option maxRecDepth 100000
theorem backs_len (far : List (Int × Int)) (nb : Int → List Int) (n to' : Int) : ∀ (k : Nat) (at' : Int) (acc : List Int), (backs far nb n to' k at' acc).length ≤ acc.length + k := by
  intro k
  induction k with
  | zero => intro at' acc; simp [backs]
  | succ k ih =>
    intro at' acc
    simp only [backs]
    split
    · omega
    · have := ih (bmins far at' (nb at') n) (acc ++ [bmins far at' (nb at') n])
      simp at this
      omega
theorem wayAns_len (t : Town) (cl : List Int) (from' to' : Int) : (wayAns t cl from' to').1.length ≤ t.rooms.length + 2 := by
  unfold wayAns
  split
  · simp
  · split
    · simp
    · split
      · have := backs_len (wayFar t cl from' to') (nbT t cl) t.rooms.length to' (t.rooms.length + 1) from' [from']
        simp at this
        simp only
        omega
      · simp
theorem routeOf_len (cl : List Int) (sts : List (Int × Int)) : ∀ (way out : List Int), (routeOf cl sts way out).length ≤ out.length + way.length := by
  intro way
  induction way with
  | nil => intro out; simp [routeOf]
  | cons a r ih =>
    intro out
    cases r with
    | nil => simp [routeOf]
    | cons b r =>
      simp only [routeOf]
      have := ih (addSt out (firstSt cl a b sts 0))
      have h2 : (addSt out (firstSt cl a b sts 0)).length ≤ out.length + 1 := by unfold addSt; split <;> simp
      simp only [List.length_cons] at this ⊢
      omega
theorem routeAns_len (c : City) (cl : List Int) (from' to' : Int) : (routeAns c cl from' to').1.length ≤ c.town.rooms.length + 2 := by
  unfold routeAns
  split
  · simp
  · split
    · simp
    · have := routeOf_len cl c.town.streets (wayAns c.town cl from' to').1 []
      have := wayAns_len c.town cl from' to'
      simp at *
      omega
theorem closedA_len (n : Nat) : ∀ (k : Nat) (acc : List Int) (b : Int), (closedA n k acc b).1.length ≤ acc.length + k := by
  intro k
  induction k with
  | zero => intro acc b; simp [closedA, dret]
  | succ k ih =>
    intro acc b
    simp only [closedA, dbind]
    cases hr : (rare 3 b).1 with
    | true =>
      have := ih (acc ++ [((n - (k + 1) : Nat) : Int)]) (rare 3 b).2
      simp only [if_true]
      simp only [List.length_append, List.length_cons, List.length_nil] at this
      omega
    | false =>
      have := ih acc (rare 3 b).2
      simp only [Bool.false_eq_true, if_false]
      omega
theorem closedD_len (t : Town) (b : Int) : (closedD t b).1.length ≤ t.streets.length := by
  have := closedA_len t.streets.length t.streets.length [] b
  simpa [closedD] using this
set_option maxHeartbeats 8000000 in
theorem BandRoutes_pc (Y : YEnv) (σ : Sg) (c : City) (cl : List Int) (from' to' : Int) (nums : List Int) (hc : c.In) (hcl' : cl.length * 8 ≤ 140737488351232) (hn : nums.length < 2 ^ 60) :
    PC Try.prog Y 10 [ctPV c, ints cl, I from', I to', ints nums] σ (.bool true) (σ) := by
  refine PC_of_W Try.func10 rfl (by kernel_rfl) Try.ntmps10 (by simp) fun hcl hca => ?_
  obtain ⟨b0, hb0⟩ : ∃ z, drumB nums 2685821657736338717 = z := ⟨_, rfl⟩
  obtain ⟨made, hmade⟩ : ∃ zz, (cityD b0).1 = zz := ⟨_, rfl⟩
  obtain ⟨b1, hb1⟩ : ∃ zz, (cityD b0).2 = zz := ⟨_, rfl⟩
  obtain ⟨cl2, hcl2⟩ : ∃ zz, (closedD made.town b1).1 = zz := ⟨_, rfl⟩
  obtain ⟨b2, hb2⟩ : ∃ zz, (closedD made.town b1).2 = zz := ⟨_, rfl⟩
  obtain ⟨f2, hf2⟩ : ∃ zz, (roll made.town.rooms.length b2).1 = zz := ⟨_, rfl⟩
  obtain ⟨b3, hb3⟩ : ∃ zz, (roll made.town.rooms.length b2).2 = zz := ⟨_, rfl⟩
  obtain ⟨t2, ht2⟩ : ∃ zz, (roll made.town.rooms.length b3).1 = zz := ⟨_, rfl⟩
  obtain ⟨b4, hb4⟩ : ∃ zz, (roll made.town.rooms.length b3).2 = zz := ⟨_, rfl⟩
  have vmade : CityV made := by rw [← hmade]; exact cityD_ok b0
  have mr := vmade.few.hr
  have ms := vmade.few.hs
  have vcl : cl2.length ≤ made.town.streets.length := by rw [← hcl2]; exact closedD_len _ _
  refine W_seq fun kz1 kq1 => ?_
  refine W_region [1, 2, 3, 4, 5] fun R hR => ?_   -- r0
  simp only [go_sem, hb0, hmade, hb1, hcl2, hb2, hf2, hb3, ht2, hb4]
  refine hR _ _ (kq1 _ _ ?_); clear hR R; try clear kq1 kz1
  try simp only [go_sem, hb0, hmade, hb1, hcl2, hb2, hf2, hb3, ht2, hb4]
  refine W_seq fun kz2 kq2 => ?_
  refine W_seq fun kz3 kq3 => ?_
  refine W_regionJ [1, 2, 3, 4, 5, 31] [(31, .bool (wideB c [] || decide (20 < (cl.length : Int))))] ?_ fun R hR => ?_   -- r1
  · refine kq3 _ _ ?_
    simp only [go_sem, hb0, hmade, hb1, hcl2, hb2, hf2, hb3, ht2, hb4]
    refine W_cond rfl (fun c1 => ?_) (fun c1 => ?_)
    · -- c1 true
      try simp only [nrm] at c1
      refine W_seq fun kz4 kq4 => ?_
      refine W_region [10] fun R hR => ?_   -- r2
      simp only [go_sem, hb0, hmade, hb1, hcl2, hb2, hf2, hb3, ht2, hb4]
      refine GCall_of (lawake_pc Y _) ?_   -- t32
      simp only [go_sem, hb0, hmade, hb1, hcl2, hb2, hf2, hb3, ht2, hb4]
      refine hR _ _ (kq4 _ _ ?_); clear hR R; try clear kq4 kz4
      try simp only [go_sem, hb0, hmade, hb1, hcl2, hb2, hf2, hb3, ht2, hb4]
      refine W_ret ?_
      simp only [go_sem, hb0, hmade, hb1, hcl2, hb2, hf2, hb3, ht2, hb4]
      refine ⟨.inr (by trivial), ?_⟩
      first | refine Fin_same hcl rfl (Wk_eq ?_ (by simp only [go_sem])) | refine Fin_self hcl rfl (Wk_eq ?_ (by simp only [go_sem]))
      try simp only [go_sem]
      all_goals
        first | rfl | (simp_all; done) | (simp_all; omega)
    · -- c1 false
      try simp only [nrm] at c1
      have hw0 : wideB c [] = false := by
        rw [Bool.or_eq_false_iff] at c1; exact c1.1
      have hl20 : cl.length ≤ 20 := by
        rw [Bool.or_eq_false_iff] at c1; have := c1.2; simp at this; omega
      obtain ⟨w1, w2, w3, w4, w5, w6, w7⟩ := wide_not hw0
      have fewc : c.Few := ⟨w1, w2, w3, w6, w4⟩
      refine W_skip (kq2 _ _ ?_)
      refine W_seq fun kz5 kq5 => ?_
      refine W_region [1, 2, 3, 5, 11] fun R hR => ?_   -- r3
      simp only [go_sem, hb0, hmade, hb1, hcl2, hb2, hf2, hb3, ht2, hb4]
      refine GCall_of (DrumOf_pc Y _ nums hn) ?_   -- t34
      simp only [go_sem, hb0, hmade, hb1, hcl2, hb2, hf2, hb3, ht2, hb4]
      refine hR _ _ (kq5 _ _ ?_); clear hR R; try clear kq5 kz5
      try simp only [go_sem, hb0, hmade, hb1, hcl2, hb2, hf2, hb3, ht2, hb4]
      refine W_seq fun kz6 kq6 => ?_
      refine W_region [1, 2, 3, 5, 11, 12] fun R hR => ?_   -- r4
      simp only [go_sem, hb0, hmade, hb1, hcl2, hb2, hf2, hb3, ht2, hb4]
      refine GCall_of (CityOf_pc Y _ _ _ (Sg.get_ext _ _ _ _ 1)) ?_   -- t36
      simp only [go_sem, hb0, hmade, hb1, hcl2, hb2, hf2, hb3, ht2, hb4]
      refine hR _ _ (kq6 _ _ ?_); clear hR R; try clear kq6 kz6
      try simp only [go_sem, hb0, hmade, hb1, hcl2, hb2, hf2, hb3, ht2, hb4]
      refine W_seq fun kz7 kq7 => ?_
      refine W_region [1, 2, 3, 5, 11, 12, 13] fun R hR => ?_   -- r5
      simp only [go_sem, hb0, hmade, hb1, hcl2, hb2, hf2, hb3, ht2, hb4]
      refine hR _ _ (kq7 _ _ ?_); clear hR R; try clear kq7 kz7
      try simp only [go_sem, hb0, hmade, hb1, hcl2, hb2, hf2, hb3, ht2, hb4]
      refine W_seq fun kz8 kq8 => ?_
      refine W_draw [14, 15, 16, 17] [0, 1, 2, 3, 4, 5, 6, 7, 8, 9, 10, 11, 12, 13, 14, 15, 16, 17, 18, 19, 20, 21, 22, 23, 24, 25, 26] [(0, 14), (0, 20), (0, 27), (1, 14), (1, 20), (1, 27), (2, 14), (2, 20), (2, 27), (3, 14), (3, 20), (3, 27), (4, 14), (4, 20), (4, 27), (9, 8), (9, 20), (9, 27), (10, 20), (10, 27), (11, 8), (11, 20), (11, 27), (12, 8), (13, 8), (15, 8), (15, 14), (15, 27), (16, 27), (17, 8), (17, 14), (17, 27), (18, 8), (18, 14), (19, 8), (19, 14), (21, 8), (21, 14), (21, 20)] [[], [], [], [0, 1, 2], [], [], [], [6], [5, 6, 7], [], [4, 5, 6, 7, 8, 9], [], [], [], [5, 6, 7, 8, 12, 13], [], [5, 6, 7, 8, 11, 12, 13, 14, 15], [], [], [], [5, 6, 7, 8, 12, 13, 14, 18, 19], [], [5, 6, 7, 8, 12, 13, 14, 17, 18, 19, 20, 21], [0, 1, 2, 3, 5, 6, 7, 8, 12, 13, 14, 18, 19, 20], [0, 1, 2, 3, 4, 5, 6, 7, 8, 9, 10, 12, 13, 14, 18, 19, 20, 23], [0, 1, 2, 3, 4, 5, 6, 7, 8, 9, 10, 11, 12, 13, 14, 15, 16, 18, 19, 20, 23, 24], [0, 1, 2, 3, 4, 5, 6, 7, 8, 9, 10, 11, 12, 13, 14, 15, 16, 17, 18, 19, 20, 21, 22, 23, 24, 25]] mixed (by kernel_rfl) fun R hR => ?_   -- r6
      simp only [go_sem, hb0, hmade, hb1, hcl2, hb2, hf2, hb3, ht2, hb4]
      refine GCall_of (ClosedOf_pc Y _ _ _ (Sg.get_ext _ _ _ _ 1) made.town (by omega)) ?_   -- t49
      simp only [go_sem, hb0, hmade, hb1, hcl2, hb2, hf2, hb3, ht2, hb4]
      refine GCall_of (Roll_pc Y _ _ _ (Sg.get_ext _ _ _ _ 1) made.town.rooms.length (by omega)) ?_   -- t55
      simp only [go_sem, hb0, hmade, hb1, hcl2, hb2, hf2, hb3, ht2, hb4]
      refine GCall_of (Roll_pc Y _ _ _ (Sg.get_ext _ _ _ _ 1) made.town.rooms.length (by omega)) ?_   -- t61
      simp only [go_sem, hb0, hmade, hb1, hcl2, hb2, hf2, hb3, ht2, hb4]
      try refine And.intro (by repeat' (first | refine And.intro ?_ ?_ | exact GOr_right (fun _ => by simp only [go_sem, hb0, hmade, hb1, hcl2, hb2, hf2, hb3, ht2, hb4]))) ?_
      refine hR _ _ (kq8 _ _ ?_); clear hR R; try clear kq8 kz8
      try simp only [go_sem, hb0, hmade, hb1, hcl2, hb2, hf2, hb3, ht2, hb4]
      refine W_seq fun kz9 kq9 => ?_
      refine W_seq fun kz10 kq10 => ?_
      refine W_region [14, 15, 16, 17, 18] fun R hR => ?_   -- r7
      simp only [go_sem, hb0, hmade, hb1, hcl2, hb2, hf2, hb3, ht2, hb4]
      refine hR _ _ (kq10 _ _ ?_); clear hR R; try clear kq10 kz10
      try simp only [go_sem, hb0, hmade, hb1, hcl2, hb2, hf2, hb3, ht2, hb4]
      refine W_block ?_
      obtain ⟨cs, hcs⟩ : ∃ z, z = [c, made, made] := ⟨_, rfl⟩
      obtain ⟨lss, hls⟩ : ∃ z, z = [cl, cl2, cl] := ⟨_, rfl⟩
      obtain ⟨fs, hfs⟩ : ∃ z, z = [from', f2, from'] := ⟨_, rfl⟩
      obtain ⟨ts, hts⟩ : ∃ z, z = [to', t2, to'] := ⟨_, rfl⟩
      refine W_weak (Weak.eq (E' := [(14, .isl (cs.map ctPV) .exact), (15, .isl (lss.map lsPV) .exact), (16, .isl (fs.map I) .exact), (17, .isl (ts.map I) .exact), (18, I 0)]) (by rw [hcs, hls, hfs, hts]; rfl) rfl) ?_
      have lc : cs.length = 3 := by rw [hcs]; rfl
      have ll : lss.length = 3 := by rw [hls]; rfl
      have lf : fs.length = 3 := by rw [hfs]; rfl
      have lt : ts.length = 3 := by rw [hts]; rfl
      have hfc : ∀ z, z ∈ cs → z.Few := fun z hz => by
        rw [hcs] at hz; simp only [List.mem_cons, List.not_mem_nil, or_false] at hz
        rcases hz with rfl | rfl | rfl
        · exact fewc
        · exact vmade.few
        · exact vmade.few
      have hfl : ∀ z, z ∈ lss → z.length ≤ 20 := fun z hz => by
        rw [hls] at hz; simp only [List.mem_cons, List.not_mem_nil, or_false] at hz
        rcases hz with rfl | rfl | rfl
        · exact hl20
        · omega
        · exact hl20
      clear hcs hls hfs hts
      refine W_loopS (α := Nat) (fun (i : Nat) => [(18, I i)]) (fun (i : Nat) => i ≤ 3) (fun (i : Nat) => 3 - i) (0) rfl (Nat.zero_le _) ?_
      rintro i hi
      refine W_seq fun kz11 kq11 => ?_
      refine W_seq fun kz12 kq12 => ?_
      refine W_region [14, 15, 16, 17, 18, 67] fun R hR => ?_   -- r8
      simp only [go_sem, hb0, hmade, hb1, hcl2, hb2, hf2, hb3, ht2, hb4, lc]
      refine hR _ _ (kq12 _ _ ?_); clear hR R; try clear kq12 kz12
      try simp only [go_sem, hb0, hmade, hb1, hcl2, hb2, hf2, hb3, ht2, hb4, lc]
      refine W_cond rfl (fun c2 => ?_) (fun c2 => ?_)
      · -- c2 true
        try simp only [nrm] at c2
        have hi' : i < 3 := by first | assumption | omega
        obtain ⟨c1', hx1⟩ : ∃ z, cs[i]? = some z := ⟨cs[i]'(by rw [lc]; exact hi'), by simp⟩
        obtain ⟨l1', hx2⟩ : ∃ z, lss[i]? = some z := ⟨lss[i]'(by rw [ll]; exact hi'), by simp⟩
        obtain ⟨f1', hx3⟩ : ∃ z, fs[i]? = some z := ⟨fs[i]'(by rw [lf]; exact hi'), by simp⟩
        obtain ⟨t1', hx4⟩ : ∃ z, ts[i]? = some z := ⟨ts[i]'(by rw [lt]; exact hi'), by simp⟩
        have fc := hfc _ (List.mem_of_getElem? hx1)
        have fl := hfl _ (List.mem_of_getElem? hx2)
        have q1 := fc.hr
        have q2 := fc.hs
        have q3 := fc.hg
        have hwl := wayAns_len c1'.town l1' f1' t1'
        have hrl := routeAns_len c1' l1' f1' t1'
        obtain ⟨rs, hrs⟩ : ∃ z, (routeAns c1' l1' f1' t1').1 = z := ⟨_, rfl⟩
        obtain ⟨re, hre⟩ : ∃ z, (routeAns c1' l1' f1' t1').2 = z := ⟨_, rfl⟩
        rw [hrs] at hrl
        refine W_skip (kq11 _ _ ?_)
        refine W_seq fun kz13 kq13 => ?_
        refine W_block ?_
        refine W_seq fun kz14 kq14 => ?_
        refine W_draw [14, 15, 16, 17, 18, 19, 20] [0, 1, 2, 3, 4, 5, 6, 7, 8, 9, 10, 11, 12] [(5, 4), (6, 4), (7, 4), (8, 4)] [[], [], [0, 1], [0, 1, 2], [0, 1, 2, 3], [], [], [5, 6], [5, 6, 7], [0, 1, 2, 3, 4, 5, 6, 7, 8], [], [0, 1, 2, 3, 4, 5, 6, 7, 8, 9, 10], [0, 1, 2, 3, 4, 5, 6, 7, 8, 9, 10, 11]] mixed (by kernel_rfl) fun R hR => ?_   -- r10
        simp only [go_sem, hb0, hmade, hb1, hcl2, hb2, hf2, hb3, ht2, hb4, lc, hx1, hx2, hx3, hx4]
        refine GCall_of (OwnCity_pc Y _ c1' fc.small) ?_   -- t74
        simp only [go_sem, hb0, hmade, hb1, hcl2, hb2, hf2, hb3, ht2, hb4, lc, hx1, hx2, hx3, hx4]
        refine GCall_of (Ints_pc Y _ l1' .ro (by omega)) ?_   -- t79
        simp only [go_sem, hb0, hmade, hb1, hcl2, hb2, hf2, hb3, ht2, hb4, lc, hx1, hx2, hx3, hx4]
        try refine And.intro (by repeat' (first | refine And.intro ?_ ?_ | exact GOr_right (fun _ => by simp only [go_sem, hb0, hmade, hb1, hcl2, hb2, hf2, hb3, ht2, hb4, lc, hx1, hx2, hx3, hx4]))) ?_
        refine hR _ _ (kq14 _ _ ?_); clear hR R; try clear kq14 kz14
        try simp only [go_sem, hb0, hmade, hb1, hcl2, hb2, hf2, hb3, ht2, hb4, lc, hx1, hx2, hx3, hx4]
        refine W_seq fun kz15 kq15 => ?_
        refine W_draw [14, 15, 16, 17, 18, 19, 20, 21, 22] [0, 1, 2, 3, 4, 5, 6, 7, 8, 9, 10, 11, 12, 13, 14, 15] [] [[], [], [], [], [2, 3], [2, 3, 4], [], [], [6, 7], [6, 7, 8], [0, 1, 2, 3, 4, 5, 6, 7, 8, 9], [0, 1, 2, 3, 4, 5, 6, 7, 8, 9, 10], [0, 1, 2, 3, 4, 5, 6, 7, 8, 9, 10, 11], [0, 1, 2, 3, 4, 5, 6, 7, 8, 9, 10, 11], [0, 1, 2, 3, 4, 5, 6, 7, 8, 9, 10, 11, 12], [0, 1, 2, 3, 4, 5, 6, 7, 8, 9, 10, 11, 12, 13, 14]] mixed (by kernel_rfl) fun R hR => ?_   -- r11
        simp only [go_sem, hb0, hmade, hb1, hcl2, hb2, hf2, hb3, ht2, hb4, lc, hx1, hx2, hx3, hx4]
        refine GCall_of (PC.val (v' := .tuple [ints rs, I re]) (Route_pc Y _ c1' fc.okc l1' f1' t1' (by omega) (by omega) (by omega) (by omega) (fun g hg => by have := fc.hp g hg; omega) (by omega)) (by rw [hrs, hre])) ?_   -- t91
        simp only [go_sem, hb0, hmade, hb1, hcl2, hb2, hf2, hb3, ht2, hb4, lc, hx1, hx2, hx3, hx4]
        try refine And.intro (by repeat' (first | refine And.intro ?_ ?_ | exact GOr_right (fun _ => by simp only [go_sem, hb0, hmade, hb1, hcl2, hb2, hf2, hb3, ht2, hb4, lc, hx1, hx2, hx3, hx4]))) ?_
        refine hR _ _ (kq15 _ _ ?_); clear hR R; try clear kq15 kz15
        try simp only [go_sem, hb0, hmade, hb1, hcl2, hb2, hf2, hb3, ht2, hb4, lc, hx1, hx2, hx3, hx4]
        refine W_seq fun kz16 kq16 => ?_
        refine W_draw [14, 15, 16, 17, 18, 19, 20, 21, 22, 23, 24] [0, 1, 2, 3, 4, 5, 6, 7, 8, 9, 10, 11, 12, 13, 14, 15, 16, 17, 18, 19, 20, 21] [] [[], [], [0, 1], [0, 1, 2], [], [], [4, 5], [4, 5, 6], [], [], [8, 9], [8, 9, 10], [], [], [12, 13], [12, 13, 14], [0, 1, 2, 3, 4, 5, 6, 7, 8, 9, 10, 11, 12, 13, 14, 15], [0, 1, 2, 3, 4, 5, 6, 7, 8, 9, 10, 11, 12, 13, 14, 15, 16], [0, 1, 2, 3, 4, 5, 6, 7, 8, 9, 10, 11, 12, 13, 14, 15, 16, 17], [0, 1, 2, 3, 4, 5, 6, 7, 8, 9, 10, 11, 12, 13, 14, 15, 16, 17], [0, 1, 2, 3, 4, 5, 6, 7, 8, 9, 10, 11, 12, 13, 14, 15, 16, 17, 18], [0, 1, 2, 3, 4, 5, 6, 7, 8, 9, 10, 11, 12, 13, 14, 15, 16, 17, 18, 19, 20]] mixed (by kernel_rfl) fun R hR => ?_   -- r12
        simp only [go_sem, hb0, hmade, hb1, hcl2, hb2, hf2, hb3, ht2, hb4, lc, hx1, hx2, hx3, hx4]
        refine GCall_of (PC.val (v' := .tuple [ints rs, I re]) (rRoute_pc Y _ c1' fc.okc l1' f1' t1' (by omega) (by omega) (by omega) (by omega) (fun g hg => by have := fc.hp g hg; omega) (by omega)) (by rw [hrs, hre])) ?_   -- t111
        simp only [go_sem, hb0, hmade, hb1, hcl2, hb2, hf2, hb3, ht2, hb4, lc, hx1, hx2, hx3, hx4]
        try refine And.intro (by repeat' (first | refine And.intro ?_ ?_ | exact GOr_right (fun _ => by simp only [go_sem, hb0, hmade, hb1, hcl2, hb2, hf2, hb3, ht2, hb4, lc, hx1, hx2, hx3, hx4]))) ?_
        refine hR _ _ (kq16 _ _ ?_); clear hR R; try clear kq16 kz16
        try simp only [go_sem, hb0, hmade, hb1, hcl2, hb2, hf2, hb3, ht2, hb4, lc, hx1, hx2, hx3, hx4]
        refine W_seq fun kz17 kq17 => ?_
        refine W_draw [14, 15, 16, 17, 18, 140] [0, 1, 2, 3, 4, 5, 6, 7, 8, 9, 10, 11, 12, 13, 14, 15, 16, 17, 18, 19, 20, 21, 22, 23, 24, 25, 26] [] [[], [], [0, 1], [0, 1, 2], [0, 1, 2, 3], [0, 1, 2, 3], [0, 1, 2, 3, 4, 5], [0, 1, 2, 3, 4, 5, 6], [0, 1, 2, 3, 4, 5, 6, 7], [0, 1, 2, 3, 4, 5, 6, 7, 8], [0, 1, 2, 3, 4, 5, 6, 7, 8, 9], [0, 1, 2, 3, 4, 5, 6, 7, 8, 9], [0, 1, 2, 3, 4, 5, 6, 7, 8, 9], [0, 1, 2, 3, 4, 5, 6, 7, 8, 9, 11, 12], [0, 1, 2, 3, 4, 5, 6, 7, 8, 9, 11, 12, 13], [0, 1, 2, 3, 4, 5, 6, 7, 8, 9, 10, 11, 12, 13, 14], [0, 1, 2, 3, 4, 5, 6, 7, 8, 9, 10, 11, 12, 13, 14, 15], [0, 1, 2, 3, 4, 5, 6, 7, 8, 9, 10, 11, 12, 13, 14, 15, 16], [0, 1, 2, 3, 4, 5, 6, 7, 8, 9, 10, 11, 12, 13, 14, 15, 16, 17], [0, 1, 2, 3, 4, 5, 6, 7, 8, 9, 10, 11, 12, 13, 14, 15, 16, 17, 18], [0, 1, 2, 3, 4, 5, 6, 7, 8, 9, 10, 11, 12, 13, 14, 15, 16, 17, 18], [0, 1, 2, 3, 4, 5, 6, 7, 8, 9, 10, 11, 12, 13, 14, 15, 16, 17, 18], [0, 1, 2, 3, 4, 5, 6, 7, 8, 9, 10, 11, 12, 13, 14, 15, 16, 17, 18, 20, 21], [0, 1, 2, 3, 4, 5, 6, 7, 8, 9, 10, 11, 12, 13, 14, 15, 16, 17, 18, 20, 21, 22], [0, 1, 2, 3, 4, 5, 6, 7, 8, 9, 10, 11, 12, 13, 14, 15, 16, 17, 18, 19, 20, 21, 22, 23], [0, 1, 2, 3, 4, 5, 6, 7, 8, 9, 10, 11, 12, 13, 14, 15, 16, 17, 18, 19, 20, 21, 22, 23, 24], [0, 1, 2, 3, 4, 5, 6, 7, 8, 9, 10, 11, 12, 13, 14, 15, 16, 17, 18, 19, 20, 21, 22, 23, 24, 25]] mixed (by kernel_rfl) fun R hR => ?_   -- r13
        simp only [go_sem, hb0, hmade, hb1, hcl2, hb2, hf2, hb3, ht2, hb4, lc, hx1, hx2, hx3, hx4]
        refine GCall_of (EqInts_self Y _ rs .ro .ro (by omega)) ?_   -- t120
        simp only [go_sem, hb0, hmade, hb1, hcl2, hb2, hf2, hb3, ht2, hb4, lc, hx1, hx2, hx3, hx4]
        refine GCall_of (EqCities_pc Y _ c1' fc.okc) ?_   -- t129
        simp only [go_sem, hb0, hmade, hb1, hcl2, hb2, hf2, hb3, ht2, hb4, lc, hx1, hx2, hx3, hx4]
        refine GCall_of (EqInts_self Y _ l1' .ro .ro (by omega)) ?_   -- t138
        simp only [go_sem, hb0, hmade, hb1, hcl2, hb2, hf2, hb3, ht2, hb4, lc, hx1, hx2, hx3, hx4]
        try refine And.intro (by repeat' (first | refine And.intro ?_ ?_ | exact GOr_right (fun _ => by simp only [go_sem, hb0, hmade, hb1, hcl2, hb2, hf2, hb3, ht2, hb4, lc, hx1, hx2, hx3, hx4]))) ?_
        refine hR _ _ (kq17 _ _ ?_); clear hR R; try clear kq17 kz17
        try simp only [go_sem, hb0, hmade, hb1, hcl2, hb2, hf2, hb3, ht2, hb4, lc, hx1, hx2, hx3, hx4]
        refine W_cond rfl (fun c3 => ?_) (fun c3 => ?_)
        · -- c3 true
          try simp only [nrm] at c3
          exfalso
          simp at c3
        · -- c3 false
          try simp only [nrm] at c3
          refine W_skip (kq13 _ _ ?_)
          refine W_region [14, 15, 16, 17, 18] fun R hR => ?_   -- r9
          simp only [go_sem, hb0, hmade, hb1, hcl2, hb2, hf2, hb3, ht2, hb4, lc, hx1, hx2, hx3, hx4]
          try simp (disch := omega) only [wrapI, wrapU]
          refine hR _ _ ?_; clear hR R
          try simp only [go_sem, hb0, hmade, hb1, hcl2, hb2, hf2, hb3, ht2, hb4, lc, hx1, hx2, hx3, hx4]
          refine ⟨i + 1, ?_, by (try simp only []); omega, ?_⟩
          · refine Weak.trans (Weak.cutX 3 0 (by omega) (by omega) hcl (by simp only [go_sem] <;> omega) (by simp only [go_sem] <;> omega)) ?_
            simp only [go_sem]
            exact Weak.eq (by first | rfl | (simp only [go_sem]; done) | (simp only [go_sem]; rfl) | (simp [go_sem]; done) | (simp [go_sem]; omega)) (by first | rfl | (simp only [go_sem]; done) | (simp [go_sem]; done))
          · try dsimp only
            omega
      · -- c2 false
        try simp only [nrm] at c2
        refine W_exit ?_
        simp only [go_sem, hb0, hmade, hb1, hcl2, hb2, hf2, hb3, ht2, hb4, lc]
        refine kq9 _ _ ?_
        refine W_seq fun kz18 kq18 => ?_
        refine W_region [10] fun R hR => ?_   -- r15
        simp only [go_sem, hb0, hmade, hb1, hcl2, hb2, hf2, hb3, ht2, hb4, lc]
        refine GCall_of (lawake_pc Y _) ?_   -- t141
        simp only [go_sem, hb0, hmade, hb1, hcl2, hb2, hf2, hb3, ht2, hb4, lc]
        refine hR _ _ (kq18 _ _ ?_); clear hR R; try clear kq18 kz18
        try simp only [go_sem, hb0, hmade, hb1, hcl2, hb2, hf2, hb3, ht2, hb4, lc]
        refine W_ret ?_
        simp only [go_sem, hb0, hmade, hb1, hcl2, hb2, hf2, hb3, ht2, hb4, lc]
        refine ⟨.inr (by trivial), ?_⟩
        first | refine Fin_same hcl rfl (Wk_eq ?_ (by simp only [go_sem])) | refine Fin_self hcl rfl (Wk_eq ?_ (by simp only [go_sem]))
        try simp only [go_sem]
        all_goals
          first | rfl | (simp_all; done) | (simp_all; omega)
  · simp only [go_sem, hb0, hmade, hb1, hcl2, hb2, hf2, hb3, ht2, hb4]
    refine GCall_of (PC.ofRo (wide_pc Y _ c [] hc.okc (by simp)) (by simp only [go_sem, bands] <;> rfl)) ?_   -- t26
    simp only [go_sem, hb0, hmade, hb1, hcl2, hb2, hf2, hb3, ht2, hb4]
    refine GWant_split (fun g1 => ?_) (fun g1 => ?_)
    · try simp only [Bool.not_eq_true', Bool.not_eq_false'] at g1
      have n1 := g1; try simp only [nrm] at n1
      simp only [go_sem, hb0, hmade, hb1, hcl2, hb2, hf2, hb3, ht2, hb4, g1]
      refine hR _ ?_
      try simp only [go_sem, hb0, hmade, hb1, hcl2, hb2, hf2, hb3, ht2, hb4]
      all_goals
        first | rfl | (simp [*]; done) | (simp [*]; omega)
    · try simp only [Bool.not_eq_true', Bool.not_eq_false'] at g1
      have n1 := g1; try simp only [nrm] at n1
      simp only [go_sem, hb0, hmade, hb1, hcl2, hb2, hf2, hb3, ht2, hb4, g1]
      refine hR _ ?_
      try simp only [go_sem, hb0, hmade, hb1, hcl2, hb2, hf2, hb3, ht2, hb4]
      all_goals
        first | rfl | (simp [*]; done) | (simp [*]; omega)
end Go.Proofs.Ytnpamcpoaklgeaa
namespace Go.Proofs.Ytnpamcpoaklgeaa
open Go Go.RowKit
theorem rdBandRoutesArgs : All2 (fun t R => Rd Try.prog t R) Try.f10.params.toList [fun p => ∃ c : City, p = ctPV c ∧ citySz c, fun p => ∃ xs : List Int, p = ints xs ∧ xs.length * 8 ≤ 140737488351232, fun p => ∃ n : Int, p = I n, fun p => ∃ n : Int, p = I n, fun p => ∃ xs : List Int, p = ints xs ∧ xs.length * 8 ≤ 140737488351232] :=
  .cons rdCity (.cons rdInts (.cons rdInt (.cons rdInt (.cons rdInts .nil))))
set_option maxHeartbeats 4000000 in
theorem BandRoutes_walk : ∀ qs, AllR [fun p => ∃ c : City, p = ctPV c ∧ citySz c, fun p => ∃ xs : List Int, p = ints xs ∧ xs.length * 8 ≤ 140737488351232, fun p => ∃ n : Int, p = I n, fun p => ∃ n : Int, p = I n, fun p => ∃ xs : List Int, p = ints xs ∧ xs.length * 8 ≤ 140737488351232] qs → ∃ σ', PC Try.prog noY 10 qs Sg.zero (.bool true) σ' := by
  intro qs hq
  obtain ⟨px0, qs, rfl, ⟨x0, hx0, sx0⟩, hq⟩ := allR_cons hq
  obtain ⟨px1, qs, rfl, ⟨x1, hx1, sx1⟩, hq⟩ := allR_cons hq
  obtain ⟨px2, qs, rfl, ⟨x2, hx2⟩, hq⟩ := allR_cons hq
  obtain ⟨px3, qs, rfl, ⟨x3, hx3⟩, hq⟩ := allR_cons hq
  obtain ⟨px4, qs, rfl, ⟨x4, hx4, sx4⟩, hq⟩ := allR_cons hq
  obtain rfl := allR_nil hq
  subst hx0 hx1 hx2 hx3 hx4
  exact ⟨_, BandRoutes_pc noY _ x0 x1 x2 x3 x4 ⟨sx0.hr, sx0.hs, sx0.hg, sx0.hp, sx0.hsl⟩ sx1 (by omega)⟩
theorem BandRoutes_lifted (os : Os) (started : os.Started) (H : Type) (enc : TypeId × Value → H) :
    ReturnsInHanded {} Try.checked os 10 .any (Rows.bandRoutesSpec.pre6 enc Try.prog Try.f10 Rows.bandRoutesRow.domain false) (Rows.bandRoutesSpec.post enc Try.prog Try.f10 false true false false) :=
  law_lifted (C := Try.checked) own started (by kernel_rfl) Try.func10 rfl laidOut (by kernel_rfl) rdBandRoutesArgs rfl Try.underlying4
    (fun ds h => match ds, h with | [_, _, _, _, _], _ => rfl)
    (ChangeSpec.witness6 (enc := enc) (C := Try.checked) false ⟨#[], #[Value.agg #[.slice none 0 0, .slice none 0 0, .slice none 0 0, .int .i64 0, .int .i64 0, .slice none 0 0], .slice none 0 0, .int .i64 0, .int .i64 0, .slice none 0 0], []⟩ 8 (by kernel_rfl) (by kernel_rfl) (by kernel_rfl) (by kernel_rfl))
    BandRoutes_walk
theorem BandRoutes_holds : Rows.BandRoutesSaid :=
  OpenClaim.holds_of_wide 10 Try.f10 rfl rfl rfl rfl rfl rfl rfl ⟨rfl, rfl, rfl, rfl, rfl⟩ rfl rfl rfl rfl rfl (by kernel_rfl) Try.func10 (by kernel_rfl)
    (of_decide_eq_true (by kernel_rfl)) (by unfold Func.isWrapper; first | (rw [if_pos (by decide +kernel)]; kernel_rfl) | (rw [if_neg (by decide +kernel)]; exact ⟨rfl, rfl⟩))
    (fun os started H enc _ => BandRoutes_lifted os started H enc)
end Go.Proofs.Ytnpamcpoaklgeaa
