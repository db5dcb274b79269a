/-
  Views: a state and what was added to it; owners forgotten; how functions usually end.
  What the operations do at a type, without the type.
  Loops that count down; ends that leave something new.
  Cleanness of what was added; folds over ranges of numbers.
  A slice without spare room gets a room; a value's owner is forgotten.
  Loops over a state of plain values; cleanness, loads of rows and variables that were there before, by simp.
  Regions whose ways meet again; sums that fit.
  A variable's slice without spare room gets a room; what is read of a variable may be told otherwise.
  The owner of a slice in a variable is forgotten.
  A slice is held against nil: the answer is open where the slice is empty.
  Slices of slices: what goes in front is cut off.
  Slices that grow in place: operations without types; a variable moved to another number; a variable that is never written again.
  From a world to its pure reading: what the arguments of a law are read as, and the law's row out of the law's walk. No program is named here.
-/
import Derived.Test.YtnpamcpoaklgeaaPb
import Derived.ProofKit
import Derived.Carry
import Derived.Handed
import Derived.ChangeCalls
set_option linter.unusedSimpArgs false
set_option linter.unusedVariables false
namespace Go.Proofs.Ytnpamcpoaklgeaa
open Go Go.RowKit

/-! ### A state, and what was added -/
def Sg.ext (σ : Sg) (l : List (Option (List PV))) (rm : List Nat) (ys : List LState := []) : Sg := ⟨σ.store ++ l, σ.rooms ++ rm, σ.ys ++ ys⟩
section
variable (σ : Sg) (l l' : List (Option (List PV))) (rm rm' : List Nat) (ys ys' : List LState)
theorem Sg.ext_nil : σ.ext [] [] = σ := by simp [Sg.ext]
theorem Sg.push_ext (zs : List PV) : (σ.ext l rm ys).push zs = σ.ext (l ++ [some zs]) rm ys := by simp [Sg.push, Sg.ext]
theorem Sg.push_new (zs : List PV) : σ.push zs = σ.ext [some zs] [] := by simp [Sg.push, Sg.ext]
theorem Sg.pushRoom_ext (n : Nat) : (σ.ext l rm ys).pushRoom n = σ.ext l (rm ++ [n]) ys := by simp [Sg.pushRoom, Sg.ext]
theorem Sg.pushRoom_new (n : Nat) : σ.pushRoom n = σ.ext [] [n] := by simp [Sg.pushRoom, Sg.ext]
theorem Sg.pushY_ext : (σ.ext l rm ys).pushY = σ.ext l rm (ys ++ [.ready]) := by simp [Sg.pushY, Sg.ext]
theorem Sg.pushY_new : σ.pushY = σ.ext [] [] [.ready] := by simp [Sg.pushY, Sg.ext]
theorem Sg.ext_ext : (σ.ext l rm ys).ext l' rm' ys' = σ.ext (l ++ l') (rm ++ rm') (ys ++ ys') := by simp [Sg.ext]
theorem Sg.len_ext : (σ.ext l rm ys).store.length = σ.store.length + l.length := by simp [Sg.ext]
theorem Sg.rooms_ext : (σ.ext l rm ys).rooms.length = σ.rooms.length + rm.length := by simp [Sg.ext]
theorem Sg.ys_ext : (σ.ext l rm ys).ys.length = σ.ys.length + ys.length := by simp [Sg.ext]
theorem Sg.ysget_ext (k : Nat) : (σ.ext l rm ys).ys[σ.ys.length + k]? = ys[k]? := by
  show (σ.ys ++ ys)[σ.ys.length + k]? = _
  rw [List.getElem?_append_right (by omega)]
  simp
theorem Sg.ysget_ext0 : (σ.ext l rm ys).ys[σ.ys.length]? = ys[0]? := Sg.ysget_ext σ l rm ys 0
theorem Sg.setY_ext (k : Nat) (s : LState) : (σ.ext l rm ys).setY (σ.ys.length + k) s = σ.ext l rm (ys.set k s) := by
  simp [Sg.setY, Sg.ext, List.set_append_right]
theorem Sg.setY_ext0 (s : LState) : (σ.ext l rm ys).setY σ.ys.length s = σ.ext l rm (ys.set 0 s) := Sg.setY_ext σ l rm ys 0 s
theorem Sg.popY_ext (k : Nat) : (σ.ext l rm ys).popY (σ.ys.length + k) = σ.ext l rm (ys.take k) := by
  simp [Sg.popY, Sg.ext, List.take_append, List.take_of_length_le]
theorem Sg.popY_ext0 : (σ.ext l rm ys).popY σ.ys.length = σ.ext l rm [] := by
  have := Sg.popY_ext σ l rm ys 0
  simpa using this
theorem Sg.get_ext (k : Nat) : (σ.ext l rm ys).store[σ.store.length + k]? = l[k]? := by
  show (σ.store ++ l)[σ.store.length + k]? = _
  rw [List.getElem?_append_right (by omega)]
  simp
theorem Sg.get_ext0 : (σ.ext l rm ys).store[σ.store.length]? = l[0]? := Sg.get_ext σ l rm ys 0
variable {σ l rm ys}
theorem Sg.get_old {id : Nat} {cs : List PV} (h : σ.store[id]? = some (some cs)) : (σ.ext l rm ys).store[id]? = some (some cs) := by
  show (σ.store ++ l)[id]? = _
  rw [List.getElem?_append_left (List.getElem?_eq_some_iff.1 h).1]
  exact h
variable (σ l rm ys)
theorem Sg.room_ext (k : Nat) : (σ.ext l rm ys).rooms[σ.rooms.length + k]? = rm[k]? := by
  show (σ.rooms ++ rm)[σ.rooms.length + k]? = _
  rw [List.getElem?_append_right (by omega)]
  simp
theorem Sg.room_ext0 : (σ.ext l rm ys).rooms[σ.rooms.length]? = rm[0]? := Sg.room_ext σ l rm ys 0
theorem Sg.set_ext (k : Nat) (cs : List PV) : (σ.ext l rm ys).setVar (σ.store.length + k) cs = σ.ext (l.set k (some cs)) rm ys := by
  simp [Sg.setVar, Sg.ext, List.set_append_right]
theorem Sg.set_ext0 (cs : List PV) : (σ.ext l rm ys).setVar σ.store.length cs = σ.ext (l.set 0 (some cs)) rm ys := Sg.set_ext σ l rm ys 0 cs
theorem Sg.setRoom_ext (k n : Nat) : (σ.ext l rm ys).setRoom (σ.rooms.length + k) n = σ.ext l (rm.set k n) ys := by
  simp [Sg.setRoom, Sg.ext, List.set_append_right]
theorem Sg.setRoom_ext0 (n : Nat) : (σ.ext l rm ys).setRoom σ.rooms.length n = σ.ext l (rm.set 0 n) ys := Sg.setRoom_ext σ l rm ys 0 n
variable {σ l rm ys}
theorem Sg.set_old {id : Nat} {cs' : List PV} (h : σ.store[id]? = some (some cs')) (cs : List PV) : (σ.ext l rm ys).setVar id cs = (σ.setVar id cs).ext l rm ys := by
  have := (List.getElem?_eq_some_iff.1 h).1
  simp [Sg.setVar, Sg.ext, List.set_append_left _ _ this]
variable (σ l rm ys)
theorem Sg.cut_ext (k : Nat) (j : Nat) : (σ.ext l rm).cut (σ.store.length + k) (σ.rooms.length + j) σ.ys.length = σ.ext (l.take k) (rm.take j) := by
  simp [Sg.cut, Sg.ext, List.take_append, List.take_of_length_le]
theorem Sg.cut_ext0 : (σ.ext l rm).cut σ.store.length σ.rooms.length σ.ys.length = σ := by
  simp [Sg.cut, Sg.ext]
theorem Sg.cut_exty (k : Nat) (j m : Nat) : (σ.ext l rm ys).cut (σ.store.length + k) (σ.rooms.length + j) (σ.ys.length + m) = σ.ext (l.take k) (rm.take j) (ys.take m) := by
  simp [Sg.cut, Sg.ext, List.take_append, List.take_of_length_le]
end

theorem Clean.mono {a b c a' b' c' : Nat} (h1 : a ≤ a') (h2 : b ≤ b') (h3 : c ≤ c') {p : PV} (h : Clean a b c p) : Clean a' b' c' p := by
  induction h with
  | undef => exact .undef
  | bool b => exact .bool b
  | int k n => exact .int k n
  | str s => exact .str s
  | nilptr => exact .nilptr
  | ptr id off h => exact .ptr id off (by omega)
  | eptr es elems i off _ ih => exact .eptr es elems i off ih
  | nilsl => exact .nilsl
  | isl elems own _ ho ih => exact .isl elems own ih fun r n es e => by have := ho r n es e; omega
  | msl id off len h => exact .msl id off len (by omega)
  | agg cs _ ih => exact .agg cs ih
  | tuple cs _ ih => exact .tuple cs ih
  | func fn fs cs _ _ ih ih' => exact .func fn fs cs ih ih'
  | yield y h => exact .yield y (by omega)
  | nilfunc => exact .nilfunc
  | niliface => exact .niliface
  | iface t p _ ih => exact .iface t p ih
  | mapv id h => exact .mapv id (by omega)
  | nilmap => exact .nilmap
  | gsl id len es h => exact .gsl id len es (by omega)
  | gnil => exact .gnil

/-! ### Owners forgotten -/
mutual
def PV.ro : PV → PV
  | .eptr es elems i off => .eptr es (PV.roL elems) i off
  | .isl elems _ => .isl (PV.roL elems) .ro
  | .agg cs => .agg (PV.roL cs)
  | .tuple cs => .tuple (PV.roL cs)
  | .func fn a b => .func fn (PV.roL a) (PV.roL b)
  | .iface t p => .iface t (PV.ro p)
  | p => p
def PV.roL : List PV → List PV
  | [] => []
  | p :: ps => PV.ro p :: PV.roL ps
end
theorem PV.roL_map : ∀ l : List PV, PV.roL l = l.map PV.ro := by
  intro l
  induction l with
  | nil => rfl
  | cons p ps ih => simp only [PV.roL, List.map_cons, ih]
theorem PV.ro_cells (p : PV) : p.ro.cells = p.cells.map PV.ro := by
  cases p <;> simp only [PV.ro, PV.cells, PV.roL_map, List.map_cons, List.map_nil]

theorem VR.ro {Ψ : Ty} {p : PV} {x : Value} (h : VR Ψ p x) : VR Ψ p.ro x := by
  have row : ∀ {elems : List PV} {es : Nat}, (∀ (k : Nat) (e : PV), elems[k]? = some e → e.cells.length = es) → ∀ (k : Nat) (e : PV), (elems.map PV.ro)[k]? = some e → e.cells.length = es := by
    intro elems es h k e he
    simp only [List.getElem?_map, Option.map_eq_some_iff] at he
    obtain ⟨e', he', rfl⟩ := he
    rw [PV.ro_cells, List.length_map]
    exact h k e' he'
  have each : ∀ {elems : List PV} {Pr : Nat → Nat → PV → Prop} {Pr' : Nat → Nat → PV → Prop}, (∀ (k : Nat) (e : PV) (j : Nat) (p : PV), elems[k]? = some e → e.cells[j]? = some p → Pr k j p) →
      (∀ k j p, Pr k j p → Pr' k j p.ro) → ∀ (k : Nat) (e : PV) (j : Nat) (p : PV), (elems.map PV.ro)[k]? = some e → e.cells[j]? = some p → Pr' k j p := by
    intro elems Pr Pr' h hh k e j p he hp
    simp only [List.getElem?_map, Option.map_eq_some_iff] at he
    obtain ⟨e', he', rfl⟩ := he
    rw [PV.ro_cells] at hp
    simp only [List.getElem?_map, Option.map_eq_some_iff] at hp
    obtain ⟨p', hp', rfl⟩ := hp
    exact hh k j p' (h k e' j p' he' hp')
  have each1 : ∀ {cs : List PV} {xs : Array Value}, (∀ (j : Nat) (p : PV) (v : Value), cs[j]? = some p → xs[j]? = some v → VR Ψ p.ro v) → ∀ (j : Nat) (p : PV) (v : Value), (cs.map PV.ro)[j]? = some p → xs[j]? = some v → VR Ψ p v := by
    intro cs xs h j p v hp hv
    simp only [List.getElem?_map, Option.map_eq_some_iff] at hp
    obtain ⟨p', hp', rfl⟩ := hp
    exact h j p' v hp' hv
  induction h with
  | undef x => exact .undef x
  | bool b => exact .bool b
  | int k n => exact .int k n
  | str s => exact .str s
  | nilptr => exact .nilptr
  | ptr id off b hb hz => exact .ptr id off b hb hz
  | eptr es elems i off b o vals hs h1 h2 ih =>
    simp only [PV.ro, PV.roL_map]
    exact .eptr es _ i off b o vals (row hs) (each (Pr := fun k j _ => Ψ.imm b (o + k * es + j) = some (vals k j)) (Pr' := fun k j _ => Ψ.imm b (o + k * es + j) = some (vals k j)) h1 fun _ _ _ h => h)
      (each (Pr := fun k j p => VR Ψ p.ro (vals k j)) (Pr' := fun k j p => VR Ψ p (vals k j)) ih fun _ _ _ h => h)
  | nilsl => exact .nilsl
  | islnil own a h => exact .islnil .ro a trivial
  | isl es elems own b o cap vals hs h1 h2 hc ho ih =>
    simp only [PV.ro, PV.roL_map]
    have := VR.isl (Ψ := Ψ) es (elems.map PV.ro) .ro b o cap vals (row hs) (each (Pr := fun k j _ => Ψ.imm b (o + k * es + j) = some (vals k j)) (Pr' := fun k j _ => Ψ.imm b (o + k * es + j) = some (vals k j)) h1 fun _ _ _ h => h)
      (each (Pr := fun k j p => VR Ψ p.ro (vals k j)) (Pr' := fun k j p => VR Ψ p (vals k j)) ih fun _ _ _ h => h) (by simpa using hc) trivial
    rw [List.length_map] at this
    exact this
  | msl id off len b cap h hz hc => exact .msl id off len b cap h hz hc
  | agg cs vs hl h ih => simp only [PV.ro, PV.roL_map]; exact .agg _ _ (by simpa using hl) (each1 ih)
  | tuple cs vs hl h ih => simp only [PV.ro, PV.roL_map]; exact .tuple _ _ (by simpa using hl) (each1 ih)
  | func fn fs cs xs ys hl hl' h h' ih ih' => simp only [PV.ro, PV.roL_map]; exact .func fn _ _ _ _ (by simpa using hl) (by simpa using hl') (each1 ih) (each1 ih')
  | yield y l d h => exact .yield y l d h
  | nilfunc => exact .nilfunc
  | niliface => exact .niliface
  | iface t p x h ih => exact .iface t _ x ih
  | map id b h => exact .map id b h
  | nilmap => exact .nilmap
  | gsl id len es b cap h hz h0 hc => exact .gsl id len es b cap h hz h0 hc
  | gnil a => exact .gnil a

theorem VRs.ro {Ψ : Ty} {ps : List PV} {xs : Array Value} (h : VRs Ψ ps xs) : VRs Ψ (ps.map PV.ro) xs := by
  refine ⟨by rw [h.1, List.length_map], fun j p v h1 h2 => ?_⟩
  simp only [List.getElem?_map, Option.map_eq_some_iff] at h1
  obtain ⟨p', hp', rfl⟩ := h1
  exact (h.2 j p' v hp' h2).ro

/-- Who is called asks nothing of the owners. -/
theorem PC.ofRo {P : Program} {Y : YEnv} {f : FuncId} {args args' : List PV} {σ σ' : Sg} {v : PV} (h : PC P Y f args' σ v σ') (e : args.map PV.ro = args') : PC P Y f args σ v σ' := by
  subst e
  exact ⟨h.1, fun Ψ vals w hs ha hy => h.2 Ψ vals w hs ha.ro hy⟩

/-! ### Ends -/
theorem Fin_same {P : Program} {fn : Func} {σ : Sg} {l : List (Option (List PV))} {rm : List Nat} {E : Env} {rs : List PV} {v : PV} (hcl : CleanSg σ) (hr : resPV P (σ.ext l rm) E fn.results.toList = some rs)
    (hv : Wk σ.store.length σ.rooms.length σ.ys.length (oneOr rs) v) : Fin P fn σ v σ E (σ.ext l rm) := by
  refine ⟨rs, _, _, hr, Nat.le_refl _, Nat.le_refl _, hv, (Sg.cut_ext0 σ l rm).symm, fun id cs hid hc p hp => ?_, by simp [Sg.ext]⟩
  have hc' : (σ.store ++ l)[id]? = some (some cs) := hc
  rw [List.getElem?_append_left hid] at hc'
  exact hcl id cs hid hc' p hp
theorem Fin_self {P : Program} {fn : Func} {σ : Sg} {E : Env} {rs : List PV} {v : PV} (hcl : CleanSg σ) (hr : resPV P σ E fn.results.toList = some rs)
    (hv : Wk σ.store.length σ.rooms.length σ.ys.length (oneOr rs) v) : Fin P fn σ v σ E σ := by
  have := Fin_same (l := []) (rm := []) hcl (by rw [Sg.ext_nil]; exact hr) hv
  rw [Sg.ext_nil] at this
  exact this
theorem Wk.ro {nβ nr ny : Nat} {p q : PV} (h : Clean nβ nr ny q) (e : p.ro = q) : Wk nβ nr ny p q := fun Ψ x k => by
  subst e
  exact k.ro.trim h
end Go.Proofs.Ytnpamcpoaklgeaa

namespace Go.Proofs.Ytnpamcpoaklgeaa
open Go Go.RowKit

def ldS (σ : Sg) (id off : Nat) : Option PV :=
  match σ.store[id]? with
  | some (some cs) => cs[off]?
  | _ => none
def ldA (k : Nat) (σ : Sg) (id off : Nat) : Option PV :=
  match σ.store[id]? with
  | some (some cs) => if off + k ≤ cs.length then some (.agg ((cs.drop off).take k)) else none
  | _ => none
def elS (l : List PV) (i off : Nat) : Option PV :=
  match l[i]? with
  | some e => e.cells[off]?
  | none => none
def elA (k : Nat) (l : List PV) (i off : Nat) : Option PV :=
  match l[i]? with
  | some e => if off + k ≤ e.cells.length then some (.agg ((e.cells.drop off).take k)) else none
  | none => none
def stX (k : Nat) (σ : Sg) (id off : Nat) (p : PV) : Option Sg :=
  match σ.store[id]? with
  | some (some cs) => if defd p && p.cells.all PV.scalar && (p.cells.length == k) && decide (off + p.cells.length ≤ cs.length) then some (σ.setVar id (putCells cs off p.cells)) else none
  | _ => none
def iaX (c : Nat) (l : List PV) (i : Int) : Option PV :=
  if 0 ≤ i ∧ i < (l.length : Int) then
    (match l[i.toNat]? with
     | some el => if el.cells.length = c then some (.eptr c l i.toNat 0) else none
     | none => none) else none
def iaM (c id off len : Nat) (i : Int) : Option PV := if 0 ≤ i ∧ i < (len : Int) then some (.ptr id (off + i.toNat * c)) else none
def bsX (c len : Nat) (parts : List (Nat × PV)) : Option PV :=
  if (parts.map (·.1) == List.range len) && parts.all (fun p => defd p.2 && (p.2.cells.length == c)) && decide (len * c ≤ 2 ^ 24) then some (.isl (parts.map (·.2)) .exact) else none
def appX (c b : Nat) (σ : Sg) (l : List PV) (own : Own) (m : List PV) : Option (PV × Sg) :=
  if m.all (fun q => (q.cells.length == c) && q.cells.all PV.scalar) && decide ((l.length + m.length) * b ≤ 2 ^ 47) then
    (match own with
     | .ro => none
     | .exact => if l.all (fun q => q.cells.length == c) then some (.isl (l ++ m) (.tok σ.rooms.length (l.length + m.length) c), σ.pushRoom (l.length + m.length)) else none
     | .tok r n es => if es = c ∧ σ.rooms[r]? = some n then some (.isl (l ++ m) (.tok r (n + m.length) es), σ.setRoom r (n + m.length)) else none)
  else none
def bldX (zs : List PV) (ps : List (Nat × Nat)) (parts : List (Nat × PV)) : Option PV :=
  if parts.all (fun p => defd p.2) then (fillPV (fun i => ps[i]?) zs parts).map .agg else none

section
variable {P : Program} {t e : TypeId} {d : TypeDesc} {k c b : Nat} {σ : Sg} {id off : Nat} {l m : List PV} {own own' : Own} {es i : Nat}
theorem ldS_of (h : P.underlying t = some d) (ha : isAggD d = false) : loadPV P σ t (.ptr id off) = ldS σ id off := by simp [loadPV, h, partPV, ha, ldS]; rfl
theorem ldA_of (h : P.underlying t = some d) (ha : isAggD d = true) (hc : P.cellsOf t = k) : loadPV P σ t (.ptr id off) = ldA k σ id off := by simp [loadPV, h, partPV, ha, hc, ldA]; rfl
theorem elS_of (h : P.underlying t = some d) (ha : isAggD d = false) : loadPV P σ t (.eptr es l i off) = elS l i off := by simp [loadPV, h, partPV, ha, elS]; rfl
theorem elA_of (h : P.underlying t = some d) (ha : isAggD d = true) (hc : P.cellsOf t = k) : loadPV P σ t (.eptr es l i off) = elA k l i off := by simp [loadPV, h, partPV, ha, hc, elA]; rfl
theorem stX_of (h : P.underlying t = some d) (hc : P.cellsOf t = k) (p : PV) : storePV P σ t (.ptr id off) p = stX k σ id off p := by simp [storePV, h, hc, stX]; rfl
theorem iaX_of (h : P.underlying t = some (.slice e)) (he : P.underlying e = some d) (hc : P.cellsOf e = c) (kd : IntKind) (n : Int) : indexAddrPV P t (.isl l own) (.int kd n) = iaX c l n := by
  unfold indexAddrPV iaX
  rw [h]
  simp only [he, hc]
  split
  · cases l[n.toNat]? <;> rfl
  · rfl
theorem iaM_of (h : P.underlying t = some (.slice e)) (he : P.underlying e = some d) (hc : P.cellsOf e = c) (kd : IntKind) (len : Nat) (n : Int) : indexAddrPV P t (.msl id off len) (.int kd n) = iaM c id off len n := by
  simp [indexAddrPV, h, he, hc, iaM]
theorem iaA_of {len : Nat} (h : P.underlying t = some (.array len e)) (he : P.underlying e = some d) (hc : P.cellsOf e = c) (kd : IntKind) (n : Int) : indexAddrPV P t (.ptr id off) (.int kd n) = iaM c id off len n := by
  simp [indexAddrPV, h, he, hc, iaM]
theorem len_of (h : P.underlying t = some (.slice e)) : lenPV P t (.isl l own) = some (.int .i64 l.length) := by simp [lenPV, h]
theorem lenM_of (h : P.underlying t = some (.slice e)) (n : Nat) : lenPV P t (.msl id off n) = some (.int .i64 n) := by simp [lenPV, h]
theorem bsX_of {zs : List PV} (h : P.underlying t = some (.slice e)) (he : P.underlying e = some d) (hc : P.cellsOf e = c) (hz : zeroPV P e = some zs) (len : Nat) (parts : List (Nat × PV)) : buildSlicePV P t len parts = bsX c len parts := by
  unfold buildSlicePV bsX
  rw [h]
  simp only [he, hc, hz, Option.isSome_some, Bool.true_and, Bool.and_true]
theorem appX_of {zs : List PV} (h : P.underlying t = some (.slice e)) (he : P.underlying e = some d) (hc : P.cellsOf e = c) (hb : P.bytesOf e = b) (hb0 : b ≠ 0) (hc0 : 0 < c) (hz : zeroPV P e = some zs) (hzl : zs.length = c) :
    appendPV P σ t t (.isl l own) (.isl m own') = appX c b σ l own m := by
  unfold appendPV appX
  rw [h]
  simp only [he, hc, hb, hz, hzl, Option.isSome_some, Bool.true_and, Option.map_some, BEq.rfl, Bool.and_true, hb0, hc0, ne_eq, not_false_eq_true, and_self, decide_true]
  rfl
theorem bldX_of {zs : List PV} {fs : Array Field} {ps : List (Nat × Nat)} (hz : zeroPV P t = some zs) (h : P.underlying t = some (.struct fs)) (hf : fs.toList.all (fun f => (P.underlying f.type).isSome) = true) (hp : structPlaces P fs.toList = ps) (parts : List (Nat × PV)) :
    buildPV P t parts = bldX zs ps parts := by
  unfold buildPV
  rw [hz, h]
  simp only [hf, hp, bldX, Bool.true_and]
theorem fa_of {fs : Array Field} {f : Nat} {fl : Field} (h : P.underlying t = some (.struct fs)) (hf : fs[f]? = some fl) (hd : P.underlying fl.type = some d) (hc : P.cellsOf fl.type = c) (hc0 : c ≠ 0) (ho : fl.offset = k) :
    fieldAddrPV P t (.ptr id off) f = some (.ptr id (off + k)) ∧ fieldAddrPV P t (.eptr es l i off) f = some (.eptr es l i (off + k)) := by
  simp [fieldAddrPV, fieldOf, h, hf, hd, hc, hc0, ho]
theorem fa1_of {fs : Array Field} {f : Nat} {fl : Field} (h : P.underlying t = some (.struct fs)) (hf : fs[f]? = some fl) (hd : P.underlying fl.type = some d) (hc : P.cellsOf fl.type = c) (hc0 : (c == 0) = false) (ho : fl.offset = k) :
    fieldAddrPV P t (.ptr id off) f = some (.ptr id (off + k)) := (fa_of (es := 0) (l := []) (i := 0) h hf hd hc (by simpa using hc0) ho).1
theorem fa2_of {fs : Array Field} {f : Nat} {fl : Field} (h : P.underlying t = some (.struct fs)) (hf : fs[f]? = some fl) (hd : P.underlying fl.type = some d) (hc : P.cellsOf fl.type = c) (hc0 : (c == 0) = false) (ho : fl.offset = k) :
    fieldAddrPV P t (.eptr es l i off) f = some (.eptr es l i (off + k)) := (fa_of (id := 0) h hf hd hc (by simpa using hc0) ho).2
theorem fpS_of {fs : Array Field} {f : Nat} {fl : Field} (h : P.underlying t = some (.struct fs)) (hf : fs[f]? = some fl) (hd : P.underlying fl.type = some d) (ha : isAggD d = false) (ho : fl.offset = k) (cs : List PV) :
    fieldPV P t (.agg cs) f = cs[k]? := by
  simp [fieldPV, fieldOf, h, hf, hd, ho, partPV, ha]
theorem fpA_of {fs : Array Field} {f : Nat} {fl : Field} (h : P.underlying t = some (.struct fs)) (hf : fs[f]? = some fl) (hd : P.underlying fl.type = some d) (ha : isAggD d = true) (hc : P.cellsOf fl.type = c) (ho : fl.offset = k) (cs : List PV) :
    fieldPV P t (.agg cs) f = if k + c ≤ cs.length then some (.agg ((cs.drop k).take c)) else none := by
  simp [fieldPV, fieldOf, h, hf, hd, hc, ho, partPV, ha]
end

/-! ### Lists of things read -/
abbrev I (n : Int) : PV := .int .i64 n
abbrev ints (xs : List Int) : PV := .isl (xs.map I) .ro

theorem ldS_at {σ : Sg} {id off : Nat} {cs : List PV} (h : σ.store[id]? = some (some cs)) : ldS σ id off = cs[off]? := by simp [ldS, h]
theorem ldA_at {k : Nat} {σ : Sg} {id off : Nat} {cs : List PV} (h : σ.store[id]? = some (some cs)) : ldA k σ id off = if off + k ≤ cs.length then some (.agg ((cs.drop off).take k)) else none := by simp [ldA, h]
theorem stX_at {k : Nat} {σ : Sg} {id off : Nat} {cs : List PV} (h : σ.store[id]? = some (some cs)) (p : PV) :
    stX k σ id off p = if defd p && p.cells.all PV.scalar && (p.cells.length == k) && decide (off + p.cells.length ≤ cs.length) then some (σ.setVar id (putCells cs off p.cells)) else none := by simp [stX, h]

section ext
variable (σ : Sg) (l : List (Option (List PV))) (rm : List Nat) (ys : List LState) (j : Nat)
theorem ldS_ext (off : Nat) : ldS (σ.ext l rm ys) (σ.store.length + j) off = match l[j]? with | some (some cs) => cs[off]? | _ => none := by simp only [ldS, Sg.get_ext]
theorem ldS_ext0 (off : Nat) : ldS (σ.ext l rm ys) σ.store.length off = match l[0]? with | some (some cs) => cs[off]? | _ => none := by simp only [ldS, Sg.get_ext0]
theorem ldA_ext (k off : Nat) : ldA k (σ.ext l rm ys) (σ.store.length + j) off = match l[j]? with | some (some cs) => if off + k ≤ cs.length then some (.agg ((cs.drop off).take k)) else none | _ => none := by simp only [ldA, Sg.get_ext]
theorem ldA_ext0 (k off : Nat) : ldA k (σ.ext l rm ys) σ.store.length off = match l[0]? with | some (some cs) => if off + k ≤ cs.length then some (.agg ((cs.drop off).take k)) else none | _ => none := by simp only [ldA, Sg.get_ext0]
theorem stX_ext (k off : Nat) (p : PV) : stX k (σ.ext l rm ys) (σ.store.length + j) off p = match l[j]? with
    | some (some cs) => if defd p && p.cells.all PV.scalar && (p.cells.length == k) && decide (off + p.cells.length ≤ cs.length) then some (σ.ext (l.set j (some (putCells cs off p.cells))) rm ys) else none
    | _ => none := by
  simp only [stX, Sg.get_ext, Sg.set_ext]
theorem stX_ext0 (k off : Nat) (p : PV) : stX k (σ.ext l rm ys) σ.store.length off p = match l[0]? with
    | some (some cs) => if defd p && p.cells.all PV.scalar && (p.cells.length == k) && decide (off + p.cells.length ≤ cs.length) then some (σ.ext (l.set 0 (some (putCells cs off p.cells))) rm ys) else none
    | _ => none := by
  simp only [stX, Sg.get_ext0, Sg.set_ext0]
  rfl
end ext
end Go.Proofs.Ytnpamcpoaklgeaa

namespace Go.Proofs.Ytnpamcpoaklgeaa
open Go Go.RowKit

theorem least (p : Nat → Prop) (h : ∃ n, p n) : ∃ n, p n ∧ ∀ m, p m → n ≤ m := by
  obtain ⟨n, hn⟩ := h
  induction n using Nat.strongRecOn with
  | _ n ih =>
    by_cases h : ∃ m, m < n ∧ p m
    · obtain ⟨m, hm, hp⟩ := h
      exact ih m hm hp
    · exact ⟨n, hn, fun m hm => Nat.le_of_not_lt fun hlt => h ⟨m, hlt, hm⟩⟩

section
variable {P : Program} {Y : YEnv} {N : Nat} {rd : Option Nat} {lo : Nat × Nat} {E : Env} {σ : Sg} {Q : Exit → Env → Sg → Prop}
open Classical in
theorem W_loopK {c : Code} (I : Nat → Env → Sg → Prop) (k : Nat) (h0 : I k E σ)
    (round : ∀ k E σ, I k E σ → W P Y N rd lo c E σ (Seq (fun E' σ' => ∃ k', k' < k ∧ I k' E' σ') Q)) : W P Y N rd lo (.loop c) E σ Q := by
  refine W_loop (fun E σ => ∃ k, I k E σ) (fun E σ => if h : ∃ k, I k E σ then Classical.choose (least (fun k => I k E σ) h) else 0) ⟨k, h0⟩ fun E σ h => ?_
  refine W_mono (round _ E σ (Classical.choose_spec (least (fun k => I k E σ) h)).1) fun ex E' σ' hq => ?_
  cases ex with
  | normal =>
    obtain ⟨k', hk, hI⟩ := hq
    have h' : ∃ k, I k E' σ' := ⟨k', hI⟩
    refine ⟨h', ?_⟩
    rw [dif_pos h', dif_pos h]
    exact Nat.lt_of_le_of_lt ((Classical.choose_spec (least (fun k => I k E' σ') h')).2 k' hI) hk
  | _ => exact hq
end

theorem Clean.all_nil {a b c : Nat} : ∀ p, p ∈ ([] : List PV) → Clean a b c p := fun p h => by cases h
theorem Clean.all_cons {a b c : Nat} {q : PV} {l : List PV} (h : Clean a b c q) (k : ∀ p, p ∈ l → Clean a b c p) : ∀ p, p ∈ q :: l → Clean a b c p := fun p hp => by
  rcases List.mem_cons.1 hp with rfl | hp
  · exact h
  · exact k p hp
theorem Clean.ints {a b c : Nat} (xs : List Int) (o : Own) (ho : ∀ r n es, o = .tok r n es → r < b) : Clean a b c (.isl (xs.map I) o) :=
  .isl _ _ (fun e he => by obtain ⟨n, _, rfl⟩ := List.mem_map.1 he; exact .int _ _) ho

/-- A function that leaves new variables behind. -/
theorem Fin_ext {P : Program} {fn : Func} {σ : Sg} {l : List (Option (List PV))} {rm : List Nat} {E : Env} {rs : List PV} {v : PV} (k j : Nat) (hcl : CleanSg σ)
    (hr : resPV P (σ.ext l rm) E fn.results.toList = some rs)
    (hv : Wk (σ.store.length + k) (σ.rooms.length + j) σ.ys.length (oneOr rs) v)
    (hc : ∀ cs, some cs ∈ l.take k → ∀ p, p ∈ cs → Clean (σ.store.length + k) (σ.rooms.length + j) σ.ys.length p) : Fin P fn σ v (σ.ext (l.take k) (rm.take j)) E (σ.ext l rm) := by
  refine ⟨rs, _, _, hr, Nat.le_add_right _ _, Nat.le_add_right _ _, hv, (Sg.cut_ext σ l rm k j).symm, fun id cs hid hcs p hp => ?_, by simp [Sg.ext]⟩
  have hcs' : (σ.store ++ l)[id]? = some (some cs) := hcs
  by_cases h : id < σ.store.length
  · rw [List.getElem?_append_left h] at hcs'
    exact (hcl id cs h hcs' p hp).mono (Nat.le_add_right _ _) (Nat.le_add_right _ _) (Nat.le_refl _)
  · rw [List.getElem?_append_right (by omega)] at hcs'
    refine hc cs ?_ p hp
    refine List.mem_of_getElem? (i := id - σ.store.length) ?_
    rw [List.getElem?_take_of_lt (by omega)]
    exact hcs'

/-- In a state of which nothing was added. -/
theorem Fin_end {P : Program} {fn : Func} {σ σ' : Sg} {E : Env} {rs : List PV} {v : PV} (hcl : CleanSg σ') (h1 : σ'.store.length = σ.store.length) (h2 : σ'.rooms.length = σ.rooms.length) (h3 : σ'.ys.length = σ.ys.length)
    (hr : resPV P σ' E fn.results.toList = some rs) (hv : Wk σ.store.length σ.rooms.length σ.ys.length (oneOr rs) v) : Fin P fn σ v σ' E σ' := by
  refine ⟨rs, _, _, hr, Nat.le_refl _, Nat.le_refl _, hv, ?_, ?_, h3⟩
  · rw [← h1, ← h2, ← h3]; simp [Sg.cut]
  · unfold CleanSg at hcl; rw [h1, h2, h3] at hcl; exact hcl
end Go.Proofs.Ytnpamcpoaklgeaa

namespace Go.Proofs.Ytnpamcpoaklgeaa
open Go Go.RowKit

theorem CleanCut_ext {σ : Sg} {l : List (Option (List PV))} {rm : List Nat} {ys : List LState} {nb nr ny : Nat} (hcl : CleanSg σ) (hb : σ.store.length ≤ nb) (hr : σ.rooms.length ≤ nr) (hy : σ.ys.length ≤ ny)
    (h : ∀ cs, some cs ∈ l → ∀ p, p ∈ cs → Clean nb nr ny p) : CleanCut (σ.ext l rm ys) nb nr ny := by
  intro id cs _ hcs p hp
  have hcs' : (σ.store ++ l)[id]? = some (some cs) := hcs
  by_cases hid : id < σ.store.length
  · rw [List.getElem?_append_left hid] at hcs'
    exact (hcl id cs hid hcs' p hp).mono hb hr hy
  · rw [List.getElem?_append_right (by omega)] at hcs'
    exact h cs (List.mem_of_getElem? hcs') p hp
theorem CleanSg_ext {σ : Sg} {l : List (Option (List PV))} {rm : List Nat} {ys : List LState} (hcl : CleanSg σ) (h : ∀ cs, some cs ∈ l → ∀ p, p ∈ cs → Clean (σ.store.length + l.length) (σ.rooms.length + rm.length) (σ.ys.length + ys.length) p) :
    CleanSg (σ.ext l rm ys) := by
  unfold CleanSg
  rw [Sg.len_ext, Sg.rooms_ext, Sg.ys_ext]
  exact CleanCut_ext hcl (Nat.le_add_right _ _) (Nat.le_add_right _ _) (Nat.le_add_right _ _) h
/-- All of it is old, or plain. -/
theorem CleanL_nil {a b c : Nat} : ∀ cs, some cs ∈ ([] : List (Option (List PV))) → ∀ p, p ∈ cs → Clean a b c p := fun cs h => by cases h
theorem CleanL_cons {a b c : Nat} {ds : List PV} {l : List (Option (List PV))} (h : ∀ p, p ∈ ds → Clean a b c p) (k : ∀ cs, some cs ∈ l → ∀ p, p ∈ cs → Clean a b c p) : ∀ cs, some cs ∈ some ds :: l → ∀ p, p ∈ cs → Clean a b c p := by
  intro cs hcs
  rcases List.mem_cons.1 hcs with e | e
  · injection e with e; subst e; exact h
  · exact k cs e
theorem Clean.cells_of {a b c a' b' c' : Nat} {cs : List PV} (h : Clean a b c (.agg cs)) (h1 : a ≤ a') (h2 : b ≤ b') (h3 : c ≤ c') : ∀ p, p ∈ cs → Clean a' b' c' p := fun p hp => by
  cases h with
  | agg _ hh => exact (hh p hp).mono h1 h2 h3
/-- Cut back to what was there before. -/
theorem Weak.cutExt {N : Nat} {lo : Nat × Nat} {E E' : Env} {σ : Sg} {l : List (Option (List PV))} {rm : List Nat} {ys : List LState} (k j : Nat) (h1 : lo.1 ≤ σ.store.length + k) (h2 : lo.2 ≤ σ.rooms.length + j) (hcl : CleanSg σ)
    (hc : ∀ cs, some cs ∈ l.take k → ∀ p, p ∈ cs → Clean (σ.store.length + k) (σ.rooms.length + j) (σ.ys.length + ys.length) p)
    (hE : ∀ t, Wk (σ.store.length + k) (σ.rooms.length + j) (σ.ys.length + ys.length) (E.get t) (E'.get t)) : Weak N lo E (σ.ext l rm ys) E' (σ.ext (l.take k) (rm.take j) ys) := by
  have := Weak.cut (N := N) (lo := lo) (E := E) (E' := E') (σ := σ.ext l rm ys) (σ.store.length + k) (σ.rooms.length + j) h1 h2 (by rw [Sg.ys_ext]; exact hE) (by
    rw [Sg.ys_ext]
    intro id cs hid hcs p hp
    have hcs' : (σ.store ++ l)[id]? = some (some cs) := hcs
    by_cases h : id < σ.store.length
    · rw [List.getElem?_append_left h] at hcs'
      exact (hcl id cs h hcs' p hp).mono (Nat.le_add_right _ _) (Nat.le_add_right _ _) (Nat.le_add_right _ _)
    · rw [List.getElem?_append_right (by omega)] at hcs'
      refine hc cs ?_ p hp
      refine List.mem_of_getElem? (i := id - σ.store.length) ?_
      rw [List.getElem?_take_of_lt (by omega)]
      exact hcs')
  rw [Sg.ys_ext, Sg.cut_exty, List.take_length] at this
  exact this
theorem Wk.nil_get {a b c : Nat} {E : Env} : ∀ t, Wk a b c (E.get t) (Env.get [] t) := fun _ _ _ _ => .undef _

/-! ### Folds -/
/-- f over the n numbers from lo on, one after the other. -/
def foldUp {α : Type} (f : Int → α → α) (lo : Int) : Nat → α → α
  | 0, a => a
  | n + 1, a => f (lo + n) (foldUp f lo n a)
def upTo {α : Type} (f : Int → α → α) (lo s : Int) (a : α) : α := foldUp f lo (s - lo).toNat a
theorem upTo_start {α : Type} (f : Int → α → α) (lo : Int) (a : α) : upTo f lo lo a = a := by simp [upTo, foldUp]
theorem upTo_step {α : Type} (f : Int → α → α) {lo s : Int} (h : lo ≤ s) (a : α) : upTo f lo (s + 1) a = f s (upTo f lo s a) := by
  unfold upTo
  rw [show (s + 1 - lo).toNat = (s - lo).toNat + 1 by omega]
  simp only [foldUp]
  rw [show lo + ((s - lo).toNat : Int) = s by omega]
end Go.Proofs.Ytnpamcpoaklgeaa

namespace Go.Proofs.Ytnpamcpoaklgeaa
open Go Go.RowKit

theorem Weak.room {N : Nat} {lo : Nat × Nat} {E : Env} {σ : Sg} {t es : Nat} {l : List PV} (ht : E.get t = .isl l .exact) (hes : ∀ q, q ∈ l → q.cells.length = es) :
    Weak N lo E σ ((t, .isl l (.tok σ.rooms.length l.length es)) :: E) (σ.pushRoom l.length) := by
  intro Ψ0 Ψ D a w hb le hr
  have hv := hr.env t
  rw [ht] at hv
  have fin : ∀ x : Option (Nat × Nat × Nat × Nat), (∀ b e c s, x = some (b, e, c, s) → ¬ e < c) → (∀ Ψ', Ψ.le Ψ' → Ψ'.hist σ.rooms.length l.length = some x → VR Ψ' (.isl l (.tok σ.rooms.length l.length es)) (a.tmps.getD t undef)) →
      ∃ Ψ', Ψ0.le Ψ' ∧ Rel N D Ψ' ((t, .isl l (.tok σ.rooms.length l.length es)) :: E) (σ.pushRoom l.length) a w := by
    intro x hx hvr
    obtain ⟨le', hs'⟩ := hr.sg.newRoom l.length x (fun b e c s hh hlt => absurd hlt (hx b e c s hh))
    refine ⟨_, le.trans le', hr.size, fun t' => ?_, hs', fun d hd => le'.ds _ (hr.dsub d hd), ?_⟩
    · simp only [Env.get]
      split
      · rename_i e; subst e
        exact hvr _ le' (by simp [Ty.addHist])
      · exact (hr.env t').mono le'
    · obtain ⟨rs, r1, r2, r3⟩ := hr.defs
      exact ⟨rs, r1, r2, fun r hm => ⟨le'.ds _ (r3 r hm).1, (r3 r hm).2⟩⟩
  generalize hx : a.tmps.getD t undef = x at hv fin
  cases hv with
  | islnil _ a0 _ => exact fin none (fun b e c s h => by cases h) fun Ψ' _ hh => .islnil _ a0 hh
  | isl es0 _ _ b o cap vals hs h1 h2 hc ho =>
    have hcap : cap = l.length := ho
    subst hcap
    refine fin (some (b, o + l.length * es, o + l.length * es, es)) (fun b e c s h => by injection h with h; injection h with _ h; injection h with h1 h; injection h with h2 _; omega) fun Ψ' le' hh => ?_
    by_cases hl : l = []
    · subst hl
      exact .isl es [] _ b o 0 vals (fun k e h => by simp at h) (fun k e j p h => by simp at h) (fun k e j p h => by simp at h) (Nat.le_refl _) ⟨rfl, hh⟩
    · have : es0 = es := by
        cases l with
        | nil => exact absurd rfl hl
        | cons q l => rw [← hs 0 q rfl]; exact hes q (by simp)
      subst this
      exact .isl es0 l _ b o _ vals hs (fun k e j p q1 q2 => le'.imm _ _ _ (h1 k e j p q1 q2)) (fun k e j p q1 q2 => (h2 k e j p q1 q2).mono le') (Nat.le_refl _) ⟨rfl, hh⟩

/-- Any part of what is known of the temporaries. -/
theorem Weak.env {N : Nat} {lo : Nat × Nat} {E E' : Env} {σ : Sg} (h : ∀ t Ψ x, VR Ψ (E.get t) x → VR Ψ (E'.get t) x) : Weak N lo E σ E' σ := fun _ Ψ _ _ _ _ le hr =>
  ⟨Ψ, le, hr.size, fun t => h t Ψ _ (hr.env t), hr.sg, hr.dsub, hr.defs⟩
theorem Weak.keep {N : Nat} {lo : Nat × Nat} {E : Env} {σ : Sg} (ks : List Nat) : Weak N lo E σ (keep ks E) σ := fun _ Ψ _ _ _ _ le hr => ⟨Ψ, le, hr.keep ks⟩
theorem Weak.ro {N : Nat} {lo : Nat × Nat} {E : Env} {σ : Sg} (t : Nat) : Weak N lo E σ ((t, (E.get t).ro) :: E) σ := Weak.env fun t' Ψ x h => by
  simp only [Env.get]
  split
  · rename_i e; subst e; exact h.ro
  · exact h
theorem cleanE_nil {a b c : Nat} : ∀ kv, kv ∈ ([] : Env) → Clean a b c kv.2 := fun kv h => by cases h
theorem cleanE_cons {a b c t : Nat} {v : PV} {E : Env} (h : Clean a b c v) (k : ∀ kv, kv ∈ E → Clean a b c kv.2) : ∀ kv, kv ∈ (t, v) :: E → Clean a b c kv.2 := fun kv hk => by
  rcases List.mem_cons.1 hk with rfl | hk
  · exact h
  · exact k kv hk
theorem Wk.env {a b c : Nat} : ∀ {E : Env}, (∀ kv, kv ∈ E → Clean a b c kv.2) → ∀ t, Wk a b c (E.get t) (E.get t) := by
  intro E
  induction E with
  | nil => intro _ t; exact Wk.of_clean .undef
  | cons kv E ih =>
    intro h t
    obtain ⟨k, v⟩ := kv
    simp only [Env.get]
    split
    · exact Wk.of_clean (h (k, v) (List.mem_cons_self ..))
    · exact ih (fun kv hk => h kv (List.mem_cons_of_mem _ hk)) t
end Go.Proofs.Ytnpamcpoaklgeaa

namespace Go.Proofs.Ytnpamcpoaklgeaa
open Go Go.RowKit

/-! ### Loops over plain states -/
def setE1 (t : Nat) (v : PV) : Env → Env
  | [] => []
  | (k, x) :: E => if k = t then (k, v) :: E else (k, x) :: setE1 t v E
def setE : Env → Env → Env
  | E, [] => E
  | E, (t, v) :: u => setE (setE1 t v E) u
theorem setE_nil (E : Env) : setE E [] = E := rfl
theorem setE_cons (E : Env) (t : Nat) (v : PV) (u : Env) : setE E ((t, v) :: u) = setE (setE1 t v E) u := rfl
theorem setE1_nil (t : Nat) (v : PV) : setE1 t v [] = [] := rfl
theorem setE1_cons (t k : Nat) (v x : PV) (E : Env) : setE1 t v ((k, x) :: E) = if k = t then (k, v) :: E else (k, x) :: setE1 t v E := rfl

section
variable {P : Program} {Y : YEnv} {N : Nat} {rd : Option Nat} {lo : Nat × Nat} {E : Env} {σ : Sg} {Q : Exit → Env → Sg → Prop}
theorem W_loopT {α : Type} {c : Code} (upd : α → Env) (st : α → Sg) (Inv : α → Prop) (μ : α → Nat) (s0 : α) (hE : setE E (upd s0) = E) (hσ : st s0 = σ) (h0 : Inv s0)
    (round : ∀ s, Inv s → W P Y N rd lo c (setE E (upd s)) (st s) (Seq (fun E' σ' => ∃ s', Weak N lo E' σ' (setE E (upd s')) (st s') ∧ μ s' < μ s ∧ Inv s') Q)) : W P Y N rd lo (.loop c) E σ Q := by
  refine W_loopK (fun k E' σ' => ∃ s, k = μ s ∧ Inv s ∧ setE E (upd s) = E' ∧ st s = σ') (μ s0) ⟨s0, rfl, h0, hE, hσ⟩ ?_
  rintro k E' σ' ⟨s, rfl, hi, rfl, rfl⟩
  refine W_post_weak (W_mono (round s hi) ?_)
  intro ex E1 σ1 h
  cases ex with
  | normal =>
    obtain ⟨s', hw, hm, hi'⟩ := h
    exact ⟨_, _, hw, μ s', hm, s', rfl, hi', rfl, rfl⟩
  | _ => exact ⟨_, _, Weak.refl, h⟩
theorem W_loopS {α : Type} {c : Code} (upd : α → Env) (Inv : α → Prop) (μ : α → Nat) (s0 : α) (hE : setE E (upd s0) = E) (h0 : Inv s0)
    (round : ∀ s, Inv s → W P Y N rd lo c (setE E (upd s)) σ (Seq (fun E' σ' => ∃ s', Weak N lo E' σ' (setE E (upd s')) σ ∧ μ s' < μ s ∧ Inv s') Q)) : W P Y N rd lo (.loop c) E σ Q :=
  W_loopT upd (fun _ => σ) Inv μ s0 hE rfl h0 round
theorem Weak.eq {E E' : Env} {σ σ' : Sg} (h : E = E') (k : σ = σ') : Weak N lo E σ E' σ' := by subst h k; exact Weak.refl
end

/-! ### Cleanness, reckoned -/
def CleanAll (a b c : Nat) (l : List PV) : Prop := ∀ p, p ∈ l → Clean a b c p
def CleanLs (a b c : Nat) (l : List (Option (List PV))) : Prop := ∀ cs, some cs ∈ l → ∀ p, p ∈ cs → Clean a b c p
def CleanEs (a b c : Nat) (E : Env) : Prop := ∀ kv, kv ∈ E → Clean a b c kv.2
def OwnLt (b : Nat) (o : Own) : Prop := ∀ r n es, o = .tok r n es → r < b
section
variable {a b c : Nat}
theorem CleanAll_nil : CleanAll a b c [] = True := eq_true Clean.all_nil
theorem CleanAll_cons {p : PV} {l : List PV} : CleanAll a b c (p :: l) = (Clean a b c p ∧ CleanAll a b c l) := by simp [CleanAll]
theorem CleanAll_append {l m : List PV} : CleanAll a b c (l ++ m) = (CleanAll a b c l ∧ CleanAll a b c m) := by
  simp only [CleanAll, List.mem_append]
  exact propext ⟨fun h => ⟨fun p hp => h p (.inl hp), fun p hp => h p (.inr hp)⟩, fun h p hp => hp.elim (h.1 p) (h.2 p)⟩
theorem CleanLs_nil : CleanLs a b c [] = True := eq_true CleanL_nil
theorem CleanLs_cons {cs : List PV} {l : List (Option (List PV))} : CleanLs a b c (some cs :: l) = (CleanAll a b c cs ∧ CleanLs a b c l) := by
  refine propext ⟨fun h => ⟨h cs (List.mem_cons_self ..), fun ds hd => h ds (List.mem_cons_of_mem _ hd)⟩, fun h => CleanL_cons h.1 h.2⟩
theorem CleanEs_nil : CleanEs a b c [] = True := eq_true cleanE_nil
theorem CleanEs_cons {t : Nat} {v : PV} {E : Env} : CleanEs a b c ((t, v) :: E) = (Clean a b c v ∧ CleanEs a b c E) := by
  refine propext ⟨fun h => ⟨h (t, v) (List.mem_cons_self ..), fun ds hd => h ds (List.mem_cons_of_mem _ hd)⟩, fun h => cleanE_cons h.1 h.2⟩
theorem OwnLt_ro : OwnLt b .ro = True := eq_true fun r n es e => by cases e
theorem OwnLt_exact : OwnLt b .exact = True := eq_true fun r n es e => by cases e
theorem OwnLt_tok {r n es : Nat} : OwnLt b (.tok r n es) = (r < b) := propext ⟨fun h => h r n es rfl, fun h r' n' es' e => by cases e; exact h⟩
theorem Cl_undef : Clean a b c .undef = True := eq_true .undef
theorem Cl_bool {x : Bool} : Clean a b c (.bool x) = True := eq_true (.bool _)
theorem Cl_int {k : IntKind} {x : Int} : Clean a b c (.int k x) = True := eq_true (.int _ _)
theorem Cl_str {x : ByteArray} : Clean a b c (.str x) = True := eq_true (.str _)
theorem Cl_nilptr : Clean a b c .nilptr = True := eq_true .nilptr
theorem Cl_nilsl : Clean a b c .nilsl = True := eq_true .nilsl
theorem Cl_nilfunc : Clean a b c .nilfunc = True := eq_true .nilfunc
theorem Cl_niliface : Clean a b c .niliface = True := eq_true .niliface
theorem Cl_ptr {id off : Nat} : Clean a b c (.ptr id off) = (id < a) := propext ⟨fun h => by cases h; assumption, fun h => .ptr _ _ h⟩
theorem Cl_msl {id off len : Nat} : Clean a b c (.msl id off len) = (id < a) := propext ⟨fun h => by cases h; assumption, fun h => .msl _ _ _ h⟩
theorem Cl_yield {y : Nat} : Clean a b c (.yield y) = (y < c) := propext ⟨fun h => by cases h; assumption, fun h => .yield _ h⟩
theorem Cl_eptr {es : Nat} {l : List PV} {i off : Nat} : Clean a b c (.eptr es l i off) = CleanAll a b c l := propext ⟨fun h => by cases h; assumption, fun h => .eptr _ _ _ _ h⟩
theorem Cl_isl {l : List PV} {o : Own} : Clean a b c (.isl l o) = (CleanAll a b c l ∧ OwnLt b o) := propext ⟨fun h => by cases h; exact ⟨‹_›, ‹_›⟩, fun h => .isl _ _ h.1 h.2⟩
theorem Cl_agg {l : List PV} : Clean a b c (.agg l) = CleanAll a b c l := propext ⟨fun h => by cases h; assumption, fun h => .agg _ h⟩
theorem Cl_tuple {l : List PV} : Clean a b c (.tuple l) = CleanAll a b c l := propext ⟨fun h => by cases h; assumption, fun h => .tuple _ h⟩
theorem Cl_func {fn : Fn} {l m : List PV} : Clean a b c (.func fn l m) = (CleanAll a b c l ∧ CleanAll a b c m) := propext ⟨fun h => by cases h; exact ⟨‹_›, ‹_›⟩, fun h => .func _ _ _ h.1 h.2⟩
theorem CleanAll_ints {xs : List Int} : CleanAll a b c (xs.map I) = True := eq_true fun p hp => by obtain ⟨x, _, rfl⟩ := List.mem_map.1 hp; exact .int _ _
theorem CleanAll_map {α : Type} {f : α → PV} {xs : List α} (h : ∀ x, Clean a b c (f x)) : CleanAll a b c (xs.map f) = True := eq_true fun p hp => by obtain ⟨x, _, rfl⟩ := List.mem_map.1 hp; exact h x
end
attribute [go_sem] CleanAll_nil CleanAll_cons CleanAll_append CleanLs_nil CleanLs_cons CleanEs_nil CleanEs_cons OwnLt_ro OwnLt_exact OwnLt_tok Cl_undef Cl_bool Cl_int Cl_str Cl_nilptr Cl_nilsl Cl_nilfunc Cl_niliface Cl_ptr Cl_msl Cl_yield Cl_eptr Cl_isl Cl_agg Cl_tuple Cl_func CleanAll_ints
attribute [go_sem] setE_nil setE_cons setE1_nil setE1_cons

theorem Weak.cutX {N : Nat} {lo : Nat × Nat} {E : Env} {σ : Sg} {l : List (Option (List PV))} {rm : List Nat} {ys : List LState} (k j : Nat) (h1 : lo.1 ≤ σ.store.length + k) (h2 : lo.2 ≤ σ.rooms.length + j) (hcl : CleanSg σ)
    (hc : CleanLs (σ.store.length + k) (σ.rooms.length + j) (σ.ys.length + ys.length) (l.take k)) (hE : CleanEs (σ.store.length + k) (σ.rooms.length + j) (σ.ys.length + ys.length) E) :
    Weak N lo E (σ.ext l rm ys) E (σ.ext (l.take k) (rm.take j) ys) := Weak.cutExt k j h1 h2 hcl hc (Wk.env hE)

theorem Wk_eq {a b c : Nat} {p q : PV} (h : p = q) (hc : Clean a b c q) : Wk a b c p q := by subst h; exact Wk.of_clean hc

/-! ### Rows, read -/
section
variable {α : Type} {f : α → PV} {xs : List α} {c k i off : Nat} {n : Int}
theorem iaX_m (f : α → PV) (xs : List α) : iaX c (xs.map f) n = if 0 ≤ n then (xs[n.toNat]?).bind fun x => if (f x).cells.length = c then some (.eptr c (xs.map f) n.toNat 0) else none else none := by
  unfold iaX
  by_cases h : 0 ≤ n
  · by_cases h2 : n.toNat < xs.length
    · rw [if_pos ⟨h, by simp; omega⟩, if_pos h]
      simp [h2]
    · rw [if_neg (fun h' => h2 (by have := h'.2; simp at this; omega)), if_pos h]
      rw [List.getElem?_eq_none (by omega)]
      rfl
  · rw [if_neg (fun h' => h h'.1), if_neg h]
theorem elS_m (f : α → PV) (xs : List α) : elS (xs.map f) i off = (xs[i]?).bind fun x => (f x).cells[off]? := by
  simp only [elS, List.getElem?_map]
  cases xs[i]? <;> rfl
theorem elA_m (f : α → PV) (xs : List α) : elA k (xs.map f) i off = (xs[i]?).bind fun x => if off + k ≤ (f x).cells.length then some (.agg (((f x).cells.drop off).take k)) else none := by
  simp only [elA, List.getElem?_map]
  cases xs[i]? <;> rfl
end
theorem bindSome {α β : Type} (x : α) (f : α → Option β) : (some x).bind f = f x := rfl
theorem bindNone {α β : Type} (f : α → Option β) : (none : Option α).bind f = none := rfl
attribute [go_sem] appendAny_isl appendAny_gsl appendAny_gnil
attribute [go_sem] iaX_m elS_m elA_m bindSome bindNone Int.natCast_nonneg Int.toNat_natCast

/-! ### Variables that were there before -/
section
variable {σ : Sg} {d : Nat} {cs cs' : List PV} {l : List (Option (List PV))} {rm : List Nat} {ys : List LState} {k j off : Nat}
theorem sv_len : (σ.setVar d cs).store.length = σ.store.length := by simp [Sg.setVar]
theorem sv_rooms : (σ.setVar d cs).rooms = σ.rooms := rfl
theorem sv_ys : (σ.setVar d cs).ys = σ.ys := rfl
theorem sv_sv : (σ.setVar d cs).setVar d cs' = σ.setVar d cs' := by simp [Sg.setVar]
theorem sv_get (h : d < σ.store.length) : (σ.setVar d cs).store[d]? = some (some cs) := by simp [Sg.setVar, h]
theorem ext_get (h : d < σ.store.length) : (σ.ext l rm ys).store[d]? = σ.store[d]? := by
  show (σ.store ++ l)[d]? = _
  rw [List.getElem?_append_left h]
theorem ldS_old (h : d < σ.store.length) : ldS (σ.ext l rm ys) d off = ldS σ d off := by simp only [ldS, ext_get h]
theorem ldA_old (h : d < σ.store.length) : ldA k (σ.ext l rm ys) d off = ldA k σ d off := by simp only [ldA, ext_get h]
theorem sv_ext (h : d < σ.store.length) : (σ.ext l rm ys).setVar d cs = (σ.setVar d cs).ext l rm ys := by
  simp [Sg.setVar, Sg.ext, List.set_append_left _ _ h]
theorem stX_old (h : d < σ.store.length) (p : PV) : stX k (σ.ext l rm ys) d off p = (stX k σ d off p).map fun τ => τ.ext l rm ys := by
  unfold stX
  rw [ext_get h]
  cases σ.store[d]? with
  | none => rfl
  | some x =>
    cases x with
    | none => rfl
    | some cs =>
      simp only
      rw [sv_ext h]
      split <;> rfl
theorem ldS_sv (h : d < σ.store.length) : ldS (σ.setVar d cs) d off = cs[off]? := ldS_at (sv_get h)
theorem ldA_sv (h : d < σ.store.length) : ldA k (σ.setVar d cs) d off = if off + k ≤ cs.length then some (.agg ((cs.drop off).take k)) else none := ldA_at (sv_get h)
theorem stX_sv (h : d < σ.store.length) (p : PV) : stX k (σ.setVar d cs) d off p = if defd p && p.cells.all PV.scalar && (p.cells.length == k) && decide (off + p.cells.length ≤ cs.length) then some (σ.setVar d (putCells cs off p.cells)) else none := by
  rw [stX_at (sv_get h), sv_sv]
theorem ldS_svx : ldS ((σ.setVar d cs).ext l rm ys) (σ.store.length + j) off = match l[j]? with | some (some cs) => cs[off]? | _ => none := by
  rw [← sv_len (d := d) (cs := cs)]; exact ldS_ext ..
theorem ldS_svx0 : ldS ((σ.setVar d cs).ext l rm ys) σ.store.length off = match l[0]? with | some (some cs) => cs[off]? | _ => none := by
  rw [← sv_len (d := d) (cs := cs)]; exact ldS_ext0 ..
theorem ldA_svx : ldA k ((σ.setVar d cs).ext l rm ys) (σ.store.length + j) off = match l[j]? with | some (some cs) => if off + k ≤ cs.length then some (.agg ((cs.drop off).take k)) else none | _ => none := by
  rw [← sv_len (d := d) (cs := cs)]; exact ldA_ext ..
theorem ldA_svx0 : ldA k ((σ.setVar d cs).ext l rm ys) σ.store.length off = match l[0]? with | some (some cs) => if off + k ≤ cs.length then some (.agg ((cs.drop off).take k)) else none | _ => none := by
  rw [← sv_len (d := d) (cs := cs)]; exact ldA_ext0 ..
theorem stX_svx (p : PV) : stX k ((σ.setVar d cs).ext l rm ys) (σ.store.length + j) off p = match l[j]? with
    | some (some ds) => if defd p && p.cells.all PV.scalar && (p.cells.length == k) && decide (off + p.cells.length ≤ ds.length) then some ((σ.setVar d cs).ext (l.set j (some (putCells ds off p.cells))) rm ys) else none
    | _ => none := by
  rw [← sv_len (d := d) (cs := cs)]; exact stX_ext ..
theorem stX_svx0 (p : PV) : stX k ((σ.setVar d cs).ext l rm ys) σ.store.length off p = match l[0]? with
    | some (some ds) => if defd p && p.cells.all PV.scalar && (p.cells.length == k) && decide (off + p.cells.length ≤ ds.length) then some ((σ.setVar d cs).ext (l.set 0 (some (putCells ds off p.cells))) rm ys) else none
    | _ => none := by
  rw [← sv_len (d := d) (cs := cs)]; exact stX_ext0 ..
theorem setVar_ext (cs : List PV) : (σ.ext l rm ys).setVar (σ.store.length + j) cs = σ.ext (l.set j (some cs)) rm ys := Sg.set_ext σ l rm ys j cs
theorem setVar_ext0 (cs : List PV) : (σ.ext l rm ys).setVar σ.store.length cs = σ.ext (l.set 0 (some cs)) rm ys := Sg.set_ext0 σ l rm ys cs
theorem setVar_svx (cs' : List PV) : ((σ.setVar d cs).ext l rm ys).setVar (σ.store.length + j) cs' = (σ.setVar d cs).ext (l.set j (some cs')) rm ys := by
  rw [← sv_len (d := d) (cs := cs)]; exact setVar_ext cs'
theorem setVar_svx0 (cs' : List PV) : ((σ.setVar d cs).ext l rm ys).setVar σ.store.length cs' = (σ.setVar d cs).ext (l.set 0 (some cs')) rm ys := by
  rw [← sv_len (d := d) (cs := cs)]; exact setVar_ext0 cs'
theorem lt_of_get {x : Option (List PV)} (h : σ.store[d]? = some x) : d < σ.store.length := (List.getElem?_eq_some_iff.1 h).1
end
attribute [go_sem] sv_len sv_rooms sv_ys sv_sv ldS_svx ldS_svx0 ldA_svx ldA_svx0 stX_svx stX_svx0 setVar_ext setVar_ext0 setVar_svx setVar_svx0

theorem CleanSg_set {σ : Sg} {d : Nat} {cs : List PV} (h : CleanSg σ) (hc : CleanAll σ.store.length σ.rooms.length σ.ys.length cs) : CleanSg (σ.setVar d cs) := by
  unfold CleanSg
  rw [sv_len, sv_rooms, sv_ys]
  intro id ds hid hds p hp
  by_cases hd : d = id
  · subst hd
    have hds' : (σ.store.set d (some cs))[d]? = some (some ds) := hds
    rw [List.getElem?_set_self hid] at hds'
    injection hds' with e
    injection e with e
    subst e
    exact hc p hp
  · have hds' : (σ.store.set d (some cs))[id]? = some (some ds) := hds
    rw [List.getElem?_set_ne hd] at hds'
    exact h id ds hid hds' p hp

/-- The end of a function that set a variable that was there before. -/
theorem Fin_set {P : Program} {fn : Func} {σ : Sg} {d : Nat} {cs : List PV} {l : List (Option (List PV))} {rm : List Nat} {E : Env} {rs : List PV} {v : PV} (hcl : CleanSg σ) (hc : CleanAll σ.store.length σ.rooms.length σ.ys.length cs)
    (hr : resPV P ((σ.setVar d cs).ext l rm) E fn.results.toList = some rs)
    (hv : Wk σ.store.length σ.rooms.length σ.ys.length (oneOr rs) v) : Fin P fn σ v (σ.setVar d cs) E ((σ.setVar d cs).ext l rm) := by
  have hcl' := CleanSg_set (d := d) hcl hc
  refine ⟨rs, _, _, hr, Nat.le_refl _, Nat.le_refl _, hv, ?_, fun id ds hid hds p hp => ?_, by simp [Sg.ext, Sg.setVar]⟩
  · have := Sg.cut_ext0 (σ.setVar d cs) l rm
    rw [sv_len, sv_rooms, sv_ys] at this
    exact this.symm
  · have hc' : ((σ.setVar d cs).store ++ l)[id]? = some (some ds) := hds
    rw [List.getElem?_append_left (by rw [sv_len]; exact hid)] at hc'
    have := hcl' id ds (by rw [sv_len]; exact hid) hc' p hp
    rw [sv_len, sv_rooms, sv_ys] at this
    exact this
theorem Fin_set0 {P : Program} {fn : Func} {σ : Sg} {d : Nat} {cs : List PV} {E : Env} {rs : List PV} {v : PV} (hcl : CleanSg σ) (hc : CleanAll σ.store.length σ.rooms.length σ.ys.length cs)
    (hr : resPV P (σ.setVar d cs) E fn.results.toList = some rs)
    (hv : Wk σ.store.length σ.rooms.length σ.ys.length (oneOr rs) v) : Fin P fn σ v (σ.setVar d cs) E (σ.setVar d cs) := by
  have := Fin_set (l := []) (rm := []) hcl hc (by rw [Sg.ext_nil]; exact hr) hv
  rw [Sg.ext_nil] at this
  exact this
/-- Less is known of what a function hands back, and of what it leaves. -/
theorem PC.toRo {P : Program} {Y : YEnv} {f : FuncId} {args : List PV} {σ : Sg} {v v' : PV} {rm : List Nat} (hcl : CleanSg σ → Clean σ.store.length σ.rooms.length σ.ys.length v') (h : PC P Y f args σ v (σ.ext [] rm)) (e : v.ro = v') : PC P Y f args σ v' σ := by
  refine ⟨h.1, fun Ψ vals w hs ha hy => ?_⟩
  refine CallsIn.mono (h.2 Ψ vals w hs ha hy) ?_
  rintro e1 w' ⟨x, Ψ', rfl, le, hs', hv, hb⟩
  have hclσ : CleanSg σ := hs.cleanSg
  have hcut : CleanCut (σ.ext [] rm) σ.store.length σ.rooms.length σ.ys.length := CleanCut_ext hclσ (Nat.le_refl _) (Nat.le_refl _) (Nat.le_refl _) CleanL_nil
  have hys : (σ.ext [] rm).ys.length = σ.ys.length := by simp [Sg.ext]
  refine ⟨x, Ψ'.trim σ.store.length σ.rooms.length σ.ys.length, rfl, ?_, ?_, ?_, hb⟩
  · refine Ty.trim_le le (by rw [← hs.blen]; exact Nat.le_refl _) (fun r n x k => hs.histlt r n x k) (by rw [← hs.ylen]; exact Nat.le_refl _)
  · have := hs'.trim hcut
    rw [Sg.cut_ext0] at this
    exact this
  · subst e
    exact (Wk.ro (hcl hclσ) rfl) Ψ' x hv
end Go.Proofs.Ytnpamcpoaklgeaa

namespace Go.Proofs.Ytnpamcpoaklgeaa
open Go Go.RowKit

theorem W_regionJ {P : Program} {Y : YEnv} {N : Nat} {rd : Option Nat} {lo : Nat × Nat} {id : Nat} {ops : Array Oper} {E : Env} {σ : Sg} {Q : Exit → Env → Sg → Prop} (ks : List Nat) (upd : Env)
    (rest : Q .normal (keep ks (upd ++ E)) σ) (h : ∀ K : Env → Sg → Prop, (∀ E', keep ks E' = keep ks (upd ++ E) → K E' σ) → GL P Y N ops ops.toList E σ K) : W P Y N rd lo (.region id ops false) E σ Q :=
  W_region ks fun K hK => h K fun E' e => hK E' σ (by rw [e]; exact rest)

theorem W_drawJ {P : Program} {Y : YEnv} {N : Nat} {rd : Option Nat} {lo : Nat × Nat} {id : Nat} {ops : Array Oper} {E : Env} {σ : Sg} {Q : Exit → Env → Sg → Prop} (ks : List Nat) (upd : Env) (is : List Nat) (plan : List (Nat × Nat)) (pre : List (List Nat))
    (hm : P.follows .mixedOrders = true) (hc : drawOK ops is plan pre = true) (rest : Q .normal (keep ks (upd ++ E)) σ)
    (h : ∀ K : Env → Sg → Prop, (∀ E', keep ks E' = keep ks (upd ++ E) → K E' σ) → GD P Y N ops is (undefs ops.toList E) σ [] (fun T E' σ' => Dem P ops T.reverse σ' plan ∧ K E' σ')) : W P Y N rd lo (.region id ops true) E σ Q :=
  W_draw ks is plan pre hm hc fun K hK => h K fun E' e => hK E' σ (by rw [e]; exact rest)
theorem wrapI {n : Int} (h1 : -9223372036854775808 ≤ n) (h2 : n ≤ 9223372036854775807) : IntKind.i64.wrap n = n := wrap_i64_id (by omega) (by omega)
theorem ite_pos' {α : Type} {c : Prop} [Decidable c] {a b : α} (h : c) : (if c then a else b) = a := if_pos h

/-- How a test is read. -/
theorem nrm : (∀ (p : Prop) [Decidable p], (decide p = true) = p) ∧ (∀ (p : Prop) [Decidable p], (decide p = false) = ¬p) ∧ (∀ b : Bool, ((!b) = true) = (b = false)) ∧ (∀ b : Bool, ((!b) = false) = (b = true)) ∧
    (∀ a b : Nat, ((a : Int) = (b : Int)) = (a = b)) ∧ (∀ a b : Nat, ((a : Int) < (b : Int)) = (a < b)) ∧ (∀ a b : Nat, ((a : Int) ≤ (b : Int)) = (a ≤ b)) ∧
    (∀ a b : Int, ((a != b) = true) = (¬ a = b)) ∧ (∀ a b : Int, ((a != b) = false) = (a = b)) ∧ (∀ a b : Int, ((a == b) = true) = (a = b)) ∧ (∀ a b : Int, ((a == b) = false) = (¬ a = b)) ∧
    (∀ b : Bool, (¬ b = true) = (b = false)) ∧ (∀ b : Bool, (¬ b = false) = (b = true)) := by
  refine ⟨fun p _ => by simp, fun p _ => by simp, fun b => by simp, fun b => by simp, fun a b => propext Int.natCast_inj, fun a b => propext Int.ofNat_lt, fun a b => propext Int.ofNat_le, fun a b => by simp, fun a b => by simp, fun a b => by simp, fun a b => by simp, fun b => by simp, fun b => by simp⟩

/-! ### Slices that grow -/
def okC (c : Nat) (m : List PV) : Prop := (m.all fun q => (q.cells.length == c) && q.cells.all PV.scalar) = true
theorem okC_nil {c : Nat} : okC c [] = True := eq_true rfl
theorem okC_cons {c : Nat} {q : PV} {m : List PV} : okC c (q :: m) = ((q.cells.length = c ∧ q.cells.all PV.scalar = true) ∧ okC c m) := by simp [okC]
theorem okC_append {c : Nat} {l m : List PV} : okC c (l ++ m) = (okC c l ∧ okC c m) := by simp [okC]
theorem okC_ints {xs : List Int} : okC 1 (xs.map I) = True := eq_true (by simp [okC, PV.cells, PV.scalar])
theorem okC_map {α : Type} {c : Nat} {f : α → PV} {xs : List α} (h : ∀ x, okC c [f x]) : okC c (xs.map f) = True := eq_true (by
  unfold okC at h ⊢
  rw [List.all_eq_true]
  intro q hq
  obtain ⟨x, _, rfl⟩ := List.mem_map.1 hq
  simpa using h x)
theorem okC_len {c : Nat} {m : List PV} (h : okC c m) : (m.all fun q => q.cells.length == c) = true := by
  unfold okC at h
  rw [List.all_eq_true] at h ⊢
  intro q hq
  have := h q hq
  simp only [Bool.and_eq_true] at this
  exact this.1
theorem appX_exact {c b : Nat} {σ : Sg} {l m : List PV} (hm : okC c m) (hl : okC c l) (hs : (l.length + m.length) * b ≤ 140737488355328) :
    appX c b σ l .exact m = some (.isl (l ++ m) (.tok σ.rooms.length (l.length + m.length) c), σ.pushRoom (l.length + m.length)) := by
  have hm' : (m.all fun q => (q.cells.length == c) && q.cells.all PV.scalar) = true := hm
  unfold appX
  rw [hm', okC_len hl]
  simp [hs]
theorem appX_tok {c b : Nat} {σ : Sg} {l m : List PV} {r n : Nat} (hm : okC c m) (hr : σ.rooms[r]? = some n) (hs : (l.length + m.length) * b ≤ 140737488355328) :
    appX c b σ l (.tok r n c) m = some (.isl (l ++ m) (.tok r (n + m.length) c), σ.setRoom r (n + m.length)) := by
  have hm' : (m.all fun q => (q.cells.length == c) && q.cells.all PV.scalar) = true := hm
  unfold appX
  rw [hm']
  simp [hs, hr]
section
variable {σ : Sg} {d : Nat} {cs : List PV} {l : List (Option (List PV))} {rm : List Nat} {ys : List LState} {j n : Nat}
theorem room_svx : ((σ.setVar d cs).ext l rm ys).rooms[σ.rooms.length + j]? = rm[j]? := Sg.room_ext (σ.setVar d cs) l rm ys j
theorem room_svx0 : ((σ.setVar d cs).ext l rm ys).rooms[σ.rooms.length]? = rm[0]? := Sg.room_ext0 (σ.setVar d cs) l rm ys
theorem setRoom_svx : ((σ.setVar d cs).ext l rm ys).setRoom (σ.rooms.length + j) n = (σ.setVar d cs).ext l (rm.set j n) ys := Sg.setRoom_ext (σ.setVar d cs) l rm ys j n
theorem setRoom_svx0 : ((σ.setVar d cs).ext l rm ys).setRoom σ.rooms.length n = (σ.setVar d cs).ext l (rm.set 0 n) ys := Sg.setRoom_ext0 (σ.setVar d cs) l rm ys n
end
attribute [go_sem] bsX okC_nil okC_cons okC_append okC_ints Sg.room_ext Sg.room_ext0 Sg.setRoom_ext Sg.setRoom_ext0 room_svx room_svx0 setRoom_svx setRoom_svx0

/-! ### Owners forgotten, reckoned -/
theorem ro_isl {l : List PV} {o : Own} : (PV.isl l o).ro = .isl (PV.roL l) .ro := by simp only [PV.ro]
theorem ro_agg {l : List PV} : (PV.agg l).ro = .agg (PV.roL l) := by simp only [PV.ro]
theorem ro_tuple {l : List PV} : (PV.tuple l).ro = .tuple (PV.roL l) := by simp only [PV.ro]
theorem ro_int {k : IntKind} {n : Int} : (PV.int k n).ro = .int k n := by simp only [PV.ro]
theorem ro_bool {b : Bool} : (PV.bool b).ro = .bool b := by simp only [PV.ro]
theorem ro_str {b : ByteArray} : (PV.str b).ro = .str b := by simp only [PV.ro]
theorem ro_ptr {i o : Nat} : (PV.ptr i o).ro = .ptr i o := by simp only [PV.ro]
theorem roL_nil : PV.roL [] = [] := by simp only [PV.roL]
theorem roL_cons {p : PV} {l : List PV} : PV.roL (p :: l) = p.ro :: PV.roL l := by simp only [PV.roL]
theorem roL_append {l m : List PV} : PV.roL (l ++ m) = PV.roL l ++ PV.roL m := by simp only [PV.roL_map, List.map_append]
theorem roL_ints {xs : List Int} : PV.roL (xs.map I) = xs.map I := by simp [PV.roL_map, PV.ro]
theorem roL_enc {α : Type} {f : α → PV} {xs : List α} (h : ∀ x, (f x).ro = f x) : PV.roL (xs.map f) = xs.map f := by simp [PV.roL_map, h]
attribute [go_sem] ro_isl ro_agg ro_tuple ro_int ro_bool ro_str ro_ptr roL_nil roL_cons roL_append roL_ints oneOr

theorem PC.val {P : Program} {Y : YEnv} {f : FuncId} {args : List PV} {σ σ' : Sg} {v v' : PV} (h : PC P Y f args σ v σ') (e : v = v') : PC P Y f args σ v' σ' := by subst e; exact h

/-- The same value n times. -/
def rep (n : Nat) (v : PV) : List PV := List.replicate n v
theorem rep_len (n : Nat) (v : PV) : (rep n v).length = n := by simp [rep]
theorem ixS_of {P : Program} {t e : TypeId} {d : TypeDesc} {len : Nat} (h : P.underlying t = some (.array len e)) (he : P.underlying e = some d) (ha : isAggD d = false) (hc : P.cellsOf e = 1) (kd : IntKind) (n : Int) {cs : List PV} :
    indexPV P t (.agg cs) (.int kd n) = if 0 ≤ n ∧ n < (len : Int) then cs[n.toNat]? else none := by
  simp [indexPV, h, he, hc, partPV, ha]
attribute [go_sem] st List.reverse_cons List.reverse_nil bldX bne_self_eq_false iaM rep_len Int.cast_ofNat_Int List.getElem?_nil List.map_append List.length_append
end Go.Proofs.Ytnpamcpoaklgeaa

namespace Go.Proofs.Ytnpamcpoaklgeaa
open Go Go.RowKit

theorem setVar_some {σ : Sg} {id i : Nat} {cs cs' x : List PV} (hid : σ.store[id]? = some (some cs)) (h : (σ.setVar id cs').store[i]? = some (some x)) : (i = id ∧ x = cs') ∨ (i ≠ id ∧ σ.store[i]? = some (some x)) := by
  have h' : (σ.store.set id (some cs'))[i]? = some (some x) := h
  rw [List.getElem?_set] at h'
  by_cases e : id = i
  · subst e
    rw [if_pos rfl, if_pos (List.getElem?_eq_some_iff.1 hid).1] at h'
    injection h' with h'
    injection h' with h'
    exact .inl ⟨rfl, h'.symm⟩
  · rw [if_neg e] at h'
    exact .inr ⟨fun e' => e e'.symm, h'⟩

theorem SR.reread {Ψ : Ty} {σ : Sg} {w : World} (h : SR Ψ σ w) {id : Nat} {cs cs' : List PV} (hid : σ.store[id]? = some (some cs))
    (hv : ∀ b, Ψ.β[id]? = some b → Keeps Ψ w b cs → Keeps Ψ w b cs') : SR Ψ (σ.setVar id cs') w := by
  have old : ∀ (i : Nat) (x : List PV), (σ.setVar id cs').store[i]? = some (some x) → ∃ y, σ.store[i]? = some (some y) := fun i x hx => by
    rcases setVar_some hid hx with ⟨rfl, _⟩ | ⟨_, h'⟩
    · exact ⟨_, hid⟩
    · exact ⟨_, h'⟩
  refine ⟨h.base, h.imm, by rw [sv_len]; exact h.blen, ?_, ?_, ?_, h.roomsApart, h.histlt, h.histle, h.βlt, h.yok, h.ylen', h.dok, ?_, h.szok⟩
  · intro i x b hx hb
    rcases setVar_some hid hx with ⟨rfl, rfl⟩ | ⟨_, h'⟩
    · obtain ⟨a1, a2, a0⟩ := h.block i cs b hid hb
      exact ⟨a1, a2, hv b hb a0⟩
    · exact h.block i x b h' hb
  · intro i i' x x' b hx hx' hb hb'
    obtain ⟨y, hy⟩ := old i x hx
    obtain ⟨y', hy'⟩ := old i' x' hx'
    exact h.apart i i' y y' b hy hy' hb hb'
  · intro r n b e c es hr hh hlt
    obtain ⟨a1, a2, a3, a4⟩ := h.room r n b e c es hr hh hlt
    refine ⟨a1, a2, fun i hi x hx => ?_, a4⟩
    obtain ⟨y, hy⟩ := old i x hx
    exact a3 i hi y hy
  · intro b c hm
    obtain ⟨a1, a2, a3, a4, a5⟩ := h.rok b c hm
    refine ⟨a1, a2, fun i hi x hx => ?_, a4, a5⟩
    obtain ⟨y, hy⟩ := old i x hx
    exact a3 i hi y hy

theorem Keeps.setRo {Ψ : Ty} {w : World} {b off : Nat} {cs : List PV} {p : PV} (h : Keeps Ψ w b cs) (hp : cs[off]? = some p) : Keeps Ψ w b (cs.set off p.ro) := by
  have hlt : off < cs.length := (List.getElem?_eq_some_iff.1 hp).1
  have at' : ∀ (j : Nat) (q : PV), (cs.set off p.ro)[j]? = some q → (j = off ∧ q = p.ro) ∨ cs[j]? = some q := by
    intro j q hq
    rw [List.getElem?_set] at hq
    by_cases e : off = j
    · rw [if_pos e, if_pos hlt] at hq
      injection hq with hq
      exact .inl ⟨e.symm, hq.symm⟩
    · rw [if_neg e] at hq
      exact .inr hq
  rcases h with ⟨c, a3, a4, a5⟩ | ⟨arr, a3, a4, a5⟩
  · refine .inl ⟨c, a3, by simpa using a4, fun j q v h1 h2 => ?_⟩
    rcases at' j q h1 with ⟨rfl, rfl⟩ | h1
    · exact (a5 j p v hp h2).ro
    · exact a5 j q v h1 h2
  · refine .inr ⟨arr, a3, by simpa using a4, fun j q e h1 h2 => ?_⟩
    rcases at' j q h1 with ⟨rfl, rfl⟩ | h1
    · obtain ⟨g1, k, v, rfl, g2, g3⟩ := a5 j p e hp h2
      exact ⟨g1, k.ro, v.ro, rfl, g2.ro, g3.ro⟩
    · exact a5 j q e h1 h2

theorem Weak.roomV {N : Nat} {lo : Nat × Nat} {E : Env} {σ : Sg} {id off es : Nat} {cs l : List PV} (hid : σ.store[id]? = some (some cs)) (hc : cs[off]? = some (.isl l .exact)) (hes : ∀ q, q ∈ l → q.cells.length = es) :
    Weak N lo E σ E ((σ.setVar id (cs.set off (.isl l (.tok σ.rooms.length l.length es)))).pushRoom l.length) := by
  intro Ψ0 Ψ D a w hb le hr
  obtain ⟨b, hβ⟩ : ∃ b, Ψ.β[id]? = some b := by
    have : id < Ψ.β.length := by rw [hr.sg.blen]; exact (List.getElem?_eq_some_iff.1 hid).1
    exact ⟨Ψ.β[id], by simp [this]⟩
  obtain ⟨_, _, h0⟩ := hr.sg.block id cs b hid hβ
  obtain ⟨c, hbi, hcl, hcv⟩ : ∃ c, blockIs w b c ∧ cs.length ≤ c.size ∧ ∀ (j : Nat) (p : PV) (v : Value), cs[j]? = some p → c[j]? = some v → VR Ψ p v := by
    rcases h0 with h0 | ⟨arr, _, g1, g2⟩
    · exact h0
    · have hlt : off < arr.size := by rw [g1]; exact (List.getElem?_eq_some_iff.1 hc).1
      obtain ⟨_, k, v, e, _⟩ := g2 off _ arr[off] hc (by simp [hlt])
      cases e
  have hoff : off < cs.length := (List.getElem?_eq_some_iff.1 hc).1
  have hoc : off < c.size := Nat.lt_of_lt_of_le hoff hcl
  have hv : VR Ψ (.isl l .exact) c[off] := hcv off _ _ hc (by simp [hoc])
  have fin : ∀ x : Option (Nat × Nat × Nat × Nat), (∀ b e c s, x = some (b, e, c, s) → ¬ e < c) → (∀ Ψ', Ψ.le Ψ' → Ψ'.hist σ.rooms.length l.length = some x → VR Ψ' (.isl l (.tok σ.rooms.length l.length es)) c[off]) →
      ∃ Ψ', Ψ0.le Ψ' ∧ Rel N D Ψ' E ((σ.setVar id (cs.set off (.isl l (.tok σ.rooms.length l.length es)))).pushRoom l.length) a w := by
    intro x hx hvr
    obtain ⟨le', hs'⟩ := hr.sg.newRoom l.length x (fun b e c s hh hlt => absurd hlt (hx b e c s hh))
    have hnew := hvr _ le' (by simp [Ty.addHist])
    have hid' : (σ.pushRoom l.length).store[id]? = some (some cs) := hid
    have hs2 := hs'.reread (cs' := cs.set off (.isl l (.tok σ.rooms.length l.length es))) hid' (fun b2 hb2 h2 => by
      have e1 : b2 = b := by
        have := le'.β id b hβ
        rw [hb2] at this; injection this
      subst e1
      obtain ⟨g1, g2⟩ := h2.cells hbi
      refine .inl ⟨c, hbi, by simpa using g1, fun j p v h1 h2 => ?_⟩
      rw [List.getElem?_set] at h1
      by_cases hj : off = j
      · subst hj
        rw [if_pos rfl, if_pos hoff] at h1
        injection h1 with h1
        subst h1
        have : v = c[off] := by simpa [hoc] using h2.symm
        rw [this]; exact hnew
      · rw [if_neg hj] at h1
        exact g2 j p v h1 h2)
    refine ⟨_, le.trans le', hr.size, fun t' => (hr.env t').mono le', hs2, fun d hd => le'.ds _ (hr.dsub d hd), ?_⟩
    obtain ⟨rs, r1, r2, r3⟩ := hr.defs
    exact ⟨rs, r1, r2, fun r hm => ⟨le'.ds _ (r3 r hm).1, (r3 r hm).2⟩⟩
  generalize hx : c[off] = x at hv fin
  cases hv with
  | islnil _ a0 _ => exact fin none (fun b e c s h => by cases h) fun Ψ' _ hh => .islnil _ a0 hh
  | isl es0 _ _ b o cap vals hs h1 h2 hc' ho =>
    have hcap : cap = l.length := ho
    subst hcap
    refine fin (some (b, o + l.length * es, o + l.length * es, es)) (fun b e c s h => by injection h with h; injection h with _ h; injection h with h1 h; injection h with h2 _; omega) fun Ψ' le' hh => ?_
    by_cases hl : l = []
    · subst hl
      exact .isl es [] _ b o 0 vals (fun k e h => by simp at h) (fun k e j p h => by simp at h) (fun k e j p h => by simp at h) (Nat.le_refl _) ⟨rfl, hh⟩
    · have : es0 = es := by
        cases l with
        | nil => exact absurd rfl hl
        | cons q l => rw [← hs 0 q rfl]; exact hes q (by simp)
      subst this
      exact .isl es0 l _ b o _ vals hs (fun k e j p q1 q2 => le'.imm _ _ _ (h1 k e j p q1 q2)) (fun k e j p q1 q2 => (h2 k e j p q1 q2).mono le') (Nat.le_refl _) ⟨rfl, hh⟩
/-- The same for a variable that is new. -/
theorem Weak.roomX {N : Nat} {lo : Nat × Nat} {E : Env} {σ : Sg} {l : List (Option (List PV))} {rm : List Nat} {ys : List LState} {j off es : Nat} {cs m : List PV} (hid : l[j]? = some (some cs)) (hc : cs[off]? = some (.isl m .exact)) (hes : ∀ q, q ∈ m → q.cells.length = es) :
    Weak N lo E (σ.ext l rm ys) E (σ.ext (l.set j (some (cs.set off (.isl m (.tok (σ.rooms.length + rm.length) m.length es))))) (rm ++ [m.length]) ys) := by
  have h := Weak.roomV (N := N) (lo := lo) (E := E) (σ := σ.ext l rm ys) (id := σ.store.length + j) (off := off) (es := es) (cs := cs) (l := m) (by rw [Sg.get_ext]; exact hid) hc hes
  rw [Sg.rooms_ext, Sg.set_ext, Sg.pushRoom_ext] at h
  exact h
theorem Weak.roomSV {N : Nat} {lo : Nat × Nat} {E : Env} {σ : Sg} {d : Nat} {ds : List PV} {l : List (Option (List PV))} {rm : List Nat} {ys : List LState} {j off es : Nat} {cs m : List PV} (hid : l[j]? = some (some cs)) (hc : cs[off]? = some (.isl m .exact)) (hes : ∀ q, q ∈ m → q.cells.length = es) :
    Weak N lo E ((σ.setVar d ds).ext l rm ys) E ((σ.setVar d ds).ext (l.set j (some (cs.set off (.isl m (.tok (σ.rooms.length + rm.length) m.length es))))) (rm ++ [m.length]) ys) := by
  have h := Weak.roomX (N := N) (lo := lo) (E := E) (σ := σ.setVar d ds) (rm := rm) (ys := ys) hid hc hes
  exact h
/-- Cut back, where a variable that was there before was set. -/
theorem Weak.cutSV {N : Nat} {lo : Nat × Nat} {E : Env} {σ : Sg} {d : Nat} {ds : List PV} {l : List (Option (List PV))} {rm : List Nat} {ys : List LState} (k j : Nat) (h1 : lo.1 ≤ σ.store.length + k) (h2 : lo.2 ≤ σ.rooms.length + j) (hcl : CleanSg σ) (hds : CleanAll σ.store.length σ.rooms.length σ.ys.length ds)
    (hc : CleanLs (σ.store.length + k) (σ.rooms.length + j) (σ.ys.length + ys.length) (l.take k)) (hE : CleanEs (σ.store.length + k) (σ.rooms.length + j) (σ.ys.length + ys.length) E) :
    Weak N lo E ((σ.setVar d ds).ext l rm ys) E ((σ.setVar d ds).ext (l.take k) (rm.take j) ys) := by
  have h := Weak.cutX (N := N) (lo := lo) (E := E) (σ := σ.setVar d ds) (l := l) (rm := rm) (ys := ys) k j (by rw [sv_len]; exact h1) h2 (CleanSg_set hcl hds) (by rw [sv_len]; exact hc) (by rw [sv_len]; exact hE)
  exact h
end Go.Proofs.Ytnpamcpoaklgeaa

namespace Go.Proofs.Ytnpamcpoaklgeaa
open Go Go.RowKit

theorem Weak.roV {N : Nat} {lo : Nat × Nat} {E : Env} {σ : Sg} {id off : Nat} {cs : List PV} {p : PV} (hid : σ.store[id]? = some (some cs)) (hc : cs[off]? = some p) : Weak N lo E σ E (σ.setVar id (cs.set off p.ro)) := by
  intro Ψ0 Ψ D a w hb le hr
  have hs2 := hr.sg.reread (cs' := cs.set off p.ro) hid (fun b hb2 h2 => h2.setRo hc)
  exact ⟨Ψ, le, hr.size, hr.env, hs2, hr.dsub, hr.defs⟩
theorem Weak.roX {N : Nat} {lo : Nat × Nat} {E : Env} {σ : Sg} {l : List (Option (List PV))} {rm : List Nat} {ys : List LState} {j off : Nat} {cs : List PV} {p : PV} (hid : l[j]? = some (some cs)) (hc : cs[off]? = some p) :
    Weak N lo E (σ.ext l rm ys) E (σ.ext (l.set j (some (cs.set off p.ro))) rm ys) := by
  have h := Weak.roV (N := N) (lo := lo) (E := E) (σ := σ.ext l rm ys) (id := σ.store.length + j) (off := off) (cs := cs) (p := p) (by rw [Sg.get_ext]; exact hid) hc
  rw [Sg.set_ext] at h
  exact h
theorem Weak.roSV {N : Nat} {lo : Nat × Nat} {E : Env} {σ : Sg} {d : Nat} {ds : List PV} {l : List (Option (List PV))} {rm : List Nat} {ys : List LState} {j off : Nat} {cs : List PV} {p : PV} (hid : l[j]? = some (some cs)) (hc : cs[off]? = some p) :
    Weak N lo E ((σ.setVar d ds).ext l rm ys) E ((σ.setVar d ds).ext (l.set j (some (cs.set off p.ro))) rm ys) := Weak.roX hid hc
end Go.Proofs.Ytnpamcpoaklgeaa

namespace Go.Proofs.Ytnpamcpoaklgeaa
open Go Go.RowKit

theorem op_step {D : List Nat} {P : Program} {N : Nat} {rd : Option Nat} {ops : Array Oper} {Ψ0 : Ty} {Q : Exit → Act → World → Prop} {E : Env} {σ : Sg} {Ψ : Ty} {a : Act} {w : World} {o : Oper} {i : Nat} {is : List Nat} {v : PV}
    (hr : Rel N D Ψ E σ a w) (ho : ops[i]? = some o) (hd : dstOK N o = true) (hg : o.guard = none) (hnd : ∀ c, o.op ≠ .defer c) {x : Value} (hx : (execOp a.eval o).run P w = .ok (.value x) w) (hv : VR Ψ v x)
    (k : ∀ a', Rel N D Ψ (E.put o.dst v) σ a' w → wpOpsIn (FnOf Ψ0 rd) 0 P ops Q is a' w) : wpOpsIn (FnOf Ψ0 rd) 0 P ops Q (i :: is) a w := by
  simp only [wpOpsIn, ho]
  have hw : wantedPV ops E o = some true := by simp [wantedPV, hg]
  rw [wanted_ok hw hr.env]
  simp only [if_true]
  refine ⟨fun f _ => FnOf_fn _ _ _, ?_⟩
  rw [Oper.semAt_eq _ _ _ hnd, hx]
  exact k _ (hr.put (Ty.le.refl _) hr.sg hd hv)

theorem W_isnil {P : Program} {Y : YEnv} {N : Nat} {rd : Option Nat} {lo : Nat × Nat} {id d1 d2 : Nat} {x : Operand} {t ty1 ty2 e : TypeId} {p1 p2 : String} {af1 af2 : Array Edge} {sh : TypeId} {E : Env} {σ : Sg} {Q : Exit → Env → Sg → Prop} {l : List PV} {own : Own} (ks : List Nat)
    (h1 : d1 < N) (h2 : d2 < N) (hx : ev E x = .isl l own) (ht : P.underlying t = some (.slice e))
    (h : ∀ b : Bool, (b = true → l = []) → Q .normal (keep ks ((d2, .bool b) :: (d1, .isl l own) :: E)) σ) :
    W P Y N rd lo (.region id #[{ dst := some d1, op := .move x, type := ty1, pos := p1, after := af1, guard := none }, { dst := some d2, op := .binOp .eql t (.tmp d1) (.const (.slice none 0 0)) sh, type := ty2, pos := p2, after := af2, guard := none }] false) E σ Q := by
  intro Ψ0 D _ hy _ Ψ a w le hr
  refine wpIn_region ?_
  have hv := ev_ok hr.env x
  rw [hx] at hv
  refine op_step (is := [1]) (v := .isl l own) hr rfl (by simp [dstOK, h1]) rfl (fun c e => by cases e) (x := a.eval x) rfl hv fun a1 hr1 => ?_
  have hv1 : VR Ψ (.isl l own) (a1.tmps.getD d1 undef) := by
    have : VR Ψ ((Env.put E (some d1) (.isl l own)).get d1) (a1.tmps.getD d1 undef) := hr1.env d1
    rw [show (Env.put E (some d1) (.isl l own)).get d1 = .isl l own by simp [Env.get]] at this
    exact this
  have hval : ∃ q n c, a1.tmps.getD d1 undef = .slice q n c ∧ (q.isNone = true → l = []) := by
    generalize a1.tmps.getD d1 undef = z at hv1
    cases hv1 with
    | islnil _ _ _ => exact ⟨_, _, _, rfl, fun _ => rfl⟩
    | isl es _ _ b o cap vals hs h1 h2 hc ho => exact ⟨_, _, _, rfl, fun h => by simp at h⟩
  obtain ⟨q, n, c, hz, hq⟩ := hval
  have he : (a1.eval (.tmp d1)) = .slice q n c := hz
  have hrun : ∀ o : Oper, o.op = .binOp .eql t (.tmp d1) (.const (.slice none 0 0)) sh → (execOp a1.eval o).run P w = .ok (.value (.bool q.isNone)) w := by
    intro o ho
    have e1 : execOp a1.eval o = (do pure (.value (← (do eqGuard .eql t (.tmp d1) (.const (.slice none 0 0)) (a1.eval (.tmp d1)) (a1.eval (.const (.slice none 0 0))); binOp .eql t (a1.eval (.tmp d1)) (a1.eval (.const (.slice none 0 0))) : Sem Value)))) := by
      unfold execOp; rw [ho]
    have he2 : a1.eval (.const (.slice none 0 0)) = .slice none 0 0 := rfl
    rw [e1, he, he2]
    have hg : (eqGuard .eql t (.tmp d1) (.const (.slice none 0 0)) (.slice q n c) (.slice none 0 0)).run P w = .ok () w := rfl
    have hb : (binOp .eql t (.slice q n c) (.slice none 0 0)).run P w = .ok (.bool q.isNone) w := by
      have heq : (Op.equal t (.slice q n c) (.slice none 0 0)).run P w = .ok q.isNone w := by
        unfold Op.equal
        show (Op.equalIn (9999 + 1) t (.slice q n c) (.slice none 0 0)).run P w = _
        unfold Op.equalIn
        rw [run_bind_ok (run_und ht)]
        cases q <;> rfl
      show (do pure (.bool (← Op.equal t (.slice q n c) (.slice none 0 0))) : Sem Value).run P w = _
      rw [run_bind_ok heq]; rfl
    have hgb : (do eqGuard .eql t (.tmp d1) (.const (.slice none 0 0)) (.slice q n c) (.slice none 0 0); binOp .eql t (.slice q n c) (.slice none 0 0) : Sem Value).run P w = .ok (.bool q.isNone) w := by
      rw [run_bind_ok hg]; exact hb
    rw [run_bind_ok hgb]
    rfl
  refine op_step (is := []) (v := .bool q.isNone) hr1 rfl (by simp [dstOK, h2]) rfl (fun c e => by cases e) (x := .bool q.isNone) (hrun _ rfl) (.bool _) fun a2 hr2 => ?_
  exact ⟨_, σ, Ψ, le, hr2.keep ks, Below.refl _ _, h _ hq⟩
end Go.Proofs.Ytnpamcpoaklgeaa

namespace Go.Proofs.Ytnpamcpoaklgeaa
open Go Go.RowKit

/-- The owner of a part of a slice. -/
theorem slHi_of {P : Program} {t e : TypeId} {d : TypeDesc} (h : P.underlying t = some (.slice e)) (he : P.underlying e = some d) (l : List PV) (own : Own) (k : IntKind) (n : Int) :
    slicePV P t (.isl l own) none (some (.int k n)) none = if 0 ≤ n then if n.toNat ≤ l.length then some (.isl (l.take n.toNat) (sliceOwn own 0 n.toNat l.length)) else none else none := by
  unfold slicePV
  rw [h]
  simp only [he, bnd]
  by_cases hn : 0 ≤ n
  · simp [hn]
  · simp [hn]
/-- Without an owner. -/
theorem sliceOwn_ro {lo h len : Nat} : sliceOwn .ro lo h len = .ro := by unfold sliceOwn; split <;> simp
theorem isl_sliceOwn {l : List PV} {own : Own} {lo h len : Nat} : (PV.isl l (sliceOwn own lo h len)).ro = (PV.isl l .ro).ro := by simp only [PV.ro]
attribute [go_sem] sliceOwn_ro
end Go.Proofs.Ytnpamcpoaklgeaa

namespace Go.Proofs.Ytnpamcpoaklgeaa
open Go Go.RowKit

section
variable {P : Program} {t e : TypeId} {d : TypeDesc} {c b : Nat} {σ : Sg} {id len es : Nat}
theorem iaG_of (h : P.underlying t = some (.slice e)) (he : P.underlying e = some d) (hc : P.cellsOf e = c) (kd : IntKind) (len : Nat) (n : Int) : indexAddrPV P t (.gsl id len es) (.int kd n) = iaM c id 0 len n := by
  simp [indexAddrPV, h, he, hc, iaM]
theorem lenG_of (h : P.underlying t = some (.slice e)) (n : Nat) : lenPV P t (.gsl id n es) = some (.int .i64 n) := by simp [lenPV, h]
theorem lenN_of (h : P.underlying t = some (.slice e)) : lenPV P t .gnil = some (.int .i64 0) := by simp [lenPV, h]
def appG (c b : Nat) (σ : Sg) (x : PV) (m : List PV) : Option (PV × Sg) :=
  if m.all (fun q => (q.cells.length == c) && q.cells.all PV.scalar) && decide (0 < m.length) then
    (match x with
     | .gnil => if m.length * b ≤ 2 ^ 47 then some (.gsl σ.store.length m.length c, σ.push (rowC m)) else none
     | .gsl id len es => match σ.store[id]? with
       | some (some cs) => if es = c ∧ cs.length = len * es ∧ (len + m.length) * b ≤ 2 ^ 47 then some (.gsl σ.store.length (len + m.length) es, (σ.drop id).push (cs ++ rowC m)) else none
       | _ => none
     | _ => none)
  else none
theorem appG_of {zs : List PV} {x : PV} {m : List PV} {own : Own} (h : P.underlying t = some (.slice e)) (he : P.underlying e = some d) (hc : P.cellsOf e = c) (hb : P.bytesOf e = b) (hb0 : b ≠ 0) (hc0 : 0 < c) (hz : zeroPV P e = some zs) (hzl : zs.length = c) :
    appendG P σ t t x (.isl m own) = appG c b σ x m := by
  unfold appendG appG
  rw [h]
  simp only [he, hc, hb, hz, hzl, Option.isSome_some, Bool.true_and, Option.map_some, BEq.rfl, Bool.and_true, hb0, hc0, ne_eq, not_false_eq_true, and_self, decide_true]
  rfl
theorem appG_nil {m : List PV} (h1 : m.all (fun q => (q.cells.length == c) && q.cells.all PV.scalar) = true) (h2 : 0 < m.length) (h3 : m.length * b ≤ 2 ^ 47) : appG c b σ .gnil m = some (.gsl σ.store.length m.length c, σ.push (rowC m)) := by
  simp only [appG, h1, h2, h3, decide_true, Bool.and_true, if_true]
theorem appG_more {m cs : List PV} (hs : σ.store[id]? = some (some cs)) (hl : cs.length = len * c) (h1 : m.all (fun q => (q.cells.length == c) && q.cells.all PV.scalar) = true) (h2 : 0 < m.length) (h3 : (len + m.length) * b ≤ 2 ^ 47) :
    appG c b σ (.gsl id len c) m = some (.gsl σ.store.length (len + m.length) c, (σ.drop id).push (cs ++ rowC m)) := by
  simp only [appG, h1, h2, decide_true, Bool.and_true, if_true, hs]
  rw [if_pos ⟨trivial, hl, h3⟩]
end

theorem get_put1 (E : Env) (t : Nat) (v : PV) (t' : Nat) : (E.put (some t) v).get t' = if t' = t then v else E.get t' := by
  simp only [Env.put_some, Env.get]
  by_cases h : t' = t
  · subst h; simp
  · simp [h, Ne.symm h]

theorem rowC_at {es : Nat} : ∀ {l : List PV} (_ : ∀ q ∈ l, q.cells.length = es) {k j : Nat} {q p : PV}, l[k]? = some q → q.cells[j]? = some p → (rowC l)[k * es + j]? = some p := by
  intro l
  induction l with
  | nil => intro _ k j q p h; simp at h
  | cons a l ih =>
    intro hl k j q p h1 h2
    have ha := hl a (by simp)
    have e : rowC (a :: l) = a.cells ++ rowC l := by simp [rowC]
    rw [e]
    cases k with
    | zero =>
      simp at h1
      subst h1
      rw [Nat.zero_mul, Nat.zero_add, List.getElem?_append_left (List.getElem?_eq_some_iff.1 h2).1]
      exact h2
    | succ k =>
      have := ih (fun q hq => hl q (by simp [hq])) (by simpa using h1) h2
      rw [List.getElem?_append_right (by rw [ha, Nat.add_mul]; omega), ha, show (k + 1) * es + j - es = k * es + j by rw [Nat.add_mul]; omega]
      exact this

theorem Keeps.trim {Ψ : Ty} {w : World} {b nβ nr ny : Nat} {cs : List PV} (h : Keeps Ψ w b cs) (hc : ∀ p, p ∈ cs → Clean nβ nr ny p) : Keeps (Ψ.trim nβ nr ny) w b cs := by
  rcases h with ⟨c, a3, a4, a5⟩ | ⟨arr, a3, a4, a5⟩
  · exact .inl ⟨c, a3, a4, fun j p v hj hv => (a5 j p v hj hv).trim (hc p (List.mem_of_getElem? hj))⟩
  · refine .inr ⟨arr, a3, a4, fun j p e hj he => ?_⟩
    obtain ⟨g1, k, v, rfl, g2, g3⟩ := a5 j p e hj he
    have hcl := hc _ (List.mem_of_getElem? hj)
    cases hcl with
    | tuple _ hh => exact ⟨g1, k, v, rfl, g2.trim (hh k (by simp)), g3.trim (hh v (by simp))⟩

/-- What a temporary is after a variable was moved from number k to number nβ. -/
def Moved (k nβ nr ny : Nat) (p v : PV) : Prop := v = .undef ∨ (Clean nβ nr ny p ∧ v = p) ∨ ∃ len es, p = .gsl k len es ∧ v = .gsl nβ len es

theorem Weak.move {N : Nat} {lo : Nat × Nat} {E E' : Env} {σ : Sg} {k : Nat} {cs : List PV} (nβ nr : Nat) (hk : σ.store[k]? = some (some cs)) (hle : nβ ≤ k) (h1 : lo.1 ≤ nβ) (h2 : lo.2 ≤ nr)
    (hcs : ∀ p, p ∈ cs → Clean nβ nr σ.ys.length p) (hE : ∀ t, Moved k nβ nr σ.ys.length (E.get t) (E'.get t)) (hc : CleanCut σ nβ nr σ.ys.length) {t0 len0 es0 : Nat} (ht0 : E.get t0 = .gsl k len0 es0) :
    Weak N lo E σ E' ((σ.cut nβ nr σ.ys.length).push cs) := by
  intro Ψ0 Ψ D a w hb le hr
  obtain ⟨b, c, hβ, hbk⟩ : ∃ b c, Ψ.β[k]? = some b ∧ blockIs w b c := by
    have hv := hr.env t0
    rw [ht0] at hv
    generalize a.tmps.getD t0 undef = x at hv
    cases hv with
    | gsl _ _ _ b cap hβ hz1 hz0 hc' =>
    obtain ⟨_, c, hbk, _⟩ := hr.sg.szok b 0 hz0
    exact ⟨b, c, hβ, hbk⟩
  have hcut : (σ.drop k).cut nβ nr σ.ys.length = σ.cut nβ nr σ.ys.length := by
    simp only [Sg.cut, Sg.drop]
    congr 1
    exact List.take_set_of_le hle
  have hcc : CleanCut (σ.drop k) nβ nr σ.ys.length := fun id cs hid hcs' p hp => hc id cs hid (drop_live hcs').2 p hp
  have hs1 := (hr.sg.dropVar k).trim hcc
  rw [hcut] at hs1
  have hf := hr.sg.free hk hβ
  have hf' : Free (Ψ.trim nβ nr σ.ys.length) (σ.cut nβ nr σ.ys.length) b := by
    refine ⟨hf.base, hf.imm, fun id q cs' q' => ?_, fun r n e c es q1 q2 => ?_, hf.rs⟩
    · have q1 : id < nβ ∧ Ψ.β[id]? = some b := by
        simp only [Ty.trim, List.getElem?_take] at q
        split at q
        · exact ⟨‹_›, q⟩
        · cases q
      have q2 : σ.store[id]? = some (some cs') := by
        simp only [Sg.cut, List.getElem?_take] at q'
        split at q'
        · exact q'
        · cases q'
      refine hf.var id q1.2 cs' ?_
      simp only [Sg.drop]
      rw [List.getElem?_set_ne (by omega)]
      exact q2
    · have q3 : Ψ.hist r n = some (some (b, e, c, es)) := by
        simp only [Ty.trim] at q2
        split at q2
        · exact q2
        · cases q2
      have q4 : σ.rooms[r]? = some n := by
        simp only [Sg.cut, List.getElem?_take] at q1
        split at q1
        · exact q1
        · cases q1
      exact hf.room r n e c es q4 q3
  obtain ⟨_, _, hkp⟩ := hr.sg.block k cs b hk hβ
  obtain ⟨le2, hs2⟩ := hs1.hold hf' hbk (hkp.trim hcs)
  have le1 : Ψ0.le (Ψ.trim nβ nr σ.ys.length) := Ty.trim_le le (Nat.le_trans hb.1 h1) (fun r n x k => Nat.lt_of_lt_of_le (hb.2 r n x k) h2) (by rw [← hr.sg.ylen]; exact ys_len_le le)
  refine ⟨_, le1.trans le2, hr.size, fun t => ?_, hs2, hr.dsub, hr.defs⟩
  have hv := hr.env t
  rcases hE t with h | ⟨h, h'⟩ | ⟨len, es, h, h'⟩
  · rw [h]; exact .undef _
  · rw [h']; exact (hv.trim h).mono le2
  · rw [h]  at hv
    rw [h']
    generalize a.tmps.getD t undef = x at hv
    cases hv with
    | gsl _ _ _ b' cap hb' hz1 hz0 hc' =>
    have e : b' = b := by rw [hβ] at hb'; injection hb' with hb'; exact hb'.symm
    subst e
    refine .gsl _ _ _ b' cap ?_ (List.mem_cons_of_mem _ hz1) (List.mem_cons_of_mem _ hz0) hc'
    show ((Ψ.β.take nβ) ++ [b'])[nβ]? = _
    have : (Ψ.β.take nβ).length = nβ := by
      have := (List.getElem?_eq_some_iff.1 hβ).1
      simp; omega
    rw [List.getElem?_append_right (by omega), this]
    simp

theorem Weak.moveX {N : Nat} {lo : Nat × Nat} {E E' : Env} {σ : Sg} {l : List (Option (List PV))} {rm : List Nat} {ys : List LState} {t0 len0 es0 j : Nat} {cs : List PV} (k m : Nat)
    (ht0 : E.get t0 = .gsl (σ.store.length + j) len0 es0) (hj : l[j]? = some (some cs)) (hkj : k ≤ j) (h1 : lo.1 ≤ σ.store.length + k) (h2 : lo.2 ≤ σ.rooms.length + m) (hcl : CleanSg σ)
    (hcs : ∀ p, p ∈ cs → Clean (σ.store.length + k) (σ.rooms.length + m) (σ.ys.length + ys.length) p)
    (hc : ∀ cs, some cs ∈ l.take k → ∀ p, p ∈ cs → Clean (σ.store.length + k) (σ.rooms.length + m) (σ.ys.length + ys.length) p)
    (hE : ∀ t, Moved (σ.store.length + j) (σ.store.length + k) (σ.rooms.length + m) (σ.ys.length + ys.length) (E.get t) (E'.get t)) :
    Weak N lo E (σ.ext l rm ys) E' (σ.ext (l.take k ++ [some cs]) (rm.take m) ys) := by
  have := Weak.move (N := N) (lo := lo) (E := E) (E' := E') (σ := σ.ext l rm ys) (k := σ.store.length + j) (cs := cs) (σ.store.length + k) (σ.rooms.length + m) (by rw [Sg.get_ext]; exact hj) (by omega) h1 h2
    (by rw [Sg.ys_ext]; exact hcs) (by rw [Sg.ys_ext]; exact hE) (by
      rw [Sg.ys_ext]
      intro id cs hid hcs p hp
      have hcs' : (σ.store ++ l)[id]? = some (some cs) := hcs
      by_cases h : id < σ.store.length
      · rw [List.getElem?_append_left h] at hcs'
        exact (hcl id cs h hcs' p hp).mono (Nat.le_add_right _ _) (Nat.le_add_right _ _) (Nat.le_add_right _ _)
      · rw [List.getElem?_append_right (by omega)] at hcs'
        refine hc cs ?_ p hp
        refine List.mem_of_getElem? (i := id - σ.store.length) ?_
        rw [List.getElem?_take_of_lt (by omega)]
        exact hcs') ht0
  rw [Sg.ys_ext, Sg.cut_exty, Sg.push_ext, List.take_length] at this
  exact this

/-- The temporaries, one by one. -/
def MovedE (k nβ nr ny : Nat) : Env → Env → Prop
  | [], [] => True
  | (t, p) :: E, (t', v) :: E' => t = t' ∧ Moved k nβ nr ny p v ∧ MovedE k nβ nr ny E E'
  | _, _ => False
theorem MovedE.get {k nβ nr ny : Nat} : ∀ {E E' : Env}, MovedE k nβ nr ny E E' → ∀ t, Moved k nβ nr ny (E.get t) (E'.get t) := by
  intro E
  induction E with
  | nil =>
    intro E' h t
    cases E' with
    | nil => exact .inl rfl
    | cons => exact h.elim
  | cons kv E ih =>
    intro E' h t
    obtain ⟨a, p⟩ := kv
    cases E' with
    | nil => exact h.elim
    | cons kv' E' =>
      obtain ⟨a', v⟩ := kv'
      obtain ⟨rfl, h1, h2⟩ := h
      simp only [Env.get]
      split
      · exact h1
      · exact ih h2 t
theorem Moved.gone {k nβ nr ny : Nat} {p : PV} : Moved k nβ nr ny p .undef := .inl rfl
theorem Moved.same {k nβ nr ny : Nat} {p : PV} (h : Clean nβ nr ny p) : Moved k nβ nr ny p p := .inr (.inl ⟨h, rfl⟩)
theorem Moved.gsl {k nβ nr ny len es : Nat} : Moved k nβ nr ny (.gsl k len es) (.gsl nβ len es) := .inr (.inr ⟨_, _, rfl, rfl⟩)
theorem Sg.drop_ext {σ : Sg} {l : List (Option (List PV))} {rm : List Nat} {ys : List LState} (j : Nat) : (σ.ext l rm ys).drop (σ.store.length + j) = σ.ext (l.set j none) rm ys := by
  simp [Sg.drop, Sg.ext, List.set_append]
theorem Sg.drop_ext0 {σ : Sg} {l : List (Option (List PV))} {rm : List Nat} {ys : List LState} : (σ.ext l rm ys).drop σ.store.length = σ.ext (l.set 0 none) rm ys := Sg.drop_ext 0
attribute [go_sem] Sg.drop_ext Sg.drop_ext0

/-- What a variable held is read of a temporary, and is never written again. -/
theorem Weak.freeze {N : Nat} {lo : Nat × Nat} {E : Env} {σ : Sg} {t id len es : Nat} {l : List PV} (ht : E.get t = .gsl id len es) (hs : σ.store[id]? = some (some (rowC l))) (hl : l.length = len) (hes : ∀ q ∈ l, q.cells.length = es) :
    Weak N lo E σ (E.put (some t) (.isl l .ro)) (σ.drop id) := by
  intro Ψ0 Ψ D a w hb le hr
  have hv := hr.env t
  rw [ht] at hv
  generalize hx : a.tmps.getD t undef = x at hv
  cases hv with
  | gsl _ _ _ b cap hβ hz1 hz0 hc =>
  obtain ⟨_, c, hbk, _⟩ := hr.sg.szok b 0 hz0
  obtain ⟨_, _, hkp⟩ := hr.sg.block id _ b hs hβ
  obtain ⟨a4, a5⟩ := hkp.cells hbk
  obtain ⟨le2, hs2⟩ := hr.sg.freeze hs hβ hbk
  refine ⟨_, le.trans le2, hr.size, fun t' => ?_, hs2, fun d hd => le2.ds _ (hr.dsub d hd), ?_⟩
  · rw [get_put1]
    split
    · rename_i e
      subst e
      rw [hx, ← hl]
      have hat : ∀ (k : Nat) (q : PV) (j : Nat) (p : PV), l[k]? = some q → q.cells[j]? = some p → (rowC l)[k * es + j]? = some p ∧ k * es + j < c.size := fun k q j p q1 q2 => by
        have := rowC_at hes q1 q2
        exact ⟨this, Nat.lt_of_lt_of_le (List.getElem?_eq_some_iff.1 this).1 a4⟩
      refine .isl es l .ro b 0 cap (fun k j => c.getD (k * es + j) undef) (fun k q hk => hes q (List.mem_of_getElem? hk)) (fun k q j p q1 q2 => ?_) (fun k q j p q1 q2 => ?_) (by omega) trivial
      · obtain ⟨_, hlt⟩ := hat k q j p q1 q2
        simp only [Ty.addImm, Nat.zero_add]
        rw [if_pos ⟨trivial, Nat.zero_le _, hlt⟩]
        simp [Array.getD, hlt]
      · obtain ⟨h1, hlt⟩ := hat k q j p q1 q2
        refine (a5 _ p _ h1 ?_).mono le2
        simp [Array.getD, hlt]
    · exact (hr.env t').mono le2
  · obtain ⟨rs, r1, r2, r3⟩ := hr.defs
    exact ⟨rs, r1, r2, fun r hm => ⟨le2.ds _ (r3 r hm).1, (r3 r hm).2⟩⟩

/-- A slice without room, told otherwise: to grow in place. -/
theorem Weak.gnil {N : Nat} {lo : Nat × Nat} {E : Env} {σ : Sg} {t : Nat} (ht : E.get t = .isl [] .exact) : Weak N lo E σ (E.put (some t) .gnil) σ := by
  intro Ψ0 Ψ D a w hb le hr
  refine ⟨Ψ, le, hr.size, fun t' => ?_, hr.sg, hr.dsub, hr.defs⟩
  rw [get_put1]
  split
  · rename_i e
    subst e
    have hv := hr.env t'
    rw [ht] at hv
    generalize a.tmps.getD t' undef = x at hv
    cases hv with
    | islnil _ a' _ => exact .gnil a'
    | isl es _ _ b o cap vals hs h1 h2 hc ho =>
      have : cap = 0 := ho
      subst this
      exact .gnil _
  · exact hr.env t'
end Go.Proofs.Ytnpamcpoaklgeaa

namespace Go.Proofs.Ytnpamcpoaklgeaa
open Go Go.RowKit Go.WideShapes Go.ChangeShapes

/-- The world as it lies: nothing of it is written again. -/
def Ty.at (W : World) : Ty := { base := W.heap.size, imm := fun b o => W.cell? ⟨b, o, none⟩, β := [], hist := fun _ _ => none, ys := [], ds := [], rs := [], sz := [] }
def Sg.zero : Sg := ⟨[], [], []⟩
theorem cell_lt' {W : World} {b o : Nat} {v : Value} (h : W.cell? ⟨b, o, none⟩ = some v) : b < W.heap.size := by
  rcases Nat.lt_or_ge b W.heap.size with k | k
  · exact k
  · have : W.heap[b]? = none := by simp [k]
    simp [World.cell?, this] at h
theorem SR.at (W : World) : SR (Ty.at W) Sg.zero W where
  base := Nat.le_refl _
  imm := fun _ _ _ h => h
  blen := rfl
  block := fun id cs b h => by simp [Sg.zero] at h
  apart := fun id id' cs cs' b h => by simp [Sg.zero] at h
  room := fun r n b e c es h => by simp [Sg.zero] at h
  roomsApart := fun r n r' n' b e c es e' c' es' h => by simp [Sg.zero] at h
  histlt := fun r n x h => by simp [Ty.at] at h
  histle := fun r m n x h => by simp [Ty.at] at h
  βlt := fun id b h => by simp [Ty.at] at h
  yok := fun y l d s h => by simp [Ty.at] at h
  ylen' := ⟨rfl, fun y y' l r r' h => by simp [Ty.at] at h⟩
  dok := fun d h => by simp [Ty.at] at h
  rok := fun b c h => by simp [Ty.at] at h
  szok := fun b n h => by simp [Ty.at] at h

theorem calls_of_PC {P : Program} {f : FuncId} {args : Array Value} {ps : List PV} {W : World} {v : PV} {σ' : Sg} (ha : VRs (Ty.at W) ps args) (h : PC P noY f ps Sg.zero v σ') :
    Calls P f args W fun e W' => ∃ x Ψ', e = .returned x ∧ VR Ψ' v x ∧ Below W.heap.size W W' :=
  (callsIn_wide.1 (h.2 (Ty.at W) args W (SR.at W) ha (YOK.none _ _))).mono fun _ _ ⟨x, Ψ', a, _, _, b, c⟩ => ⟨x, Ψ', a, b, c⟩

/-! ### What data are read as -/
section
variable {P : Program}
def kindOK (P : Program) (t : TypeId) (p : PV) : Bool :=
  match P.underlying t, p with
  | some (.struct _), .agg _ => true
  | some (.struct _), _ => false
  | some (.array _ _), _ => false
  | _, p => p.scalar
/-- What is of type t is read as R says. -/
def Rd (P : Program) (t : TypeId) (R : PV → Prop) : Prop :=
  ∀ (H : Type) (enc : TypeId × Value → H) (W : World) (fuel : Nat) (cs : List Value) (d : DataW H) (ps : List MemPlace),
    DataW.trod enc P W 0 (fun _ => true) true fuel t cs = some (d, ps) → (∀ n, n ∈ d.weights P t → n ≤ reachBytes) →
    ∃ p, (R p ∧ kindOK P t p = true) ∧ p.cells.length = cs.length ∧ ∀ (j : Nat) (q : PV) (x : Value), p.cells[j]? = some q → cs[j]? = some x → VR (Ty.at W) q x

theorem Rd.mono {t : TypeId} {R S : PV → Prop} (h : Rd P t R) (k : ∀ p, R p → S p) : Rd P t S := fun H enc W fuel cs d ps a b =>
  let ⟨p, ⟨h1, h3⟩, h2⟩ := h H enc W fuel cs d ps a b; ⟨p, ⟨k p h1, h3⟩, h2⟩
theorem one_get {q x : PV} {j : Nat} (h : [x][j]? = some q) : j = 0 ∧ q = x := by
  cases j with
  | zero => simp at h; exact ⟨rfl, h.symm⟩
  | succ j => simp at h
theorem Rd.int {t : TypeId} {k : IntKind} (ht : P.underlying t = some (.int k)) : Rd P t fun p => ∃ n, p = .int k n ∧ k.min ≤ n ∧ n ≤ k.max := by
  intro H enc W fuel cs d ps h _
  obtain ⟨n, rfl, _, hw⟩ := DataW.trod_int ht h
  refine ⟨.int k n, ⟨⟨n, rfl, ?_⟩, by simp [kindOK, ht, PV.scalar]⟩, rfl, fun j q x a b => ?_⟩
  · simp only [Lit.wf, Bool.and_eq_true, decide_eq_true_eq] at hw
    exact hw
  · obtain ⟨rfl, rfl⟩ := one_get a
    simp at b
    subst b
    exact .int k n
theorem Rd.bool {t : TypeId} (ht : P.underlying t = some .bool) : Rd P t fun p => ∃ b, p = .bool b := by
  intro H enc W fuel cs d ps h _
  obtain ⟨n, rfl, _⟩ := DataW.trod_bool ht h
  refine ⟨.bool n, ⟨⟨n, rfl⟩, by simp [kindOK, ht, PV.scalar]⟩, rfl, fun j q x a b => ?_⟩
  obtain ⟨rfl, rfl⟩ := one_get a
  simp at b
  subst b
  exact .bool n
theorem Rd.str {t : TypeId} (ht : P.underlying t = some .string) : Rd P t fun p => ∃ s : ByteArray, p = .str s ∧ s.size ≤ reachBytes := by
  intro H enc W fuel cs d ps h hw
  obtain ⟨n, rfl, hd, _⟩ := DataW.trod_string ht h
  injection hd with hd _
  subst hd
  refine ⟨.str n, ⟨⟨n, rfl, ?_⟩, by simp [kindOK, ht, PV.scalar]⟩, rfl, fun j q x a b => ?_⟩
  · refine hw _ ?_
    simp only [DataW.weights, List.mem_singleton, Array.length_toList]
    rfl
  · obtain ⟨rfl, rfl⟩ := one_get a
    simp at b
    subst b
    exact .str n

/-- Fields, one behind the other. -/
def laidF (P : Program) : Nat → List Field → Nat → Bool
  | o, [], n => o == n
  | o, f :: r, n => f.offset == o && laidF P (o + P.cellsOf f.type) r n
theorem laidF_le : ∀ {l : List Field} {o n : Nat}, laidF P o l n = true → o ≤ n := by
  intro l
  induction l with
  | nil => intro o n h; simp [laidF] at h; omega
  | cons f l ih => intro o n h; simp [laidF] at h; have := ih h.2; omega
inductive All2 {α β : Type} (R : α → β → Prop) : List α → List β → Prop where
  | nil : All2 R [] []
  | cons {a b l m} : R a b → All2 R l m → All2 R (a :: l) (b :: m)
/-- Values, each as said. -/
def AllR : List (PV → Prop) → List PV → Prop
  | [], [] => True
  | R :: Rs, p :: ps => R p ∧ AllR Rs ps
  | _, _ => False
theorem allR_nil {qs : List PV} (h : AllR [] qs) : qs = [] := by
  cases qs with
  | nil => rfl
  | cons p ps => exact h.elim
theorem allR_cons {R : PV → Prop} {Rs : List (PV → Prop)} {qs : List PV} (h : AllR (R :: Rs) qs) : ∃ p ps, qs = p :: ps ∧ R p ∧ AllR Rs ps := by
  cases qs with
  | nil => exact h.elim
  | cons p ps => exact ⟨p, ps, rfl, h.1, h.2⟩
theorem weightsEach_head {H : Type} {t : TypeId} {ts : List TypeId} {d : DataW H} {ds : List (DataW H)} (h : ∀ n, n ∈ DataW.weightsEach P (t :: ts) (d :: ds) → n ≤ reachBytes) :
    (∀ n, n ∈ d.weights P t → n ≤ reachBytes) ∧ ∀ n, n ∈ DataW.weightsEach P ts ds → n ≤ reachBytes := by
  rw [DataW.weightsEach] at h
  exact ⟨fun n hn => h n (List.mem_append_left _ hn), fun n hn => h n (List.mem_append_right _ hn)⟩
theorem Rd.fields {H : Type} (enc : TypeId × Value → H) (W : World) (n : Nat) (cs : List Value) (tot : Nat) (hcs : cs.length = tot) : ∀ (fs : List Field) (Rs : List (PV → Prop)) (o : Nat) (xs : List (DataW H × List MemPlace)),
    All2 (fun f R => Rd P f.type R) fs Rs → laidF P o fs tot = true → xs.length = fs.length → (∀ (i : Nat) (f : Field), fs[i]? = some f → DataW.trod enc P W 0 (fun _ => true) true n f.type ((cs.drop f.offset).take (P.cellsOf f.type)) = xs[i]?) →
    (∀ k, k ∈ DataW.weightsEach P (fs.map (·.type)) (xs.map (·.1)) → k ≤ reachBytes) →
    ∃ l : List PV, AllR Rs l ∧ (l.flatMap PV.cells).length = tot - o ∧ ∀ (j : Nat) (q : PV) (x : Value), (l.flatMap PV.cells)[j]? = some q → cs[o + j]? = some x → VR (Ty.at W) q x := by
  intro fs
  induction fs with
  | nil =>
    intro Rs o xs ha hl _ _ _
    cases ha
    simp [laidF] at hl
    exact ⟨[], trivial, by simp; omega, fun j q x a => by simp at a⟩
  | cons f fs ih =>
    intro Rs o xs ha hl hx hf hw
    cases ha with
    | @cons _ R _ Rs' h1 h2 =>
    simp only [laidF, Bool.and_eq_true, beq_iff_eq] at hl
    obtain ⟨ho, hl⟩ := hl
    have hle := laidF_le hl
    cases xs with
    | nil => simp at hx
    | cons y xs =>
      obtain ⟨w1, w2⟩ := weightsEach_head hw
      have h0 := hf 0 f rfl
      simp only [List.getElem?_cons_zero] at h0
      obtain ⟨p, ⟨r1, _⟩, r2, r3⟩ := h1 H enc W n _ y.1 y.2 h0 w1
      obtain ⟨l, r4, r5, r6⟩ := ih Rs' (o + P.cellsOf f.type) xs h2 hl (by simpa using hx) (fun i g hg => by simpa using hf (i + 1) g (by simpa using hg)) w2
      have hlen : p.cells.length = P.cellsOf f.type := by rw [r2]; simp; omega
      refine ⟨p :: l, ⟨r1, r4⟩, by simp [List.flatMap_cons, hlen] at r5 ⊢; omega, fun j q x a b => ?_⟩
      rw [List.flatMap_cons] at a
      by_cases hj : j < P.cellsOf f.type
      · rw [List.getElem?_append_left (by omega)] at a
        refine r3 j q x a ?_
        rw [List.getElem?_take_of_lt hj, List.getElem?_drop, ho]
        exact b
      · rw [List.getElem?_append_right (by omega), hlen] at a
        refine r6 _ q x a ?_
        rw [show o + P.cellsOf f.type + (j - P.cellsOf f.type) = o + j by omega]
        exact b
theorem Rd.struct {t : TypeId} {fs : Array Field} {Rs : List (PV → Prop)} (ht : P.underlying t = some (.struct fs)) (hl : laidF P 0 fs.toList (P.cellsOf t) = true) (h : All2 (fun f R => Rd P f.type R) fs.toList Rs) :
    Rd P t fun p => ∃ l : List PV, AllR Rs l ∧ p = .agg (l.flatMap PV.cells) := by
  intro H enc W fuel cs d ps hd hw
  obtain ⟨xs, n, _, hx, hlen, hxl, hf⟩ := DataW.trod_struct ht hd
  injection hx with hx _
  subst hx
  simp only [DataW.weights, ht] at hw
  obtain ⟨l, r1, r2, r3⟩ := Rd.fields enc W n cs _ hlen fs.toList Rs 0 xs h hl (by simpa using hxl) (fun i f hi => hf i f (by simpa using hi)) hw
  exact ⟨.agg (l.flatMap PV.cells), ⟨⟨l, r1, rfl⟩, by simp [kindOK, ht]⟩, by simp only [PV.cells_agg]; omega, fun j q x a b => r3 j q x a (by simpa using b)⟩
theorem weightsAll_get {H : Type} {e : TypeId} : ∀ {l : List (DataW H)} {i : Nat} {d : DataW H}, l[i]? = some d → ∀ n, n ∈ d.weights P e → n ∈ DataW.weightsAll P e l := by
  intro l
  induction l with
  | nil => intro i d h; simp at h
  | cons a l ih =>
    intro i d h n hn
    rw [DataW.weightsAll]
    cases i with
    | zero => simp at h; subst h; exact List.mem_append_left _ hn
    | succ i => exact List.mem_append_right _ (ih (by simpa using h) n hn)
theorem cells_get {W : World} {b o n : Nat} {cs : List Value} (h : W.cells? 0 ⟨b, o, none⟩ n = some cs) : cs.length = n ∧ ∀ j, j < n → W.cell? ⟨b, o + j, none⟩ = cs[j]? := by
  unfold World.cells? at h
  rw [if_pos (Nat.zero_le _)] at h
  refine ⟨by simpa using mapM_some_length h, fun j hj => ?_⟩
  have := mapM_some_get h j j (by simp [hj])
  rw [Addr.add_none] at this
  exact this
theorem Rd.slice {t e : TypeId} {R : PV → Prop} (ht : P.underlying t = some (.slice e)) (hc' : (P.cellsOf e == 0) = false) (h : Rd P e R) :
    Rd P t fun p => ∃ l : List PV, (∀ x, x ∈ l → R x) ∧ l.length * P.bytesOf e ≤ reachBytes ∧ p = .isl l .ro := by
  intro H enc W fuel cs d ps hd hw
  have hc : 0 < P.cellsOf e := by have := hc'; simp at this; omega
  rcases DataW.trod_slice ht hd with ⟨rfl, _⟩ | ⟨a, len, cap, elems, rest, n, _, rfl, hx, _, hlc, _, hel, hei, hsp, _⟩
  · refine ⟨.isl [] .ro, ⟨⟨[], (fun x hx => by cases hx), by simp, rfl⟩, by simp [kindOK, ht, PV.scalar]⟩, rfl, fun j q x a b => ?_⟩
    obtain ⟨rfl, rfl⟩ := one_get a
    simp at b
    subst b
    exact .islnil _ _ trivial
  · injection hx with hx _
    subst hx
    simp only [DataW.weights, ht] at hw
    obtain ⟨hrl, hrest⟩ := hsp rfl
    by_cases h0 : cap = 0
    · have hl0 : len = 0 := by omega
      subst h0 hl0
      refine ⟨.isl [] .ro, ⟨⟨[], (fun x hx => by cases hx), by simp, rfl⟩, by simp [kindOK, ht, PV.scalar]⟩, rfl, fun j q x a b => ?_⟩
      obtain ⟨rfl, rfl⟩ := one_get a
      simp at b
      subst b
      exact .islnil _ _ trivial
    · have hspot : a.spot = none := by
        have key : ∃ cs', W.cells? 0 (a.add 0) (P.cellsOf e) = some cs' := by
          by_cases hl : 0 < len
          · have := hei 0 hl
            simp only [Nat.zero_mul] at this
            cases hc' : W.cells? 0 (a.add 0) (P.cellsOf e) with
            | none =>
              rw [hc'] at this
              have hlt : 0 < elems.length := by omega
              rw [List.getElem?_eq_getElem hlt] at this
              simp at this
            | some cs' => exact ⟨cs', rfl⟩
          · have e0 : len = 0 := by omega
            have := hrest 0 (by omega)
            rw [e0] at this
            simp only [Nat.add_zero, Nat.zero_mul] at this
            cases hc' : W.cells? 0 (a.add 0) (P.cellsOf e) with
            | none =>
              rw [hc'] at this
              have hlt : 0 < rest.length := by omega
              rw [List.getElem?_eq_getElem hlt] at this
              simp at this
            | some cs' => exact ⟨cs', rfl⟩
        obtain ⟨cs', hk⟩ := key
        unfold World.cells? at hk
        rw [if_pos (Nat.zero_le _)] at hk
        have hl := mapM_some_length hk
        have := mapM_some_get hk 0 0 (by simp [hc])
        have e1 : (a.add 0).add 0 = a := by simp [Addr.add]
        rw [e1] at this
        rw [List.getElem?_eq_getElem (by simp at hl; omega)] at this
        unfold World.cell? at this
        split at this
        · split at this
          · cases this
          · rename_i hh; simpa using hh
        · cases this
      obtain ⟨b, o, sp⟩ := a
      simp only at hspot
      subst hspot
      simp only [Addr.add_none] at hei
      have each : ∀ i, i < len → ∃ p : PV, R p ∧ p.cells.length = P.cellsOf e ∧ ∀ (j : Nat) (q : PV), p.cells[j]? = some q → ∃ x, W.cell? ⟨b, o + i * P.cellsOf e + j, none⟩ = some x ∧ VR (Ty.at W) q x := by
        intro i hi
        have he := hei i hi
        have hlt : i < elems.length := by omega
        rw [List.getElem?_eq_getElem hlt] at he
        cases hk : W.cells? 0 ⟨b, o + i * P.cellsOf e, none⟩ (P.cellsOf e) with
        | none => rw [hk] at he; simp at he
        | some ci =>
          rw [hk] at he
          simp only [Option.bind_some] at he
          obtain ⟨c1, c2⟩ := cells_get hk
          obtain ⟨p, ⟨r1, _⟩, r2, r3⟩ := h H enc W n ci elems[i].1 elems[i].2 (by rw [he]) (fun m hm => hw m (by
            refine List.mem_cons_of_mem _ (List.mem_append_left _ (weightsAll_get (i := i) ?_ m hm))
            simp [hlt]))
          refine ⟨p, r1, by omega, fun j q hj => ?_⟩
          have hjl : j < ci.length := by rw [← r2]; exact (List.getElem?_eq_some_iff.1 hj).1
          refine ⟨ci[j], ?_, r3 j q _ hj (List.getElem?_eq_getElem hjl)⟩
          rw [c2 j (by omega), List.getElem?_eq_getElem hjl]
      have hch : ∃ f : Nat → PV, ∀ i, i < len → R (f i) ∧ (f i).cells.length = P.cellsOf e ∧ ∀ (j : Nat) (q : PV), (f i).cells[j]? = some q → ∃ x, W.cell? ⟨b, o + i * P.cellsOf e + j, none⟩ = some x ∧ VR (Ty.at W) q x :=
        ⟨fun i => if hi : i < len then Classical.choose (each i hi) else .undef, fun i hi => by simp only [dif_pos hi]; exact Classical.choose_spec (each i hi)⟩
      obtain ⟨f, hf⟩ := hch
      have hget : ∀ (k : Nat) (x : PV), ((List.range len).map f)[k]? = some x → k < len ∧ x = f k := by
        intro k x hk
        rw [List.getElem?_map] at hk
        rcases Nat.lt_or_ge k len with hlt | hge
        · rw [List.getElem?_range hlt] at hk
          simp at hk
          exact ⟨hlt, hk.symm⟩
        · rw [List.getElem?_eq_none (by simpa using hge)] at hk
          cases hk
      refine ⟨.isl ((List.range len).map f) .ro, ⟨⟨_, ?_, ?_, rfl⟩, by simp [kindOK, ht, PV.scalar]⟩, rfl, fun j q x a1 b1 => ?_⟩
      · intro x hx
        obtain ⟨i, hi, rfl⟩ := List.mem_map.1 hx
        exact (hf i (List.mem_range.1 hi)).1
      · have := hw _ (List.mem_cons_self ..)
        simp only [List.length_map, List.length_range, hel] at this ⊢
        exact Nat.le_trans (Nat.mul_le_mul_right _ (Nat.le_add_right _ _)) this
      · obtain ⟨rfl, rfl⟩ := one_get a1
        simp at b1
        subst b1
        have hlen : ((List.range len).map f).length = len := by simp
        have := VR.isl (Ψ := Ty.at W) (P.cellsOf e) ((List.range len).map f) .ro b o cap (fun k j => (W.cell? ⟨b, o + k * P.cellsOf e + j, none⟩).getD undef)
          (fun k x hk => by obtain ⟨q1, rfl⟩ := hget k x hk; exact (hf k q1).2.1)
          (fun k x j p hk hj => by
            obtain ⟨q1, rfl⟩ := hget k x hk
            obtain ⟨y, q2, q3⟩ := (hf k q1).2.2 j p hj
            show W.cell? _ = _
            rw [q2]; rfl)
          (fun k x j p hk hj => by
            obtain ⟨q1, rfl⟩ := hget k x hk
            obtain ⟨y, q2, q3⟩ := (hf k q1).2.2 j p hj
            rw [q2]; exact q3)
          (by rw [hlen]; exact hlc) trivial
        rw [hlen] at this
        exact this

/-- Rows of things, each as said. -/
theorem map_of {α : Type} {f : α → PV} {Q : α → Prop} : ∀ {l : List PV}, (∀ x, x ∈ l → ∃ a, x = f a ∧ Q a) → ∃ xs : List α, l = xs.map f ∧ ∀ a, a ∈ xs → Q a := by
  intro l
  induction l with
  | nil => intro _; exact ⟨[], rfl, fun a h => by cases h⟩
  | cons x l ih =>
    intro h
    obtain ⟨a, rfl, ha⟩ := h x (by simp)
    obtain ⟨xs, rfl, hx⟩ := ih fun y hy => h y (by simp [hy])
    refine ⟨a :: xs, rfl, fun b hb => ?_⟩
    rcases List.mem_cons.1 hb with rfl | hb
    · exact ha
    · exact hx b hb

/-! ### A row -/
theorem PV.cells_scalar {p : PV} (h : p.scalar = true) : p.cells = [p] := by cases p <;> simp_all [PV.scalar, PV.cells]
theorem cells_not_agg {v : Value} (h : ∀ cs, v ≠ .agg cs) : v.cells = #[v] := by
  cases v <;> first | rfl | exact absurd rfl (h _)
theorem okWide_not_agg {W : World} {r : Reach} {base : Nat} {t : TypeId} {v : Value} (h : Cell.okWide P W r base t v) : ∀ cs, v ≠ .agg cs := by
  intro cs e
  subst e
  unfold Cell.okWide at h
  split at h <;> simp_all [Cell.ok]
theorem read_arg {t : TypeId} {R : PV → Prop} (h : Rd P t R) {H : Type} {enc : TypeId × Value → H} {W : World} {base : Nat} {v : Value} {d : DataW H} {ps : List MemPlace} (hv : Value.okWide P W .any base t v)
    (hd : DataW.Trod enc P W 0 (fun _ => true) true t v d ps) (hw : ∀ n, n ∈ d.weights P t → n ≤ reachBytes) : ∃ p, R p ∧ VR (Ty.at W) p v := by
  obtain ⟨fuel, hd⟩ := hd
  obtain ⟨p, ⟨h1, hk⟩, h2, h3⟩ := h H enc W fuel _ d ps hd hw
  refine ⟨p, h1, ?_⟩
  have scal : Cell.okWide P W .any base t v → p.scalar = true → VR (Ty.at W) p v := fun hv hs => by
    have hc := cells_not_agg (okWide_not_agg hv)
    rw [hc, PV.cells_scalar hs] at h3
    exact h3 0 p v rfl rfl
  have key : (∃ fs, P.underlying t = some (.struct fs)) ∨ (∃ n e, P.underlying t = some (.array n e)) ∨ (kindOK P t p = p.scalar ∧ Value.okWide P W .any base t v = Cell.okWide P W .any base t v) := by
    unfold kindOK Value.okWide
    rcases P.underlying t with _ | d
    · exact .inr (.inr ⟨rfl, rfl⟩)
    · cases d <;> first | exact .inl ⟨_, rfl⟩ | exact .inr (.inl ⟨_, _, rfl⟩) | exact .inr (.inr ⟨rfl, rfl⟩)
  rcases key with ⟨fs, hu⟩ | ⟨n, e, hu⟩ | ⟨e1, e2⟩
  · simp only [Value.okWide, hu] at hv
    obtain ⟨cs, rfl, _, _⟩ := hv
    simp only [kindOK, hu] at hk
    obtain ⟨l, rfl⟩ : ∃ l, p = .agg l := by
      cases p <;> first | exact ⟨_, rfl⟩ | cases hk
    simp only [PV.cells_agg, Value.cells] at h2 h3
    exact .agg l cs (by simpa using h2.symm) fun j q x a b => h3 j q x a (by simpa using b)
  · simp only [kindOK, hu] at hk
    cases hk
  · rw [e1] at hk
    rw [e2] at hv
    exact scal hv hk
theorem read_args : ∀ {ts : List TypeId} {Rs : List (PV → Prop)}, All2 (fun t R => Rd P t R) ts Rs → ∀ {H : Type} {enc : TypeId × Value → H} {W : World} {base : Nat} {vs : List Value} {ds : List (DataW H)} {ps : List MemPlace},
    (∀ (j : Nat) (t : TypeId) (v : Value), ts[j]? = some t → vs[j]? = some v → Value.okWide P W .any base t v) → DataW.TrodAll enc P W 0 (fun _ => true) true ts vs ds ps → (∀ n, n ∈ DataW.weightsEach P ts ds → n ≤ reachBytes) →
    ∃ qs : List PV, AllR Rs qs ∧ qs.length = vs.length ∧ ∀ (j : Nat) (p : PV) (v : Value), qs[j]? = some p → vs[j]? = some v → VR (Ty.at W) p v := by
  intro ts
  induction ts with
  | nil =>
    intro Rs ha H enc W base vs ds ps hv ht hw
    cases ha
    obtain ⟨rfl, rfl, rfl⟩ := trodAll_nil ht
    exact ⟨[], trivial, rfl, fun j p v a => by simp at a⟩
  | cons t ts ih =>
    intro Rs ha H enc W base vs ds ps hv ht hw
    cases ha with
    | cons h1 h2 =>
    obtain ⟨v, vs1, d, ds1, a, b, rfl, rfl, rfl, k1, k2⟩ := trodAll_cons ht
    obtain ⟨w1, w2⟩ := weightsEach_head hw
    obtain ⟨p, r1, r2⟩ := read_arg h1 (hv 0 t v rfl rfl) k1 w1
    obtain ⟨qs, r3, r4, r5⟩ := ih h2 (fun j t v x y => hv (j + 1) t v (by simpa using x) (by simpa using y)) k2 w2
    refine ⟨p :: qs, ⟨r1, r3⟩, by simp [r4], fun j q x y z => ?_⟩
    cases j with
    | zero => simp at y z; subst y z; exact r2
    | succ j => exact r5 j q x (by simpa using y) (by simpa using z)

theorem trodAll_stays (hl : laidOutB P = true) {W W' : World} (hb : Below W.heap.size W W') {H : Type} {enc : TypeId × Value → H} {sp : Nat → Bool} : ∀ {ts : List TypeId} {vs : List Value} {ds : List (DataW H)} {ps : List MemPlace}, (ts.all fun t => P.readableRec t && decide (t < P.types.size)) = true →
    DataW.TrodAll enc P W 0 (fun _ => true) true ts vs ds ps → (∀ x, x ∈ ps → x.block < W.heap.size) → (∀ x, x ∈ ps → sp x.block = true) → DataW.TrodAll enc P W' 0 sp true ts vs ds ps := by
  intro ts
  induction ts with
  | nil => intro vs ds ps _ h _ _; obtain ⟨rfl, rfl, rfl⟩ := trodAll_nil h; exact h
  | cons t ts ih =>
    intro vs ds ps ha h hlt hsp
    obtain ⟨v, vs1, d, ds1, a, b, rfl, rfl, rfl, k1, k2⟩ := trodAll_cons h
    simp only [List.all_cons, Bool.and_eq_true, decide_eq_true_eq] at ha
    exact ⟨a, b, WideElems.Trod_stays hl ha.1.1 ha.1.2 k1 (fun x hx => hb.same (hlt x (List.mem_append_left _ hx))) (fun x hx => hsp x (List.mem_append_left _ hx)),
      ih (by simpa using ha.2) k2 (fun x hx => hlt x (List.mem_append_right _ hx)) (fun x hx => hsp x (List.mem_append_right _ hx)), rfl⟩

theorem post_of_below {H : Type} {enc : TypeId × Value → H} {f : Func} {s : ChangeSpec} {apart fresh handsOn again : Bool} {W W' : World} {args : Array Value} {v : Value} {ds gs : List (DataW H)} {before pa pv : List MemPlace}
    (hW : DataW.Whole enc P f.params.toList s.vars apart W args.toList ds gs before)
    (hres : ∀ (b : Nat) (sp : Nat → Bool) (hd : Bool), DataW.TrodAll enc P W' b sp hd f.resultTypes.toList (v.resultList f.resultTypes.size) (s.fn H (ds ++ gs)).results [])
    (hargs : ∀ sp : Nat → Bool, (∀ p ∈ before, sp p.block = true) → DataW.TrodAll enc P W' 0 sp true f.params.toList args.toList (s.fn H (ds ++ gs)).args pa)
    (hvars : ∀ sp : Nat → Bool, (∀ p ∈ before, sp p.block = true) → DataW.TrodVars enc P W' sp s.vars (s.fn H (ds ++ gs)).vars pv)
    (hps : before = pa ++ pv) (hb : Below W.heap.size W W')
    (hok : ∀ (j : Nat) (t : TypeId) (r : Value), f.resultTypes[j]? = some t → (v.resultList f.resultTypes.size)[j]? = some r → Value.okWide P W' .any 0 t r) :
    s.post enc P f apart fresh handsOn again W args v W' := by
  have hlt : ∀ p ∈ before, p.block < W.heap.size := fun p hp => hW.lt p hp
  have hold : ∀ p ∈ before, (fun b => decide (b < W.heap.size)) p.block = true := fun p hp => by simpa using hlt p hp
  refine ⟨ds, gs, before, [], pa, pv, hW, hres _ _ _, hargs _ hold, hvars _ hold, World.keptBut_mono (fun p hp => ⟨hp, ?_⟩) (hb.frame (· ∈ before)), fun _ => ?_⟩
  · rw [hps, List.mem_append] at hp
    exact Or.inr hp
  · obtain ⟨_, _, _, _, _, hz, hn⟩ := hW
    refine ⟨hok, _, _, ([] ++ pa) ++ pv, ⟨[] ++ pa, pv, trodAll_append (hargs _ (fun _ _ => rfl)) (hres _ _ _), hvars _ (fun _ _ => rfl), rfl, ?_, ?_⟩, ?_⟩
    · intro b off hp
      have hin : MemPlace.cell b off ∈ before := by rw [hps]; simpa using hp
      rw [hb.frozen (hlt _ hin)]
      exact hz b off hin
    · intro ha
      have := hn ha
      rw [hps] at this
      simpa using this
    · intro p hp _
      rw [hps]
      simpa using hp

/-- A law: a function of plain data that answers true, whatever comes in, and leaves what came in as it was. -/
theorem law_lifted {C : Checked} {os : Os} {f : FuncId} {fn : Func} {s : ChangeSpec} {conds : List PathCond} {apart fresh handsOn again : Bool} {H : Type} {enc : TypeId × Value → H} {Rs : List (PV → Prop)} {tb : TypeId}
    (own : ownKnob C.prog.godebug = none) (started : os.Started) (noInit : C.prog.inits.idxOf? f = none) (hfn : C.prog.funcs[f]? = some fn) (hvars : s.vars = [])
    (hl : laidOutB C.prog = true) (hr : (fn.params.toList.all fun t => C.prog.readableRec t && decide (t < C.prog.types.size)) = true) (hRs : All2 (fun t R => Rd C.prog t R) fn.params.toList Rs)
    (hres : fn.resultTypes = #[tb]) (htb : C.prog.underlying tb = some .bool)
    (hspec : ∀ ds : List (DataW H), ds.length = fn.params.toList.length → s.fn H ds = { results := [.lit (.bool true)], args := ds })
    (witness : ∃ (w : World) (tape : Tape) (i : Input), w.os = os ∧ (w.forCall tape i).Shaped C.prog ∧ i.vars = [] ∧ Input.okWide C.prog (w.forCall tape i) .any w.heap.size f i ∧
      s.pre6 enc C.prog fn conds apart (w.forCall tape i).memory i.args ∧ (({} : Assume)).holds C.prog (lone (Frame.enter C.prog f i.args .normal) [] (w.forCall tape i)))
    (walk : ∀ qs, AllR Rs qs → ∃ σ', PC C.prog noY f qs Sg.zero (.bool true) σ') :
    ReturnsInHanded {} C os f .any (s.pre6 enc C.prog fn conds apart) (s.post enc C.prog fn apart fresh handsOn again) := by
  refine returnsInHanded_of_calls own started noInit witness ?_
  intro w tape i _ _ _ hok hpre hholds
  obtain ⟨_, _, _, fn', hfn', _, _, _, _, hval⟩ := hok
  have e : fn' = fn := Option.some.inj (hfn'.symm.trans hfn)
  subst e
  obtain ⟨⟨ds, gs, before, hw, hc⟩, hz⟩ := hpre
  have hw' := DataW.Whole.of_heap (w' := w.forCall tape i) (by rfl) hw
  have hwt := hz.weights hw
  have hW' := hw'
  obtain ⟨p, q, hA, hV, hpq, hfz, hnd⟩ := hw'
  rw [hvars] at hV
  obtain ⟨rfl, rfl⟩ := trodVars_none hV
  have hvt : (OpenSpec.ofChange s).bare.plain.varTypes C.prog = [] := by
    show s.plain.varTypes C.prog = []
    unfold DataSpec.varTypes
    simp [ChangeSpec.plain, hvars]
  rw [hvt, List.append_nil, List.append_nil] at hwt
  obtain ⟨qs, k1, k2, k3⟩ := read_args hRs (base := w.heap.size) (fun j t v a b => hval j t v (by simpa using a) (by simpa using b)) hA (fun n hn => by simpa using List.all_eq_true.1 hwt n hn)
  obtain ⟨σ', hpc⟩ := walk qs k1
  have hlen : ds.length = fn'.params.toList.length := (trodAll_length hA).2
  refine (calls_of_PC (W := w.forCall tape i) ⟨by simpa using k2.symm, fun j p v a b => k3 j p v a (by simpa using b)⟩ hpc).mono fun e W' ⟨x, Ψ', he, hx, hb⟩ => ?_
  subst he
  have hx := hx.bool_inv
  subst hx
  refine ChangeSpec.post_blind ?_
  have hq : (s.fn H (ds ++ [])) = { results := [.lit (.bool true)], args := ds } := by rw [List.append_nil]; exact hspec ds hlen
  have hbl : ∀ x, x ∈ p → x.block < (w.forCall tape i).heap.size := fun x hx => hW'.lt x (by rw [hpq]; simp [hx])
  refine post_of_below (pa := p) (pv := []) hW' (fun b sp hd => ?_) (fun sp hsp => ?_) (fun sp _ => ?_) hpq hb ?_
  · rw [hq, hres]
    exact trodAll_mk1 (shut_bool htb true)
  · rw [hq]
    exact trodAll_stays hl hb hr hA hbl fun x hx => hsp x (by rw [hpq]; simp [hx])
  · rw [hq, hvars]; rfl
  · exact ok_one hres rfl (okWide_bool_mk htb true)
end
end Go.Proofs.Ytnpamcpoaklgeaa
