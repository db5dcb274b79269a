/-
  The law MarksOrder: whatever comes in, it answers true and leaves what came in as it was.
  The law MarksOrder, walked: envelopes in any order, twice.
  The law MarksWins, walked: at most one surely wins.
  Walks: the chapter's examples checked.
  Walks: lists compared; the chapter's examples.
  Walks: the table of a night that is decided (marks).
  Standings sorted: each school once, nobody behind one that it is ahead of. The plain law.
  Points grow with marks; who may win. The plain law.
  Who stands ahead: an order in which no two schools are equal. The plain law.
  Envelopes, absences and fines in any order, twice: the same is known. The plain law.
-/
import Derived.Test.YtgelnjmddabgpaaPe
import Derived.CallsIn
import Derived.RangeFuncLeaves
import Derived.RangeFuncRecord
import Derived.OrdersIn
import Derived.Below
import Derived.Laws.World
import Derived.Laws.StructEq
import Derived.Laws.Append
import Derived.MapKept
import Derived.ProofKit
import Derived.Carry
import Derived.Handed
import Derived.ChangeCalls
import Derived.RangeFuncIn
import Derived.RangeFuncNested
import Derived.Test.YtgelnjmddabgpaaProg
import Derived.KernelRfl
import Derived.IntWalk
import Derived.Test.YtgelnjmddabgpaaRows
import Derived.Sort.OwnSortedInts
import Derived.Lib.SlicesCompact
import Derived.Shelf.Sort.Plain
import Derived.Shelf.Slices.In.SortNone
import Derived.Shelf.Small.Bits
import Derived.JoinedOf
set_option linter.unusedSimpArgs false
set_option linter.unusedVariables false
namespace Go.Proofs.Ytgelnjmddabgpaa
set_option maxRecDepth 100000
def SameK (k k' : Kn) : Prop := ∀ j, aget j k = aget j k'
section
variable {s : Scale} {k k' : Kn} {g g' : Night}
theorem SameK.abs (h : SameK k k') (j : Int × Int) : absentK k j = absentK k' j := by unfold absentK; rw [h]
theorem SameK.mk (h : SameK k k') (sc m u n : Int) : mkAt k sc m u n = mkAt k' sc m u n := by unfold mkAt; rw [h]
theorem SameK.pts (h : SameK k k') (sc m u : Int) : pointsK s k sc m u = pointsK s k' sc m u := by
  have e1 : presJ s k m = presJ s k' m := by unfold presJ; simp only [h.abs]
  have e2 : mkAt k sc m u = mkAt k' sc m u := by funext n; exact h.mk sc m u n
  have e3 : meanM s k sc m u = meanM s k' sc m u := by unfold meanM; rw [e1, e2]
  have e4 : panelM s k sc m u = panelM s k' sc m u := by unfold panelM; simp only [h.abs, e2, e3]
  unfold pointsK; rw [e4]
theorem SameK.std (h : SameK k k') (hf : ∀ sc, finesOf g.fines sc = finesOf g'.fines sc) (sc u : Int) : standK s k g sc u = standK s k' g' sc u := by
  have e : pointsL s k sc u = pointsL s k' sc u := by unfold pointsL; simp only [h.pts]
  unfold standK; rw [e, hf]
theorem SameK.sld (h : SameK k k') : sealedK s k = sealedK s k' := by unfold sealedK; simp only [h _]
theorem SameK.tot (h : SameK (knownK s g) (knownK s g')) (hf : ∀ sc, finesOf g.fines sc = finesOf g'.fines sc) (h1 : knownE s g = 0) (h2 : knownE s g' = 0) : totalsA s g' = totalsA s g := by
  unfold totalsA
  simp only [h1, h2, ne_eq, not_true_eq_false, if_false, h.std hf]
theorem SameK.plc (h : SameK (knownK s g) (knownK s g')) (hf : ∀ sc, finesOf g.fines sc = finesOf g'.fines sc) (h1 : knownE s g = 0) (h2 : knownE s g' = 0) (sc : Int) : placeA s g' sc = placeA s g sc := by
  unfold placeA placeK
  simp only [h1, h2, ne_eq, not_true_eq_false, if_false, h.std hf]
theorem SameK.tab (h : SameK (knownK s g) (knownK s g')) (hf : ∀ sc, finesOf g.fines sc = finesOf g'.fines sc) (h1 : knownE s g = 0) (h2 : knownE s g' = 0) : tableP s g' = tableP s g := by
  unfold tableP tblP sdUp
  simp only [h1, h2, ne_eq, not_true_eq_false, if_false, h.sld, h.std hf]
end
theorem sumI_perm {a b : List Int} (h : a.Perm b) : sumI a = sumI b := by
  induction h with
  | nil => rfl
  | cons x _ ih => simp only [sumI]; omega
  | swap x y l => simp only [sumI]; omega
  | trans _ _ ih1 ih2 => exact ih1.trans ih2
theorem findE_ext {l l' : List Envl} (h : SameE l) (h' : SameE l') (hm : ∀ x, x ∈ l ↔ x ∈ l') (j : Int × Int) : findE l j = findE l' j := by
  cases hf : findE l j with
  | none =>
    symm
    rw [findE_none] at hf ⊢
    exact fun x hx => hf x ((hm x).2 hx)
  | some v =>
    obtain ⟨x, h1, rfl, rfl⟩ := findE_some hf
    exact (findE_mem h' ((hm x).1 h1)).symm
/-- The same night, in another order, with things that are there twice. -/
structure SameN (g o : Night) : Prop where
  op : ∀ x, x ∈ o.opened ↔ x ∈ g.opened
  ab : ∀ x, x ∈ o.absent ↔ x ∈ g.absent
  fi : o.fines.Perm g.fines
  l1 : o.opened.length ≤ 60
  l2 : o.absent.length ≤ 60
section
variable {s : Scale} {g o : Night}
theorem SameN.v (h : SameN g o) (hg : NightV s g) : NightV s o where
  c := hg.c
  o60 := h.l1
  op := fun x hx => hg.op x ((h.op x).1 hx)
  cs := fun x hx y hy => hg.cs x ((h.op x).1 hx) y ((h.op y).1 hy)
  a60 := h.l2
  ab := fun j hj => ⟨(hg.ab j ((h.ab j).1 hj)).1, fun x hx => (hg.ab j ((h.ab j).1 hj)).2 x ((h.op x).1 hx)⟩
  sh := fun m a b => by
    obtain ⟨q, h1, h2⟩ := hg.sh m a b
    exact ⟨q, h1, fun hq => h2 ((h.ab _).1 hq)⟩
  fi := by
    have := hg.fi
    unfold finesE at *
    rw [h.fi.length_eq]
    split
    · rename_i h1; rw [if_pos h1] at this; exact this
    · rename_i h1
      rw [if_neg h1] at this
      rw [finesR_zero] at *
      exact fun f hf => this f (h.fi.mem_iff.1 hf)
theorem SameN.k (h : SameN g o) (hg : NightV s g) : SameK (knownK s g) (knownK s o) := fun j => by
  rw [hg.get, (h.v hg).get]
  unfold kOf
  rw [findE_ext hg.cs (h.v hg).cs (fun x => (h.op x).symm) j]
  simp only [h.ab]
theorem SameN.f (h : SameN g o) (sc : Int) : finesOf g.fines sc = finesOf o.fines sc := sumI_perm (h.fi.symm.map _)
end
/-- All of a list, picked by numbers in any order. -/
theorem all_picked {α : Type} {l : List α} {od : List Int} (h : od.Perm ((List.range l.length).map fun (i : Nat) => (i : Int))) {out : List α} (ho : ∀ q : Nat, ∀ y : Nat, od[q]? = some (y : Int) → ∀ e, l[y]? = some e → e ∈ out) : ∀ e, e ∈ l → e ∈ out := fun e he => by
  obtain ⟨y, hy⟩ := List.mem_iff_getElem?.1 he
  have hlt := (List.getElem?_eq_some_iff.1 hy).1
  have : (y : Int) ∈ od := h.mem_iff.2 (List.mem_map.2 ⟨y, List.mem_range.2 hlt, rfl⟩)
  obtain ⟨q, hq⟩ := List.mem_iff_getElem?.1 this
  exact ho q y hq e hy
def pickF (l : List (Int × Int)) (od : List Int) : List (Int × Int) := od.map fun i => (l[i.toNat]?).getD (0, 0)
theorem pickF_perm {l : List (Int × Int)} {od : List Int} (h : od.Perm ((List.range l.length).map fun (i : Nat) => (i : Int))) : (pickF l od).Perm l := by
  have h1 := h.map fun i : Int => (l[i.toNat]?).getD (0, 0)
  refine h1.trans ?_
  rw [List.map_map]
  have : (List.range l.length).map ((fun i : Int => (l[i.toNat]?).getD (0, 0)) ∘ fun (i : Nat) => (i : Int)) = l := by
    apply List.ext_getElem?
    intro i
    by_cases hi : i < l.length
    · simp [hi]
    · simp [hi]
  rw [this]
end Go.Proofs.Ytgelnjmddabgpaa
namespace Go.Proofs.Ytgelnjmddabgpaa
set_option maxRecDepth 100000
def lexlt : List Int → List Int → Prop
  | x :: xs, y :: ys => x < y ∨ (x = y ∧ lexlt xs ys)
  | _, _ => False
theorem lexlt_trans : ∀ {a b c : List Int}, lexlt a b → lexlt b c → lexlt a c := by
  intro a
  induction a with
  | nil => intro b c h; cases b <;> exact h.elim
  | cons x a ih =>
    intro b c h k
    cases b with
    | nil => exact h.elim
    | cons y b =>
      cases c with
      | nil => exact k.elim
      | cons z c =>
        rcases h with h | ⟨rfl, h⟩
        · rcases k with k | ⟨rfl, k⟩
          · exact .inl (by omega)
          · exact .inl h
        · rcases k with k | ⟨rfl, k⟩
          · exact .inl k
          · exact .inr ⟨rfl, ih h k⟩
theorem lexlt_irrefl : ∀ {a : List Int}, ¬ lexlt a a := by
  intro a
  induction a with
  | nil => exact fun h => h
  | cons x a ih =>
    rintro (h | ⟨_, h⟩)
    · omega
    · exact ih h
theorem lexlt_total : ∀ {a b : List Int}, a.length = b.length → lexlt a b ∨ a = b ∨ lexlt b a := by
  intro a
  induction a with
  | nil => intro b h; cases b with | nil => exact .inr (.inl rfl) | cons => simp at h
  | cons x a ih =>
    intro b h
    cases b with
    | nil => simp at h
    | cons y b =>
      rcases Int.lt_trichotomy x y with k | rfl | k
      · exact .inl (.inl k)
      · rcases ih (b := b) (by simpa using h) with k | rfl | k
        · exact .inl (.inr ⟨rfl, k⟩)
        · exact .inr (.inl rfl)
        · exact .inr (.inr (.inr ⟨rfl, k⟩))
      · exact .inr (.inr (.inl k))
/-- What is compared, number by number. -/
def keyS (ord : List Int) (x : Stand) : List Int := -x.total :: (ord.map (fun m => -ptAt x m) ++ [x.school])
theorem keyS_len (ord : List Int) (x : Stand) : (keyS ord x).length = ord.length + 2 := by simp [keyS]
theorem firstNZ_lex : ∀ {a b : List Int}, a.length = b.length → (firstNZ (List.zipWith (fun p q => p - q) a b) < 0 ↔ lexlt a b) := by
  intro a
  induction a with
  | nil => intro b h; simp [firstNZ, lexlt]
  | cons x a ih =>
    intro b h
    cases b with
    | nil => simp at h
    | cons y b =>
      simp only [List.zipWith_cons_cons, firstNZ, lexlt]
      split
      · constructor
        · intro k; exact .inl (by omega)
        · rintro (k | ⟨k, _⟩)
          · omega
          · omega
      · rw [ih (by simpa using h)]
        constructor
        · intro k; exact .inr ⟨by omega, k⟩
        · rintro (k | ⟨_, k⟩)
          · omega
          · exact k
theorem cmpRules_zip (ord : List Int) (a b : Stand) : cmpRules ord a b = List.zipWith (fun p q => p - q) (keyS ord a) (keyS ord b) := by
  unfold cmpRules keyS
  rw [List.zipWith_cons_cons]
  congr 1
  · omega
  · induction ord with
    | nil => simp
    | cons m ord ih =>
      simp only [List.map_cons, List.cons_append, List.zipWith_cons_cons]
      rw [ih]
      congr 1
      omega
/-- A stands ahead of b. -/
def Ahd (ord : List Int) (a b : Stand) : Prop := cmpSt ord a b < 0
instance (ord : List Int) (a b : Stand) : Decidable (Ahd ord a b) := inferInstanceAs (Decidable (cmpSt ord a b < 0))
theorem Ahd_lex {ord : List Int} {a b : Stand} : Ahd ord a b ↔ lexlt (keyS ord a) (keyS ord b) := by
  unfold Ahd cmpSt
  rw [cmpRules_zip, firstNZ_lex (by rw [keyS_len, keyS_len])]
theorem Ahd.trans {ord : List Int} {a b c : Stand} (h : Ahd ord a b) (k : Ahd ord b c) : Ahd ord a c := Ahd_lex.2 (lexlt_trans (Ahd_lex.1 h) (Ahd_lex.1 k))
theorem Ahd.irrefl {ord : List Int} {a : Stand} : ¬ Ahd ord a a := fun h => lexlt_irrefl (Ahd_lex.1 h)
theorem Ahd.asymm {ord : List Int} {a b : Stand} (h : Ahd ord a b) : ¬ Ahd ord b a := fun k => Ahd.irrefl (h.trans k)
theorem Ahd.total {ord : List Int} {a b : Stand} (h : a.school ≠ b.school) : Ahd ord a b ∨ Ahd ord b a := by
  rcases lexlt_total (a := keyS ord a) (b := keyS ord b) (by rw [keyS_len, keyS_len]) with k | k | k
  · exact .inl (Ahd_lex.2 k)
  · exfalso
    apply h
    unfold keyS at k
    simp only [List.cons.injEq] at k
    have := List.append_inj_right' k.2 rfl
    simpa using this
  · exact .inr (Ahd_lex.2 k)
theorem not_ahd {ord : List Int} {a b : Stand} (h : a.school ≠ b.school) (k : ¬ Ahd ord a b) : Ahd ord b a := (Ahd.total h).resolve_left k
end Go.Proofs.Ytgelnjmddabgpaa
namespace Go.Proofs.Ytgelnjmddabgpaa
set_option maxRecDepth 100000
section
variable {s : Scale} {k k' : Kn} {sc sc' m u v : Int}
end
section
variable {s : Scale} {k : Kn} {g : Night} {N : Nat}
end
end Go.Proofs.Ytgelnjmddabgpaa
namespace Go.Proofs.Ytgelnjmddabgpaa
set_option maxRecDepth 100000
theorem notAhd_lex {ord : List Int} {a b : Stand} : ¬ Ahd ord b a ↔ lexlt (keyS ord a) (keyS ord b) ∨ keyS ord a = keyS ord b := by
  constructor
  · intro h
    rcases lexlt_total (a := keyS ord a) (b := keyS ord b) (by rw [keyS_len, keyS_len]) with k | k | k
    · exact .inl k
    · exact .inr k
    · exact absurd (Ahd_lex.2 k) h
  · rintro (h | h) k
    · exact lexlt_irrefl (lexlt_trans h (Ahd_lex.1 k))
    · have := Ahd_lex.1 k
      rw [h] at this
      exact lexlt_irrefl this
theorem notAhd_trans {ord : List Int} {a b c : Stand} (h : ¬ Ahd ord b a) (k : ¬ Ahd ord c b) : ¬ Ahd ord c a := by
  rw [notAhd_lex] at *
  rcases h with h | h
  · rcases k with k | k
    · exact .inl (lexlt_trans h k)
    · rw [← k]; exact .inl h
  · rw [h]; exact k
theorem set2_perm {l : List Stand} {i j : Nat} {x y : Stand} (hx : l[i]? = some x) (hy : l[j]? = some y) : ((l.set i y).set j x).Perm l := by
  obtain ⟨h1, rfl⟩ := List.getElem?_eq_some_iff.1 hx
  obtain ⟨h2, rfl⟩ := List.getElem?_eq_some_iff.1 hy
  exact List.set_set_perm h1 h2
theorem sink_perm (ord : List Int) : ∀ (j : Nat) (l : List Stand), (sink ord j l).Perm l := by
  intro j
  induction j with
  | zero => intro l; exact .refl _
  | succ j ih =>
    intro l
    simp only [sink]
    split
    · rename_i hx hy
      split
      · exact (ih _).trans (set2_perm hx hy)
      · exact .refl _
    · exact .refl _
theorem sinkAll_perm (ord : List Int) : ∀ (k i : Nat) (l : List Stand), (sinkAll ord k i l).Perm l := by
  intro k
  induction k with
  | zero => intro i l; exact .refl _
  | succ k ih => intro i l; simp only [sinkAll]; exact (ih _ _).trans (sink_perm ord i l)
theorem sortSd_perm (ord : List Int) (l : List Stand) : (sortSd ord l).Perm l := sinkAll_perm _ _ _ _
/-- The first ones, up to a place, are sorted, but for one that may stand too far behind. -/
def SrtX (ord : List Int) (l : List Stand) (i j : Nat) : Prop := ∀ p q a b, p < q → q ≤ i → q ≠ j → l[p]? = some a → l[q]? = some b → ¬ Ahd ord b a
def Srt (ord : List Int) (l : List Stand) (i : Nat) : Prop := ∀ p q a b, p < q → q ≤ i → l[p]? = some a → l[q]? = some b → ¬ Ahd ord b a
theorem sink_srt (ord : List Int) (i : Nat) : ∀ (j : Nat) (l : List Stand), j ≤ i → i < l.length → SrtX ord l i j → Srt ord (sink ord j l) i := by
  intro j
  induction j with
  | zero => intro l _ _ h p q a b hpq hq; exact h p q a b hpq hq (by omega)
  | succ j ih =>
    intro l hj hl h
    obtain ⟨x, hx⟩ : ∃ x, l[j + 1]? = some x := ⟨l[j + 1]'(by omega), by simp⟩
    obtain ⟨y, hy⟩ : ∃ y, l[j]? = some y := ⟨l[j]'(by omega), by simp⟩
    simp only [sink, hx, hy]
    split
    · rename_i hlt
      refine ih _ (by omega) (by simpa using hl) ?_
      have g : ∀ r, ((l.set (j + 1) y).set j x)[r]? = if r = j then some x else if r = j + 1 then some y else l[r]? := by
        intro r
        by_cases e : r = j
        · subst e; rw [if_pos rfl, List.getElem?_set_self (by simp; omega)]
        · rw [if_neg e, List.getElem?_set_ne (fun h => e h.symm)]
          by_cases e2 : r = j + 1
          · subst e2; rw [if_pos rfl, List.getElem?_set_self (by omega)]
          · rw [if_neg e2, List.getElem?_set_ne (fun h => e2 h.symm)]
      intro p q a b hpq hq hne ha hb
      rw [g] at ha hb
      rw [if_neg hne] at hb
      by_cases e1 : q = j + 1
      · rw [if_pos e1] at hb
        cases hb
        by_cases e2 : p = j
        · rw [if_pos e2] at ha
          cases ha
          exact Ahd.asymm hlt
        · rw [if_neg e2, if_neg (by omega)] at ha
          exact h p j _ _ (by omega) (by omega) (by omega) ha hy
      · rw [if_neg e1] at hb
        by_cases e2 : p = j
        · rw [if_pos e2] at ha
          cases ha
          exact h (j + 1) q _ _ (by omega) hq (by omega) hx hb
        · rw [if_neg e2] at ha
          by_cases e3 : p = j + 1
          · rw [if_pos e3] at ha
            cases ha
            exact h j q _ _ (by omega) hq (by omega) hy hb
          · rw [if_neg e3] at ha
            exact h p q a b hpq hq (by omega) ha hb
    · rename_i hnlt
      intro p q a b hpq hq ha hb
      by_cases e : q = j + 1
      · subst e
        rw [hx] at hb
        cases hb
        by_cases e2 : p = j
        · subst e2
          rw [hy] at ha
          cases ha
          exact hnlt
        · exact notAhd_trans (h p j a y (by omega) (by omega) (by omega) ha hy) hnlt
      · exact h p q a b hpq hq e ha hb
theorem sinkAll_srt (ord : List Int) : ∀ (k i : Nat) (l : List Stand), 0 < i → i + k ≤ l.length → Srt ord l (i - 1) → Srt ord (sinkAll ord k i l) (i + k - 1) := by
  intro k
  induction k with
  | zero => intro i l _ _ h; exact h
  | succ k ih =>
    intro i l hi hl h
    simp only [sinkAll]
    have h1 := sink_srt ord i i l (Nat.le_refl _) (by omega) (fun p q a b hpq hq hne ha hb => h p q a b hpq (by omega) ha hb)
    have h2 := ih (i + 1) (sink ord i l) (by omega) (by rw [sink_len]; omega) (by rw [Nat.add_sub_cancel]; exact h1)
    rw [show i + (k + 1) - 1 = i + 1 + k - 1 by omega]
    exact h2
theorem sortSd_srt (ord : List Int) (l : List Stand) {p q : Nat} {a b : Stand} (hpq : p < q) (ha : (sortSd ord l)[p]? = some a) (hb : (sortSd ord l)[q]? = some b) : ¬ Ahd ord b a := by
  have hq := (List.getElem?_eq_some_iff.1 hb).1
  rw [sortSd_len] at hq
  have := sinkAll_srt ord (l.length - 1) 1 l (by omega) (by omega) (fun p q a b hpq hq => by omega)
  exact this p q a b hpq (by omega) ha hb
section
variable {s : Scale} {k : Kn} {g : Night} {N : Nat}
/-- The table of a night that is decided. -/
structure TabOk (s : Scale) (k : Kn) (g : Night) (N : Nat) (l : List Stand) : Prop where
  ln : l.length = N
  of : ∀ x, x ∈ l → ∃ c : Nat, c < N ∧ x = standK s k g c 0
  nd : (l.map Stand.school).Nodup
  st : ∀ (p q : Nat) (a b : Stand), p < q → l[p]? = some a → l[q]? = some b → Ahd s.order a b
  al : ∀ c : Nat, c < N → standK s k g c 0 ∈ l
theorem sd_map (f : Nat → Stand) (hf : ∀ i, (f i).school = i) (N : Nat) : (((List.range N).map f).map Stand.school).Nodup := by
  rw [List.map_map]
  have : (Stand.school ∘ f) = fun (i : Nat) => (i : Int) := by funext i; exact hf i
  rw [this]
  rw [List.nodup_iff_pairwise_ne, List.pairwise_map]
  exact (List.nodup_range (n := N)).imp fun h e => h (by omega)
theorem tbl_ok (hN : s.schools = N) : TabOk s k g N (tblP s k g) := by
  have hp := sortSd_perm s.order (sdUp s k g N)
  have e : tblP s k g = sortSd s.order (sdUp s k g N) := by unfold tblP; rw [hN, Int.toNat_natCast]
  rw [e]
  have hnd : ((sortSd s.order (sdUp s k g N)).map Stand.school).Nodup := (hp.map _).nodup_iff.2 (sd_map _ (fun i => rfl) N)
  refine ⟨by rw [sortSd_len]; simp [sdUp], fun x hx => ?_, hnd, fun p q a b hpq ha hb => ?_, fun c hc => hp.mem_iff.2 (List.mem_map.2 ⟨c, List.mem_range.2 hc, rfl⟩)⟩
  · obtain ⟨c, h1, rfl⟩ := List.mem_map.1 (hp.mem_iff.1 hx)
    exact ⟨c, List.mem_range.1 h1, rfl⟩
  · refine not_ahd (fun e => ?_) (sortSd_srt _ _ hpq ha hb)
    obtain ⟨h1, h2⟩ := List.getElem?_eq_some_iff.1 ha
    obtain ⟨h3, h4⟩ := List.getElem?_eq_some_iff.1 hb
    have := (List.pairwise_iff_getElem.1 (List.nodup_iff_pairwise_ne.1 hnd)) p q (by simpa using h1) (by simpa using h3) hpq
    simp only [List.getElem_map] at this
    rw [h2, h4] at this
    exact this e.symm
end
end Go.Proofs.Ytgelnjmddabgpaa
namespace Go.Proofs.Ytgelnjmddabgpaa
open Go Go.RowKit
set_option maxRecDepth 100000
theorem Weak.freezeS {N : Nat} {lo : Nat × Nat} {E : Env} {σ : Sg} {t : Nat} {A : List (Option (List PV))} {rm : List Nat} {ys : List LState} {out : List Stand} (ht : E.get t = glS (σ.store.length + A.length) out) (hne : out ≠ []) :
    Weak N lo E (σ.ext (A ++ gsS out) rm ys) (E.put (some t) (.isl (out.map sdPV) .ro)) (σ.ext (A ++ List.replicate out.length none) rm ys) := by
  cases out with
  | nil => exact absurd rfl hne
  | cons z zs =>
    have h := Weak.freeze (N := N) (lo := lo) (E := E) (σ := σ.ext (A ++ gsS (z :: zs)) rm ys) (t := t) (id := σ.store.length + (A.length + zs.length)) (len := zs.length + 1) (es := 3) (l := (z :: zs).map sdPV) (by rw [ht]; simp only [glS, Nat.add_assoc]) (by rw [Sg.get_ext]; exact gsS_get) (by simp) (fun q hq => by obtain ⟨x, _, rfl⟩ := List.mem_map.1 hq; rfl)
    rw [Sg.drop_ext, gsS_set] at h
    have e : List.replicate (z :: zs).length (none : Option (List PV)) = List.replicate zs.length none ++ [none] := by simp [List.replicate_succ']
    rw [e]
    exact h
set_option maxHeartbeats 4000000 in
theorem tabO_pc (Y : YEnv) (σ : Sg) (s : Scale) (g : Night) (hs : s.Ok) (hg : g.Ok) (hE : knownE s g = 0) (hne0 : sealedK s (knownK s g) = []) :
    PC Try.prog Y 17 [scPV s, ngPV g] σ (.tuple [sds (tblP s (knownK s g) g), I 0]) (σ) := by
  refine PC_of_W Try.func17 rfl (by kernel_rfl) Try.ntmps17 (by simp) fun hcl hca => ?_
  have hV := known_V hE
  obtain ⟨K, hK⟩ : ∃ z, knownK s g = z := ⟨_, rfl⟩
  rw [hK] at hV
  have hv := hV.v
  have q3 := hv.sc
  have q4 := hv.lo
  have q5 := hv.hi
  obtain ⟨N, hN⟩ : ∃ z : Nat, s.schools = z := ⟨s.schools.toNat, by omega⟩
  have hNi : (s.schools : Int) = (N : Int) := hN
  have hkn := fun Y σ => knownOf_ok Y σ s g hs hg hE
  rw [hK] at hkn
  have hne : sealedK s K = [] := by rw [← hK]; exact hne0
  have htb : tblP s (knownK s g) g = sortSd s.order (sdUp s K g N) := by rw [hK, tblP, hN, Int.toNat_natCast]
  rw [htb]
  have hol := hv.ol
  have q1 := hv.mt
  refine W_seq fun kz1 kq1 => ?_
  refine W_region [2, 3, 4, 5] fun R hR => ?_   -- r0
  simp only [go_sem]
  refine hR _ _ (kq1 _ _ ?_); clear hR R; try clear kq1 kz1
  try simp only [go_sem]
  refine W_seq fun kz2 kq2 => ?_
  refine W_region [2, 3, 4, 5, 6, 7] fun R hR => ?_   -- r1
  simp only [go_sem]
  refine GCall_of (hkn Y _) ?_   -- t14
  simp only [go_sem]
  refine hR _ _ (kq2 _ _ ?_); clear hR R; try clear kq2 kz2
  try simp only [go_sem]
  refine W_seq fun kz3 kq3 => ?_
  refine W_seq fun kz4 kq4 => ?_
  refine W_region [2, 3, 4, 5, 6, 7, 18] fun R hR => ?_   -- r2
  simp only [go_sem]
  refine hR _ _ (kq4 _ _ ?_); clear hR R; try clear kq4 kz4
  try simp only [go_sem]
  refine W_cond_false rfl ?_
  refine W_skip (kq3 _ _ ?_)
  refine W_seq fun kz5 kq5 => ?_
  refine W_seq fun kz6 kq6 => ?_
  refine W_region [2, 3, 4, 5, 6, 22] fun R hR => ?_   -- r4
  simp only [go_sem]
  refine GCall_of (sealed_pc Y _ (σ.store.length + 6) (by simp only [go_sem] <;> omega) s) ?_   -- t22
  simp only [go_sem]
  refine hR _ _ (kq6 _ _ ?_); clear hR R; try clear kq6 kz6
  try simp only [go_sem]
  refine W_block ?_
  have hLc : ∀ (z : Int) (n r yy : Nat), σ.store.length + 9 ≤ n → CleanLs n r yy [some (scCells s), some (ngCells g), some [.isl [] .exact], some [I z], some (scCells s), some (ngCells g), some (.mark :: knE K), some [.map (σ.store.length + 6)], some (scCells s)] := fun z n r yy h => by
    have c1 := cleans_ng (a := n) (b := r) (c := yy) g
    have c2 := cleans_sc (a := n) (b := r) (c := yy) s
    have c3 : CleanAll n r yy (knE K) := cA_kn.mpr trivial
    have c1' : CleanAll n r yy (ngCells g) := c1
    have c2' : CleanAll n r yy (scCells s) := c2
    simp only [CleanLs_cons, CleanLs_nil, CleanAll_cons, CleanAll_nil, Cl_map, Cl_mark, Cl_isl, OwnLt_exact, Cl_int, c1', c2', c3, true_and, and_true]
    omega
  refine W_rangeFunc (gf := 66) (v := .tuple []) (s := .ready) (σ5 := σ.ext [some (scCells s), some (ngCells g), some [.isl [] .exact], some [I 0], some (scCells s), some (ngCells g), some (.mark :: knE K), some [.map (σ.store.length + 6)], some (scCells s)] [] [.ready]) rfl (by simp) (fun _ _ _ _ => False) ?_ ?_ ?_ ?_ ?_
  · intro args τ b τ' h; exact h.elim
  · have hst := sealedA_pc (Y.at σ.ys.length (fun _ _ _ _ => False)) σ σ.ys.length (σ.store.length + 8) (σ.store.length + 7) (σ.store.length + 6) s hv K (fun _ => σ.ext [some (scCells s), some (ngCells g), some [.isl [] .exact], some [I 0], some (scCells s), some (ngCells g), some (.mark :: knE K), some [.map (σ.store.length + 6)], some (scCells s)] [] [.ready])
      (fun _ _ => Sg.get_ext ..) (fun _ _ => Sg.get_ext ..) (fun _ _ => Sg.get_ext ..) (fun _ _ => ⟨rfl, rfl, rfl⟩) (fun h _ _ => h)
      (fun c m n h => by rw [hne] at h; simp at h)
    simp only [go_sem] at hst ⊢
    exact hst
  · simp only [go_sem]
  · simp only [go_sem]
    exact CleanCut_ext hcl (by first | omega | (simp only [go_sem] <;> omega)) (by first | omega | (simp only [go_sem] <;> omega)) (Nat.le_refl _) (hLc 0 _ _ _ (by first | omega | (simp only [go_sem] <;> omega)))
  · simp only [AfterLoop, go_sem]
    refine kq5 _ _ ?_
    refine W_seq fun kz7 kq7 => ?_
    refine W_region [2, 3, 4, 5, 6, 8] fun R hR => ?_   -- r6
    simp only [go_sem]
    refine hR _ _ (kq7 _ _ ?_); clear hR R; try clear kq7 kz7
    try simp only [go_sem]
    refine W_seq fun kz8 kq8 => ?_
    refine W_seq fun kz9 kq9 => ?_
    refine W_region [2, 3, 4, 5, 6, 8, 25, 26] fun R hR => ?_   -- r7
    simp only [go_sem]
    refine hR _ _ (kq9 _ _ ?_); clear hR R; try clear kq9 kz9
    try simp only [go_sem]
    refine W_block ?_
    refine W_weak (Weak.gnil (t := 8) rfl) ?_
    refine W_weak (Weak.keep [2, 3, 4, 5, 6, 8, 25, 26]) ?_
    simp only [go_sem]
    refine W_loopT (α := Nat) (fun (i : Nat) => [(8, glS (σ.store.length + 9) (sdUp s K g i)), (26, I i)]) (fun (i : Nat) => σ.ext ([some (scCells s), some (ngCells g), some [.isl [] .exact], some [I 0], some (scCells s), some (ngCells g), some (.mark :: knE K), some [.map (σ.store.length + 6)], some (scCells s)] ++ gsS (sdUp s K g i)) []) (fun (i : Nat) => i ≤ N) (fun (i : Nat) => N - i) (0) rfl (by first | rfl | (simp only [go_sem]; done) | (simp only [go_sem]; rfl)) (Nat.zero_le _) ?_
    rintro i hi
    refine W_seq fun kz10 kq10 => ?_
    refine W_region [2, 3, 4, 5, 6, 8, 25, 26, 27] fun R hR => ?_   -- r8
    simp only [go_sem]
    refine hR _ _ (kq10 _ _ ?_); clear hR R; try clear kq10 kz10
    try simp only [go_sem]
    refine W_seq fun kz11 kq11 => ?_
    refine W_cond rfl (fun c1 => ?_) (fun c1 => ?_)
    · -- c1 true
      try simp only [nrm] at c1
      have hiN : i < N := by first | omega | (simp at c1; omega)
      have hsu := sdUp_succ s K g i
      have hsl : (sdUp s K g i).length = i := by simp [sdUp]
      have happ := appG_gs (σ := σ) (A := [some (scCells s), some (ngCells g), some [.isl [] .exact], some [I 0], some (scCells s), some (ngCells g), some (.mark :: knE K), some [.map (σ.store.length + 6)], some (scCells s)]) (rm := []) (ys := []) (out := sdUp s K g i) 40 (standK s K g i 0) (by omega)
      rw [← hsu] at happ
      simp only [go_sem, List.length_cons, List.length_nil] at happ
      refine W_skip (kq11 _ _ ?_)
      refine W_seq fun kz12 kq12 => ?_
      refine W_block ?_
      refine W_seq fun kz13 kq13 => ?_
      refine W_region [2, 3, 4, 5, 6, 8, 9, 25, 26] fun R hR => ?_   -- r9
      simp only [go_sem, happ]
      refine hR _ _ (kq13 _ _ ?_); clear hR R; try clear kq13 kz13
      try simp only [go_sem, happ]
      refine W_region [2, 3, 4, 5, 6, 8, 25, 26] fun R hR => ?_   -- r10
      simp only [go_sem, happ]
      refine GCall_of (standing_pc Y _ (σ.store.length + 6) K (Sg.get_ext ..) s g hV i (by omega) 0 (by omega)) ?_   -- t34
      simp only [go_sem, happ]
      try simp (disch := first | omega | (simp only [go_sem] <;> omega)) only [wrapI, wrapU, appX_exact, appX_tok]
      try simp only [go_sem, happ]
      refine hR _ _ (kq12 _ _ ?_); clear hR R; try clear kq12 kz12
      try simp only [go_sem, happ]
      refine W_region [2, 3, 4, 5, 6, 8, 25, 26] fun R hR => ?_   -- r11
      simp only [go_sem, happ]
      try simp (disch := omega) only [wrapI, wrapU]
      refine hR _ _ ?_; clear hR R
      try simp only [go_sem, happ]
      refine ⟨i + 1, ?_, by (try simp only []); omega, ?_⟩
      · exact Weak.refl
      · try dsimp only
        omega
    · -- c1 false
      try simp only [nrm] at c1
      have hie : N = i := by first | omega | (simp at c1; omega)
      subst hie
      have hsl : (sdUp s K g N).length = N := by simp [sdUp]
      have hCmp : ∀ a b, a ∈ sdUp s K g N → b ∈ sdUp s K g N → CmpOk s.order a b := fun a b ha hb => by
        obtain ⟨x, hx, rfl⟩ := List.mem_map.1 ha
        obtain ⟨y, hy, rfl⟩ := List.mem_map.1 hb
        have h1 := List.mem_range.1 hx
        have h2 := List.mem_range.1 hy
        exact cmp_ok hV (by omega) (by omega) (by omega) (by omega)
      refine W_exit ?_
      simp only [go_sem]
      refine kq8 _ _ ?_
      refine W_seq fun kz14 kq14 => ?_
      refine W_region [4, 5, 8, 10] fun R hR => ?_   -- r12
      simp only [go_sem]
      refine hR _ _ (kq14 _ _ ?_); clear hR R; try clear kq14 kz14
      try simp only [go_sem]
      refine W_seq fun kz15 kq15 => ?_
      refine W_region [4, 5, 8] fun R hR => ?_   -- r13
      simp only [go_sem]
      refine GCall_of (sort_gs Y σ [_, _, _, _, _, _, _, _, _] [] s.order (sdUp s K g N) hCmp (by omega) (by omega)) ?_   -- t44
      simp only [go_sem]
      refine hR _ _ (kq15 _ _ ?_); clear hR R; try clear kq15 kz15
      try simp only [go_sem]
      refine W_seq fun kz16 kq16 => ?_
      have hne3 : sortSd s.order (sdUp s K g N) ≠ [] := fun e => by
        have := sortSd_len s.order (sdUp s K g N)
        rw [e, hsl] at this
        simp at this; omega
      refine W_weak (Weak.freezeS (t := 8) (A := [_, _, _, _, _, _, _, _, _]) (out := sortSd s.order (sdUp s K g N)) (by rw [glS_sort]; rfl) hne3) ?_
      refine W_weak (Weak.keep [4, 5, 8]) ?_
      simp only [go_sem]
      refine W_region [4, 5] fun R hR => ?_   -- r14
      simp only [go_sem]
      refine hR _ _ (kq16 _ _ ?_); clear hR R; try clear kq16 kz16
      try simp only [go_sem]
      refine W_ret ?_
      simp only [go_sem]
      refine ⟨.inr (by trivial), ?_⟩
      refine Fin_same hcl (by show resPV Try.prog _ _ [.cell 4 51, .cell 5 44] = some _; simp only [resPV, go_sem]; rfl) (Wk.ro (by simp only [go_sem]) ?_)
      try simp only [go_sem]
      all_goals
        first | rfl | simp only [go_sem]
theorem Table_pc (Y : YEnv) (σ : Sg) (s : Scale) (g : Night) (hs : s.Ok) (hg : g.Ok) : PC Try.prog Y 17 [scPV s, ngPV g] σ (.tuple [sds (tableP s g).1, I (tableP s g).2]) σ := by
  unfold tableP
  by_cases h : knownE s g = 0
  · rw [if_neg (by simpa using h)]
    by_cases h2 : sealedK s (knownK s g) = []
    · rw [if_neg (by simpa using h2)]; exact tabO_pc Y σ s g hs hg h h2
    · rw [if_pos h2]; exact tabS_pc Y σ s g hs hg h h2
  · rw [if_pos h]; exact tabE_pc Y σ s g hs hg h
end Go.Proofs.Ytgelnjmddabgpaa
namespace Go.Proofs.Ytgelnjmddabgpaa
open Go Go.RowKit
set_option maxRecDepth 100000
def insI (x : Int) : List Int → List Int
  | [] => [x]
  | y :: l => if x ≤ y then x :: y :: l else y :: insI x l
def isortI : List Int → List Int
  | [] => []
  | x :: l => insI x (isortI l)
theorem sorted_sortI (l : List Int) : (sortI l).Pairwise (· ≤ ·) := by
  have h := List.pairwise_mergeSort (le := fun (a b : Int) => decide (a ≤ b)) (by intro a b c h1 h2; simp at *; omega) (by intro a b; simp; omega) l
  exact h.imp fun h => by simpa using h
theorem perm_sortI (l : List Int) : (sortI l).Perm l := List.mergeSort_perm l _
theorem insI_perm (x : Int) : ∀ l : List Int, (insI x l).Perm (x :: l) := by
  intro l
  induction l with
  | nil => exact .refl _
  | cons y l ih =>
    simp only [insI]
    split
    · exact .refl _
    · exact (ih.cons y).trans (.swap x y l)
theorem insI_sorted (x : Int) : ∀ {l : List Int}, l.Pairwise (· ≤ ·) → (insI x l).Pairwise (· ≤ ·) := by
  intro l
  induction l with
  | nil => intro _; simp [insI]
  | cons y l ih =>
    intro h
    obtain ⟨h1, h2⟩ := List.pairwise_cons.1 h
    simp only [insI]
    split
    · rename_i hxy
      exact List.pairwise_cons.2 ⟨fun z hz => by rcases List.mem_cons.1 hz with rfl | hz; exact hxy; exact Int.le_trans hxy (h1 z hz), h⟩
    · rename_i hxy
      refine List.pairwise_cons.2 ⟨fun z hz => ?_, ih h2⟩
      rcases List.mem_cons.1 ((insI_perm x l).mem_iff.1 hz) with rfl | hz
      · omega
      · exact h1 z hz
theorem isortI_perm : ∀ l : List Int, (isortI l).Perm l := by
  intro l
  induction l with
  | nil => exact .refl _
  | cons x l ih => exact (insI_perm x _).trans (ih.cons x)
theorem isortI_sorted : ∀ l : List Int, (isortI l).Pairwise (· ≤ ·) := by
  intro l
  induction l with
  | nil => exact .nil
  | cons x l ih => exact insI_sorted x ih
theorem sorted_unique : ∀ {l m : List Int}, l.Perm m → l.Pairwise (· ≤ ·) → m.Pairwise (· ≤ ·) → l = m := by
  intro l
  induction l with
  | nil => intro m h _ _; exact h.nil_eq
  | cons x l ih =>
    intro m h h1 h2
    obtain ⟨a1, a2⟩ := List.pairwise_cons.1 h1
    cases m with
    | nil => exact absurd h.length_eq (by simp)
    | cons y m =>
      obtain ⟨b1, b2⟩ := List.pairwise_cons.1 h2
      have e : x = y := by
        have hx : x ∈ y :: m := h.mem_iff.1 (by simp)
        have hy : y ∈ x :: l := h.mem_iff.2 (by simp)
        rcases List.mem_cons.1 hx with e | hx
        · exact e
        · rcases List.mem_cons.1 hy with e | hy
          · exact e.symm
          · have := b1 x hx; have := a1 y hy; omega
      subst e
      rw [ih ((List.perm_cons x).1 h) a2 b2]
theorem sortI_eq : sortI = isortI := by
  funext l
  exact sorted_unique ((perm_sortI l).trans (isortI_perm l).symm) (sorted_sortI l) (isortI_sorted l)
def exScale : Scale := ⟨3, 2, 3, 1, 50, 100, [1, 0]⟩
def exNight : Night := ⟨[⟨0, 0, [100, 90, 80], 633⟩, ⟨0, 1, [90, 100, 80], 655⟩, ⟨0, 2, [95, 95, 95], 707⟩, ⟨1, 0, [80, 90, 100], 774⟩, ⟨1, 1, [100, 70, 90], 736⟩], [(1, 2)], [(2, 5)]⟩
def exBefore : Night := ⟨[⟨0, 0, [100, 90, 80], 633⟩, ⟨0, 1, [90, 100, 80], 655⟩, ⟨0, 2, [95, 95, 95], 707⟩, ⟨1, 0, [80, 90, 100], 774⟩], [(1, 2)], [(2, 5)]⟩
theorem exTable : tableP exScale exNight = ([⟨0, 385, [195, 190]⟩, ⟨2, 365, [175, 195]⟩, ⟨1, 365, [195, 170]⟩], 0) := by
  simp only [tableP, tblP, sdUp, standK, pointsL, pointsK, sortI_eq]
  decide +kernel
theorem exTotals : totalsA exScale exBefore = ([(340, 385), (355, 390), (345, 370)], 0) := by
  simp only [totalsA, standK, pointsL, pointsK, sortI_eq]
  decide +kernel
theorem exPlace : placeA exScale exBefore 0 = ((1, 3), 0) := by
  simp only [placeA, placeK, standK, pointsL, pointsK, sortI_eq]
  decide +kernel
theorem exScale_ok : exScale.Ok := ⟨by decide⟩
theorem exNight_ok : exNight.Ok := ⟨by decide, by decide, by decide, by decide⟩
theorem exBefore_ok : exBefore.Ok := ⟨by decide, by decide, by decide, by decide⟩
set_option maxHeartbeats 2000000 in
theorem EqInts_pc (Y : YEnv) (σ : Sg) (xs ys : List Int) (o o2 : Own) (hx : xs.length < 2 ^ 50) :
    PC Try.prog Y 31 [.isl (xs.map I) o, .isl (ys.map I) o2] σ (.bool (decide (xs = ys))) (σ) := by
  refine PC_of_W Try.func31 rfl (by kernel_rfl) Try.ntmps31 (by simp) fun hcl hca => ?_
  refine W_seq fun kz1 kq1 => ?_
  refine W_region [0, 1] fun R hR => ?_   -- r0
  simp only [go_sem]
  refine hR _ _ (kq1 _ _ ?_); clear hR R; try clear kq1 kz1
  try simp only [go_sem]
  refine W_seq fun kz2 kq2 => ?_
  refine W_seq fun kz3 kq3 => ?_
  refine W_region [0, 1, 10] fun R hR => ?_   -- r1
  simp only [go_sem]
  refine hR _ _ (kq3 _ _ ?_); clear hR R; try clear kq3 kz3
  try simp only [go_sem]
  refine W_cond rfl (fun c1 => ?_) (fun c1 => ?_)
  · -- c1 true
    try simp only [nrm] at c1
    refine W_seq fun kz4 kq4 => ?_
    refine W_region [4] fun R hR => ?_   -- r2
    simp only [go_sem]
    refine hR _ _ (kq4 _ _ ?_); clear hR R; try clear kq4 kz4
    try simp only [go_sem]
    refine W_ret ?_
    simp only [go_sem]
    refine ⟨.inr (by trivial), ?_⟩
    first | refine Fin_same hcl rfl (Wk_eq ?_ (by simp only [go_sem])) | refine Fin_self hcl rfl (Wk_eq ?_ (by simp only [go_sem]))
    try simp only [go_sem]
    all_goals
      simp; intro h; subst h; exact c1 rfl
  · -- c1 false
    try simp only [nrm] at c1
    refine W_skip (kq2 _ _ ?_)
    refine W_seq fun kz5 kq5 => ?_
    refine W_seq fun kz6 kq6 => ?_
    refine W_region [0, 1, 5] fun R hR => ?_   -- r3
    simp only [go_sem]
    refine hR _ _ (kq6 _ _ ?_); clear hR R; try clear kq6 kz6
    try simp only [go_sem]
    refine W_block ?_
    refine W_loopS (α := Nat) (fun (i : Nat) => [(5, I i)]) (fun (i : Nat) => i ≤ xs.length ∧ xs.take i = ys.take i) (fun (i : Nat) => xs.length - i) (0) rfl (⟨Nat.zero_le _, rfl⟩) ?_
    rintro i ⟨hi, ht⟩
    refine W_seq fun kz7 kq7 => ?_
    refine W_seq fun kz8 kq8 => ?_
    refine W_region [0, 1, 5, 14] fun R hR => ?_   -- r4
    simp only [go_sem]
    refine hR _ _ (kq8 _ _ ?_); clear hR R; try clear kq8 kz8
    try simp only [go_sem]
    refine W_cond rfl (fun c2 => ?_) (fun c2 => ?_)
    · -- c2 true
      try simp only [nrm] at c2
      have hi' : i < xs.length := by first | assumption | omega
      obtain ⟨x, hxi⟩ : ∃ x, xs[i]? = some x := ⟨xs[i], by simp⟩
      obtain ⟨y, hyi⟩ : ∃ y, ys[i]? = some y := ⟨ys[i]'(by omega), by simp⟩
      refine W_skip (kq7 _ _ ?_)
      refine W_seq fun kz9 kq9 => ?_
      refine W_block ?_
      refine W_seq fun kz10 kq10 => ?_
      refine W_draw [0, 1, 5, 25] [0, 1, 2, 3, 4, 5, 6, 7, 8] [] [[], [], [0, 1], [0, 1, 2], [], [], [4, 5], [4, 5, 6], [0, 1, 2, 3, 4, 5, 6, 7]] mixed (by kernel_rfl) fun R hR => ?_   -- r6
      simp only [go_sem, hxi, hyi]
      try refine And.intro (by repeat' (first | refine And.intro ?_ ?_ | exact GOr_right (fun _ => by simp only [go_sem, hxi, hyi]))) ?_
      refine hR _ _ (kq10 _ _ ?_); clear hR R; try clear kq10 kz10
      try simp only [go_sem, hxi, hyi]
      refine W_cond rfl (fun c3 => ?_) (fun c3 => ?_)
      · -- c3 true
        try simp only [nrm] at c3
        refine W_seq fun kz11 kq11 => ?_
        refine W_region [4] fun R hR => ?_   -- r7
        simp only [go_sem, hxi, hyi]
        refine hR _ _ (kq11 _ _ ?_); clear hR R; try clear kq11 kz11
        try simp only [go_sem, hxi, hyi]
        refine W_ret ?_
        simp only [go_sem, hxi, hyi]
        refine ⟨.inr (by trivial), ?_⟩
        first | refine Fin_same hcl rfl (Wk_eq ?_ (by simp only [go_sem])) | refine Fin_self hcl rfl (Wk_eq ?_ (by simp only [go_sem]))
        try simp only [go_sem]
        all_goals
          simp; intro h; subst h; rw [hxi] at hyi; injection hyi with h; exact c3 h
      · -- c3 false
        try simp only [nrm] at c3
        refine W_skip (kq9 _ _ ?_)
        refine W_region [0, 1, 5] fun R hR => ?_   -- r5
        simp only [go_sem, hxi, hyi]
        try simp (disch := omega) only [wrapI, wrapU]
        refine hR _ _ ?_; clear hR R
        try simp only [go_sem, hxi, hyi]
        refine ⟨i + 1, ?_, by (try simp only []); omega, ?_⟩
        · first | exact Weak.refl | exact Weak.eq (by first | rfl | (simp only [go_sem]; done) | (simp only [go_sem]; rfl) | (simp [go_sem]; done) | (simp [go_sem] <;> omega)) (by first | rfl | (simp only [go_sem]; done) | (simp [go_sem]; done))
        · try dsimp only
          refine ⟨hi', ?_⟩
          rw [List.take_add_one, List.take_add_one, ht, hxi, hyi, c3]
    · -- c2 false
      try simp only [nrm] at c2
      have hie : i = xs.length := by omega
      subst hie
      have hxy : xs = ys := by rw [List.take_length] at ht; rw [c1, List.take_length] at ht; exact ht
      refine W_exit ?_
      simp only [go_sem]
      refine kq5 _ _ ?_
      refine W_seq fun kz12 kq12 => ?_
      refine W_region [4] fun R hR => ?_   -- r8
      simp only [go_sem]
      refine hR _ _ (kq12 _ _ ?_); clear hR R; try clear kq12 kz12
      try simp only [go_sem]
      refine W_ret ?_
      simp only [go_sem]
      refine ⟨.inr (by trivial), ?_⟩
      first | refine Fin_same hcl rfl (Wk_eq ?_ (by simp only [go_sem])) | refine Fin_self hcl rfl (Wk_eq ?_ (by simp only [go_sem]))
      try simp only [go_sem]
      all_goals
        simp [hxy]
theorem eqSp {a b c d : Int} : eqPV Try.prog 48 (.agg [.int .i64 a, .int .i64 b]) (.agg [.int .i64 c, .int .i64 d]) = some (decide ((a, b) = (c, d))) := by
  rw [eqs48]
  refine congrArg some ?_
  rw [Bool.eq_iff_iff]
  simp
attribute [go_sem high] eqSp
set_option maxHeartbeats 2000000 in
theorem EqSpans_pc (Y : YEnv) (σ : Sg) (xs ys : List (Int × Int)) (o o2 : Own) (hx : xs.length < 2 ^ 50) :
    PC Try.prog Y 18 [.isl (xs.map stPV) o, .isl (ys.map stPV) o2] σ (.bool (decide (xs = ys))) (σ) := by
  refine PC_of_W Try.func18 rfl (by kernel_rfl) Try.ntmps18 (by simp) fun hcl hca => ?_
  refine W_seq fun kz1 kq1 => ?_
  refine W_region [0, 1] fun R hR => ?_   -- r0
  simp only [go_sem]
  refine hR _ _ (kq1 _ _ ?_); clear hR R; try clear kq1 kz1
  try simp only [go_sem]
  refine W_seq fun kz2 kq2 => ?_
  refine W_seq fun kz3 kq3 => ?_
  refine W_region [0, 1, 10] fun R hR => ?_   -- r1
  simp only [go_sem]
  refine hR _ _ (kq3 _ _ ?_); clear hR R; try clear kq3 kz3
  try simp only [go_sem]
  refine W_cond rfl (fun c1 => ?_) (fun c1 => ?_)
  · -- c1 true
    try simp only [nrm] at c1
    refine W_seq fun kz4 kq4 => ?_
    refine W_region [4] fun R hR => ?_   -- r2
    simp only [go_sem]
    refine hR _ _ (kq4 _ _ ?_); clear hR R; try clear kq4 kz4
    try simp only [go_sem]
    refine W_ret ?_
    simp only [go_sem]
    refine ⟨.inr (by trivial), ?_⟩
    first | refine Fin_same hcl rfl (Wk_eq ?_ (by simp only [go_sem])) | refine Fin_self hcl rfl (Wk_eq ?_ (by simp only [go_sem]))
    try simp only [go_sem]
    all_goals
      simp; intro h; subst h; exact c1 rfl
  · -- c1 false
    try simp only [nrm] at c1
    refine W_skip (kq2 _ _ ?_)
    refine W_seq fun kz5 kq5 => ?_
    refine W_seq fun kz6 kq6 => ?_
    refine W_region [0, 1, 5] fun R hR => ?_   -- r3
    simp only [go_sem]
    refine hR _ _ (kq6 _ _ ?_); clear hR R; try clear kq6 kz6
    try simp only [go_sem]
    refine W_block ?_
    refine W_loopS (α := Nat) (fun (i : Nat) => [(5, I i)]) (fun (i : Nat) => i ≤ xs.length ∧ xs.take i = ys.take i) (fun (i : Nat) => xs.length - i) (0) rfl (⟨Nat.zero_le _, rfl⟩) ?_
    rintro i ⟨hi, ht⟩
    refine W_seq fun kz7 kq7 => ?_
    refine W_seq fun kz8 kq8 => ?_
    refine W_region [0, 1, 5, 14] fun R hR => ?_   -- r4
    simp only [go_sem]
    refine hR _ _ (kq8 _ _ ?_); clear hR R; try clear kq8 kz8
    try simp only [go_sem]
    refine W_cond rfl (fun c2 => ?_) (fun c2 => ?_)
    · -- c2 true
      try simp only [nrm] at c2
      have hi' : i < xs.length := by first | assumption | omega
      obtain ⟨x, hxi⟩ : ∃ x, xs[i]? = some x := ⟨xs[i], by simp⟩
      obtain ⟨y, hyi⟩ : ∃ y, ys[i]? = some y := ⟨ys[i]'(by omega), by simp⟩
      refine W_skip (kq7 _ _ ?_)
      refine W_seq fun kz9 kq9 => ?_
      refine W_block ?_
      refine W_seq fun kz10 kq10 => ?_
      refine W_draw [0, 1, 5, 25] [0, 1, 2, 3, 4, 5, 6, 7, 8] [] [[], [], [0, 1], [0, 1, 2], [], [], [4, 5], [4, 5, 6], [0, 1, 2, 3, 4, 5, 6, 7]] mixed (by kernel_rfl) fun R hR => ?_   -- r6
      simp only [go_sem, hxi, hyi]
      try refine And.intro (by repeat' (first | refine And.intro ?_ ?_ | exact GOr_right (fun _ => by simp only [go_sem, hxi, hyi]))) ?_
      refine hR _ _ (kq10 _ _ ?_); clear hR R; try clear kq10 kz10
      try simp only [go_sem, hxi, hyi]
      refine W_cond rfl (fun c3 => ?_) (fun c3 => ?_)
      · -- c3 true
        try simp only [nrm] at c3
        refine W_seq fun kz11 kq11 => ?_
        refine W_region [4] fun R hR => ?_   -- r7
        simp only [go_sem, hxi, hyi]
        refine hR _ _ (kq11 _ _ ?_); clear hR R; try clear kq11 kz11
        try simp only [go_sem, hxi, hyi]
        refine W_ret ?_
        simp only [go_sem, hxi, hyi]
        refine ⟨.inr (by trivial), ?_⟩
        first | refine Fin_same hcl rfl (Wk_eq ?_ (by simp only [go_sem])) | refine Fin_self hcl rfl (Wk_eq ?_ (by simp only [go_sem]))
        try simp only [go_sem]
        all_goals
          simp; intro h; subst h; rw [hxi] at hyi; injection hyi with h; subst h; simp at c3
      · -- c3 false
        try simp only [nrm] at c3
        refine W_skip (kq9 _ _ ?_)
        refine W_region [0, 1, 5] fun R hR => ?_   -- r5
        simp only [go_sem, hxi, hyi]
        try simp (disch := omega) only [wrapI, wrapU]
        refine hR _ _ ?_; clear hR R
        try simp only [go_sem, hxi, hyi]
        refine ⟨i + 1, ?_, by (try simp only []); omega, ?_⟩
        · first | exact Weak.refl | exact Weak.eq (by first | rfl | (simp only [go_sem]; done) | (simp only [go_sem]; rfl) | (simp [go_sem]; done) | (simp [go_sem] <;> omega)) (by first | rfl | (simp only [go_sem]; done) | (simp [go_sem]; done))
        · try dsimp only
          refine ⟨hi', ?_⟩
          rw [List.take_add_one, List.take_add_one, ht, hxi, hyi, show x = y by obtain ⟨a, b⟩ := x; obtain ⟨c, d⟩ := y; simpa using c3]
    · -- c2 false
      try simp only [nrm] at c2
      have hie : i = xs.length := by omega
      subst hie
      have hxy : xs = ys := by rw [List.take_length] at ht; rw [c1, List.take_length] at ht; exact ht
      refine W_exit ?_
      simp only [go_sem]
      refine kq5 _ _ ?_
      refine W_seq fun kz12 kq12 => ?_
      refine W_region [4] fun R hR => ?_   -- r8
      simp only [go_sem]
      refine hR _ _ (kq12 _ _ ?_); clear hR R; try clear kq12 kz12
      try simp only [go_sem]
      refine W_ret ?_
      simp only [go_sem]
      refine ⟨.inr (by trivial), ?_⟩
      first | refine Fin_same hcl rfl (Wk_eq ?_ (by simp only [go_sem])) | refine Fin_self hcl rfl (Wk_eq ?_ (by simp only [go_sem]))
      try simp only [go_sem]
      all_goals
        simp [hxy]
set_option maxHeartbeats 2000000 in
theorem EqTables_pc (Y : YEnv) (σ : Sg) (xs ys : List Stand) (o o2 : Own) (hx : xs.length < 2 ^ 50) (hy : ∀ x, x ∈ xs → x.points.length < 2 ^ 40) :
    PC Try.prog Y 19 [.isl (xs.map sdPV) o, .isl (ys.map sdPV) o2] σ (.bool (decide (xs = ys))) (σ) := by
  refine PC_of_W Try.func19 rfl (by kernel_rfl) Try.ntmps19 (by simp) fun hcl hca => ?_
  refine W_seq fun kz1 kq1 => ?_
  refine W_region [0, 1] fun R hR => ?_   -- r0
  simp only [go_sem]
  refine hR _ _ (kq1 _ _ ?_); clear hR R; try clear kq1 kz1
  try simp only [go_sem]
  refine W_seq fun kz2 kq2 => ?_
  refine W_seq fun kz3 kq3 => ?_
  refine W_region [0, 1, 10] fun R hR => ?_   -- r1
  simp only [go_sem]
  refine hR _ _ (kq3 _ _ ?_); clear hR R; try clear kq3 kz3
  try simp only [go_sem]
  refine W_cond rfl (fun c1 => ?_) (fun c1 => ?_)
  · -- c1 true
    try simp only [nrm] at c1
    refine W_seq fun kz4 kq4 => ?_
    refine W_region [4] fun R hR => ?_   -- r2
    simp only [go_sem]
    refine hR _ _ (kq4 _ _ ?_); clear hR R; try clear kq4 kz4
    try simp only [go_sem]
    refine W_ret ?_
    simp only [go_sem]
    refine ⟨.inr (by trivial), ?_⟩
    first | refine Fin_same hcl rfl (Wk_eq ?_ (by simp only [go_sem])) | refine Fin_self hcl rfl (Wk_eq ?_ (by simp only [go_sem]))
    try simp only [go_sem]
    all_goals
      simp; intro h; subst h; exact c1 rfl
  · -- c1 false
    try simp only [nrm] at c1
    refine W_skip (kq2 _ _ ?_)
    refine W_seq fun kz5 kq5 => ?_
    refine W_seq fun kz6 kq6 => ?_
    refine W_region [0, 1, 5] fun R hR => ?_   -- r3
    simp only [go_sem]
    refine hR _ _ (kq6 _ _ ?_); clear hR R; try clear kq6 kz6
    try simp only [go_sem]
    refine W_block ?_
    refine W_loopS (α := Nat) (fun (i : Nat) => [(5, I i)]) (fun (i : Nat) => i ≤ xs.length ∧ xs.take i = ys.take i) (fun (i : Nat) => xs.length - i) (0) rfl (⟨Nat.zero_le _, rfl⟩) ?_
    rintro i ⟨hi, ht⟩
    refine W_seq fun kz7 kq7 => ?_
    refine W_seq fun kz8 kq8 => ?_
    refine W_region [0, 1, 5, 14] fun R hR => ?_   -- r4
    simp only [go_sem]
    refine hR _ _ (kq8 _ _ ?_); clear hR R; try clear kq8 kz8
    try simp only [go_sem]
    refine W_cond rfl (fun c2 => ?_) (fun c2 => ?_)
    · -- c2 true
      try simp only [nrm] at c2
      have hi' : i < xs.length := by first | assumption | omega
      obtain ⟨x, hxi⟩ : ∃ x, xs[i]? = some x := ⟨xs[i], by simp⟩
      obtain ⟨y, hyi⟩ : ∃ y, ys[i]? = some y := ⟨ys[i]'(by omega), by simp⟩
      refine W_skip (kq7 _ _ ?_)
      refine W_seq fun kz9 kq9 => ?_
      refine W_block ?_
      refine W_seq fun kz10 kq10 => ?_
      refine W_draw [0, 1, 5, 54] [0, 1, 2, 3, 4, 5, 6, 7, 8, 9, 10, 11, 12, 13, 14, 15, 16, 17, 18, 19, 20, 21, 22, 23, 24, 25, 26, 27, 28, 29, 30, 31, 32, 33, 34, 35, 36, 37] [] [[], [], [0, 1], [0, 1, 2], [0, 1, 2, 3], [], [], [5, 6], [5, 6, 7], [5, 6, 7, 8], [0, 1, 2, 3, 4, 5, 6, 7, 8, 9], [0, 1, 2, 3, 4, 5, 6, 7, 8, 9, 10], [0, 1, 2, 3, 4, 5, 6, 7, 8, 9, 10, 11], [0, 1, 2, 3, 4, 5, 6, 7, 8, 9, 10, 11], [0, 1, 2, 3, 4, 5, 6, 7, 8, 9, 10, 11, 12, 13], [0, 1, 2, 3, 4, 5, 6, 7, 8, 9, 10, 11, 12, 13, 14], [0, 1, 2, 3, 4, 5, 6, 7, 8, 9, 10, 11, 12, 13, 14, 15], [0, 1, 2, 3, 4, 5, 6, 7, 8, 9, 10, 11], [0, 1, 2, 3, 4, 5, 6, 7, 8, 9, 10, 11], [0, 1, 2, 3, 4, 5, 6, 7, 8, 9, 10, 11, 17, 18], [0, 1, 2, 3, 4, 5, 6, 7, 8, 9, 10, 11, 17, 18, 19], [0, 1, 2, 3, 4, 5, 6, 7, 8, 9, 10, 11, 17, 18, 19, 20], [0, 1, 2, 3, 4, 5, 6, 7, 8, 9, 10, 11, 12, 13, 14, 15, 16, 17, 18, 19, 20, 21], [0, 1, 2, 3, 4, 5, 6, 7, 8, 9, 10, 11, 12, 13, 14, 15, 16, 17, 18, 19, 20, 21, 22], [0, 1, 2, 3, 4, 5, 6, 7, 8, 9, 10, 11, 12, 13, 14, 15, 16, 17, 18, 19, 20, 21, 22, 23], [0, 1, 2, 3, 4, 5, 6, 7, 8, 9, 10, 11, 12, 13, 14, 15, 16, 17, 18, 19, 20, 21, 22, 23, 24], [0, 1, 2, 3, 4, 5, 6, 7, 8, 9, 10, 11, 12, 13, 14, 15, 16, 17, 18, 19, 20, 21, 22, 23, 24], [0, 1, 2, 3, 4, 5, 6, 7, 8, 9, 10, 11, 12, 13, 14, 15, 16, 17, 18, 19, 20, 21, 22, 23, 24, 25, 26], [0, 1, 2, 3, 4, 5, 6, 7, 8, 9, 10, 11, 12, 13, 14, 15, 16, 17, 18, 19, 20, 21, 22, 23, 24, 25, 26, 27], [0, 1, 2, 3, 4, 5, 6, 7, 8, 9, 10, 11, 12, 13, 14, 15, 16, 17, 18, 19, 20, 21, 22, 23, 24, 25, 26, 27, 28], [0, 1, 2, 3, 4, 5, 6, 7, 8, 9, 10, 11, 12, 13, 14, 15, 16, 17, 18, 19, 20, 21, 22, 23, 24], [0, 1, 2, 3, 4, 5, 6, 7, 8, 9, 10, 11, 12, 13, 14, 15, 16, 17, 18, 19, 20, 21, 22, 23, 24], [0, 1, 2, 3, 4, 5, 6, 7, 8, 9, 10, 11, 12, 13, 14, 15, 16, 17, 18, 19, 20, 21, 22, 23, 24, 30, 31], [0, 1, 2, 3, 4, 5, 6, 7, 8, 9, 10, 11, 12, 13, 14, 15, 16, 17, 18, 19, 20, 21, 22, 23, 24, 30, 31, 32], [0, 1, 2, 3, 4, 5, 6, 7, 8, 9, 10, 11, 12, 13, 14, 15, 16, 17, 18, 19, 20, 21, 22, 23, 24, 30, 31, 32, 33], [0, 1, 2, 3, 4, 5, 6, 7, 8, 9, 10, 11, 12, 13, 14, 15, 16, 17, 18, 19, 20, 21, 22, 23, 24, 25, 26, 27, 28, 29, 30, 31, 32, 33, 34], [0, 1, 2, 3, 4, 5, 6, 7, 8, 9, 10, 11, 12, 13, 14, 15, 16, 17, 18, 19, 20, 21, 22, 23, 24, 25, 26, 27, 28, 29, 30, 31, 32, 33, 34, 35], [0, 1, 2, 3, 4, 5, 6, 7, 8, 9, 10, 11, 12, 13, 14, 15, 16, 17, 18, 19, 20, 21, 22, 23, 24, 25, 26, 27, 28, 29, 30, 31, 32, 33, 34, 35, 36]] mixed (by kernel_rfl) fun R hR => ?_   -- r6
      simp only [go_sem, hxi, hyi]
      refine GWant_split (fun g1 => ?_) (fun g1 => ?_)
      · try simp only [Bool.not_eq_true', Bool.not_eq_false'] at g1
        have n1 := g1; try simp only [nrm] at n1
        simp only [go_sem, hxi, hyi, g1]
        refine GWant_split (fun g2 => ?_) (fun g2 => ?_)
        · try simp only [Bool.not_eq_true', Bool.not_eq_false'] at g2
          have n2 := g2; try simp only [nrm] at n2
          simp only [go_sem, hxi, hyi, g1, g2]
          refine GCall_of (EqInts_pc Y _ x.points y.points .ro .ro (by have := hy x (List.mem_of_getElem? hxi); omega)) ?_   -- t52
          simp only [go_sem, hxi, hyi, g1, g2]
          try refine And.intro (by repeat' (first | refine And.intro ?_ ?_ | exact GOr_right (fun _ => by simp only [go_sem, hxi, hyi]))) ?_
          refine hR _ _ (kq10 _ _ ?_); clear hR R; try clear kq10 kz10
          try simp only [go_sem, hxi, hyi]
          refine W_cond rfl (fun c3 => ?_) (fun c3 => ?_)
          · -- c3 true
            try simp only [nrm] at c3
            refine W_seq fun kz11 kq11 => ?_
            refine W_region [4] fun R hR => ?_   -- r7
            simp only [go_sem, hxi, hyi]
            refine hR _ _ (kq11 _ _ ?_); clear hR R; try clear kq11 kz11
            try simp only [go_sem, hxi, hyi]
            refine W_ret ?_
            simp only [go_sem, hxi, hyi]
            refine ⟨.inr (by trivial), ?_⟩
            first | refine Fin_same hcl rfl (Wk_eq ?_ (by simp only [go_sem])) | refine Fin_self hcl rfl (Wk_eq ?_ (by simp only [go_sem]))
            try simp only [go_sem]
            all_goals
              simp; intro h; subst h; rw [hxi] at hyi; injection hyi with h; subst h; simp_all
          · -- c3 false
            try simp only [nrm] at c3
            refine W_skip (kq9 _ _ ?_)
            refine W_region [0, 1, 5] fun R hR => ?_   -- r5
            simp only [go_sem, hxi, hyi]
            try simp (disch := omega) only [wrapI, wrapU]
            refine hR _ _ ?_; clear hR R
            try simp only [go_sem, hxi, hyi]
            refine ⟨i + 1, ?_, by (try simp only []); omega, ?_⟩
            · first | exact Weak.refl | exact Weak.eq (by first | rfl | (simp only [go_sem]; done) | (simp only [go_sem]; rfl) | (simp [go_sem]; done) | (simp [go_sem] <;> omega)) (by first | rfl | (simp only [go_sem]; done) | (simp [go_sem]; done))
            · try dsimp only
              refine ⟨hi', ?_⟩
              rw [List.take_add_one, List.take_add_one, ht, hxi, hyi, show x = y by obtain ⟨a, b, c⟩ := x; obtain ⟨a2, b2, c2⟩ := y; simp_all]
        · try simp only [Bool.not_eq_true', Bool.not_eq_false'] at g2
          have n2 := g2; try simp only [nrm] at n2
          simp only [go_sem, hxi, hyi, g1, g2]
          try refine And.intro (by repeat' (first | refine And.intro ?_ ?_ | exact GOr_right (fun _ => by simp only [go_sem, hxi, hyi]))) ?_
          refine hR _ _ (kq10 _ _ ?_); clear hR R; try clear kq10 kz10
          try simp only [go_sem, hxi, hyi]
          refine W_cond_true rfl ?_
          refine W_seq fun kz12 kq12 => ?_
          refine W_region [4] fun R hR => ?_   -- r7
          simp only [go_sem, hxi, hyi]
          refine hR _ _ (kq12 _ _ ?_); clear hR R; try clear kq12 kz12
          try simp only [go_sem, hxi, hyi]
          refine W_ret ?_
          simp only [go_sem, hxi, hyi]
          refine ⟨.inr (by trivial), ?_⟩
          first | refine Fin_same hcl rfl (Wk_eq ?_ (by simp only [go_sem])) | refine Fin_self hcl rfl (Wk_eq ?_ (by simp only [go_sem]))
          try simp only [go_sem]
          all_goals
            simp; intro h; subst h; rw [hxi] at hyi; injection hyi with h; subst h; simp_all
      · try simp only [Bool.not_eq_true', Bool.not_eq_false'] at g1
        have n1 := g1; try simp only [nrm] at n1
        simp only [go_sem, hxi, hyi, g1]
        try refine And.intro (by repeat' (first | refine And.intro ?_ ?_ | exact GOr_right (fun _ => by simp only [go_sem, hxi, hyi]))) ?_
        refine hR _ _ (kq10 _ _ ?_); clear hR R; try clear kq10 kz10
        try simp only [go_sem, hxi, hyi]
        refine W_cond_true rfl ?_
        refine W_seq fun kz13 kq13 => ?_
        refine W_region [4] fun R hR => ?_   -- r7
        simp only [go_sem, hxi, hyi]
        refine hR _ _ (kq13 _ _ ?_); clear hR R; try clear kq13 kz13
        try simp only [go_sem, hxi, hyi]
        refine W_ret ?_
        simp only [go_sem, hxi, hyi]
        refine ⟨.inr (by trivial), ?_⟩
        first | refine Fin_same hcl rfl (Wk_eq ?_ (by simp only [go_sem])) | refine Fin_self hcl rfl (Wk_eq ?_ (by simp only [go_sem]))
        try simp only [go_sem]
        all_goals
          simp; intro h; subst h; rw [hxi] at hyi; injection hyi with h; subst h; simp_all
    · -- c2 false
      try simp only [nrm] at c2
      have hie : i = xs.length := by omega
      subst hie
      have hxy : xs = ys := by rw [List.take_length] at ht; rw [c1, List.take_length] at ht; exact ht
      refine W_exit ?_
      simp only [go_sem]
      refine kq5 _ _ ?_
      refine W_seq fun kz14 kq14 => ?_
      refine W_region [4] fun R hR => ?_   -- r8
      simp only [go_sem]
      refine hR _ _ (kq14 _ _ ?_); clear hR R; try clear kq14 kz14
      try simp only [go_sem]
      refine W_ret ?_
      simp only [go_sem]
      refine ⟨.inr (by trivial), ?_⟩
      first | refine Fin_same hcl rfl (Wk_eq ?_ (by simp only [go_sem])) | refine Fin_self hcl rfl (Wk_eq ?_ (by simp only [go_sem]))
      try simp only [go_sem]
      all_goals
        simp [hxy]
set_option maxHeartbeats 2000000 in
theorem span_pc (Y : YEnv) (σ : Sg) (a b : Int) :
    PC Try.prog Y 48 [I a, I b] σ (.agg [I a, I b]) (σ) := by
  refine PC_of_W Try.func48 rfl (by kernel_rfl) Try.ntmps48 (by simp) fun hcl hca => ?_
  refine W_seq fun kz1 kq1 => ?_
  refine W_region [0, 1, 4] fun R hR => ?_   -- r0
  simp only [go_sem]
  refine hR _ _ (kq1 _ _ ?_); clear hR R; try clear kq1 kz1
  try simp only [go_sem]
  refine W_seq fun kz2 kq2 => ?_
  refine W_region [4] fun R hR => ?_   -- r1
  simp only [go_sem]
  refine hR _ _ (kq2 _ _ ?_); clear hR R; try clear kq2 kz2
  try simp only [go_sem]
  refine W_ret ?_
  simp only [go_sem]
  refine ⟨.inr (by trivial), ?_⟩
  first | refine Fin_same hcl (by show resPV Try.prog _ _ [.cell 4 48] = some _; simp only [resPV, go_sem]; rfl) (Wk_eq ?_ (by simp only [go_sem])) | refine Fin_same hcl rfl (Wk_eq ?_ (by simp only [go_sem]))
  try simp only [go_sem]
  all_goals
    first | rfl | (simp_all; done) | (simp_all; omega)
set_option maxHeartbeats 2000000 in
theorem scale_pc (Y : YEnv) (σ : Sg)  :
    PC Try.prog Y 45 [] σ (scPV exScale) (σ) := by
  refine PC_of_W Try.func45 rfl (by kernel_rfl) Try.ntmps45 (by simp) fun hcl hca => ?_
  refine W_seq fun kz1 kq1 => ?_
  refine W_region [0] fun R hR => ?_   -- r0
  simp only [go_sem]
  refine hR _ _ (kq1 _ _ ?_); clear hR R; try clear kq1 kz1
  try simp only [go_sem]
  refine W_seq fun kz2 kq2 => ?_
  refine W_region [0] fun R hR => ?_   -- r1
  simp only [go_sem]
  refine hR _ _ (kq2 _ _ ?_); clear hR R; try clear kq2 kz2
  try simp only [go_sem]
  refine W_ret ?_
  simp only [go_sem]
  refine ⟨.inr (by trivial), ?_⟩
  refine Fin_same hcl (by show resPV Try.prog _ _ [.cell 0 26] = some _; simp only [resPV, go_sem]; rfl) (Wk.ro (by simp only [go_sem]) ?_)
  try simp only [go_sem]
  all_goals
    rfl
set_option maxHeartbeats 2000000 in
theorem night_pc (Y : YEnv) (σ : Sg)  :
    PC Try.prog Y 46 [] σ (ngPV exNight) (σ) := by
  refine PC_of_W Try.func46 rfl (by kernel_rfl) Try.ntmps46 (by simp) fun hcl hca => ?_
  refine W_seq fun kz1 kq1 => ?_
  refine W_region [0] fun R hR => ?_   -- r0
  simp only [go_sem]
  refine hR _ _ (kq1 _ _ ?_); clear hR R; try clear kq1 kz1
  try simp only [go_sem]
  refine W_seq fun kz2 kq2 => ?_
  refine W_region [0] fun R hR => ?_   -- r1
  simp only [go_sem]
  refine hR _ _ (kq2 _ _ ?_); clear hR R; try clear kq2 kz2
  try simp only [go_sem]
  refine W_ret ?_
  simp only [go_sem]
  refine ⟨.inr (by trivial), ?_⟩
  refine Fin_same hcl (by show resPV Try.prog _ _ [.cell 0 32] = some _; simp only [resPV, go_sem]; rfl) (Wk.ro (by simp only [go_sem]) ?_)
  try simp only [go_sem]
  all_goals
    rfl
set_option maxHeartbeats 2000000 in
theorem before_pc (Y : YEnv) (σ : Sg)  :
    PC Try.prog Y 47 [] σ (ngPV exBefore) (σ) := by
  refine PC_of_W Try.func47 rfl (by kernel_rfl) Try.ntmps47 (by simp) fun hcl hca => ?_
  refine W_seq fun kz1 kq1 => ?_
  refine W_region [0] fun R hR => ?_   -- r0
  simp only [go_sem]
  refine hR _ _ (kq1 _ _ ?_); clear hR R; try clear kq1 kz1
  try simp only [go_sem]
  refine W_seq fun kz2 kq2 => ?_
  refine W_region [0, 1] fun R hR => ?_   -- r1
  simp only [go_sem]
  refine GCall_of (night_pc Y _) ?_   -- t2
  simp only [go_sem]
  refine hR _ _ (kq2 _ _ ?_); clear hR R; try clear kq2 kz2
  try simp only [go_sem]
  refine W_seq fun kz3 kq3 => ?_
  have hz4 : ((0 : Int) ≤ 4) = True := by decide
  have hb4 : (Int.toNat 4 ≤ exNight.opened.length) = True := by decide
  refine W_region [0, 1] fun R hR => ?_   -- r2
  simp only [go_sem, hz4, hb4]
  refine hR _ _ (kq3 _ _ ?_); clear hR R; try clear kq3 kz3
  try simp only [go_sem]
  refine W_seq fun kz4 kq4 => ?_
  refine W_region [0] fun R hR => ?_   -- r3
  simp only [go_sem]
  refine hR _ _ (kq4 _ _ ?_); clear hR R; try clear kq4 kz4
  try simp only [go_sem]
  refine W_ret ?_
  simp only [go_sem]
  refine ⟨.inr (by trivial), ?_⟩
  refine Fin_same hcl (by show resPV Try.prog _ _ [.cell 0 32] = some _; simp only [resPV, go_sem]; rfl) (Wk.ro (by simp only [go_sem]) ?_)
  try simp only [go_sem]
  all_goals
    rfl
end Go.Proofs.Ytgelnjmddabgpaa
namespace Go.Proofs.Ytgelnjmddabgpaa
open Go Go.RowKit
set_option maxRecDepth 100000
def exTab : List Stand := [⟨0, 385, [195, 190]⟩, ⟨2, 365, [175, 195]⟩, ⟨1, 365, [195, 170]⟩]
def exTot : List (Int × Int) := [(340, 385), (355, 390), (345, 370)]
set_option maxHeartbeats 4000000 in
theorem awake_pc (Y : YEnv) (σ : Sg)  :
    PC Try.prog Y 20 [] σ (.bool true) (σ) := by
  refine PC_of_W Try.func20 rfl (by kernel_rfl) Try.ntmps20 (by simp) fun hcl hca => ?_
  refine W_seq fun kz1 kq1 => ?_
  refine W_region [] fun R hR => ?_   -- r0
  simp only [go_sem]
  refine hR _ _ (kq1 _ _ ?_); clear hR R; try clear kq1 kz1
  try simp only [go_sem]
  refine W_seq fun kz2 kq2 => ?_
  refine W_region [1, 2] fun R hR => ?_   -- r1
  simp only [go_sem]
  refine GCall_of (scale_pc Y _) ?_   -- t8
  simp only [go_sem]
  refine GCall_of (night_pc Y _) ?_   -- t9
  simp only [go_sem]
  refine GCall_of (PC.val (v' := .tuple [sds exTab, I 0]) (Table_pc Y _ exScale exNight exScale_ok exNight_ok) (by rw [exTable]; rfl)) ?_   -- t10
  simp only [go_sem]
  refine hR _ _ (kq2 _ _ ?_); clear hR R; try clear kq2 kz2
  try simp only [go_sem]
  refine W_seq fun kz3 kq3 => ?_
  refine W_region [1, 2, 3, 4] fun R hR => ?_   -- r2
  simp only [go_sem]
  refine GCall_of (scale_pc Y _) ?_   -- t14
  simp only [go_sem]
  refine GCall_of (before_pc Y _) ?_   -- t15
  simp only [go_sem]
  refine GCall_of (PC.val (v' := .tuple [sts exTot, I 0]) (Totals_pc Y _ exScale exBefore exScale_ok exBefore_ok) (by rw [exTotals]; rfl)) ?_   -- t16
  simp only [go_sem]
  refine hR _ _ (kq3 _ _ ?_); clear hR R; try clear kq3 kz3
  try simp only [go_sem]
  refine W_seq fun kz4 kq4 => ?_
  refine W_region [1, 2, 3, 4, 5, 6] fun R hR => ?_   -- r3
  simp only [go_sem]
  refine GCall_of (scale_pc Y _) ?_   -- t20
  simp only [go_sem]
  refine GCall_of (before_pc Y _) ?_   -- t21
  simp only [go_sem]
  refine GCall_of (PC.val (v' := .tuple [.agg [I 1, I 3], I 0]) (Place_pc Y _ exScale exBefore exScale_ok exBefore_ok 0) (by rw [exPlace])) ?_   -- t22
  simp only [go_sem]
  refine hR _ _ (kq4 _ _ ?_); clear hR R; try clear kq4 kz4
  try simp only [go_sem]
  refine W_seq fun kz5 kq5 => ?_
  refine W_draw [0] [0, 1, 2, 3, 4, 5, 6, 7, 8, 9, 10, 11, 12, 13, 14, 15, 16, 17, 18, 19, 20, 21, 22, 23, 24, 25, 26, 27, 28, 29, 30, 31, 32, 33, 34] [(22, 24), (22, 25), (22, 27), (30, 35)] [[], [0], [0, 1], [0, 1, 2], [0, 1, 2, 3], [0, 1, 2, 3, 4], [0, 1, 2, 3, 4, 5], [0, 1, 2, 3, 4, 5, 6], [0, 1, 2, 3, 4, 5, 6, 7], [0, 1, 2, 3, 4, 5, 6, 7, 8], [0, 1, 2, 3, 4, 5, 6, 7, 8, 9], [0, 1, 2, 3, 4, 5, 6, 7, 8, 9, 10], [0, 1, 2, 3, 4, 5, 6, 7, 8, 9, 10], [0, 1, 2, 3, 4, 5, 6, 7, 8, 9, 10, 12], [0, 1, 2, 3, 4, 5, 6, 7, 8, 9, 10], [0, 1, 2, 3, 4, 5, 6, 7, 8, 9, 10, 14], [0, 1, 2, 3, 4, 5, 6, 7, 8, 9, 10], [0, 1, 2, 3, 4, 5, 6, 7, 8, 9, 10, 16], [0, 1, 2, 3, 4, 5, 6, 7, 8, 9, 10, 12, 13, 14, 15, 16, 17], [0, 1, 2, 3, 4, 5, 6, 7, 8, 9, 10, 11, 12, 13, 14, 15, 16, 17, 18], [0, 1, 2, 3, 4, 5, 6, 7, 8, 9, 10, 11, 12, 13, 14, 15, 16, 17, 18, 19], [0, 1, 2, 3, 4, 5, 6, 7, 8, 9, 10, 11, 12, 13, 14, 15, 16, 17, 18, 19, 20], [0, 1, 2, 3, 4, 5, 6, 7, 8, 9, 10, 11, 12, 13, 14, 15, 16, 17, 18, 19, 20, 21], [0, 1, 2, 3, 4, 5, 6, 7, 8, 9, 10, 11, 12, 13, 14, 15, 16, 17, 18, 19, 20, 21], [0, 1, 2, 3, 4, 5, 6, 7, 8, 9, 10, 11, 12, 13, 14, 15, 16, 17, 18, 19, 20, 21, 23], [0, 1, 2, 3, 4, 5, 6, 7, 8, 9, 10, 11, 12, 13, 14, 15, 16, 17, 18, 19, 20, 21, 23, 24], [0, 1, 2, 3, 4, 5, 6, 7, 8, 9, 10, 11, 12, 13, 14, 15, 16, 17, 18, 19, 20, 21, 23, 24, 25], [0, 1, 2, 3, 4, 5, 6, 7, 8, 9, 10, 11, 12, 13, 14, 15, 16, 17, 18, 19, 20, 21, 22, 23, 24, 25, 26], [0, 1, 2, 3, 4, 5, 6, 7, 8, 9, 10, 11, 12, 13, 14, 15, 16, 17, 18, 19, 20, 21, 22, 23, 24, 25, 26, 27], [0, 1, 2, 3, 4, 5, 6, 7, 8, 9, 10, 11, 12, 13, 14, 15, 16, 17, 18, 19, 20, 21, 22, 23, 24, 25, 26, 27, 28], [0, 1, 2, 3, 4, 5, 6, 7, 8, 9, 10, 11, 12, 13, 14, 15, 16, 17, 18, 19, 20, 21, 22, 23, 24, 25, 26, 27, 28, 29], [0, 1, 2, 3, 4, 5, 6, 7, 8, 9, 10, 11, 12, 13, 14, 15, 16, 17, 18, 19, 20, 21, 22, 23, 24, 25, 26, 27, 28, 29], [0, 1, 2, 3, 4, 5, 6, 7, 8, 9, 10, 11, 12, 13, 14, 15, 16, 17, 18, 19, 20, 21, 22, 23, 24, 25, 26, 27, 28, 29, 30, 31], [0, 1, 2, 3, 4, 5, 6, 7, 8, 9, 10, 11, 12, 13, 14, 15, 16, 17, 18, 19, 20, 21, 22, 23, 24, 25, 26, 27, 28, 29, 30, 31, 32], [0, 1, 2, 3, 4, 5, 6, 7, 8, 9, 10, 11, 12, 13, 14, 15, 16, 17, 18, 19, 20, 21, 22, 23, 24, 25, 26, 27, 28, 29, 30, 31, 32, 33]] mixed (by kernel_rfl) fun R hR => ?_   -- r4
  simp only [go_sem]
  refine GCall_of (PC.val (v' := .bool true) (PC.ofRo (EqTables_pc Y _ exTab exTab .ro .ro (by decide) (by decide)) (by simp only [go_sem, exTab] <;> rfl)) (by rfl)) ?_   -- t44
  simp only [go_sem]
  refine GCall_of (span_pc Y _ 340 385) ?_   -- t48
  simp only [go_sem]
  refine GCall_of (span_pc Y _ 355 390) ?_   -- t49
  simp only [go_sem]
  refine GCall_of (span_pc Y _ 345 370) ?_   -- t50
  simp only [go_sem]
  refine GCall_of (EqSpans_pc Y _ exTot exTot .ro .exact (by decide)) ?_   -- t52
  simp only [go_sem]
  refine GCall_of (span_pc Y _ 1 3) ?_   -- t56
  simp only [go_sem]
  try refine And.intro (by repeat' (first | refine And.intro ?_ ?_ | exact GOr_right (fun _ => by simp only [go_sem]))) ?_
  refine hR _ _ (kq5 _ _ ?_); clear hR R; try clear kq5 kz5
  try simp only [go_sem]
  refine W_ret ?_
  simp only [go_sem]
  refine ⟨.inr (by trivial), ?_⟩
  first | refine Fin_same hcl rfl (Wk_eq ?_ (by simp only [go_sem])) | refine Fin_self hcl rfl (Wk_eq ?_ (by simp only [go_sem]))
  try simp only [go_sem]
  all_goals
    first | rfl | (simp_all; done) | (simp_all; omega)
end Go.Proofs.Ytgelnjmddabgpaa
namespace Go.Proofs.Ytgelnjmddabgpaa
open Go Go.RowKit
set_option maxRecDepth 100000
theorem Scale.V.okS {s : Scale} (h : s.V) : s.Ok := ⟨by have := h.ol; have := h.mt; omega⟩
end Go.Proofs.Ytgelnjmddabgpaa
namespace Go.Proofs.Ytgelnjmddabgpaa
open Go Go.RowKit
set_option maxRecDepth 100000
theorem eqTuple {a b : Int} : eqPV Try.prog 48 (.agg [.int .i64 a, .int .i64 b]) (.agg [.int .i64 a, .int .i64 b]) = some true := by rw [eqSp]; simp
attribute [go_sem] eqTuple
theorem mem_snoc2 {α : Type} {l m : List α} {a : α} (h : ∀ x, x ∈ l → x ∈ m) (ha : a ∈ m) : ∀ x, x ∈ l ++ [a] → x ∈ m := fun x hx => by
  rcases List.mem_append.1 hx with hx | hx
  · exact h x hx
  · simp at hx; subst hx; exact ha
theorem mem_snoc3 {α : Type} {l m : List α} {a b : α} (h : ∀ x, x ∈ l → x ∈ m) (ha : a ∈ m) (hb : b ∈ m) : ∀ x, x ∈ l ++ [a, b] → x ∈ m := fun x hx => by
  rcases List.mem_append.1 hx with hx | hx
  · exact h x hx
  · simp at hx
    rcases hx with rfl | rfl
    · exact ha
    · exact hb
theorem all_snoc {α : Type} {l l' L : List α} {od : List Int} {i y0 : Nat} {e : α} (hal : ∀ q y : Nat, q < i → od[q]? = some (y : Int) → ∀ e, L[y]? = some e → e ∈ l) (hx : od[i]? = some (y0 : Int)) (he : L[y0]? = some e) (hm : e ∈ l') (hs : ∀ x, x ∈ l → x ∈ l') : ∀ q y : Nat, q < i + 1 → od[q]? = some (y : Int) → ∀ e, L[y]? = some e → e ∈ l' := by
  intro q y hq hqy e2 he2
  by_cases hqi : q = i
  · subst hqi
    rw [hx] at hqy
    simp only [Option.some.injEq] at hqy
    have : y0 = y := by omega
    subst this
    rw [he] at he2
    cases he2
    exact hm
  · exact hs _ (hal q y (by omega) hqy e2 he2)
theorem table_len {s : Scale} {g : Night} (hv : s.V) (hE : knownE s g = 0) : (tableP s g).1.length ≤ 8 ∧ ∀ x, x ∈ (tableP s g).1 → x.points.length ≤ 6 := by
  have q1 := hv.mt
  have q3 := hv.sc
  unfold tableP
  rw [if_neg (by simp [hE])]
  split
  · exact ⟨by simp, fun x hx => by cases hx⟩
  · have hok := tbl_ok (s := s) (k := knownK s g) (g := g) (N := s.schools.toNat) (by omega)
    refine ⟨by rw [hok.ln]; omega, fun x hx => ?_⟩
    obtain ⟨c, _, rfl⟩ := hok.of x hx
    simp [standK, pointsL, toI]; omega
set_option maxHeartbeats 16000000 in
theorem MarksOrder_pc (Y : YEnv) (σ : Sg) (nums : List Int) (hn : nums.length < 2 ^ 60) :
    PC Try.prog Y 3 [ints nums] σ (.bool true) (σ) := by
  refine PC_of_W Try.func3 rfl (by kernel_rfl) Try.ntmps3 (by simp) fun hcl hca => ?_
  obtain ⟨b0, hb0⟩ : ∃ z, drumB nums 2685821657736338717 = z := ⟨_, rfl⟩
  obtain ⟨s, hs⟩ : ∃ zz, (scaleD 5 b0).1 = zz := ⟨_, rfl⟩
  obtain ⟨b1, hb1⟩ : ∃ zz, (scaleD 5 b0).2 = zz := ⟨_, rfl⟩
  have ds := scaleD_ok 5 (by omega) (by omega) b0
  simp only [hs] at ds
  obtain ⟨dec, hdec⟩ : ∃ zz, (rare 2 b1).1 = zz := ⟨_, rfl⟩
  obtain ⟨b2, hb2⟩ : ∃ zz, (rare 2 b1).2 = zz := ⟨_, rfl⟩
  have hsc := ds.1
  have hv := Scale.v hsc
  have q3 := hv.sc
  have hsO := hv.okS
  obtain ⟨g, hg⟩ : ∃ zz, (nightD s dec b2).1 = zz := ⟨_, rfl⟩
  obtain ⟨b3, hb3⟩ : ∃ zz, (nightD s dec b2).2 = zz := ⟨_, rfl⟩
  have dg := nightD_ok hsc dec b2
  simp only [hg] at dg
  obtain ⟨od, hod⟩ : ∃ zz, (orderD g.opened.length b3).1 = zz := ⟨_, rfl⟩
  obtain ⟨b4, hb4⟩ : ∃ zz, (orderD g.opened.length b3).2 = zz := ⟨_, rfl⟩
  have dod := orderD_perm g.opened.length b3
  simp only [hod] at dod
  obtain ⟨ad, had⟩ : ∃ zz, (orderD g.absent.length b4).1 = zz := ⟨_, rfl⟩
  obtain ⟨b5, hb5⟩ : ∃ zz, (orderD g.absent.length b4).2 = zz := ⟨_, rfl⟩
  have dad := orderD_perm g.absent.length b4
  simp only [had] at dad
  obtain ⟨fd, hfd⟩ : ∃ zz, (orderD g.fines.length b5).1 = zz := ⟨_, rfl⟩
  obtain ⟨b6, hb6⟩ : ∃ zz, (orderD g.fines.length b5).2 = zz := ⟨_, rfl⟩
  have dfd := orderD_perm g.fines.length b5
  simp only [hfd] at dfd
  have hnv := dg.v
  have hgO := hnv.ok
  have gl1 := dg.l1
  have gl2 := dg.l2
  have gl3 := dg.l3
  have hodl : od.length = g.opened.length := by rw [dod.length_eq]; simp
  have hadl : ad.length = g.absent.length := by rw [dad.length_eq]; simp
  have hfdl : fd.length = g.fines.length := by rw [dfd.length_eq]; simp
  refine W_seq fun kz1 kq1 => ?_
  refine W_region [0] fun R hR => ?_   -- r0
  simp only [go_sem, hb0, hs, hb1, hdec, hb2, hg, hb3, hod, hb4, had, hb5, hfd, hb6]
  refine hR _ _ (kq1 _ _ ?_); clear hR R; try clear kq1 kz1
  try simp only [go_sem, hb0, hs, hb1, hdec, hb2, hg, hb3, hod, hb4, had, hb5, hfd, hb6]
  refine W_seq fun kz2 kq2 => ?_
  refine W_region [3] fun R hR => ?_   -- r1
  simp only [go_sem, hb0, hs, hb1, hdec, hb2, hg, hb3, hod, hb4, had, hb5, hfd, hb6]
  refine GCall_of (DrumOf_pc Y _ nums hn) ?_   -- t27
  simp only [go_sem, hb0, hs, hb1, hdec, hb2, hg, hb3, hod, hb4, had, hb5, hfd, hb6]
  refine hR _ _ (kq2 _ _ ?_); clear hR R; try clear kq2 kz2
  try simp only [go_sem, hb0, hs, hb1, hdec, hb2, hg, hb3, hod, hb4, had, hb5, hfd, hb6]
  refine W_seq fun kz3 kq3 => ?_
  refine W_region [3, 4] fun R hR => ?_   -- r2
  simp only [go_sem, hb0, hs, hb1, hdec, hb2, hg, hb3, hod, hb4, had, hb5, hfd, hb6]
  refine GCall_of (ScaleOf_pc Y _ _ b0 (Sg.get_ext0 ..) 5 (by omega) (by omega)) ?_   -- t29
  simp only [go_sem, hb0, hs, hb1, hdec, hb2, hg, hb3, hod, hb4, had, hb5, hfd, hb6]
  refine hR _ _ (kq3 _ _ ?_); clear hR R; try clear kq3 kz3
  try simp only [go_sem, hb0, hs, hb1, hdec, hb2, hg, hb3, hod, hb4, had, hb5, hfd, hb6]
  refine W_seq fun kz4 kq4 => ?_
  refine W_draw [3, 4, 5] [0, 1, 2, 3, 4, 5, 6] [(0, 4), (1, 4)] [[], [], [], [2], [0, 1, 2, 3], [], [0, 1, 2, 3, 4, 5]] mixed (by kernel_rfl) fun R hR => ?_   -- r3
  simp only [go_sem, hb0, hs, hb1, hdec, hb2, hg, hb3, hod, hb4, had, hb5, hfd, hb6]
  refine GCall_of (Rare_pc Y _ _ b1 (Sg.get_ext0 ..) 2 (by omega)) ?_   -- t33
  simp only [go_sem, hb0, hs, hb1, hdec, hb2, hg, hb3, hod, hb4, had, hb5, hfd, hb6]
  refine GCall_of (NightOf_pc Y _ _ b2 (Sg.get_ext0 ..) s hv hsO dec) ?_   -- t34
  simp only [go_sem, hb0, hs, hb1, hdec, hb2, hg, hb3, hod, hb4, had, hb5, hfd, hb6]
  try refine And.intro (by repeat' (first | refine And.intro ?_ ?_ | exact GOr_right (fun _ => by simp only [go_sem, hb0, hs, hb1, hdec, hb2, hg, hb3, hod, hb4, had, hb5, hfd, hb6]))) ?_
  refine hR _ _ (kq4 _ _ ?_); clear hR R; try clear kq4 kz4
  try simp only [go_sem, hb0, hs, hb1, hdec, hb2, hg, hb3, hod, hb4, had, hb5, hfd, hb6]
  refine W_seq fun kz5 kq5 => ?_
  refine W_region [3, 4, 5, 6] fun R hR => ?_   -- r4
  simp only [go_sem, hb0, hs, hb1, hdec, hb2, hg, hb3, hod, hb4, had, hb5, hfd, hb6]
  refine hR _ _ (kq5 _ _ ?_); clear hR R; try clear kq5 kz5
  try simp only [go_sem, hb0, hs, hb1, hdec, hb2, hg, hb3, hod, hb4, had, hb5, hfd, hb6]
  refine W_seq fun kz6 kq6 => ?_
  refine W_draw [3, 4, 5, 6, 7, 8, 9] [0, 1, 2, 3, 4, 5, 6, 7, 8, 9, 10, 11, 12, 13, 14, 15, 16, 17] [(5, 4), (6, 4), (7, 4), (8, 4), (10, 4), (10, 9), (11, 4), (11, 9), (12, 4), (12, 9), (13, 4), (13, 9)] [[], [], [1], [1, 2], [0, 1, 2, 3], [], [], [6], [6, 7], [0, 1, 2, 3, 4, 5, 6, 7, 8], [], [], [11], [11, 12], [0, 1, 2, 3, 4, 5, 6, 7, 8, 9, 10, 11, 12, 13], [0, 1, 2, 3, 4, 5, 6, 7, 8, 9, 10, 11, 12, 13, 14], [0, 1, 2, 3, 4, 5, 6, 7, 8, 9, 10, 11, 12, 13, 14, 15], [0, 1, 2, 3, 4, 5, 6, 7, 8, 9, 10, 11, 12, 13, 14, 15, 16]] mixed (by kernel_rfl) fun R hR => ?_   -- r5
  simp only [go_sem, hb0, hs, hb1, hdec, hb2, hg, hb3, hod, hb4, had, hb5, hfd, hb6]
  refine GCall_of (Order_pc Y _ _ b3 (Sg.get_ext0 ..) g.opened.length (by omega)) ?_   -- t39
  simp only [go_sem, hb0, hs, hb1, hdec, hb2, hg, hb3, hod, hb4, had, hb5, hfd, hb6]
  refine GCall_of (Order_pc Y _ _ b4 (Sg.get_ext0 ..) g.absent.length (by omega)) ?_   -- t44
  simp only [go_sem, hb0, hs, hb1, hdec, hb2, hg, hb3, hod, hb4, had, hb5, hfd, hb6]
  refine GCall_of (Order_pc Y _ _ b5 (Sg.get_ext0 ..) g.fines.length (by omega)) ?_   -- t49
  simp only [go_sem, hb0, hs, hb1, hdec, hb2, hg, hb3, hod, hb4, had, hb5, hfd, hb6]
  try refine And.intro (by repeat' (first | refine And.intro ?_ ?_ | exact GOr_right (fun _ => by simp only [go_sem, hb0, hs, hb1, hdec, hb2, hg, hb3, hod, hb4, had, hb5, hfd, hb6]))) ?_
  refine hR _ _ (kq6 _ _ ?_); clear hR R; try clear kq6 kz6
  try simp only [go_sem, hb0, hs, hb1, hdec, hb2, hg, hb3, hod, hb4, had, hb5, hfd, hb6]
  refine W_seq fun kz7 kq7 => ?_
  refine W_seq fun kz8 kq8 => ?_
  refine W_region [3, 4, 5, 6, 7, 8, 9, 10] fun R hR => ?_   -- r6
  simp only [go_sem, hb0, hs, hb1, hdec, hb2, hg, hb3, hod, hb4, had, hb5, hfd, hb6]
  refine hR _ _ (kq8 _ _ ?_); clear hR R; try clear kq8 kz8
  try simp only [go_sem, hb0, hs, hb1, hdec, hb2, hg, hb3, hod, hb4, had, hb5, hfd, hb6]
  refine W_block ?_
  refine W_weak (Weak.roomX (j := 3) (off := 0) (es := 4) rfl rfl (by simp)) ?_
  simp only [go_sem]
  refine W_weak (Weak.roomX (j := 3) (off := 1) (es := 2) rfl rfl (by simp)) ?_
  simp only [go_sem]
  refine W_weak (Weak.roomX (j := 3) (off := 2) (es := 2) rfl rfl (by simp)) ?_
  simp only [go_sem]
  refine W_loopT (α := Nat × (List Envl) × Int) (fun ⟨i, l, b⟩ => [(10, I i)]) (fun ⟨i, l, b⟩ => σ.ext [some [.int .u64 b], some (scCells s), some (ngCells g), some [.isl (l.map evPV) (.tok σ.rooms.length l.length 4), .isl (([] : List (Int × Int)).map stPV) (.tok (σ.rooms.length + 1) ([] : List (Int × Int)).length 2), .isl (([] : List (Int × Int)).map stPV) (.tok (σ.rooms.length + 2) ([] : List (Int × Int)).length 2)]] [l.length, ([] : List (Int × Int)).length, ([] : List (Int × Int)).length]) (fun ⟨i, l, b⟩ => i ≤ od.length ∧ (∀ x, x ∈ l → x ∈ g.opened) ∧ (∀ q y : Nat, q < i → od[q]? = some (y : Int) → ∀ e, g.opened[y]? = some e → e ∈ l) ∧ l.length ≤ 2 * i) (fun ⟨i, l, b⟩ => od.length - i) ((0, [], b6)) rfl (by first | rfl | (simp only [go_sem]; done) | (simp only [go_sem]; rfl)) (⟨Nat.zero_le _, (fun x hx => by cases hx), (fun q y h => by omega), Nat.zero_le _⟩) ?_
  rintro ⟨i, l, b⟩ ⟨hi, hsub, hal, hll⟩
  refine W_seq fun kz9 kq9 => ?_
  refine W_seq fun kz10 kq10 => ?_
  refine W_region [3, 4, 5, 6, 7, 8, 9, 10, 53] fun R hR => ?_   -- r7
  simp only [go_sem, hb0, hs, hb1, hdec, hb2, hg, hb3, hod, hb4, had, hb5, hfd, hb6]
  refine hR _ _ (kq10 _ _ ?_); clear hR R; try clear kq10 kz10
  try simp only [go_sem, hb0, hs, hb1, hdec, hb2, hg, hb3, hod, hb4, had, hb5, hfd, hb6]
  refine W_cond rfl (fun c1 => ?_) (fun c1 => ?_)
  · -- c1 true
    try simp only [nrm] at c1
    have hi' : i < od.length := by first | assumption | omega
    obtain ⟨z, hx⟩ : ∃ z, od[i]? = some z := ⟨od[i], by simp [hi']⟩
    have hdrop : od.drop i = z :: od.drop (i + 1) := by
      rw [List.drop_eq_getElem_cons hi']; congr 1; exact (List.getElem?_eq_some_iff.1 hx).2
    obtain ⟨y, rfl, hye⟩ : ∃ y : Nat, z = y ∧ y < g.opened.length := by
      obtain ⟨y, h1, h2⟩ := List.mem_map.1 (dod.mem_iff.1 (List.mem_of_getElem? hx))
      exact ⟨y, h2.symm, List.mem_range.1 h1⟩
    obtain ⟨e, he⟩ : ∃ e, g.opened[y]? = some e := ⟨g.opened[y], by simp⟩
    have hem := List.mem_of_getElem? he
    obtain ⟨r4, hr4⟩ : ∃ zz, (rare 4 b).1 = zz := ⟨_, rfl⟩
    obtain ⟨b1, hb1⟩ : ∃ zz, (rare 4 b).2 = zz := ⟨_, rfl⟩
    refine W_skip (kq9 _ _ ?_)
    refine W_seq fun kz11 kq11 => ?_
    refine W_block ?_
    refine W_seq fun kz12 kq12 => ?_
    refine W_draw [3, 4, 5, 6, 7, 8, 9, 10] [0, 1, 2, 3, 4, 5, 6, 7, 8, 9, 10, 11, 12, 13] [] [[], [0], [], [2], [], [], [4, 5], [4, 5, 6], [2, 3, 4, 5, 6, 7], [2, 3, 4, 5, 6, 7, 8], [2, 3, 4, 5, 6, 7, 8, 9], [0, 1, 2, 3, 4, 5, 6, 7, 8, 9, 10], [0, 1, 2, 3, 4, 5, 6, 7, 8, 9, 10, 11], [0, 1, 2, 3, 4, 5, 6, 7, 8, 9, 10, 11, 12]] mixed (by kernel_rfl) fun R hR => ?_   -- r9
    simp only [go_sem, hb0, hs, hb1, hdec, hb2, hg, hb3, hod, hb4, had, hb5, hfd, hb6, hx, he, hr4, hb1]
    try simp (disch := first | omega | (simp only [go_sem] <;> omega)) only [wrapI, wrapU, appX_exact, appX_tok]
    try simp only [go_sem, hb0, hs, hb1, hdec, hb2, hg, hb3, hod, hb4, had, hb5, hfd, hb6, hx, he, hr4, hb1]
    try refine And.intro (by repeat' (first | refine And.intro ?_ ?_ | exact GOr_right (fun _ => by simp only [go_sem, hb0, hs, hb1, hdec, hb2, hg, hb3, hod, hb4, had, hb5, hfd, hb6, hx, he, hr4, hb1]))) ?_
    refine hR _ _ (kq12 _ _ ?_); clear hR R; try clear kq12 kz12
    try simp only [go_sem, hb0, hs, hb1, hdec, hb2, hg, hb3, hod, hb4, had, hb5, hfd, hb6, hx, he, hr4, hb1]
    refine W_seq fun kz13 kq13 => ?_
    refine W_region [3, 4, 5, 6, 7, 8, 9, 10, 70] fun R hR => ?_   -- r10
    simp only [go_sem, hb0, hs, hb1, hdec, hb2, hg, hb3, hod, hb4, had, hb5, hfd, hb6, hx, he, hr4, hb1]
    refine GCall_of (Rare_pc Y _ _ b (Sg.get_ext0 ..) 4 (by omega)) ?_   -- t70
    simp only [go_sem, hb0, hs, hb1, hdec, hb2, hg, hb3, hod, hb4, had, hb5, hfd, hb6, hx, he, hr4, hb1]
    refine hR _ _ (kq13 _ _ ?_); clear hR R; try clear kq13 kz13
    try simp only [go_sem, hb0, hs, hb1, hdec, hb2, hg, hb3, hod, hb4, had, hb5, hfd, hb6, hx, he, hr4, hb1]
    refine W_cond rfl (fun c2 => ?_) (fun c2 => ?_)
    · -- c2 true
      try simp only [nrm] at c2
      obtain ⟨rz, hrz⟩ : ∃ zz, (roll od.length b1).1 = zz := ⟨_, rfl⟩
      obtain ⟨b2, hb2⟩ : ∃ zz, (roll od.length b1).2 = zz := ⟨_, rfl⟩
      have drz := roll_bd od.length b1
      simp only [hrz] at drz
      obtain ⟨r, rfl⟩ : ∃ r : Nat, rz = r := ⟨rz.toNat, by omega⟩
      have hrl : r < g.opened.length := by omega
      obtain ⟨e3, he3⟩ : ∃ e, g.opened[r]? = some e := ⟨g.opened[r], by simp⟩
      have hem3 := List.mem_of_getElem? he3
      refine W_draw [3, 4, 5, 6, 7, 8, 9, 10] [0, 1, 2, 3, 4, 5, 6, 7, 8, 9, 10, 11, 12, 13] [(0, 11), (1, 11), (2, 11), (3, 11)] [[], [0], [], [2], [], [], [5], [4, 5, 6], [2, 3, 4, 5, 6, 7], [2, 3, 4, 5, 6, 7, 8], [2, 3, 4, 5, 6, 7, 8, 9], [0, 1, 2, 3, 4, 5, 6, 7, 8, 9, 10], [0, 1, 2, 3, 4, 5, 6, 7, 8, 9, 10, 11], [0, 1, 2, 3, 4, 5, 6, 7, 8, 9, 10, 11, 12]] mixed (by kernel_rfl) fun R hR => ?_   -- r11
      simp only [go_sem, hb0, hs, hb1, hdec, hb2, hg, hb3, hod, hb4, had, hb5, hfd, hb6, hx, he, hr4, hb1, hrz, hb2, he3]
      refine GCall_of (Roll_pc Y _ _ b1 (Sg.get_ext0 ..) od.length (by omega)) ?_   -- t78
      simp only [go_sem, hb0, hs, hb1, hdec, hb2, hg, hb3, hod, hb4, had, hb5, hfd, hb6, hx, he, hr4, hb1, hrz, hb2, he3]
      try simp (disch := first | omega | (simp only [go_sem] <;> omega)) only [wrapI, wrapU, appX_exact, appX_tok]
      try simp only [go_sem, hb0, hs, hb1, hdec, hb2, hg, hb3, hod, hb4, had, hb5, hfd, hb6, hx, he, hr4, hb1, hrz, hb2, he3]
      try refine And.intro (by repeat' (first | refine And.intro ?_ ?_ | exact GOr_right (fun _ => by simp only [go_sem, hb0, hs, hb1, hdec, hb2, hg, hb3, hod, hb4, had, hb5, hfd, hb6, hx, he, hr4, hb1, hrz, hb2, he3]))) ?_
      refine hR _ _ (kq11 _ _ ?_); clear hR R; try clear kq11 kz11
      try simp only [go_sem, hb0, hs, hb1, hdec, hb2, hg, hb3, hod, hb4, had, hb5, hfd, hb6, hx, he, hr4, hb1, hrz, hb2, he3]
      refine W_region [3, 4, 5, 6, 7, 8, 9, 10] fun R hR => ?_   -- r8
      simp only [go_sem, hb0, hs, hb1, hdec, hb2, hg, hb3, hod, hb4, had, hb5, hfd, hb6, hx, he, hr4, hb1, hrz, hb2, he3]
      try simp (disch := omega) only [wrapI, wrapU]
      refine hR _ _ ?_; clear hR R
      try simp only [go_sem, hb0, hs, hb1, hdec, hb2, hg, hb3, hod, hb4, had, hb5, hfd, hb6, hx, he, hr4, hb1, hrz, hb2, he3]
      refine ⟨(i + 1, l ++ [e, e3], b2), ?_, by (try simp only []); omega, ?_⟩
      · first | exact Weak.refl | exact Weak.eq (by first | rfl | (simp only [go_sem]; done) | (simp only [go_sem]; rfl) | (simp [go_sem]; done) | (simp [go_sem]; omega)) (by first | rfl | (simp only [go_sem]; done) | (simp [go_sem]; done))
      · try dsimp only
        refine ⟨hi', ?_, all_snoc hal hx he (by simp) (fun x hx => by simp [hx]), by simp; omega⟩
        first | exact mem_snoc3 hsub hem hem3 | exact mem_snoc2 hsub hem
    · -- c2 false
      try simp only [nrm] at c2
      refine W_skip (kq11 _ _ ?_)
      refine W_region [3, 4, 5, 6, 7, 8, 9, 10] fun R hR => ?_   -- r8
      simp only [go_sem, hb0, hs, hb1, hdec, hb2, hg, hb3, hod, hb4, had, hb5, hfd, hb6, hx, he, hr4, hb1]
      try simp (disch := omega) only [wrapI, wrapU]
      refine hR _ _ ?_; clear hR R
      try simp only [go_sem, hb0, hs, hb1, hdec, hb2, hg, hb3, hod, hb4, had, hb5, hfd, hb6, hx, he, hr4, hb1]
      refine ⟨(i + 1, l ++ [e], b1), ?_, by (try simp only []); omega, ?_⟩
      · first | exact Weak.refl | exact Weak.eq (by first | rfl | (simp only [go_sem]; done) | (simp only [go_sem]; rfl) | (simp [go_sem]; done) | (simp [go_sem]; omega)) (by first | rfl | (simp only [go_sem]; done) | (simp [go_sem]; done))
      · try dsimp only
        refine ⟨hi', ?_, all_snoc hal hx he (by simp) (fun x hx => by simp [hx]), by simp; omega⟩
        first | exact mem_snoc3 hsub hem hem3 | exact mem_snoc2 hsub hem
  · -- c1 false
    try simp only [nrm] at c1
    have hie : i = od.length := by first | omega | (simp at c1; omega)
    subst hie
    have hopm : ∀ x, x ∈ l ↔ x ∈ g.opened := fun x => ⟨hsub x, all_picked dod (fun q y h e he => hal q y ((List.getElem?_eq_some_iff.1 h).1) h e he) x⟩
    clear hsub hal
    refine W_exit ?_
    simp only [go_sem, hb0, hs, hb1, hdec, hb2, hg, hb3, hod, hb4, had, hb5, hfd, hb6]
    refine kq7 _ _ ?_
    refine W_seq fun kz14 kq14 => ?_
    refine W_seq fun kz15 kq15 => ?_
    refine W_region [3, 4, 5, 6, 8, 9, 11] fun R hR => ?_   -- r12
    simp only [go_sem, hb0, hs, hb1, hdec, hb2, hg, hb3, hod, hb4, had, hb5, hfd, hb6]
    refine hR _ _ (kq15 _ _ ?_); clear hR R; try clear kq15 kz15
    try simp only [go_sem, hb0, hs, hb1, hdec, hb2, hg, hb3, hod, hb4, had, hb5, hfd, hb6]
    refine W_block ?_
    refine W_loopT (α := Nat × (List (Int × Int)) × Int) (fun ⟨i, m, b⟩ => [(11, I i)]) (fun ⟨i, m, b⟩ => σ.ext [some [.int .u64 b], some (scCells s), some (ngCells g), some [.isl (l.map evPV) (.tok σ.rooms.length l.length 4), .isl (m.map stPV) (.tok (σ.rooms.length + 1) m.length 2), .isl (([] : List (Int × Int)).map stPV) (.tok (σ.rooms.length + 2) ([] : List (Int × Int)).length 2)]] [l.length, m.length, ([] : List (Int × Int)).length]) (fun ⟨i, m, b⟩ => i ≤ ad.length ∧ (∀ x, x ∈ m → x ∈ g.absent) ∧ (∀ q y : Nat, q < i → ad[q]? = some (y : Int) → ∀ e, g.absent[y]? = some e → e ∈ m) ∧ m.length ≤ 2 * i) (fun ⟨i, m, b⟩ => ad.length - i) ((0, [], b)) rfl (by first | rfl | (simp only [go_sem]; done) | (simp only [go_sem]; rfl)) (⟨Nat.zero_le _, (fun x hx => by cases hx), (fun q y h => by omega), Nat.zero_le _⟩) ?_
    rintro ⟨i, m, b⟩ ⟨hi, hsub, hal, hml⟩
    refine W_seq fun kz16 kq16 => ?_
    refine W_seq fun kz17 kq17 => ?_
    refine W_region [3, 4, 5, 6, 8, 9, 11, 87] fun R hR => ?_   -- r13
    simp only [go_sem, hb0, hs, hb1, hdec, hb2, hg, hb3, hod, hb4, had, hb5, hfd, hb6]
    refine hR _ _ (kq17 _ _ ?_); clear hR R; try clear kq17 kz17
    try simp only [go_sem, hb0, hs, hb1, hdec, hb2, hg, hb3, hod, hb4, had, hb5, hfd, hb6]
    refine W_cond rfl (fun c3 => ?_) (fun c3 => ?_)
    · -- c3 true
      try simp only [nrm] at c3
      have hi' : i < ad.length := by first | assumption | omega
      obtain ⟨z, hx⟩ : ∃ z, ad[i]? = some z := ⟨ad[i], by simp [hi']⟩
      have hdrop : ad.drop i = z :: ad.drop (i + 1) := by
        rw [List.drop_eq_getElem_cons hi']; congr 1; exact (List.getElem?_eq_some_iff.1 hx).2
      obtain ⟨y, rfl, hye⟩ : ∃ y : Nat, z = y ∧ y < g.absent.length := by
        obtain ⟨y, h1, h2⟩ := List.mem_map.1 (dad.mem_iff.1 (List.mem_of_getElem? hx))
        exact ⟨y, h2.symm, List.mem_range.1 h1⟩
      obtain ⟨e, he⟩ : ∃ e, g.absent[y]? = some e := ⟨g.absent[y], by simp⟩
      have hem := List.mem_of_getElem? he
      obtain ⟨rz, hrz⟩ : ∃ zz, (roll ad.length b).1 = zz := ⟨_, rfl⟩
      obtain ⟨b1, hb1⟩ : ∃ zz, (roll ad.length b).2 = zz := ⟨_, rfl⟩
      have drz := roll_bd ad.length b
      simp only [hrz] at drz
      obtain ⟨r, rfl⟩ : ∃ r : Nat, rz = r := ⟨rz.toNat, by omega⟩
      have hrl : r < g.absent.length := by omega
      obtain ⟨e3, he3⟩ : ∃ e, g.absent[r]? = some e := ⟨g.absent[r], by simp⟩
      have hem3 := List.mem_of_getElem? he3
      refine W_skip (kq16 _ _ ?_)
      refine W_seq fun kz18 kq18 => ?_
      refine W_block ?_
      refine W_draw [3, 4, 5, 6, 8, 9, 11] [0, 1, 2, 3, 4, 5, 6, 7, 8, 9, 10, 11, 12, 13, 14, 15, 16, 17, 18, 19, 20, 21] [(0, 19), (1, 19), (2, 19), (3, 19), (4, 19), (5, 19), (6, 19), (7, 19), (8, 19), (9, 19), (10, 19), (11, 19)] [[], [0], [], [2], [], [], [4, 5], [4, 5, 6], [2, 3, 4, 5, 6, 7], [2, 3, 4, 5, 6, 7, 8], [], [10], [], [], [13], [12, 13, 14], [10, 11, 12, 13, 14, 15], [10, 11, 12, 13, 14, 15, 16], [2, 3, 4, 5, 6, 7, 8, 9, 10, 11, 12, 13, 14, 15, 16, 17], [0, 1, 2, 3, 4, 5, 6, 7, 8, 9, 10, 11, 12, 13, 14, 15, 16, 17, 18], [0, 1, 2, 3, 4, 5, 6, 7, 8, 9, 10, 11, 12, 13, 14, 15, 16, 17, 18, 19], [0, 1, 2, 3, 4, 5, 6, 7, 8, 9, 10, 11, 12, 13, 14, 15, 16, 17, 18, 19, 20]] mixed (by kernel_rfl) fun R hR => ?_   -- r15
      simp only [go_sem, hb0, hs, hb1, hdec, hb2, hg, hb3, hod, hb4, had, hb5, hfd, hb6, hx, he, he3, hrz, hb1]
      refine GCall_of (Roll_pc Y _ _ b (Sg.get_ext0 ..) ad.length (by omega)) ?_   -- t105
      simp only [go_sem, hb0, hs, hb1, hdec, hb2, hg, hb3, hod, hb4, had, hb5, hfd, hb6, hx, he, he3, hrz, hb1]
      try simp (disch := first | omega | (simp only [go_sem] <;> omega)) only [wrapI, wrapU, appX_exact, appX_tok]
      try simp only [go_sem, hb0, hs, hb1, hdec, hb2, hg, hb3, hod, hb4, had, hb5, hfd, hb6, hx, he, he3, hrz, hb1]
      try refine And.intro (by repeat' (first | refine And.intro ?_ ?_ | exact GOr_right (fun _ => by simp only [go_sem, hb0, hs, hb1, hdec, hb2, hg, hb3, hod, hb4, had, hb5, hfd, hb6, hx, he, he3, hrz, hb1]))) ?_
      refine hR _ _ (kq18 _ _ ?_); clear hR R; try clear kq18 kz18
      try simp only [go_sem, hb0, hs, hb1, hdec, hb2, hg, hb3, hod, hb4, had, hb5, hfd, hb6, hx, he, he3, hrz, hb1]
      refine W_region [3, 4, 5, 6, 8, 9, 11] fun R hR => ?_   -- r14
      simp only [go_sem, hb0, hs, hb1, hdec, hb2, hg, hb3, hod, hb4, had, hb5, hfd, hb6, hx, he, he3, hrz, hb1]
      try simp (disch := omega) only [wrapI, wrapU]
      refine hR _ _ ?_; clear hR R
      try simp only [go_sem, hb0, hs, hb1, hdec, hb2, hg, hb3, hod, hb4, had, hb5, hfd, hb6, hx, he, he3, hrz, hb1]
      refine ⟨(i + 1, m ++ [e, e3], b1), ?_, by (try simp only []); omega, ?_⟩
      · first | exact Weak.refl | exact Weak.eq (by first | rfl | (simp only [go_sem]; done) | (simp only [go_sem]; rfl) | (simp [go_sem]; done) | (simp [go_sem]; omega)) (by first | rfl | (simp only [go_sem]; done) | (simp [go_sem]; done))
      · try dsimp only
        refine ⟨hi', ?_, all_snoc hal hx he (by simp) (fun x hx => by simp [hx]), by simp; omega⟩
        first | exact mem_snoc3 hsub hem hem3 | exact mem_snoc2 hsub hem
    · -- c3 false
      try simp only [nrm] at c3
      have hie : i = ad.length := by first | omega | (simp at c3; omega)
      subst hie
      have habm : ∀ x, x ∈ m ↔ x ∈ g.absent := fun x => ⟨hsub x, all_picked dad (fun q y h e he => hal q y ((List.getElem?_eq_some_iff.1 h).1) h e he) x⟩
      clear hsub hal
      refine W_exit ?_
      simp only [go_sem, hb0, hs, hb1, hdec, hb2, hg, hb3, hod, hb4, had, hb5, hfd, hb6]
      refine kq14 _ _ ?_
      refine W_seq fun kz19 kq19 => ?_
      refine W_seq fun kz20 kq20 => ?_
      refine W_region [3, 4, 5, 6, 9, 12] fun R hR => ?_   -- r16
      simp only [go_sem, hb0, hs, hb1, hdec, hb2, hg, hb3, hod, hb4, had, hb5, hfd, hb6]
      refine hR _ _ (kq20 _ _ ?_); clear hR R; try clear kq20 kz20
      try simp only [go_sem, hb0, hs, hb1, hdec, hb2, hg, hb3, hod, hb4, had, hb5, hfd, hb6]
      refine W_block ?_
      refine W_loopT (α := Nat) (fun (i : Nat) => [(12, I i)]) (fun (i : Nat) => σ.ext [some [.int .u64 b], some (scCells s), some (ngCells g), some [.isl (l.map evPV) (.tok σ.rooms.length l.length 4), .isl (m.map stPV) (.tok (σ.rooms.length + 1) m.length 2), .isl ((pickF g.fines (fd.take i)).map stPV) (.tok (σ.rooms.length + 2) i 2)]] [l.length, m.length, i]) (fun (i : Nat) => i ≤ fd.length) (fun (i : Nat) => fd.length - i) (0) rfl (by first | rfl | (simp only [go_sem]; done) | (simp only [go_sem]; rfl)) (Nat.zero_le _) ?_
      rintro i hi
      refine W_seq fun kz21 kq21 => ?_
      refine W_seq fun kz22 kq22 => ?_
      refine W_region [3, 4, 5, 6, 9, 12, 114] fun R hR => ?_   -- r17
      simp only [go_sem, hb0, hs, hb1, hdec, hb2, hg, hb3, hod, hb4, had, hb5, hfd, hb6]
      refine hR _ _ (kq22 _ _ ?_); clear hR R; try clear kq22 kz22
      try simp only [go_sem, hb0, hs, hb1, hdec, hb2, hg, hb3, hod, hb4, had, hb5, hfd, hb6]
      refine W_cond rfl (fun c4 => ?_) (fun c4 => ?_)
      · -- c4 true
        try simp only [nrm] at c4
        have hi' : i < fd.length := by first | assumption | omega
        obtain ⟨z, hx⟩ : ∃ z, fd[i]? = some z := ⟨fd[i], by simp [hi']⟩
        have hdrop : fd.drop i = z :: fd.drop (i + 1) := by
          rw [List.drop_eq_getElem_cons hi']; congr 1; exact (List.getElem?_eq_some_iff.1 hx).2
        obtain ⟨y, rfl, hye⟩ : ∃ y : Nat, z = y ∧ y < g.fines.length := by
          obtain ⟨y, h1, h2⟩ := List.mem_map.1 (dfd.mem_iff.1 (List.mem_of_getElem? hx))
          exact ⟨y, h2.symm, List.mem_range.1 h1⟩
        obtain ⟨e, he⟩ : ∃ e, g.fines[y]? = some e := ⟨g.fines[y], by simp⟩
        have hem := List.mem_of_getElem? he
        have hpk : pickF g.fines (fd.take (i + 1)) = pickF g.fines (fd.take i) ++ [e] := by rw [List.take_add_one, hx]; simp [pickF, he]
        have hpl : (pickF g.fines (fd.take i)).length = i := by simp [pickF]; omega
        refine W_skip (kq21 _ _ ?_)
        refine W_seq fun kz23 kq23 => ?_
        refine W_block ?_
        refine W_draw [3, 4, 5, 6, 9, 12] [0, 1, 2, 3, 4, 5, 6, 7, 8, 9, 10, 11, 12, 13] [] [[], [0], [], [2], [], [], [4, 5], [4, 5, 6], [2, 3, 4, 5, 6, 7], [2, 3, 4, 5, 6, 7, 8], [2, 3, 4, 5, 6, 7, 8, 9], [0, 1, 2, 3, 4, 5, 6, 7, 8, 9, 10], [0, 1, 2, 3, 4, 5, 6, 7, 8, 9, 10, 11], [0, 1, 2, 3, 4, 5, 6, 7, 8, 9, 10, 11, 12]] mixed (by kernel_rfl) fun R hR => ?_   -- r19
        simp only [go_sem, hb0, hs, hb1, hdec, hb2, hg, hb3, hod, hb4, had, hb5, hfd, hb6, hx, he]
        try simp (disch := first | omega | (simp only [go_sem] <;> omega)) only [wrapI, wrapU, appX_exact, appX_tok]
        try simp only [go_sem, hb0, hs, hb1, hdec, hb2, hg, hb3, hod, hb4, had, hb5, hfd, hb6, hx, he]
        try refine And.intro (by repeat' (first | refine And.intro ?_ ?_ | exact GOr_right (fun _ => by simp only [go_sem, hb0, hs, hb1, hdec, hb2, hg, hb3, hod, hb4, had, hb5, hfd, hb6, hx, he]))) ?_
        refine hR _ _ (kq23 _ _ ?_); clear hR R; try clear kq23 kz23
        try simp only [go_sem, hb0, hs, hb1, hdec, hb2, hg, hb3, hod, hb4, had, hb5, hfd, hb6, hx, he]
        refine W_region [3, 4, 5, 6, 9, 12] fun R hR => ?_   -- r18
        simp only [go_sem, hb0, hs, hb1, hdec, hb2, hg, hb3, hod, hb4, had, hb5, hfd, hb6, hx, he]
        try simp (disch := omega) only [wrapI, wrapU]
        refine hR _ _ ?_; clear hR R
        try simp only [go_sem, hb0, hs, hb1, hdec, hb2, hg, hb3, hod, hb4, had, hb5, hfd, hb6, hx, he]
        refine ⟨i + 1, ?_, by (try simp only []); omega, ?_⟩
        · refine Weak.eq (by first | rfl | (simp only [go_sem, hpk, hpl, List.map_append]; done) | (simp [go_sem, hpk, hpl]; done)) ?_
          simp only [go_sem, hpk, hpl, List.map_append, List.map_cons, List.map_nil]
        · try dsimp only
          omega
      · -- c4 false
        try simp only [nrm] at c4
        have hie : i = fd.length := by first | omega | (simp at c4; omega)
        subst hie
        rw [List.take_length]
        obtain ⟨fi, hfi⟩ : ∃ z, pickF g.fines fd = z := ⟨_, rfl⟩
        have hfp : fi.Perm g.fines := by rw [← hfi]; exact pickF_perm dfd
        have hfl : fd.length = fi.length := by rw [hfdl, hfp.length_eq]
        rw [hfi, hfl]
        obtain ⟨sc, hsc⟩ : ∃ zz, (roll s.schools b).1 = zz := ⟨_, rfl⟩
        obtain ⟨b1, hb1⟩ : ∃ zz, (roll s.schools b).2 = zz := ⟨_, rfl⟩
        have dsc := roll_bd s.schools b
        simp only [hsc] at dsc
        have hsn : SameN g ⟨l, m, fi⟩ := ⟨hopm, habm, hfp, by simp only; omega, by simp only; omega⟩
        have hov := hsn.v hnv
        have hoO := hov.ok
        have hK := hsn.k hnv
        have hE1 := nightV_iff.2 hnv
        have hE2 := nightV_iff.2 hov
        have eT := hK.tot hsn.f hE1 hE2
        have eP := hK.plc hsn.f hE1 hE2 sc
        have eB := hK.tab hsn.f hE1 hE2
        obtain ⟨T, hT⟩ : ∃ z, (totalsA s g).1 = z := ⟨_, rfl⟩
        have hT2 : (totalsA s g).2 = 0 := by unfold totalsA; simp [hE1]
        have hTl : T.length < 2 ^ 40 := by rw [← hT]; unfold totalsA; simp [hE1, toI]; omega
        obtain ⟨p1, hp1⟩ : ∃ z, (placeA s g sc).1.1 = z := ⟨_, rfl⟩
        obtain ⟨p2, hp2⟩ : ∃ z, (placeA s g sc).1.2 = z := ⟨_, rfl⟩
        have hp3 : (placeA s g sc).2 = 0 := by
          have : inR sc 0 (s.schools - 1) = true := by rw [inR_true]; omega
          unfold placeA; simp [hE1, this]
        obtain ⟨tb, htb⟩ : ∃ z, (tableP s g).1 = z := ⟨_, rfl⟩
        obtain ⟨te, hte⟩ : ∃ z, (tableP s g).2 = z := ⟨_, rfl⟩
        have htbp := table_len hv hE1
        rw [htb] at htbp
        obtain ⟨htbl, htbp⟩ := htbp
        refine W_exit ?_
        simp only [go_sem, hb0, hs, hb1, hdec, hb2, hg, hb3, hod, hb4, had, hb5, hfd, hb6, hsc, hb1]
        refine kq19 _ _ ?_
        refine W_seq fun kz24 kq24 => ?_
        refine W_region [4, 5, 6, 13] fun R hR => ?_   -- r20
        simp only [go_sem, hb0, hs, hb1, hdec, hb2, hg, hb3, hod, hb4, had, hb5, hfd, hb6, hsc, hb1]
        refine GCall_of (Roll_pc Y _ _ b (Sg.get_ext0 ..) s.schools (by omega)) ?_   -- t133
        simp only [go_sem, hb0, hs, hb1, hdec, hb2, hg, hb3, hod, hb4, had, hb5, hfd, hb6, hsc, hb1]
        refine hR _ _ (kq24 _ _ ?_); clear hR R; try clear kq24 kz24
        try simp only [go_sem, hb0, hs, hb1, hdec, hb2, hg, hb3, hod, hb4, had, hb5, hfd, hb6, hsc, hb1]
        refine W_seq fun kz25 kq25 => ?_
        refine W_region [4, 5, 6, 13, 14, 15] fun R hR => ?_   -- r21
        simp only [go_sem, hb0, hs, hb1, hdec, hb2, hg, hb3, hod, hb4, had, hb5, hfd, hb6, hsc, hb1]
        refine GCall_of (PC.val (v' := .tuple [sts T, I 0]) (Totals_pc Y _ s g hsO hgO) (by rw [hT, hT2])) ?_   -- t137
        simp only [go_sem, hb0, hs, hb1, hdec, hb2, hg, hb3, hod, hb4, had, hb5, hfd, hb6, hsc, hb1]
        refine hR _ _ (kq25 _ _ ?_); clear hR R; try clear kq25 kz25
        try simp only [go_sem, hb0, hs, hb1, hdec, hb2, hg, hb3, hod, hb4, had, hb5, hfd, hb6, hsc, hb1]
        refine W_seq fun kz26 kq26 => ?_
        refine W_region [4, 5, 6, 13, 14, 15, 16, 17] fun R hR => ?_   -- r22
        simp only [go_sem, hb0, hs, hb1, hdec, hb2, hg, hb3, hod, hb4, had, hb5, hfd, hb6, hsc, hb1]
        refine GCall_of (PC.ofRo (PC.val (v' := .tuple [sts T, I 0]) (Totals_pc Y _ s ⟨l, m, fi⟩ hsO hoO) (by rw [eT, hT, hT2])) (by simp only [go_sem] <;> rfl)) ?_   -- t143
        simp only [go_sem, hb0, hs, hb1, hdec, hb2, hg, hb3, hod, hb4, had, hb5, hfd, hb6, hsc, hb1]
        refine hR _ _ (kq26 _ _ ?_); clear hR R; try clear kq26 kz26
        try simp only [go_sem, hb0, hs, hb1, hdec, hb2, hg, hb3, hod, hb4, had, hb5, hfd, hb6, hsc, hb1]
        refine W_seq fun kz27 kq27 => ?_
        refine W_region [4, 5, 6, 13, 14, 15, 16, 17, 18, 19] fun R hR => ?_   -- r23
        simp only [go_sem, hb0, hs, hb1, hdec, hb2, hg, hb3, hod, hb4, had, hb5, hfd, hb6, hsc, hb1]
        refine GCall_of (PC.val (v' := .tuple [.agg [I p1, I p2], I 0]) (Place_pc Y _ s g hsO hgO sc) (by rw [hp1, hp2, hp3])) ?_   -- t150
        simp only [go_sem, hb0, hs, hb1, hdec, hb2, hg, hb3, hod, hb4, had, hb5, hfd, hb6, hsc, hb1]
        refine hR _ _ (kq27 _ _ ?_); clear hR R; try clear kq27 kz27
        try simp only [go_sem, hb0, hs, hb1, hdec, hb2, hg, hb3, hod, hb4, had, hb5, hfd, hb6, hsc, hb1]
        refine W_seq fun kz28 kq28 => ?_
        refine W_region [4, 5, 6, 14, 15, 16, 17, 18, 19, 20, 21] fun R hR => ?_   -- r24
        simp only [go_sem, hb0, hs, hb1, hdec, hb2, hg, hb3, hod, hb4, had, hb5, hfd, hb6, hsc, hb1]
        refine GCall_of (PC.ofRo (PC.val (v' := .tuple [.agg [I p1, I p2], I 0]) (Place_pc Y _ s ⟨l, m, fi⟩ hsO hoO sc) (by rw [eP, hp1, hp2, hp3])) (by simp only [go_sem] <;> rfl)) ?_   -- t157
        simp only [go_sem, hb0, hs, hb1, hdec, hb2, hg, hb3, hod, hb4, had, hb5, hfd, hb6, hsc, hb1]
        refine hR _ _ (kq28 _ _ ?_); clear hR R; try clear kq28 kz28
        try simp only [go_sem, hb0, hs, hb1, hdec, hb2, hg, hb3, hod, hb4, had, hb5, hfd, hb6, hsc, hb1]
        refine W_seq fun kz29 kq29 => ?_
        refine W_region [4, 6, 14, 15, 16, 17, 18, 19, 20, 21, 22, 23] fun R hR => ?_   -- r25
        simp only [go_sem, hb0, hs, hb1, hdec, hb2, hg, hb3, hod, hb4, had, hb5, hfd, hb6, hsc, hb1]
        refine GCall_of (PC.val (v' := .tuple [sds tb, I te]) (Table_pc Y _ s g hsO hgO) (by rw [htb, hte])) ?_   -- t163
        simp only [go_sem, hb0, hs, hb1, hdec, hb2, hg, hb3, hod, hb4, had, hb5, hfd, hb6, hsc, hb1]
        refine hR _ _ (kq29 _ _ ?_); clear hR R; try clear kq29 kz29
        try simp only [go_sem, hb0, hs, hb1, hdec, hb2, hg, hb3, hod, hb4, had, hb5, hfd, hb6, hsc, hb1]
        refine W_seq fun kz30 kq30 => ?_
        refine W_region [14, 15, 16, 17, 18, 19, 20, 21, 22, 23, 24, 25] fun R hR => ?_   -- r26
        simp only [go_sem, hb0, hs, hb1, hdec, hb2, hg, hb3, hod, hb4, had, hb5, hfd, hb6, hsc, hb1]
        refine GCall_of (PC.ofRo (PC.val (v' := .tuple [sds tb, I te]) (Table_pc Y _ s ⟨l, m, fi⟩ hsO hoO) (by rw [eB, htb, hte])) (by simp only [go_sem] <;> rfl)) ?_   -- t169
        simp only [go_sem, hb0, hs, hb1, hdec, hb2, hg, hb3, hod, hb4, had, hb5, hfd, hb6, hsc, hb1]
        refine hR _ _ (kq30 _ _ ?_); clear hR R; try clear kq30 kz30
        try simp only [go_sem, hb0, hs, hb1, hdec, hb2, hg, hb3, hod, hb4, had, hb5, hfd, hb6, hsc, hb1]
        refine W_seq fun kz31 kq31 => ?_
        refine W_region [2] fun R hR => ?_   -- r27
        simp only [go_sem, hb0, hs, hb1, hdec, hb2, hg, hb3, hod, hb4, had, hb5, hfd, hb6, hsc, hb1]
        refine GCall_of (PC.val (v' := .bool true) (EqSpans_pc Y _ T T .ro .ro (by omega)) (by simp)) ?_   -- t194
        simp only [go_sem, hb0, hs, hb1, hdec, hb2, hg, hb3, hod, hb4, had, hb5, hfd, hb6, hsc, hb1]
        refine GCall_of (PC.val (v' := .bool true) (EqTables_pc Y _ tb tb .ro .ro (by omega) (fun x hx => by have := htbp x hx; omega)) (by simp)) ?_   -- t204
        simp only [go_sem, hb0, hs, hb1, hdec, hb2, hg, hb3, hod, hb4, had, hb5, hfd, hb6, hsc, hb1]
        refine GCall_of (awake_pc Y _) ?_   -- t207
        simp only [go_sem, hb0, hs, hb1, hdec, hb2, hg, hb3, hod, hb4, had, hb5, hfd, hb6, hsc, hb1]
        refine hR _ _ (kq31 _ _ ?_); clear hR R; try clear kq31 kz31
        try simp only [go_sem, hb0, hs, hb1, hdec, hb2, hg, hb3, hod, hb4, had, hb5, hfd, hb6, hsc, hb1]
        refine W_ret ?_
        simp only [go_sem, hb0, hs, hb1, hdec, hb2, hg, hb3, hod, hb4, had, hb5, hfd, hb6, hsc, hb1]
        refine ⟨.inr (by trivial), ?_⟩
        first | refine Fin_same hcl rfl (Wk_eq ?_ (by simp only [go_sem])) | refine Fin_self hcl rfl (Wk_eq ?_ (by simp only [go_sem]))
        try simp only [go_sem]
        all_goals
          first | rfl | (simp_all; done)
end Go.Proofs.Ytgelnjmddabgpaa
namespace Go.Proofs.Ytgelnjmddabgpaa
open Go Go.RowKit
theorem rdMarksOrderArgs : All2 (fun t R => Rd Try.prog t R) Try.f3.params.toList [fun p => ∃ xs : List Int, p = ints xs ∧ intsSz xs] :=
  .cons rdInts .nil
set_option maxHeartbeats 4000000 in
theorem MarksOrder_walk : ∀ qs, AllR [fun p => ∃ xs : List Int, p = ints xs ∧ intsSz xs] qs → ∃ σ', PC Try.prog noY 3 qs Sg.zero (.bool true) σ' := by
  intro qs hq
  obtain ⟨px0, qs, rfl, ⟨x0, hx0, sx0⟩, hq⟩ := allR_cons hq
  obtain rfl := allR_nil hq
  subst hx0
  exact ⟨_, MarksOrder_pc noY _ x0 (by unfold intsSz at sx0; omega)⟩
theorem MarksOrder_lifted (os : Os) (started : os.Started) (H : Type) (enc : TypeId × Value → H) :
    ReturnsInHanded {} Try.checked os 3 .any (Rows.marksOrderSpec.pre6 enc Try.prog Try.f3 Rows.marksOrderRow.domain false) (Rows.marksOrderSpec.post enc Try.prog Try.f3 false true false false) :=
  law_lifted (C := Try.checked) own started (by kernel_rfl) Try.func3 rfl laidOut (by kernel_rfl) rdMarksOrderArgs rfl Try.underlying4
    (fun ds h => match ds, h with | [_], _ => rfl)
    (ChangeSpec.witness6 (enc := enc) (C := Try.checked) false ⟨#[], #[.slice none 0 0], []⟩ 8 (by kernel_rfl) (by kernel_rfl) (by kernel_rfl) (by kernel_rfl))
    MarksOrder_walk
theorem MarksOrder_holds : Rows.MarksOrderSaid :=
  OpenClaim.holds_of_wide 3 Try.f3 rfl rfl rfl rfl rfl rfl rfl ⟨rfl, rfl, rfl, rfl, rfl⟩ rfl rfl rfl rfl rfl (by kernel_rfl) Try.func3 (by kernel_rfl)
    (of_decide_eq_true (by kernel_rfl)) (by unfold Func.isWrapper; first | (rw [if_pos (by decide +kernel)]; kernel_rfl) | (rw [if_neg (by decide +kernel)]; exact ⟨rfl, rfl⟩))
    (fun os started H enc _ => MarksOrder_lifted os started H enc)
end Go.Proofs.Ytgelnjmddabgpaa
