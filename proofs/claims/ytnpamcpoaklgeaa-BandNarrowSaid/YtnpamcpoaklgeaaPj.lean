/-
  Plain law: verdicts on crossings: sure, never, both ways round, with narrower starts.
  Walks: who is granted; true starts; squares; the laws' data.
  Plain law: what is said to requests.
-/
import Derived.Test.YtnpamcpoaklgeaaPg
import Derived.Test.YtnpamcpoaklgeaaPi
set_option linter.unusedSimpArgs false
set_option linter.unusedVariables false
namespace Go.Proofs.Ytnpamcpoaklgeaa
open Go Go.RowKit

theorem upTo_ind {α : Type} {f : Int → α → α} {lo : Int} (Pr : Int → α → Prop) {a : α} (h0 : Pr lo a) (hs : ∀ i x, lo ≤ i → Pr i x → Pr (i + 1) (f i x)) : ∀ {s : Int}, lo ≤ s → Pr s (upTo f lo s a) := by
  intro s hls
  obtain ⟨n, rfl⟩ : ∃ n : Nat, s = lo + n := ⟨(s - lo).toNat, by omega⟩
  induction n with
  | zero => simpa [upTo_start] using h0
  | succ n ih =>
    have := hs (lo + n) _ (by omega) (ih (by omega))
    rw [← upTo_step f (by omega)] at this
    have e : lo + ((n + 1 : Nat) : Int) = lo + n + 1 := by omega
    rw [e]
    exact this
theorem crRow_iff (X : Int → Int → Bool) (blo bhi i : Int) (hb : blo ≤ bhi + 1) (p : Bool × Bool) :
    ((crRow X blo bhi i p).1 = true ↔ (p.1 = true ∨ ∃ j, blo ≤ j ∧ j ≤ bhi ∧ X i j = true)) ∧ ((crRow X blo bhi i p).2 = true ↔ (p.2 = true ∧ ∀ j, blo ≤ j → j ≤ bhi → X i j = true)) := by
  have := upTo_ind (f := crStep X i) (lo := blo) (a := p) (fun s q => (q.1 = true ↔ (p.1 = true ∨ ∃ j, blo ≤ j ∧ j < s ∧ X i j = true)) ∧ (q.2 = true ↔ (p.2 = true ∧ ∀ j, blo ≤ j → j < s → X i j = true)))
    ⟨⟨.inl, fun h => h.elim id fun ⟨j, h1, h2, _⟩ => by omega⟩, ⟨fun h => ⟨h, fun j h1 h2 => by omega⟩, fun h => h.1⟩⟩ (fun s q hs h => ?_) hb
  · unfold crRow
    refine ⟨this.1.trans ⟨fun h => h.imp id fun ⟨j, h1, h2, h3⟩ => ⟨j, h1, by omega, h3⟩, fun h => h.imp id fun ⟨j, h1, h2, h3⟩ => ⟨j, h1, by omega, h3⟩⟩, this.2.trans ⟨fun h => ⟨h.1, fun j h1 h2 => h.2 j h1 (by omega)⟩, fun h => ⟨h.1, fun j h1 h2 => h.2 j h1 (by omega)⟩⟩⟩
  · obtain ⟨h1, h2⟩ := h
    simp only [crStep, Bool.or_eq_true, Bool.and_eq_true]
    refine ⟨⟨?_, ?_⟩, ⟨?_, ?_⟩⟩
    · rintro (h | h)
      · exact (h1.1 h).imp id fun ⟨j, a, b, c⟩ => ⟨j, a, by omega, c⟩
      · exact .inr ⟨s, hs, by omega, h⟩
    · rintro (h | ⟨j, a, b, c⟩)
      · exact .inl (h1.2 (.inl h))
      · by_cases e : j = s
        · subst e; exact .inr c
        · exact .inl (h1.2 (.inr ⟨j, a, by omega, c⟩))
    · rintro ⟨ha, hb⟩
      obtain ⟨k1, k2⟩ := h2.1 ha
      refine ⟨k1, fun j a b => ?_⟩
      by_cases e : j = s
      · subst e; exact hb
      · exact k2 j a (by omega)
    · rintro ⟨k1, k2⟩
      exact ⟨h2.2 ⟨k1, fun j a b => k2 j a (by omega)⟩, k2 s hs (by omega)⟩
theorem crAll_iff (X : Int → Int → Bool) (alo ahi blo bhi : Int) (ha : alo ≤ ahi + 1) (hb : blo ≤ bhi + 1) :
    ((crAll X alo ahi blo bhi).1 = true ↔ ∃ i j, alo ≤ i ∧ i ≤ ahi ∧ blo ≤ j ∧ j ≤ bhi ∧ X i j = true) ∧ ((crAll X alo ahi blo bhi).2 = true ↔ ∀ i j, alo ≤ i → i ≤ ahi → blo ≤ j → j ≤ bhi → X i j = true) := by
  have := upTo_ind (f := crRow X blo bhi) (lo := alo) (a := ((false, true) : Bool × Bool)) (fun s q => (q.1 = true ↔ ∃ i j, alo ≤ i ∧ i < s ∧ blo ≤ j ∧ j ≤ bhi ∧ X i j = true) ∧ (q.2 = true ↔ ∀ i j, alo ≤ i → i < s → blo ≤ j → j ≤ bhi → X i j = true))
    ⟨⟨fun h => (by cases h), fun ⟨i, j, h1, h2, _⟩ => (by omega)⟩, ⟨fun _ i j h1 h2 => (by omega), fun _ => rfl⟩⟩ (fun s q hs h => ?_) ha
  · unfold crAll
    refine ⟨this.1.trans ⟨fun ⟨i, j, h1, h2, h3⟩ => ⟨i, j, h1, by omega, h3⟩, fun ⟨i, j, h1, h2, h3⟩ => ⟨i, j, h1, by omega, h3⟩⟩, this.2.trans ⟨fun h i j h1 h2 => h i j h1 (by omega), fun h i j h1 h2 => h i j h1 (by omega)⟩⟩
  · obtain ⟨r1, r2⟩ := crRow_iff X blo bhi s hb q
    refine ⟨r1.trans ?_, r2.trans ?_⟩
    · rw [h.1]
      constructor
      · rintro (⟨i, j, a, b, c⟩ | ⟨j, a, b, c⟩)
        · exact ⟨i, j, a, by omega, c⟩
        · exact ⟨s, j, hs, by omega, a, b, c⟩
      · rintro ⟨i, j, a, b, c, d, e⟩
        by_cases ei : i = s
        · subst ei; exact .inr ⟨j, c, d, e⟩
        · exact .inl ⟨i, j, a, by omega, c, d, e⟩
    · rw [h.2]
      constructor
      · rintro ⟨h1, h2⟩ i j a b c d
        by_cases ei : i = s
        · subst ei; exact h2 j c d
        · exact h1 i j a (by omega) c d
      · intro hh
        exact ⟨fun i j a b c d => hh i j a (by omega) c d, fun j c d => hh s j hs (by omega) c d⟩
/-- Whether all, and whether some, of the pairs are so. -/
def allX (X : Int → Int → Bool) (alo ahi blo bhi : Int) : Prop := ∀ i j, alo ≤ i → i ≤ ahi → blo ≤ j → j ≤ bhi → X i j = true
def someX (X : Int → Int → Bool) (alo ahi blo bhi : Int) : Prop := ∃ i j, alo ≤ i ∧ i ≤ ahi ∧ blo ≤ j ∧ j ≤ bhi ∧ X i j = true
theorem crossOf_cases (X : Int → Int → Bool) {alo ahi blo bhi : Int} (ha : alo ≤ ahi) (hb : blo ≤ bhi) :
    (crossOf X alo ahi blo bhi = 1 ↔ allX X alo ahi blo bhi) ∧ (crossOf X alo ahi blo bhi = 2 ↔ ¬ someX X alo ahi blo bhi) ∧ (crossOf X alo ahi blo bhi = 1 ∨ crossOf X alo ahi blo bhi = 2 ∨ crossOf X alo ahi blo bhi = 3) := by
  obtain ⟨h1, h2⟩ := crAll_iff X alo ahi blo bhi (by omega) (by omega)
  have hs : allX X alo ahi blo bhi → someX X alo ahi blo bhi := fun h => ⟨alo, blo, by omega, ha, by omega, hb, h _ _ (by omega) ha (by omega) hb⟩
  unfold crossOf
  by_cases k2 : (crAll X alo ahi blo bhi).2 = true
  · rw [if_pos k2]
    have := h2.1 k2
    exact ⟨⟨fun _ => this, fun _ => rfl⟩, ⟨fun h => (by omega), fun h => absurd (hs this) h⟩, .inl rfl⟩
  · rw [if_neg k2]
    have n2 : ¬ allX X alo ahi blo bhi := fun h => k2 (h2.2 h)
    by_cases k1 : (crAll X alo ahi blo bhi).1 = true
    · rw [if_pos k1]
      exact ⟨⟨fun h => (by omega), fun h => absurd h n2⟩, ⟨fun h => (by omega), fun h => absurd (h1.1 k1) h⟩, .inr (.inr rfl)⟩
    · rw [if_neg k1]
      exact ⟨⟨fun h => (by omega), fun h => absurd h n2⟩, ⟨fun _ h => k1 (h1.2 h), fun _ => rfl⟩, .inr (.inl rfl)⟩
theorem crossOf_eq {X Y : Int → Int → Bool} {alo ahi blo bhi alo' ahi' blo' bhi' : Int} (ha : alo ≤ ahi) (hb : blo ≤ bhi) (ha' : alo' ≤ ahi') (hb' : blo' ≤ bhi')
    (h1 : allX X alo ahi blo bhi ↔ allX Y alo' ahi' blo' bhi') (h2 : someX X alo ahi blo bhi ↔ someX Y alo' ahi' blo' bhi') : crossOf X alo ahi blo bhi = crossOf Y alo' ahi' blo' bhi' := by
  obtain ⟨a1, a2, a3⟩ := crossOf_cases X ha hb
  obtain ⟨b1, b2, b3⟩ := crossOf_cases Y ha' hb'
  rcases a3 with e | e | e
  · rw [e, b1.2 (h1.1 (a1.1 e))]
  · rw [e, b2.2 (fun h => a2.1 e (h2.2 h))]
  · rcases b3 with f | f | f
    · have := a1.2 (h1.2 (b1.1 f)); omega
    · have := a2.2 (fun h => b2.1 f (h2.1 h)); omega
    · rw [e, f]

theorem meetB_iff {c : City} {a b : Band} {m n : Int} : meetB c a b m n = true ↔ ∃ i k, i < (sqs c a).1.length ∧ k < (sqs c b).1.length ∧ mtT c.brk a b (sqs c a).1 (sqs c b).1 m n i k = true := by
  constructor
  · intro h
    unfold meetB at h
    rw [List.any_eq_true] at h
    obtain ⟨i, hi, h⟩ := h
    rw [List.any_eq_true] at h
    obtain ⟨k, hk, h⟩ := h
    exact ⟨i, k, List.mem_range.1 hi, List.mem_range.1 hk, h⟩
  · rintro ⟨i, k, hi, hk, h⟩
    exact meetB_true hi hk h
theorem mtT_symm {brk : Int} {a b : Band} {p q : List Int} {m n : Int} {i k : Nat} (h : mtT brk a b p q m n i k = true) : mtT brk b a q p n m k i = true := by
  simp only [mtT, mtA, mtB, Bool.or_eq_true, Bool.and_eq_true, decide_eq_true_eq] at h ⊢
  rcases h with ⟨⟨h1, h2⟩, h3⟩ | ⟨⟨⟨h1, h2⟩, h3⟩, h4⟩
  · exact .inl ⟨⟨h1.symm, h3⟩, h2⟩
  · exact .inr ⟨⟨⟨h2, h1⟩, h3.symm⟩, h4.symm⟩
theorem meetB_symm (c : City) (a b : Band) (m n : Int) : meetB c a b m n = meetB c b a n m := by
  rw [Bool.eq_iff_iff, meetB_iff, meetB_iff]
  exact ⟨fun ⟨i, k, h1, h2, h3⟩ => ⟨k, i, h2, h1, mtT_symm h3⟩, fun ⟨i, k, h1, h2, h3⟩ => ⟨k, i, h2, h1, mtT_symm h3⟩⟩
/-- A band whose times are in order. -/
theorem chkBand_st {c : City} {b : Band} (h : chkBand c b = 0) : (sqs c b).2 = 0 ∧ 1 ≤ b.stay ∧ b.lo ≤ b.hi := by
  obtain ⟨h1, h2⟩ := chkBand_ok h
  have := timesOf_ok h2
  exact ⟨h1, by omega, by omega⟩
theorem crossVal_meet {c : City} {a b : Band} (hc : chkCity c = 0) (ha : chkBand c a = 0) (hb : chkBand c b = 0) : crossVal c a b = crossOf (meetB c a b) a.lo a.hi b.lo b.hi := by
  obtain ⟨a1, a2, a3⟩ := chkBand_st ha
  obtain ⟨b1, b2, b3⟩ := chkBand_st hb
  unfold crossVal
  exact crossOf_congr (by omega) (by omega) fun i j _ _ _ _ => crossing_meet (chkCity_brk hc).1 a1 b1 a2 b2
theorem crossVal_symm {c : City} {a b : Band} (hc : chkCity c = 0) (ha : chkBand c a = 0) (hb : chkBand c b = 0) : crossVal c a b = crossVal c b a := by
  obtain ⟨a1, a2, a3⟩ := chkBand_st ha
  obtain ⟨b1, b2, b3⟩ := chkBand_st hb
  rw [crossVal_meet hc ha hb, crossVal_meet hc hb ha]
  refine crossOf_eq a3 b3 b3 a3 ⟨fun h j i h1 h2 h3 h4 => ?_, fun h i j h1 h2 h3 h4 => ?_⟩ ⟨fun ⟨i, j, h1, h2, h3, h4, h5⟩ => ⟨j, i, h3, h4, h1, h2, ?_⟩, fun ⟨j, i, h1, h2, h3, h4, h5⟩ => ⟨i, j, h3, h4, h1, h2, ?_⟩⟩
  · rw [← meetB_symm]; exact h i j h3 h4 h1 h2
  · rw [meetB_symm]; exact h j i h3 h4 h1 h2
  · rw [← meetB_symm]; exact h5
  · rw [meetB_symm]; exact h5
theorem crossVal_never {c : City} {a b : Band} (hc : chkCity c = 0) (ha : chkBand c a = 0) (hb : chkBand c b = 0) : crossVal c a b = 2 ↔ ¬ someX (meetB c a b) a.lo a.hi b.lo b.hi := by
  obtain ⟨a1, a2, a3⟩ := chkBand_st ha
  obtain ⟨b1, b2, b3⟩ := chkBand_st hb
  rw [crossVal_meet hc ha hb]
  exact (crossOf_cases _ a3 b3).2.1
theorem crossVal_sure {c : City} {a b : Band} (hc : chkCity c = 0) (ha : chkBand c a = 0) (hb : chkBand c b = 0) : crossVal c a b = 1 ↔ allX (meetB c a b) a.lo a.hi b.lo b.hi := by
  obtain ⟨a1, a2, a3⟩ := chkBand_st ha
  obtain ⟨b1, b2, b3⟩ := chkBand_st hb
  rw [crossVal_meet hc ha hb]
  exact (crossOf_cases _ a3 b3).1
theorem crossVal_range {c : City} {a b : Band} (hc : chkCity c = 0) (ha : chkBand c a = 0) (hb : chkBand c b = 0) : crossVal c a b = 1 ∨ crossVal c a b = 2 ∨ crossVal c a b = 3 := by
  obtain ⟨a1, a2, a3⟩ := chkBand_st ha
  obtain ⟨b1, b2, b3⟩ := chkBand_st hb
  rw [crossVal_meet hc ha hb]
  exact (crossOf_cases _ a3 b3).2.2
/-- The same band with other starts. -/
def Band.At (b : Band) (lo hi : Int) : Band := { b with lo := lo, hi := hi }
theorem meetB_at (c : City) (a b : Band) (m n x y z w : Int) : meetB c (a.At x y) (b.At z w) m n = meetB c a b m n := rfl
theorem crossVal_narrow {c : City} {a b : Band} {x y z w : Int} (hc : chkCity c = 0) (ha : chkBand c a = 0) (hb : chkBand c b = 0) (ha' : chkBand c (a.At x y) = 0) (hb' : chkBand c (b.At z w) = 0)
    (h1 : a.lo ≤ x) (h2 : y ≤ a.hi) (h3 : b.lo ≤ z) (h4 : w ≤ b.hi) (hv : crossVal c a b ≠ 3) : crossVal c (a.At x y) (b.At z w) = crossVal c a b := by
  rcases crossVal_range hc ha hb with e | e | e
  · rw [e, crossVal_sure hc ha' hb']
    have := (crossVal_sure hc ha hb).1 e
    intro i j k1 k2 k3 k4
    simp only [Band.At] at k1 k2 k3 k4
    exact this i j (by omega) (by omega) (by omega) (by omega)
  · rw [e, crossVal_never hc ha' hb']
    have := (crossVal_never hc ha hb).1 e
    rintro ⟨i, j, k1, k2, k3, k4, k5⟩
    simp only [Band.At] at k1 k2 k3 k4
    exact this ⟨i, j, by omega, by omega, by omega, by omega, k5⟩
  · exact absurd e hv
end Go.Proofs.Ytnpamcpoaklgeaa

namespace Go.Proofs.Ytnpamcpoaklgeaa
open Go Go.RowKit
set_option maxRecDepth 100000

def grantedOf : List Band → List Int → List Band
  | b :: l, e :: es => if e = 0 then b :: grantedOf l es else grantedOf l es
  | _, _ => []
theorem grantedOf_mem : ∀ {l : List Band} {es : List Int} {b : Band}, b ∈ grantedOf l es → b ∈ l := by
  intro l
  induction l with
  | nil => intro es b h; cases es <;> exact absurd h (by simp [grantedOf])
  | cons a l ih =>
    intro es b h
    cases es with
    | nil => simp [grantedOf] at h
    | cons e es =>
      simp only [grantedOf] at h
      split at h
      · rcases List.mem_cons.1 h with rfl | h
        · simp
        · simp [ih h]
      · simp [ih h]
theorem grantedOf_len : ∀ (l : List Band) (es : List Int), (grantedOf l es).length ≤ l.length := by
  intro l
  induction l with
  | nil => intro es; cases es <;> simp [grantedOf]
  | cons a l ih =>
    intro es
    cases es with
    | nil => simp [grantedOf]
    | cons e es =>
      simp only [grantedOf]
      split <;> simp <;> have := ih es <;> omega
theorem grantL_len (c : City) : ∀ (l w : List Band), (grantL c w l).length = l.length := by
  intro l
  induction l with
  | nil => intro w; rfl
  | cons b l ih => intro w; simp [grantL, ih]
theorem grantL_take (c : City) : ∀ (l w : List Band) (k : Nat), grantL c w (l.take k) = (grantL c w l).take k := by
  intro l
  induction l with
  | nil => intro w k; simp [grantL]
  | cons b l ih =>
    intro w k
    cases k with
    | zero => simp [grantL]
    | succ k => simp [grantL, ih]
theorem grantL_again (c : City) : ∀ (l w : List Band), ∀ e, e ∈ grantL c w (grantedOf l (grantL c w l)) → e = 0 := by
  intro l
  induction l with
  | nil => intro w e h; simp [grantL, grantedOf] at h
  | cons b l ih =>
    intro w e h
    simp only [grantL, grantedOf] at h
    by_cases hr : reqOf c w b = 0
    · rw [if_pos hr, if_pos hr] at h
      simp only [grantL] at h
      rw [if_pos hr] at h
      rcases List.mem_cons.1 h with rfl | h
      · exact hr
      · exact ih _ e h
    · rw [if_neg hr, if_neg hr] at h
      exact ih _ e h
theorem chkBands_of {c : City} : ∀ {l : List Band}, (∀ b, b ∈ l → chkBand c b = 0) → chkBands c l = 0 := by
  intro l
  induction l with
  | nil => intro _; rfl
  | cons b l ih =>
    intro h
    simp only [chkBands]
    rw [if_neg (by rw [h b (by simp)]; simp)]
    exact ih fun x hx => h x (by simp [hx])
theorem chkAll_of {c : City} {l : List Band} (h1 : chkCity c = 0) (h2 : l.length ≤ 10) (h3 : ∀ b, b ∈ l → chkBand c b = 0) : chkAll c l = 0 := by
  unfold chkAll
  rw [if_neg (by rw [h1]; simp), if_neg (by omega), chkBands_of h3]
theorem grantAns_of {c : City} {l : List Band} (h1 : chkCity c = 0) (h2 : l.length ≤ 10) (h3 : ∀ b, b ∈ l → chkBand c b = 0) : grantAns c l = (grantL c [] l, 0) := by
  unfold grantAns
  rw [if_neg (by rw [chkAll_of h1 h2 h3]; simp)]
theorem BandV.okl {c : City} {l : List Band} (h : ∀ b, b ∈ l → BandV c b) (hl : l.length ≤ 10) : BandsOk l := ⟨by omega, fun b hb => by have := (h b hb).p1; omega⟩


theorem BandV.seq {c : City} {b : Band} (h : BandV c b) : 0 ≤ b.lo ∧ b.lo ≤ b.hi ∧ b.hi ≤ 720 ∧ 1 ≤ b.stay ∧ b.stay ≤ 20 := by
  have := h.l0; have := h.l1; have := h.l2; have := h.s0; have := h.s1; have := h.e1
  have hm : 0 ≤ b.stay * ((b.path.length : Int) + 1) := Int.mul_nonneg (by omega) (by omega)
  omega
theorem any_snoc {α : Type} {q : α → Bool} {l : List α} {i : Nat} {x : α} (h : l[i]? = some x) : (l.take (i + 1)).any q = ((l.take i).any q || q x) := by
  rw [List.take_add_one, h]; simp
def ofD (lo hi : Int) : D Int := dbind (roll 4) fun k => if k = 0 then dret lo else if k = 1 then dret hi else mid lo hi
theorem ofD_bd {lo hi : Int} (h : lo ≤ hi) : Holds (ofD lo hi) fun r => lo ≤ r ∧ r ≤ hi := by
  unfold ofD
  refine (roll_bd 4).bind fun k _ => ?_
  split
  · exact .ret ⟨by omega, by omega⟩
  · split
    · exact .ret ⟨by omega, by omega⟩
    · exact mid_bd lo hi h
def squaresAns (c : City) (b : Band) : List Int × Int := if askedOf c [b] ≠ 0 then ([], askedOf c [b]) else sqs c b
set_option maxHeartbeats 2000000 in
theorem lgranted_pc (Y : YEnv) (σ : Sg) (l : List Band) (es : List Int) (hl : l.length ≤ 2 ^ 30) (he : l.length ≤ es.length) :
    PC Try.prog Y 32 [bands l, ints es] σ (bands (grantedOf l es)) (σ) := by
  refine PC_of_W Try.func32 rfl (by kernel_rfl) Try.ntmps32 (by simp) fun hcl hca => ?_
  refine W_seq fun kz1 kq1 => ?_
  refine W_region [0, 1] fun R hR => ?_   -- r0
  simp only [go_sem]
  refine hR _ _ (kq1 _ _ ?_); clear hR R; try clear kq1 kz1
  try simp only [go_sem]
  refine W_seq fun kz2 kq2 => ?_
  refine W_region [0, 1, 5] fun R hR => ?_   -- r1
  simp only [go_sem]
  refine hR _ _ (kq2 _ _ ?_); clear hR R; try clear kq2 kz2
  try simp only [go_sem]
  refine W_seq fun kz3 kq3 => ?_
  refine W_seq fun kz4 kq4 => ?_
  refine W_region [0, 1, 5, 6] fun R hR => ?_   -- r2
  simp only [go_sem]
  refine hR _ _ (kq4 _ _ ?_); clear hR R; try clear kq4 kz4
  try simp only [go_sem]
  refine W_block ?_
  refine W_weak (Weak.room (t := 5) (es := 6) rfl (by simp)) ?_
  refine W_weak (Weak.keep [0, 1, 5, 6]) ?_
  simp only [go_sem]
  refine W_loopT (α := Nat × (List Band)) (fun ⟨i, out⟩ => [(5, .isl (out.map bdPV) (.tok σ.rooms.length out.length 6)), (6, I i)]) (fun ⟨i, out⟩ => σ.ext [] [out.length]) (fun ⟨i, out⟩ => i ≤ l.length ∧ out.length ≤ i ∧ grantedOf l es = out ++ grantedOf (l.drop i) (es.drop i)) (fun ⟨i, out⟩ => l.length - i) ((0, [])) rfl (by first | rfl | (simp only [go_sem]; done) | (simp only [go_sem]; rfl)) (⟨Nat.zero_le _, Nat.le_refl _, rfl⟩) ?_
  rintro ⟨i, out⟩ ⟨hi, ho, hinv⟩
  refine W_seq fun kz5 kq5 => ?_
  refine W_seq fun kz6 kq6 => ?_
  refine W_regionJ [0, 1, 5, 6, 16] [(16, .bool (decide (i < l.length)))] ?_ fun R hR => ?_   -- r3
  · refine kq6 _ _ ?_
    simp only [go_sem]
    refine W_cond rfl (fun c1 => ?_) (fun c1 => ?_)
    · -- c1 true
      try simp only [nrm] at c1
      have hi' : i < l.length := by first | assumption | omega
      obtain ⟨b, hx⟩ : ∃ b, l[i]? = some b := ⟨l[i], by simp [hi']⟩
      have hdrop : l.drop i = b :: l.drop (i + 1) := by
        rw [List.drop_eq_getElem_cons hi']; congr 1; exact (List.getElem?_eq_some_iff.1 hx).2
      obtain ⟨e, hy⟩ : ∃ e, es[i]? = some e := ⟨es[i]'(by omega), by simp⟩
      have hdrop2 : es.drop i = e :: es.drop (i + 1) := by
        rw [List.drop_eq_getElem_cons (by omega)]; congr 1; exact (List.getElem?_eq_some_iff.1 hy).2
      rw [hdrop, hdrop2] at hinv
      simp only [grantedOf] at hinv
      refine W_skip (kq5 _ _ ?_)
      refine W_seq fun kz7 kq7 => ?_
      refine W_block ?_
      refine W_seq fun kz8 kq8 => ?_
      refine W_region [0, 1, 5, 6, 23] fun R hR => ?_   -- r5
      simp only [go_sem, hx, hy]
      refine hR _ _ (kq8 _ _ ?_); clear hR R; try clear kq8 kz8
      try simp only [go_sem, hx, hy]
      refine W_cond rfl (fun c2 => ?_) (fun c2 => ?_)
      · -- c2 true
        try simp only [nrm] at c2
        refine W_region [0, 1, 5, 6] fun R hR => ?_   -- r6
        simp only [go_sem, hx, hy]
        simp (disch := first | omega | (simp only [go_sem] <;> omega)) only [wrapI, wrapU, appX_exact, appX_tok]
        try simp only [go_sem, hx, hy]
        refine hR _ _ (kq7 _ _ ?_); clear hR R; try clear kq7 kz7
        try simp only [go_sem, hx, hy]
        refine W_region [0, 1, 5, 6] fun R hR => ?_   -- r4
        simp only [go_sem, hx, hy]
        try simp (disch := omega) only [wrapI, wrapU]
        refine hR _ _ ?_; clear hR R
        try simp only [go_sem, hx, hy]
        refine ⟨(i + 1, out ++ [b]), ?_, by (try simp only []); omega, ?_⟩
        · first | exact Weak.refl | exact Weak.eq (by first | rfl | (simp only [go_sem]; done) | (simp only [go_sem]; rfl) | (simp [go_sem]; done) | (simp [go_sem]; omega)) (by first | rfl | (simp only [go_sem]; done) | (simp [go_sem]; done))
        · try dsimp only
          exact ⟨hi', by (try simp); omega, by rw [hinv]; simp [c2]⟩
      · -- c2 false
        try simp only [nrm] at c2
        refine W_skip (kq7 _ _ ?_)
        refine W_region [0, 1, 5, 6] fun R hR => ?_   -- r4
        simp only [go_sem, hx, hy]
        try simp (disch := omega) only [wrapI, wrapU]
        refine hR _ _ ?_; clear hR R
        try simp only [go_sem, hx, hy]
        refine ⟨(i + 1, out), ?_, by (try simp only []); omega, ?_⟩
        · first | exact Weak.refl | exact Weak.eq (by first | rfl | (simp only [go_sem]; done) | (simp only [go_sem]; rfl) | (simp [go_sem]; done) | (simp [go_sem]; omega)) (by first | rfl | (simp only [go_sem]; done) | (simp [go_sem]; done))
        · try dsimp only
          exact ⟨hi', by (try simp); omega, by rw [hinv]; simp [c2]⟩
    · -- c1 false
      try simp only [nrm] at c1
      have hdrop : l.drop i = [] := List.drop_eq_nil_of_le (by omega)
      rw [hdrop] at hinv
      simp only [grantedOf, List.append_nil] at hinv
      refine W_exit ?_
      simp only [go_sem]
      refine kq3 _ _ ?_
      refine W_seq fun kz9 kq9 => ?_
      refine W_region [4] fun R hR => ?_   -- r7
      simp only [go_sem]
      refine hR _ _ (kq9 _ _ ?_); clear hR R; try clear kq9 kz9
      try simp only [go_sem]
      refine W_ret ?_
      simp only [go_sem]
      refine ⟨.inr (by trivial), ?_⟩
      refine Fin_same hcl rfl (Wk.ro (by simp only [go_sem]) ?_)
      try simp only [go_sem]
      all_goals
        rw [hinv]
  · simp only [go_sem]
    refine GWant_split (fun g1 => ?_) (fun g1 => ?_)
    · try simp only [Bool.not_eq_true', Bool.not_eq_false'] at g1
      have n1 := g1; try simp only [nrm] at n1
      simp only [go_sem, g1]
      refine hR _ ?_
      try simp only [go_sem]
      all_goals
        first | rfl | (simp [*]; done) | (simp [*]; omega)
    · try simp only [Bool.not_eq_true', Bool.not_eq_false'] at g1
      have n1 := g1; try simp only [nrm] at n1
      simp only [go_sem, g1]
      refine hR _ ?_
      try simp only [go_sem]
      all_goals
        first | rfl | (simp [*]; done) | (simp [*]; omega)
set_option maxHeartbeats 2000000 in
theorem Of_pc (Y : YEnv) (σ : Sg) (d : Nat) (b : Int) (hd : σ.store[d]? = some (some [.int .u64 b])) (lo hi : Int) (h1 : -2 ^ 50 ≤ lo) (h2 : lo ≤ 2 ^ 50) (h3 : -2 ^ 50 ≤ hi) (h4 : hi ≤ 2 ^ 50) :
    PC Try.prog Y 36 [.ptr d 0, .agg [I lo, I hi]] σ (I (ofD lo hi b).1) (σ.setVar d [.int .u64 (ofD lo hi b).2]) := by
  refine PC_of_W Try.func36 rfl (by kernel_rfl) Try.ntmps36 (by simp) fun hcl hca => ?_
  have hlt := lt_of_get hd
  obtain ⟨k, hk⟩ : ∃ k, (roll 4 b).1 = k := ⟨_, rfl⟩
  obtain ⟨b1, hb1⟩ : ∃ k, (roll 4 b).2 = k := ⟨_, rfl⟩
  have hk1 := roll_bd 4 b
  simp only [hk] at hk1
  have e : ofD lo hi b = if k = 0 then (lo, b1) else if k = 1 then (hi, b1) else mid lo hi b1 := by
    unfold ofD
    rw [dbind_ap, hk, hb1]
    by_cases h0 : k = 0
    · rw [if_pos h0, if_pos h0]; rfl
    · rw [if_neg h0, if_neg h0]
      by_cases h1 : k = 1
      · rw [if_pos h1, if_pos h1]; rfl
      · rw [if_neg h1, if_neg h1]
  obtain ⟨r, hr⟩ : ∃ r, (ofD lo hi b).1 = r := ⟨_, rfl⟩
  obtain ⟨b2, hb2⟩ : ∃ r, (ofD lo hi b).2 = r := ⟨_, rfl⟩
  rw [hr, hb2]
  refine W_seq fun kz1 kq1 => ?_
  refine W_region [0, 3] fun R hR => ?_   -- r0
  simp only [go_sem, ldS_at hd, stX_at hd, ldS_sv hlt, stX_sv hlt, sv_ext hlt, sv_ext_sv hlt, hk, hb1]
  refine hR _ _ (kq1 _ _ ?_); clear hR R; try clear kq1 kz1
  try simp only [go_sem, ldS_at hd, stX_at hd, ldS_sv hlt, stX_sv hlt, sv_ext hlt, sv_ext_sv hlt, hk, hb1]
  refine W_seq fun kz2 kq2 => ?_
  refine W_seq fun kz3 kq3 => ?_
  refine W_region [0, 3, 6] fun R hR => ?_   -- r1
  simp only [go_sem, ldS_at hd, stX_at hd, ldS_sv hlt, stX_sv hlt, sv_ext hlt, sv_ext_sv hlt, hk, hb1]
  refine GCall_of (Roll_pc Y _ _ _ (by first | exact hd | exact sv_get hlt | exact get_svx hlt | exact get_extx hd) 4 (by omega)) ?_   -- t6
  simp only [go_sem, ldS_at hd, stX_at hd, ldS_sv hlt, stX_sv hlt, sv_ext hlt, sv_ext_sv hlt, hk, hb1]
  refine hR _ _ (kq3 _ _ ?_); clear hR R; try clear kq3 kz3
  try simp only [go_sem, ldS_at hd, stX_at hd, ldS_sv hlt, stX_sv hlt, sv_ext hlt, sv_ext_sv hlt, hk, hb1]
  refine W_block ?_
  refine W_seq fun kz4 kq4 => ?_
  refine W_region [0, 3, 6, 7] fun R hR => ?_   -- r2
  simp only [go_sem, ldS_at hd, stX_at hd, ldS_sv hlt, stX_sv hlt, sv_ext hlt, sv_ext_sv hlt, hk, hb1]
  refine hR _ _ (kq4 _ _ ?_); clear hR R; try clear kq4 kz4
  try simp only [go_sem, ldS_at hd, stX_at hd, ldS_sv hlt, stX_sv hlt, sv_ext hlt, sv_ext_sv hlt, hk, hb1]
  refine W_cond rfl (fun c1 => ?_) (fun c1 => ?_)
  · -- c1 true
    try simp only [nrm] at c1
    obtain ⟨rfl, rfl⟩ : r = lo ∧ b2 = b1 := by rw [← hr, ← hb2, e, if_pos c1]; exact ⟨rfl, rfl⟩
    refine W_seq fun kz5 kq5 => ?_
    refine W_region [4] fun R hR => ?_   -- r3
    simp only [go_sem, ldS_at hd, stX_at hd, ldS_sv hlt, stX_sv hlt, sv_ext hlt, sv_ext_sv hlt, hk, hb1]
    refine hR _ _ (kq5 _ _ ?_); clear hR R; try clear kq5 kz5
    try simp only [go_sem, ldS_at hd, stX_at hd, ldS_sv hlt, stX_sv hlt, sv_ext hlt, sv_ext_sv hlt, hk, hb1]
    refine W_ret ?_
    simp only [go_sem, ldS_at hd, stX_at hd, ldS_sv hlt, stX_sv hlt, sv_ext hlt, sv_ext_sv hlt, hk, hb1]
    refine ⟨.inr (by trivial), ?_⟩
    first | refine Fin_set hcl (by simp only [go_sem]) rfl (Wk_eq ?_ (by simp only [go_sem])) | refine Fin_set0 hcl (by simp only [go_sem]) rfl (Wk_eq ?_ (by simp only [go_sem]))
    try simp only [go_sem]
    all_goals
      first | rfl | (simp_all; done) | (simp_all; omega)
  · -- c1 false
    try simp only [nrm] at c1
    refine W_seq fun kz6 kq6 => ?_
    refine W_region [0, 3, 11] fun R hR => ?_   -- r4
    simp only [go_sem, ldS_at hd, stX_at hd, ldS_sv hlt, stX_sv hlt, sv_ext hlt, sv_ext_sv hlt, hk, hb1]
    refine hR _ _ (kq6 _ _ ?_); clear hR R; try clear kq6 kz6
    try simp only [go_sem, ldS_at hd, stX_at hd, ldS_sv hlt, stX_sv hlt, sv_ext hlt, sv_ext_sv hlt, hk, hb1]
    refine W_cond rfl (fun c2 => ?_) (fun c2 => ?_)
    · -- c2 true
      try simp only [nrm] at c2
      obtain ⟨rfl, rfl⟩ : r = hi ∧ b2 = b1 := by rw [← hr, ← hb2, e, if_neg c1, if_pos c2]; exact ⟨rfl, rfl⟩
      refine W_seq fun kz7 kq7 => ?_
      refine W_region [4] fun R hR => ?_   -- r5
      simp only [go_sem, ldS_at hd, stX_at hd, ldS_sv hlt, stX_sv hlt, sv_ext hlt, sv_ext_sv hlt, hk, hb1]
      refine hR _ _ (kq7 _ _ ?_); clear hR R; try clear kq7 kz7
      try simp only [go_sem, ldS_at hd, stX_at hd, ldS_sv hlt, stX_sv hlt, sv_ext hlt, sv_ext_sv hlt, hk, hb1]
      refine W_ret ?_
      simp only [go_sem, ldS_at hd, stX_at hd, ldS_sv hlt, stX_sv hlt, sv_ext hlt, sv_ext_sv hlt, hk, hb1]
      refine ⟨.inr (by trivial), ?_⟩
      first | refine Fin_set hcl (by simp only [go_sem]) rfl (Wk_eq ?_ (by simp only [go_sem])) | refine Fin_set0 hcl (by simp only [go_sem]) rfl (Wk_eq ?_ (by simp only [go_sem]))
      try simp only [go_sem]
      all_goals
        first | rfl | (simp_all; done) | (simp_all; omega)
    · -- c2 false
      try simp only [nrm] at c2
      obtain ⟨rfl, rfl⟩ : r = (mid lo hi b1).1 ∧ b2 = (mid lo hi b1).2 := by rw [← hr, ← hb2, e, if_neg c1, if_neg c2]; exact ⟨rfl, rfl⟩
      refine W_skip (kq2 _ _ ?_)
      refine W_seq fun kz8 kq8 => ?_
      refine W_region [4] fun R hR => ?_   -- r6
      simp only [go_sem, ldS_at hd, stX_at hd, ldS_sv hlt, stX_sv hlt, sv_ext hlt, sv_ext_sv hlt, hk, hb1]
      refine GCall_of (Mid_pc Y _ _ _ (by first | exact hd | exact sv_get hlt | exact get_svx hlt | exact get_extx hd) lo hi (by omega) (by omega) (by omega) (by omega)) ?_   -- t20
      simp only [go_sem, ldS_at hd, stX_at hd, ldS_sv hlt, stX_sv hlt, sv_ext hlt, sv_ext_sv hlt, hk, hb1]
      refine hR _ _ (kq8 _ _ ?_); clear hR R; try clear kq8 kz8
      try simp only [go_sem, ldS_at hd, stX_at hd, ldS_sv hlt, stX_sv hlt, sv_ext hlt, sv_ext_sv hlt, hk, hb1]
      refine W_ret ?_
      simp only [go_sem, ldS_at hd, stX_at hd, ldS_sv hlt, stX_sv hlt, sv_ext hlt, sv_ext_sv hlt, hk, hb1]
      refine ⟨.inr (by trivial), ?_⟩
      first | refine Fin_set hcl (by simp only [go_sem]) rfl (Wk_eq ?_ (by simp only [go_sem])) | refine Fin_set0 hcl (by simp only [go_sem]) rfl (Wk_eq ?_ (by simp only [go_sem]))
      try simp only [go_sem]
      all_goals
        first | rfl | (simp_all; done) | (simp_all; omega)
set_option maxHeartbeats 2000000 in
theorem bSquares_pc (Y : YEnv) (σ : Sg) (ct : City) (b : Band) (hc : ct.Ok) (hb : b.path.length < 2 ^ 50) :
    PC Try.prog Y 37 [ctPV ct, bdPV b] σ (sqPV (squaresAns ct b)) (σ) := by
  refine PC_of_W Try.func37 rfl (by kernel_rfl) Try.ntmps37 (by simp) fun hcl hca => ?_
  refine W_seq fun kz1 kq1 => ?_
  refine W_region [2, 3] fun R hR => ?_   -- r0
  simp only [go_sem]
  refine hR _ _ (kq1 _ _ ?_); clear hR R; try clear kq1 kz1
  try simp only [go_sem]
  refine W_seq fun kz2 kq2 => ?_
  refine W_seq fun kz3 kq3 => ?_
  refine W_region [2, 3, 6] fun R hR => ?_   -- r1
  simp only [go_sem]
  refine GCall_of (PC.ofRo (asked_pc Y _ ct [b] hc ⟨by simp, fun x hx => by simp at hx; subst hx; assumption⟩) (by simp only [go_sem] <;> rfl)) ?_   -- t10
  simp only [go_sem]
  refine hR _ _ (kq3 _ _ ?_); clear hR R; try clear kq3 kz3
  try simp only [go_sem]
  refine W_seq fun kz4 kq4 => ?_
  refine W_region [2, 3, 6, 12] fun R hR => ?_   -- r2
  simp only [go_sem]
  refine hR _ _ (kq4 _ _ ?_); clear hR R; try clear kq4 kz4
  try simp only [go_sem]
  refine W_cond rfl (fun c1 => ?_) (fun c1 => ?_)
  · -- c1 true
    try simp only [nrm] at c1
    refine W_seq fun kz5 kq5 => ?_
    refine W_region [4, 5] fun R hR => ?_   -- r3
    simp only [go_sem]
    refine hR _ _ (kq5 _ _ ?_); clear hR R; try clear kq5 kz5
    try simp only [go_sem]
    refine W_ret ?_
    simp only [go_sem]
    refine ⟨.inr (by trivial), ?_⟩
    refine Fin_same hcl rfl (Wk.ro (by simp only [go_sem]) ?_)
    try simp only [go_sem]
    all_goals
      simp [squaresAns, sqPV, c1, PV.ro, PV.roL]
  · -- c1 false
    try simp only [nrm] at c1
    refine W_skip (kq2 _ _ ?_)
    refine W_seq fun kz6 kq6 => ?_
    refine W_region [4, 5] fun R hR => ?_   -- r4
    simp only [go_sem]
    refine GCall_of (squares_pc Y _ ct b hc hb) ?_   -- t16
    simp only [go_sem]
    refine hR _ _ (kq6 _ _ ?_); clear hR R; try clear kq6 kz6
    try simp only [go_sem]
    refine W_ret ?_
    simp only [go_sem]
    refine ⟨.inr (by trivial), ?_⟩
    first | refine Fin_same hcl rfl (Wk_eq ?_ (by simp only [go_sem])) | refine Fin_self hcl rfl (Wk_eq ?_ (by simp only [go_sem]))
    try simp only [go_sem]
    all_goals
      simp [squaresAns, sqPV, c1, PV.ro, PV.roL]

end Go.Proofs.Ytnpamcpoaklgeaa

namespace Go.Proofs.Ytnpamcpoaklgeaa
open Go Go.RowKit

theorem clashOf_cases (c : City) (b : Band) : ∀ w : List Band, (clashOf c b w = 0 ∧ ∀ x, x ∈ w → crossVal c b x = 2) ∨ (clashOf c b w = 10 ∧ ∃ x, x ∈ w ∧ crossVal c b x ≠ 2) := by
  intro w
  induction w with
  | nil => exact .inl ⟨rfl, fun x h => by cases h⟩
  | cons a w ih =>
    simp only [clashOf]
    by_cases h : crossVal c b a ≠ 2
    · rw [if_pos h]; exact .inr ⟨rfl, a, by simp, h⟩
    · rw [if_neg h]
      have h : crossVal c b a = 2 := by simpa using h
      rcases ih with ⟨h1, h2⟩ | ⟨h1, x, h2, h3⟩
      · refine .inl ⟨h1, fun x hx => ?_⟩
        rcases List.mem_cons.1 hx with rfl | hx
        · exact h
        · exact h2 x hx
      · exact .inr ⟨h1, x, by simp [h2], h3⟩
theorem overL_cases (c : City) (b : Band) : ∀ l : List Int, (overL c b l = 0 ∧ ∀ s, s ∈ l → b.people ≤ (c.town.rooms[s.toNat]?).getD 0) ∨ (overL c b l = 13 ∧ ∃ s, s ∈ l ∧ (c.town.rooms[s.toNat]?).getD 0 < b.people) := by
  intro l
  induction l with
  | nil => exact .inl ⟨rfl, fun x h => by cases h⟩
  | cons a l ih =>
    simp only [overL]
    by_cases h : (c.town.rooms[a.toNat]?).getD 0 < b.people
    · rw [if_pos h]; exact .inr ⟨rfl, a, by simp, h⟩
    · rw [if_neg h]
      rcases ih with ⟨h1, h2⟩ | ⟨h1, x, h2, h3⟩
      · refine .inl ⟨h1, fun x hx => ?_⟩
        rcases List.mem_cons.1 hx with rfl | hx
        · omega
        · exact h2 x hx
      · exact .inr ⟨h1, x, by simp [h2], h3⟩
theorem awkL_cases (c : City) (l : List Band) : ∀ (s : List Int) (k : Nat), (awkL c l k s = 0 ∧ ∀ (i : Nat) (o : Int), s[i]? = some o → o ≤ (sleepOf (loudAt c l ((k + i : Nat) : Int))).2) ∨ (awkL c l k s = 11 ∧ ∃ (i : Nat) (o : Int), s[i]? = some o ∧ (sleepOf (loudAt c l ((k + i : Nat) : Int))).2 < o) := by
  intro s
  induction s with
  | nil => intro k; exact .inl ⟨rfl, fun i o h => by simp at h⟩
  | cons a s ih =>
    intro k
    simp only [awkL]
    by_cases h : (sleepOf (loudAt c l k)).2 < a
    · rw [if_pos h]; exact .inr ⟨rfl, 0, a, rfl, h⟩
    · rw [if_neg h]
      rcases ih (k + 1) with ⟨h1, h2⟩ | ⟨h1, i, o, h2, h3⟩
      · refine .inl ⟨h1, fun i o hi => ?_⟩
        cases i with
        | zero =>
          simp only [List.getElem?_cons_zero, Option.some.injEq] at hi
          subst hi
          simp only [Nat.add_zero]
          omega
        | succ i =>
          have := h2 i o (by simpa using hi)
          rw [show k + (i + 1) = k + 1 + i by omega]
          exact this
      · refine .inr ⟨h1, i + 1, o, by simpa using h2, ?_⟩
        rw [show k + (i + 1) = k + 1 + i by omega]
        exact h3
/-- When a request is granted. -/
structure Fits (c : City) (w : List Band) (b : Band) : Prop where
  cross : ∀ x, x ∈ w → crossVal c b x = 2
  room : ∀ s, s ∈ (sqs c b).1 → b.people ≤ (c.town.rooms[s.toNat]?).getD 0
  sleep : ∀ (i : Nat) (o : Int), c.sleep[i]? = some o → o ≤ (sleepOf (loudAt c (w ++ [b]) (i : Int))).2
theorem reqOf_cases (c : City) (w : List Band) (b : Band) : (reqOf c w b = 0 ∧ Fits c w b) ∨ (reqOf c w b = 10 ∧ ∃ x, x ∈ w ∧ crossVal c b x ≠ 2) ∨ (reqOf c w b = 13 ∧ (∀ x, x ∈ w → crossVal c b x = 2) ∧ ∃ s, s ∈ (sqs c b).1 ∧ (c.town.rooms[s.toNat]?).getD 0 < b.people) ∨
    (reqOf c w b = 11 ∧ (∀ x, x ∈ w → crossVal c b x = 2) ∧ (∀ s, s ∈ (sqs c b).1 → b.people ≤ (c.town.rooms[s.toNat]?).getD 0) ∧ ∃ (i : Nat) (o : Int), c.sleep[i]? = some o ∧ (sleepOf (loudAt c (w ++ [b]) (i : Int))).2 < o) := by
  unfold reqOf
  simp only [firstOf]
  rcases clashOf_cases c b w with ⟨h1, h2⟩ | ⟨h1, x, h2, h3⟩
  · rw [if_neg (by rw [h1]; simp)]
    have ho : overOf c b = overL c b (sqs c b).1 := rfl
    rcases overL_cases c b (sqs c b).1 with ⟨k1, k2⟩ | ⟨k1, s, k2, k3⟩
    · rw [if_neg (by rw [ho, k1]; simp)]
      have ha : awkOf c (w ++ [b]) = awkL c (w ++ [b]) 0 c.sleep := rfl
      rcases awkL_cases c (w ++ [b]) c.sleep 0 with ⟨m1, m2⟩ | ⟨m1, i, o, m2, m3⟩
      · rw [if_neg (by rw [ha, m1]; simp)]
        exact .inl ⟨rfl, h2, k2, fun i o hi => by have := m2 i o hi; simpa using this⟩
      · rw [if_pos (by rw [ha, m1]; simp), ha, m1]
        exact .inr (.inr (.inr ⟨rfl, h2, k2, i, o, m2, by simpa using m3⟩))
    · rw [if_pos (by rw [ho, k1]; simp), ho, k1]
      exact .inr (.inr (.inl ⟨rfl, h2, s, k2, k3⟩))
  · rw [if_pos (by rw [h1]; simp), h1]
    exact .inr (.inl ⟨rfl, x, h2, h3⟩)
theorem reqOf_zero {c : City} {w : List Band} {b : Band} : reqOf c w b = 0 ↔ Fits c w b := by
  rcases reqOf_cases c w b with ⟨h, k⟩ | ⟨h, x, k1, k2⟩ | ⟨h, k, s, k1, k2⟩ | ⟨h, k, k', i, o, k1, k2⟩
  · exact ⟨fun _ => k, fun _ => h⟩
  · exact ⟨fun h' => (by omega), fun f => absurd (f.cross x k1) k2⟩
  · exact ⟨fun h' => (by omega), fun f => by have := f.room s k1; omega⟩
  · exact ⟨fun h' => (by omega), fun f => by have := f.sleep i o k1; omega⟩
theorem reqOf_ten {c : City} {w : List Band} {b : Band} : reqOf c w b = 10 ↔ ∃ x, x ∈ w ∧ crossVal c b x ≠ 2 := by
  rcases reqOf_cases c w b with ⟨h, k⟩ | ⟨h, x, k1, k2⟩ | ⟨h, k, s, k1, k2⟩ | ⟨h, k, k', i, o, k1, k2⟩
  · exact ⟨fun h' => (by omega), fun ⟨x, k1, k2⟩ => absurd (k.cross x k1) k2⟩
  · exact ⟨fun _ => ⟨x, k1, k2⟩, fun _ => h⟩
  · exact ⟨fun h' => (by omega), fun ⟨x, k1, k2⟩ => absurd (k x k1) k2⟩
  · exact ⟨fun h' => (by omega), fun ⟨x, k1, k2⟩ => absurd (k x k1) k2⟩
theorem grantL_get (c : City) : ∀ (l w : List Band) (i : Nat) (b : Band), l[i]? = some b → (grantL c w l)[i]? = some (reqOf c (w ++ grantedOf (l.take i) (grantL c w l)) b) := by
  intro l
  induction l with
  | nil => intro w i b h; simp at h
  | cons a l ih =>
    intro w i b h
    cases i with
    | zero => simp at h; subst h; simp [grantL, grantedOf]
    | succ i =>
      have := ih (if reqOf c w a = 0 then w ++ [a] else w) i b (by simpa using h)
      simp only [grantL, List.getElem?_cons_succ, this, List.take_succ_cons, grantedOf]
      by_cases hr : reqOf c w a = 0
      · simp [hr]
      · simp [hr]
theorem askedOf_of {c : City} {l : List Band} (h1 : chkCity c = 0) (h3 : ∀ b, b ∈ l → chkBand c b = 0) : askedOf c l = 0 := by
  unfold askedOf
  rw [if_neg (by rw [h1]; simp), chkBands_of h3]
theorem crossAns_of {c : City} {a b : Band} (h1 : chkCity c = 0) (ha : chkBand c a = 0) (hb : chkBand c b = 0) : crossAns c a b = (crossVal c a b, 0) := by
  unfold crossAns
  rw [if_neg (by rw [askedOf_of h1 (fun x hx => by simp at hx; rcases hx with rfl | rfl <;> assumption)]; simp)]
theorem squaresAns_of {c : City} {b : Band} (h1 : chkCity c = 0) (hb : chkBand c b = 0) : squaresAns c b = ((sqs c b).1, 0) := by
  unfold squaresAns
  rw [if_neg (by rw [askedOf_of h1 (fun x hx => by simp at hx; subst hx; assumption)]; simp)]
  rw [← (chkBand_ok hb).1]
/-- Bands that are granted do not cross, whatever their true starts. -/
theorem fits_meet {c : City} {w : List Band} {b x : Band} {m n : Int} (hc : chkCity c = 0) (hw : ∀ x, x ∈ w → chkBand c x = 0) (hb : chkBand c b = 0) (hf : Fits c w b) (hx : x ∈ w) (h1 : x.lo ≤ m) (h2 : m ≤ x.hi) (h3 : b.lo ≤ n) (h4 : n ≤ b.hi) : meetB c x b m n = false := by
  have h := hf.cross x hx
  rw [crossVal_never hc hb (hw x hx)] at h
  rw [Bool.eq_false_iff]
  intro hm
  rw [meetB_symm] at hm
  exact h ⟨n, m, h3, h4, h1, h2, hm⟩
end Go.Proofs.Ytnpamcpoaklgeaa
