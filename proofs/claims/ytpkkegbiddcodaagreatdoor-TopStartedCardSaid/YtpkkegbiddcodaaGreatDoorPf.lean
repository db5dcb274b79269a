/-
  A line of a script: what the desk says, and what it is then (night).
  Endings, counts and cuts of texts, as the library makes them.
  Walks: the lines of a script, handed out; replies, put together (night).
  Walks: a director checked (night).
  Walks: a script is run (night).
  Numbers that follow from numbers (bateriakit): the drum.
  Walks: drums made of numbers, spans (bateriakit).
  Walks: an order made of numbers (bateriakit).
  Walks: scales, marks, envelopes made of numbers (bateriakit).
  Walks: rules made of numbers (bateriakit).
  Walks: schools made of numbers (bateriakit).
  Walks: ledgers made of numbers (bateriakit).
  Walks: the reference's towns, cities, squares (bateriaref06, bateriaref07).
  Numbers that follow from numbers (bateriakit): the drum.
  Walks: drums made of numbers, spans (bateriakit).
  Walks: towns made of numbers (bateriakit).
  Towns made of numbers are valid.
-/
import Derived.Test.YtpkkegbiddcodaaGreatDoorPe
import Derived.CallsIn
import Derived.RangeFuncLeaves
import Derived.RangeFuncRecord
import Derived.OrdersIn
import Derived.Below
import Derived.Laws.World
import Derived.Laws.StructEq
import Derived.Laws.BytesString
import Derived.Laws.Append
import Derived.MapKept
import Derived.ProofKit
import Derived.Carry
import Derived.Handed
import Derived.ChangeCalls
import Derived.Stop.Joined
import Derived.Lib.LaidTab
import Derived.Shelf.Strconv.Itoa3
import Derived.RangeFuncIn
import Derived.RangeFuncNested
import Derived.Test.YtpkkegbiddcodaaGreatDoorProg
import Derived.KernelRfl
import Derived.IntWalk
import Derived.Sort.OwnSortedInts
import Derived.Lib.SlicesCompact
import Derived.Shelf.Strings.Builder1
import Derived.Shelf.Strings.SlTrimAscii
import Derived.Lib.SplitLaws
import Derived.Lib.AtoiAll
import Derived.Lib.ItoaNum
import Derived.Lib.IndexBytes
import Derived.Shelf.Strings.Split
import Derived.Shelf.Strconv.AtoiAll
import Derived.Lib.AtoiErrMem
import Derived.Lib.ItoaLen
import Derived.Tactics
import Derived.Tactics2
import Derived.StillTactics
import Derived.Laws.RangeString
import Derived.Laws.RangeAny
import Derived.LoopTactic
import Derived.Scope
import Derived.FnLit
import Derived.Shelf.Strings.Prefix
import Derived.Shelf.Strings.Count
import Derived.Shelf.Strings.Cut
import Derived.Test.YtpkkegbiddcodaaGreatDoorCards
import Derived.Test.YtpkkegbiddcodaaGreatDoorChecked
import Derived.JoinedOf
import Derived.Test.YtpkkegbiddcodaaGreatDoorTie
import Derived.LaidMore
import Derived.LaidSub
import Derived.Lay
import Derived.SevenTiedAt
import Derived.Lib.LaidU8
import Derived.Shelf.Vars
import Derived.OpenShut
set_option linter.unusedSimpArgs false
set_option linter.unusedVariables false
namespace Go.Proofs.YtpkkegbiddcodaaGreatDoor.Sd
open Go Go.RowKit Pa Ni
set_option maxRecDepth 100000
theorem wgErr_bd (p : List Wing) (w : Wing) : 0 ≤ wgErr p w ∧ wgErr p w ≤ 12 := by
 unfold wgErr
 repeat' split
 all_goals omega
theorem wgsErr_bd : ∀ (l p : List Wing), 0 ≤ wgsErr p l ∧ wgsErr p l ≤ 12 := by
 intro l
 induction l with
 | nil => intro p; simp [wgsErr]
 | cons w l ih =>
  intro p
  simp only [wgsErr]
  split
  ·exact wgErr_bd p w
  exact ih _
theorem chkS_bd (s : School) : 0 ≤ chkS s ∧ chkS s ≤ 12 := by
 unfold chkS
 have := wgsErr_bd s.wings []
 repeat' split
 all_goals omega
theorem chkStF_bd (ws : List Wing) (st : List Int) : ∀ (l : List Int) (i : Nat), 0 ≤ chkStF ws st i l ∧ chkStF ws st i l ≤ 12 := by
 intro l
 induction l with
 | nil => intro i; simp [chkStF]
 | cons x l ih =>
  intro i
  simp only [chkStF]
  have := ih (i + 1)
  repeat' split
  all_goals omega
theorem chkSt_bd (s : School) (st : List Int) : 0 ≤ chkSt s st ∧ chkSt s st ≤ 12 := by
 unfold chkSt
 have := chkS_bd s
 have := chkStF_bd s.wings st st 0
 repeat' split
 all_goals omega
theorem chkRu_bd (r : Rules) : 0 ≤ chkRu r ∧ chkRu r ≤ 12 := by
 unfold chkRu
 repeat' split
 all_goals omega
theorem wingE_bd (x : Director) (d : Dk) : 0 ≤ wingE x d ∧ wingE x d ≤ 12 := by
 unfold wingE
 have := chkSt_bd (takeSch x.school (d.st.length + 1)) (rowS d.st ++ [sinceS d])
 split <;> omega
theorem lastsE_bd (s : School) (st : List Int) (r : Rules) : 0 ≤ (lastsA s st r).2.2 ∧ (lastsA s st r).2.2 ≤ 12 := by
 unfold lastsA
 have := chkSt_bd s st
 have := chkRu_bd r
 split
 ·dsimp only; omega
 split <;> dsimp only <;> omega
def CmdOK : Cmd → Prop
 | .at n => 0 ≤ n ∧ n ≤ 9999999
 | _ => True
theorem stepD_ok {x : Director} {d : Dk} {c : Cmd} (h : DkOK x d.sec d.st) (hc : CmdOK c) : DkOK x (stepD x d c).2.sec (stepD x d c).2.st := by
 cases c with
 | «at» n =>
  simp only [stepD]
  split
  ·rename_i q; simp only [CmdOK] at hc; exact ⟨⟨hc.1, q.2⟩, h.st0, h.ln⟩
  exact h
 | wing =>
  simp only [stepD]
  split
  ·exact h
  rename_i q
  refine ⟨h.s0, fun n hn => ?_, ?_⟩
  ·rcases List.mem_append.1 hn with hn | hn
   ·exact h.st0 n hn
   simp only [List.mem_singleton] at hn; subst hn; exact h.s0
  have : d.st.length < x.school.wings.length := by
   unfold wingE at q
   split at q
   ·simp at q
   omega
  simp; omega
 | lasts =>
  simp only [stepD]
  split
  ·exact h
  split <;> exact h
 | fuel => exact h
theorem split_word {w : List UInt8} (h : (32 : UInt8) ∉ w) : splitL 32 w = w :: ([] : List Nat).map itoaN := splitL_one h
theorem split_at (u : Nat) : splitL 32 (cmdT (.at u)) = atT :: [u].map itoaN := by
 have h : (32 : UInt8) ∉ Lib.itoa (u : Int) := by
  have : Lib.itoa (u : Int) = Lib.decDigits u := by unfold Lib.itoa; rw [if_neg (by omega), Int.toNat_natCast]
  rw [this]
  intro hm
  have := dec_digits _ _ hm
  simp at this
 simp only [cmdT, lineT]
 rw [splitL_app _ (by decide), splitL_one h]
 rfl
theorem len_at (u : Nat) (hu : u ≤ 9999999) : (cmdT (.at u)).length < 1000000 := by
 have := itoa_len7 u hu
 simp only [cmdT, lineT, List.length_append, List.length_cons, atT, List.length_nil]; omega
theorem deskLine_pc (Y : YEnv) (σ : Sg) (i r : Nat) (sec : Int) (st : List Int) (x : Director) (c : Cmd) (hk : DkS σ i r sec st x) (hok : DkOK x sec st) (hs : ScL x) (hc : CmdOK c) :
 PC Tryz.prog Y 116 [.ptr i 0, txt (cmdT c)] σ (txt (stepD x ⟨sec, st⟩ c).1) (dkSg σ i r (stepD x ⟨sec, st⟩ c).2.sec (stepD x ⟨sec, st⟩ c).2.st x) := by
 have hli := hk.li
 have hlr := hk.lr
 have same : ∀ (s p0 : List UInt8) (us : List Nat) (form : List UInt8) (g : FuncId) (rep : List UInt8) (e : Int) (hsp : splitL 32 s = p0 :: us.map itoaN) (hsl : s.length < 1000000) (hul : us.length ≤ 10) (hu : ∀ u, u ∈ us → u ≤ 9999999) (hv : aget p0 verbsL = some (form, g)) (hf : form.length = us.length) (hf2 : ∀ c, c ∈ form → c.toNat < 128 ∧ c.toNat ≠ 43)
  (hdo : ∀ l rm o, OwnLt (σ.rooms.length + rm.length) o → PC Tryz.prog Y g [.agg [.ptr i 0, nsPV us o]] (σ.ext l rm) (.tuple [txt rep, I e]) (σ.ext l rm)) (he : 0 ≤ e ∧ e ≤ 100), PC Tryz.prog Y 116 [.ptr i 0, txt s] σ (txt (if e = 0 then rep else errT e)) σ :=
  fun s p0 us form g rep e h1 h2 h3 h4 h5 h6 h7 h8 h9 => lineG_pc Y σ i r sec st x s p0 us form g rep e σ hk h1 h2 h3 h4 h5 h6 h7 h8 h9 rfl rfl rfl id
 have turn : ∀ (sec2 : Int) (st2 : List Int) (s p0 : List UInt8) (us : List Nat) (form : List UInt8) (g : FuncId) (rep : List UInt8) (hsp : splitL 32 s = p0 :: us.map itoaN) (hsl : s.length < 1000000) (hul : us.length ≤ 10) (hu : ∀ u, u ∈ us → u ≤ 9999999) (hv : aget p0 verbsL = some (form, g)) (hf : form.length = us.length) (hf2 : ∀ c, c ∈ form → c.toNat < 128 ∧ c.toNat ≠ 43)
  (hdo : ∀ l rm o, OwnLt (σ.rooms.length + rm.length) o → PC Tryz.prog Y g [.agg [.ptr i 0, nsPV us o]] (σ.ext l rm) (.tuple [txt rep, I 0]) (dkSg (σ.ext l rm) i r sec2 st2 x)), PC Tryz.prog Y 116 [.ptr i 0, txt s] σ (txt rep) (dkSg σ i r sec2 st2 x) :=
  fun sec2 st2 s p0 us form g rep h1 h2 h3 h4 h5 h6 h7 h8 => by
   have := lineG_pc Y σ i r sec st x s p0 us form g rep 0 (dkSg σ i r sec2 st2 x) hk h1 h2 h3 h4 h5 h6 h7 (fun l rm o ho => by rw [← dkSg_ext hli hlr]; exact h8 l rm o ho) ⟨by omega, by omega⟩ dkSg_len dkSg_rooms rfl (dkSg_clean hlr)
   rw [if_pos rfl] at this
   exact this
 have cln : ∀ (us : List Nat) (l : List (Option (List PV))) (rm : List Nat) (o : Own), OwnLt (σ.rooms.length + rm.length) o → Clean (σ.ext l rm).store.length (σ.ext l rm).rooms.length (σ.ext l rm).ys.length (nsPV us o) := fun us l rm o ho => by
  simp only [go_sem]; exact ho
 cases c with
 | «at» n =>
  obtain ⟨h0, h1⟩ := hc
  obtain ⟨u, rfl⟩ : ∃ u : Nat, n = u := ⟨n.toNat, by omega⟩
  by_cases h : sec ≤ (u : Int) ∧ (u : Int) ≤ 43199
  ·simp only [stepD]
   rw [if_pos h]
   exact turn u st _ atT [u] [78] _ okT (split_at u) (len_at u (by omega)) (by simp) (fun v hv => by simp at hv; omega) vb_at rfl (by decide) fun l rm o ho => atY_pc Y (σ.ext l rm) i r u sec st x o (hk.ext _ _) (inR_true.2 h)
  simp only [stepD]
  rw [if_neg h]
  rw [dkSg_same hk]
  have := same _ atT [u] [78] _ [] 2 (split_at u) (len_at u (by omega)) (by simp) (fun v hv => by simp at hv; omega) vb_at rfl (by decide) (fun l rm o ho => atN_pc Y (σ.ext l rm) i r u sec st x o (hk.ext _ _) (by rw [Bool.eq_false_iff]; intro hh; exact h (inR_true.1 hh))) ⟨by omega, by omega⟩
  rw [if_neg (by decide)] at this
  exact this
 | wing =>
  by_cases h : wingE x ⟨sec, st⟩ = 0
  ·simp only [stepD]
   rw [if_neg (by simp [h])]
   exact turn sec (st ++ [sec]) _ wingT [] [] _ okT (split_word (by decide)) (by decide) (by simp) (fun v hv => by simp at hv) vb_wing rfl (by simp) fun l rm o ho => wingY_pc Y (σ.ext l rm) i r sec st x _ (cln [] l rm o ho) (hk.ext _ _) hok hs h
  simp only [stepD]
  rw [if_pos h]
  rw [dkSg_same hk]
  have hb := wingE_bd x ⟨sec, st⟩
  have := same _ wingT [] [] _ [] (wingE x ⟨sec, st⟩) (split_word (by decide)) (by decide) (by simp) (fun v hv => by simp at hv) vb_wing rfl (by simp) (fun l rm o ho => wingN_pc Y (σ.ext l rm) i r sec st x _ (cln [] l rm o ho) (hk.ext _ _) hok hs h) ⟨by omega, by omega⟩
  rw [if_neg h] at this
  exact this
 | lasts =>
  by_cases h : st.length < x.school.wings.length
  ·simp only [stepD]
   rw [if_pos h]
   rw [dkSg_same hk]
   have := same _ lastsT [] [] _ [] 11 (split_word (by decide)) (by decide) (by simp) (fun v hv => by simp at hv) vb_lasts rfl (by simp) (fun l rm o ho => lastsN_pc Y (σ.ext l rm) i r sec st x _ (cln [] l rm o ho) (hk.ext _ _) hok hs h) ⟨by omega, by omega⟩
   rw [if_neg (by decide)] at this
   exact this
  simp only [stepD]
  rw [if_neg h]
  obtain ⟨v, hv⟩ : ∃ v, (lastsA (takeSch x.school st.length) (rowS st) x.rules).1 = v := ⟨_, rfl⟩
  obtain ⟨lo, hlo⟩ : ∃ v, (lastsA (takeSch x.school st.length) (rowS st) x.rules).2.1.1 = v := ⟨_, rfl⟩
  obtain ⟨hi, hhi⟩ : ∃ v, (lastsA (takeSch x.school st.length) (rowS st) x.rules).2.1.2 = v := ⟨_, rfl⟩
  obtain ⟨e, he⟩ : ∃ v, (lastsA (takeSch x.school st.length) (rowS st) x.rules).2.2 = v := ⟨_, rfl⟩
  have hb := lastsE_bd (takeSch x.school st.length) (rowS st) x.rules
  have hA : lastsA (takeSch x.school st.length) (rowS st) x.rules = (v, (lo, hi), e) := by rw [← hv, ← hlo, ← hhi, ← he]
  rw [he] at hb
  rw [hA]
  dsimp only
  have := same _ lastsT [] [] _ (wordsT (toldT v) [lo, hi]) e (split_word (by decide)) (by decide) (by simp) (fun v hv => by simp at hv) vb_lasts rfl (by simp) (fun l rm o ho => lastsY_pc Y (σ.ext l rm) i r sec st x _ (cln [] l rm o ho) (hk.ext _ _) hok hs h v lo hi e hA) ⟨by omega, by omega⟩
  by_cases h0 : e = 0
  ·rw [if_neg (by simp [h0]), dkSg_same hk]
   rw [if_pos h0] at this
   exact this
  rw [if_pos h0, dkSg_same hk]
  rw [if_neg h0] at this
  exact this
 | fuel =>
  simp only [stepD]
  rw [dkSg_same hk]
  exact lineF_pc Y σ i fuelT (split_word (by decide)) (by decide) vb_fuel hli
end Go.Proofs.YtpkkegbiddcodaaGreatDoor.Sd
namespace Go.Proofs.YtpkkegbiddcodaaGreatDoor
open Go Go.RowKit Go.Shelf
set_option maxRecDepth 100000
def lays100_ren : Go.Shelf.Ren := ⟨fun | 100 => 112 | 207 => 172 | n => n, fun | 9 => 9 | 4 => 4 | 3 => 3 | n => n, fun n => n⟩
theorem lays100 : Lays.n100 Tryz.prog lays100_ren where
 mixed := by kernel_rfl
 f100 := Tryz.func112.trans (congrArg some (by kernel_rfl))
 f207 := Tryz.func172.trans (congrArg some (by kernel_rfl))
 t3 := Tryz.underlying3
 a3 := Tryz.isAgg3
 z3 := Tryz.sizeOf3
 v3 := Tryz.zeroValue3
 t4 := Tryz.underlying4
 a4 := Tryz.isAgg4
 z4 := Tryz.sizeOf4
 v4 := Tryz.zeroValue4
 t9 := Tryz.underlying9
 a9 := Tryz.isAgg9
 z9 := Tryz.sizeOf9
 v9 := Tryz.zeroValue9
def lays138_ren : Go.Shelf.Ren := ⟨fun | 138 => 114 | 195 => 173 | 218 => 174 | 143 => 175 | 219 => 225 | 217 => 268 | 225 => 269 | 224 => 270 | 267 => 271 | 266 => 314 | 314 => 315 | n => n, fun | 9 => 9 | 3 => 3 | 4 => 4 | 5 => 5 | 0 => 0 | 46 => 119 | 146 => 391 | 51 => 353 | n => n, fun | 1 => 0 | n => n⟩
theorem lays138 : Lays.n138 Tryz.prog lays138_ren where
 mixed := by kernel_rfl
 f138 := Tryz.func114.trans (congrArg some (by kernel_rfl))
 f143 := Tryz.func175.trans (congrArg some (by kernel_rfl))
 f195 := Tryz.func173.trans (congrArg some (by kernel_rfl))
 f217 := Tryz.func268.trans (congrArg some (by kernel_rfl))
 f218 := Tryz.func174.trans (congrArg some (by kernel_rfl))
 f219 := Tryz.func225.trans (congrArg some (by kernel_rfl))
 f224 := Tryz.func270.trans (congrArg some (by kernel_rfl))
 f225 := Tryz.func269.trans (congrArg some (by kernel_rfl))
 f266 := Tryz.func314.trans (congrArg some (by kernel_rfl))
 f267 := Tryz.func271.trans (congrArg some (by kernel_rfl))
 f314 := Tryz.func315.trans (congrArg some (by kernel_rfl))
 t0 := Tryz.underlying0
 a0 := Tryz.isAgg0
 z0 := Tryz.sizeOf0
 v0 := Tryz.zeroValue0
 t3 := Tryz.underlying3
 a3 := Tryz.isAgg3
 z3 := Tryz.sizeOf3
 v3 := Tryz.zeroValue3
 t4 := Tryz.underlying4
 a4 := Tryz.isAgg4
 z4 := Tryz.sizeOf4
 v4 := Tryz.zeroValue4
 t5 := Tryz.underlying5
 a5 := Tryz.isAgg5
 z5 := Tryz.sizeOf5
 v5 := Tryz.zeroValue5
 t9 := Tryz.underlying9
 a9 := Tryz.isAgg9
 z9 := Tryz.sizeOf9
 v9 := Tryz.zeroValue9
 t46 := Tryz.underlying119
 a46 := Tryz.isAgg119
 z46 := Tryz.sizeOf119
 v46 := Tryz.zeroValue119
 t51 := Tryz.underlying353
 a51 := Tryz.isAgg353
 z51 := Tryz.sizeOf353
 v51 := Tryz.zeroValue353
 t146 := Tryz.underlying391
 a146 := Tryz.isAgg391
 z146 := Tryz.sizeOf391
 v146 := Tryz.zeroValue391
 g1 := by kernel_rfl
def lays145_ren : Go.Shelf.Ren := ⟨fun | 145 => 177 | 220 => 226 | 219 => 225 | 217 => 268 | 225 => 269 | 224 => 270 | 267 => 271 | 266 => 314 | 314 => 315 | n => n, fun | 9 => 9 | 4 => 4 | 59 => 273 | 3 => 3 | 5 => 5 | 46 => 119 | 146 => 391 | 51 => 353 | n => n, fun | 1 => 0 | n => n⟩
theorem lays145 : Lays.n145 Tryz.prog lays145_ren where
 mixed := by kernel_rfl
 f145 := Tryz.func177.trans (congrArg some (by kernel_rfl))
 f217 := Tryz.func268.trans (congrArg some (by kernel_rfl))
 f219 := Tryz.func225.trans (congrArg some (by kernel_rfl))
 f220 := Tryz.func226.trans (congrArg some (by kernel_rfl))
 f224 := Tryz.func270.trans (congrArg some (by kernel_rfl))
 f225 := Tryz.func269.trans (congrArg some (by kernel_rfl))
 f266 := Tryz.func314.trans (congrArg some (by kernel_rfl))
 f267 := Tryz.func271.trans (congrArg some (by kernel_rfl))
 f314 := Tryz.func315.trans (congrArg some (by kernel_rfl))
 t3 := Tryz.underlying3
 a3 := Tryz.isAgg3
 z3 := Tryz.sizeOf3
 v3 := Tryz.zeroValue3
 t4 := Tryz.underlying4
 a4 := Tryz.isAgg4
 z4 := Tryz.sizeOf4
 v4 := Tryz.zeroValue4
 t5 := Tryz.underlying5
 a5 := Tryz.isAgg5
 z5 := Tryz.sizeOf5
 v5 := Tryz.zeroValue5
 t9 := Tryz.underlying9
 a9 := Tryz.isAgg9
 z9 := Tryz.sizeOf9
 v9 := Tryz.zeroValue9
 t46 := Tryz.underlying119
 a46 := Tryz.isAgg119
 z46 := Tryz.sizeOf119
 v46 := Tryz.zeroValue119
 t51 := Tryz.underlying353
 a51 := Tryz.isAgg353
 z51 := Tryz.sizeOf353
 v51 := Tryz.zeroValue353
 t59 := Tryz.underlying273
 a59 := Tryz.isAgg273
 z59 := Tryz.sizeOf273
 v59 := Tryz.zeroValue273
 t146 := Tryz.underlying391
 a146 := Tryz.isAgg391
 z146 := Tryz.sizeOf391
 v146 := Tryz.zeroValue391
 g1 := by kernel_rfl
theorem args2 {Ψ : Ty} {p q : PV} {vals : Array Value} (ha : VRs Ψ [p, q] vals) : ∃ x y, vals = #[x, y] ∧ VR Ψ p x ∧ VR Ψ q y := by
 have := ha.1
 match vals, this with
 | ⟨[x, y]⟩, _ => exact ⟨x, y, rfl, ha.2 0 _ _ rfl rfl, ha.2 1 _ _ rfl rfl⟩
theorem HasSuffix_pc (Y : YEnv) (σ : Sg) (l m : List UInt8) (hl : l.length ≤ 2 ^ 62) :
 PC Tryz.prog Y 112 [txt l, txt m] σ (.bool (Lib.hasSuffix l m)) σ := by
 refine PC_of_callsG (by kernel_rfl) fun Ψ vals w hs ha hG => ?_
 obtain ⟨x, y, rfl, hx, hy⟩ := args2 ha
 obtain rfl := hx.str_inv
 obtain rfl := hy.str_inv
 have hsz : (⟨l.toArray⟩ : ByteArray).size = l.length := by simp [ByteArray.size]
 refine (Any.strings_HasSuffix lays100 ⟨l.toArray⟩ ⟨m.toArray⟩ w (by rw [hsz]; omega)).mono ?_
 rintro e2 w2 ⟨rfl, rfl⟩
 have he : (⟨l.toArray⟩ : ByteArray).data.toList = l := by simp
 have hf : (⟨m.toArray⟩ : ByteArray).data.toList = m := by simp
 exact ⟨_, Ψ, rfl, Ty.le.refl _, hs, by rw [he, hf]; exact .bool _, Below.refl _ _⟩
theorem Count_pc (Y : YEnv) (σ : Sg) (l : List UInt8) (c : UInt8) :
 PC Tryz.prog Y 114 [txt l, .str ⟨#[c]⟩] σ (I (l.count c)) σ := by
 refine PC_of_callsG (by kernel_rfl) fun Ψ vals w hs ha hG => ?_
 obtain ⟨x, y, rfl, hx, hy⟩ := args2 ha
 obtain rfl := hx.str_inv
 obtain rfl := hy.str_inv
 refine (Any.strings_Count_one lays138 ⟨l.toArray⟩ c w).mono ?_
 rintro e2 w2 ⟨rfl, rfl⟩
 have he : (⟨l.toArray⟩ : ByteArray).data.toList = l := by simp
 exact ⟨_, Ψ, rfl, Ty.le.refl _, hs, by rw [he]; exact .int _ _, Below.refl _ _⟩
theorem Cut_pc (Y : YEnv) (σ : Sg) (l : List UInt8) (c : UInt8) (hl : l.length < 4294967281) :
 PC Tryz.prog Y 177 [txt l, .str ⟨#[c]⟩] σ (.tuple [txt (Lib.cut l [c]).1, txt (Lib.cut l [c]).2.1, .bool (Lib.cut l [c]).2.2]) σ := by
 refine PC_of_callsG (by kernel_rfl) fun Ψ vals w hs ha hG => ?_
 obtain ⟨x, y, rfl, hx, hy⟩ := args2 ha
 obtain rfl := hx.str_inv
 obtain rfl := hy.str_inv
 have hgn : Tryz.prog.globalNamed "internal/bytealg.MaxLen" = some 0 := by kernel_rfl
 obtain ⟨m, hm⟩ := hG.max 0 hgn
 have hm' := hs.imm _ _ _ hm
 have hsz : (⟨l.toArray⟩ : ByteArray).size = l.length := by simp [ByteArray.size]
 refine (Any.strings_Cut lays145 ⟨l.toArray⟩ ⟨#[c]⟩ m w (by rw [hsz]; exact hl) hm').mono ?_
 rintro e2 w2 ⟨rfl, n, rfl⟩
 have he : (⟨l.toArray⟩ : ByteArray).data.toList = l := by simp
 have hf : (⟨#[c]⟩ : ByteArray).data.toList = [c] := rfl
 rw [he, hf]
 refine ⟨_, Ψ, rfl, Ty.le.refl _, hs.heap rfl, .tuple _ _ rfl fun j q y h1 h2 => ?_, ⟨rfl, rfl, rfl, Nat.le_refl _, fun _ _ => rfl⟩⟩
 match j, h1, h2 with
 | 0, h1, h2 => simp at h1 h2; subst h1 h2; exact .str _
 | 1, h1, h2 => simp at h1 h2; subst h1 h2; exact .str _
 | 2, h1, h2 => simp at h1 h2; subst h1 h2; exact .bool _
 | j + 3, h1, h2 => simp at h1
end Go.Proofs.YtpkkegbiddcodaaGreatDoor
namespace Go.Proofs.YtpkkegbiddcodaaGreatDoor.Sd
open Go Go.RowKit Pa Ni
set_option maxRecDepth 100000
theorem textT_len {B : Nat} : ∀ {l : List (List UInt8)}, (∀ q, q ∈ l → q.length ≤ B) → (textT l).length ≤ (B + 1) * l.length := by
 intro l
 induction l with
 | nil => intro _; simp [textT]
 | cons r l ih =>
  intro h
  have h1 := h r (List.mem_cons_self ..)
  have h2 := ih fun q hq => h q (List.mem_cons_of_mem _ hq)
  simp only [textT, List.length_append, List.length_cons, Nat.mul_add, Nat.mul_one]
  omega
theorem textT_take {l : List (List UInt8)} {i : Nat} {q : List UInt8} (h : l[i]? = some q) : textT (l.take (i + 1)) = textT (l.take i) ++ (q ++ [10]) := by
 rw [List.take_add_one, h, textT_app]
 simp [textT]
theorem textT_nil {l : List (List UInt8)} (h : textT l = []) : l = [] := by
 cases l with
 | nil => rfl
 | cons r l => simp [textT] at h
theorem indexB {c : UInt8} : ∀ {r t : List UInt8}, c ∉ r → Lib.index (r ++ c :: t) [c] = (r.length : Int) := fun {r t} h => by rw [Lib.index_one]; exact indexByte_at t h
theorem cut_row {r t : List UInt8} (h : (10 : UInt8) ∉ r) : Lib.cut (r ++ 10 :: t) [10] = (r, t, true) := by
 unfold Lib.cut
 rw [indexB h]
 simp
attribute [go_sem] bldC
set_option maxHeartbeats 2000000 in
theorem page_pc (Y : YEnv) (σ : Sg) (l : List (List UInt8)) (o : Own) (hne : l ≠ []) (hl : l.length ≤ 1000) (hv : ∀ q, q ∈ l → q.length ≤ 1000) :
 PC Tryz.prog Y 53 [.isl (l.map txt) o] σ (txt (textT l)) (σ) := by
 refine PC_of_W Tryz.func53 rfl (by kernel_rfl) Tryz.ntmps53 (by simp) fun hcl hca => ?_
 have hlp : 0 < l.length := List.length_pos_iff.2 hne
 have htl := textT_len hv
 have htp : 0 < (textT l).length := List.length_pos_iff.2 fun h => hne (textT_nil h)
 refine W_sr [0] fun R hR => ?_
 simp only [go_sem]
 refine hR _ _ ?_; clear hR R
 try simp only [go_sem]
 refine W_seq fun Z2 K2 => ?_
 refine W_newB [0, 3] (T := 145) 5 rfl rfl rfl rfl (by decide) zeroB ?_
 refine K2 _ _ ?_
 try simp only [go_sem]
 refine W_seq fun Z3 K3 => ?_
 refine W_sr [3, 6, 7, 8] fun R hR => ?_
 simp only [go_sem]
 refine hR _ _ ?_; clear hR R
 try simp only [go_sem]
 refine W_block ?_
 refine W_loopT (α := Nat) (fun (i : Nat) => [(8, I i)]) (fun (i : Nat) => σ.ext [some (bldC (σ.store.length + 0) (σ.rooms.length + 0) (textT (l.take i)))] [(textT (l.take i)).length]) (fun (i : Nat) => i ≤ l.length) (fun (i : Nat) => l.length - i) (0) rfl (by first | rfl | (simp only [go_sem]; done) | (simp only [go_sem]; rfl)) (Nat.zero_le _) ?_
 rintro i hi
 have hbt : (textT (l.take i)).length ≤ 1001 * 1000 := by
  have := textT_len (l := l.take i) (fun q hq => hv q (List.mem_of_mem_take hq))
  rw [List.length_take] at this
  have h2 : min i l.length ≤ 1000 := by omega
  have := Nat.mul_le_mul_left 1001 h2
  omega
 refine W_sr [3, 6, 7, 8, 9] fun R hR => ?_
 simp only [go_sem]
 refine hR _ _ ?_; clear hR R
 try simp only [go_sem]
 refine W_seq fun Z6 K6 => ?_
 refine W_cond rfl (fun c1 => ?_) (fun c1 => ?_)
 ·
  try simp only [nrm] at c1
  have hi' : i < l.length := by first | assumption | omega
  obtain ⟨q, hx⟩ : ∃ q, l[i]? = some q := ⟨l[i], by simp [hi']⟩
  have hdrop : l.drop i = q :: l.drop (i + 1) := by
   rw [List.drop_eq_getElem_cons hi']; congr 1; exact (List.getElem?_eq_some_iff.1 hx).2
  have hql := hv q (List.mem_of_getElem? hx)
  refine W_skip (K6 _ _ ?_)
  refine W_seq fun Z7 K7 => ?_
  refine W_block ?_
  refine W_sr [3, 5, 6, 7, 8] fun R hR => ?_
  simp only [go_sem, hx]
  refine hR _ _ ?_; clear hR R
  try simp only [go_sem, hx]
  refine W_region [3, 6, 7, 8] fun R hR => ?_
  simp only [go_sem, hx]
  try simp (disch := (first | omega | (simp only [go_sem, List.length_append] <;> omega))) only [wrapI, wrapU, appX_exact, appX_tok, strAdd, slT, slTa, slTb]
  try simp only [go_sem, hx]
  try simp (disch := (first | omega | (simp only [go_sem, List.length_append] <;> omega))) only [wrapI, wrapU, strAdd, slT, slTa, slTb]
  refine GCall_of (WriteT_pc (j := 0) (k := 0) (b := textT (l.take i)) (s := q ++ [10]) Y rfl (by simp) (by simp only [List.length_append, List.length_cons, List.length_nil]; omega)) ?_
  simp only [go_sem, hx]
  try simp (disch := (first | omega | (simp only [go_sem, List.length_append] <;> omega))) only [wrapI, wrapU, strAdd, slT, slTa, slTb]
  refine hR _ _ (K7 _ _ ?_); clear hR R; try clear K7 Z7
  try simp only [go_sem, hx]
  refine W_region [3, 6, 7, 8] fun R hR => ?_
  simp only [go_sem, hx]
  try simp (disch := (first | omega | (simp only [go_sem, List.length_append] <;> omega))) only [wrapI, wrapU, strAdd, slT, slTa, slTb]
  refine hR _ _ ?_; clear hR R
  try simp only [go_sem, hx]
  refine ⟨i + 1, ?_, by (try simp only []); omega, ?_⟩
  ·refine Weak.eq (by first | rfl | (simp only [go_sem]; done) | (simp only [go_sem]; rfl)) ?_
   rw [textT_take hx]
   simp only [go_sem, List.append_assoc, List.length_append, List.length_cons, List.length_nil, Nat.add_assoc]
  try dsimp only
  omega
 try simp only [nrm] at c1
 have hdrop : l.drop i = [] := List.drop_eq_nil_of_le (by omega)
 have hie : i = l.length := by omega
 subst hie
 rw [List.take_length]
 refine W_exit ?_
 simp only [go_sem]
 refine K3 _ _ ?_
 refine W_sr [2] fun R hR => ?_
 simp only [go_sem]
 refine GCall_of (StringT_pc (j := 0) (k := 0) (b := textT l) Y rfl (by simp) htp (by omega)) ?_
 simp only [go_sem]
 refine hR _ _ ?_; clear hR R
 try simp only [go_sem]
 refine W_ret ?_
 simp only [go_sem]
 refine ⟨.inr (by trivial), ?_⟩
 first | refine Fsa hcl rfl ?_ | refine Fse hcl rfl ?_
 try simp only [go_sem]
 all_goals
  first | rfl | (simp_all; done) | (simp_all; omega)
set_option maxHeartbeats 2000000 in
theorem lines_pc (Y : YEnv) (σ : Sg) (s : List UInt8) :
 PC Tryz.prog Y 115 [txt s] σ (.func (.func 176) [] [.ptr σ.store.length 0]) (σ.ext [some [txt s]] []) := by
 refine PC_of_W Tryz.func115 rfl (by kernel_rfl) Tryz.ntmps115 (by simp) fun hcl hca => ?_
 refine W_sr [1] fun R hR => ?_
 simp only [go_sem]
 refine hR _ _ ?_; clear hR R
 try simp only [go_sem]
 refine W_sr [2] fun R hR => ?_
 simp only [go_sem]
 refine hR _ _ ?_; clear hR R
 try simp only [go_sem]
 refine W_ret ?_
 simp only [go_sem]
 refine ⟨.inr (by trivial), ?_⟩
 refine Fin_ext (l := [_]) (rm := []) 1 0 hcl rfl (Wk_eq rfl ?_) ?_
 ·simp only [go_sem] <;> omega
 ·show CleanLs _ _ _ _
  simp only [go_sem]
 try simp only [go_sem]
 all_goals
  skip
set_option maxHeartbeats 2000000 in
theorem lines1_pc (Y : YEnv) (σ : Sg) (y i1 : Nat) (rows : List (List UInt8)) (τ τ2 : Nat → Sg) (hfr : ∀ q, q ∈ rows → (10 : UInt8) ∉ q) (hsz : (textT rows).length ≤ 1000000)
 (hst : ∀ k, k ≤ rows.length → (τ k).store[i1]? = some (some [txt (textT (rows.drop k))])) (hst2 : ∀ k, k < rows.length → (τ2 k).store[i1]? = some (some [txt (textT (rows.drop k))]))
 (hY : ∀ k q, rows[k]? = some q → Y y [txt q] (τ k) true (τ2 k)) (hnx : ∀ k, k < rows.length → (τ2 k).setVar i1 [txt (textT (rows.drop (k + 1)))] = τ (k + 1))
 (hlen : (τ 0).store.length ≤ (τ rows.length).store.length) (hr : (τ 0).rooms.length ≤ (τ rows.length).rooms.length) (hy : (τ rows.length).ys.length = (τ 0).ys.length) (hcl' : CleanSg (τ 0) → CleanSg (τ rows.length)) :
 PC Tryz.prog Y 176 [.yield y, .ptr i1 0] (τ 0) (.tuple []) (τ rows.length) := by
 refine PC_of_W Tryz.func176 rfl (by kernel_rfl) Tryz.ntmps176 (by simp) fun hcl hca => ?_
 refine W_block ?_
 refine W_loopT (α := Nat) (fun (k : Nat) => []) (fun (k : Nat) => τ k) (fun (k : Nat) => k ≤ rows.length) (fun (k : Nat) => rows.length - k) (0) rfl (by first | rfl | (simp only [go_sem]; done) | (simp only [go_sem]; rfl)) (Nat.zero_le _) ?_
 rintro k hk
 have hs1 := hst k hk
 have hdl : (textT (rows.drop k)).length ≤ 1000000 := by
  have h := textT_app (rows.take k) (rows.drop k)
  rw [List.take_append_drop] at h
  rw [h, List.length_append] at hsz
  omega
 refine W_seq fun Z1 K1 => ?_
 refine W_sr [0, 1, 7] fun R hR => ?_
 simp only [go_sem, ldS_at hs1]
 refine hR _ _ ?_; clear hR R
 try simp only [go_sem]
 refine W_cond rfl (fun c1 => ?_) (fun c1 => ?_)
 ·
  try simp only [nrm] at c1
  have hk2 : k < rows.length := by
   rcases Nat.lt_or_ge k rows.length with h | h
   ·exact h
   rw [List.drop_eq_nil_of_le h] at c1
   simp [textT] at c1
  obtain ⟨q, hx⟩ : ∃ q, rows[k]? = some q := ⟨rows[k], by simp [hk2]⟩
  have hqf := hfr q (List.mem_of_getElem? hx)
  have hdt : textT (rows.drop k) = q ++ 10 :: textT (rows.drop (k + 1)) := by
   rw [List.drop_eq_getElem_cons hk2, (List.getElem?_eq_some_iff.1 hx).2]; rfl
  have hs2 := hst2 k hk2
  refine W_skip (K1 _ _ ?_)
  refine W_block ?_
  refine W_sr [0, 1, 3, 4] fun R hR => ?_
  simp only [go_sem, ldS_at hs1]
  refine GCall_of (PC.val (v' := .tuple [txt q, txt (textT (rows.drop (k + 1))), .bool true]) (Cut_pc Y _ (textT (rows.drop k)) 10 (by omega)) (by rw [hdt, cut_row hqf])) ?_
  simp only [go_sem, ldS_at hs1]
  refine hR _ _ ?_; clear hR R
  try simp only [go_sem]
  refine W_seq fun Z4 K4 => ?_
  refine W_sr [0, 1, 4, 17] fun R hR => ?_
  simp only [go_sem]
  refine GYield_of (hY k q hx) ?_
  simp only [go_sem]
  refine hR _ _ ?_; clear hR R
  try simp only [go_sem]
  refine W_cond_false rfl ?_
  refine W_skip (K4 _ _ ?_)
  refine W_region [0, 1] fun R hR => ?_
  simp only [go_sem, stX_at hs2]
  refine hR _ _ ?_; clear hR R
  try simp only [go_sem]
  refine ⟨k + 1, ?_, by (try simp only []); omega, ?_⟩
  ·rw [← hnx k hk2]
   first | exact Weak.refl | exact Weak.eq rfl rfl
  try dsimp only
  omega
 try simp only [nrm] at c1
 have hke : k = rows.length := by
  have h0 : textT (rows.drop k) = [] := by simpa using c1
  have := textT_nil h0
  have := congrArg List.length this
  simp at this
  omega
 subst hke
 refine W_exit ?_
 simp only [go_sem]
 try simp only [go_sem]
 refine ⟨.inl (by trivial), ?_⟩
 exact Fin_more (rs := []) (hcl' hcl) hlen hr hy rfl (Wk.of_clean (.tuple _ Clean.all_nil))
 try simp only [go_sem]
 all_goals
  skip
end Go.Proofs.YtpkkegbiddcodaaGreatDoor.Sd
namespace Go.Proofs.YtpkkegbiddcodaaGreatDoor.Ni
open Go Go.RowKit
open Pa (School Rules ShV shCells shPV ruCells ruPV chkS chkRu inR inR_true)
set_option maxRecDepth 100000
set_option maxHeartbeats 4000000 in
theorem Check_pc (Y : YEnv) (σ : Sg) (x : Director) (h : DiL x) :
 PC Tryz.prog Y 108 [diPV x] σ (I (chkDi x)) (σ) := by
 refine PC_of_W Tryz.func108 rfl (by kernel_rfl) Tryz.ntmps108 (by simp) fun hcl hca => ?_
 refine W_sr [1] fun R hR => ?_
 simp only [go_sem, Mk.scCells, Bd.ctCells]
 refine hR _ _ ?_; clear hR R
 try simp only [go_sem, Mk.scCells, Bd.ctCells]
 refine W_sr [2] fun R hR => ?_
 simp only [go_sem, Mk.scCells, Bd.ctCells]
 refine GCall_of (PC.val (v' := I (chkDi x)) (first_pc Y _ [(164, [.ptr σ.store.length 0]), (165, [.ptr σ.store.length 0]), (167, [.ptr σ.store.length 0]), (168, [.ptr σ.store.length 0]), (169, [.ptr σ.store.length 0]), (170, [.ptr σ.store.length 0])] (diEs x) .exact (by exact (.cons (chk1_pc Y _ _ x h (Sg.get_ext0 ..)) (fun _ => (.cons (chk2_pc Y _ _ x h (Sg.get_ext0 ..)) (fun _ => (.cons (chk3_pc Y _ _ x h (Sg.get_ext0 ..)) (fun _ => (.cons (chk4_pc Y _ _ x h (Sg.get_ext0 ..)) (fun _ => (.cons (chk5_pc Y _ _ x h (Sg.get_ext0 ..)) (fun _ => (.cons (chk6_pc Y _ _ x h (Sg.get_ext0 ..)) (fun _ => .nil) rfl)) rfl)) rfl)) rfl)) rfl)) rfl)) (by simp)) rfl) ?_
 simp only [go_sem, Mk.scCells, Bd.ctCells]
 refine hR _ _ ?_; clear hR R
 try simp only [go_sem, Mk.scCells, Bd.ctCells]
 refine W_ret ?_
 simp only [go_sem, Mk.scCells, Bd.ctCells]
 refine ⟨.inr (by trivial), ?_⟩
 first | refine Fsa hcl rfl ?_ | refine Fse hcl rfl ?_
 try simp only [go_sem]
 all_goals
  first | rfl | (simp_all; done) | (simp_all; omega)
end Go.Proofs.YtpkkegbiddcodaaGreatDoor.Ni
namespace Go.Proofs.YtpkkegbiddcodaaGreatDoor.Sd
open Go Go.RowKit Pa Ni
set_option maxRecDepth 100000
/-- The desk, and its replies, after some lines. -/
def deskAt (x : Director) (cs : List Cmd) (k : Nat) : Dk := (runD x ⟨0, []⟩ (cs.take k)).2
def repAt (x : Director) (cs : List Cmd) (k : Nat) : List (List UInt8) := (runD x ⟨0, []⟩ (cs.take k)).1
theorem deskAt_0 (x : Director) (cs : List Cmd) : deskAt x cs 0 = ⟨0, []⟩ := rfl
theorem repAt_0 (x : Director) (cs : List Cmd) : repAt x cs 0 = [] := rfl
theorem run_succ {x : Director} {cs : List Cmd} {k : Nat} {c : Cmd} (h : cs[k]? = some c) : deskAt x cs (k + 1) = (stepD x (deskAt x cs k) c).2 ∧ repAt x cs (k + 1) = repAt x cs k ++ [(stepD x (deskAt x cs k) c).1] := by
 unfold deskAt repAt
 rw [List.take_add_one, h, runD_app]
 exact ⟨rfl, rfl⟩
theorem repAt_all (x : Director) (cs : List Cmd) : repAt x cs cs.length = (runD x ⟨0, []⟩ cs).1 := by unfold repAt; rw [List.take_length]
theorem run_ok {x : Director} {cs : List Cmd} (hcs : ∀ c, c ∈ cs → CmdOK c) : ∀ k, k ≤ cs.length → DkOK x (deskAt x cs k).sec (deskAt x cs k).st ∧ (repAt x cs k).length = k := by
 intro k
 induction k with
 | zero => intro _; rw [deskAt_0, repAt_0]; exact ⟨⟨⟨(by dsimp only; omega), (by dsimp only; omega)⟩, (fun n hn => by cases hn), Nat.zero_le _⟩, rfl⟩
 | succ k ih =>
  intro hk
  obtain ⟨h1, h2⟩ := ih (by omega)
  obtain ⟨c, hc⟩ : ∃ c, cs[k]? = some c := ⟨cs[k], by simp [Nat.lt_of_succ_le hk]⟩
  obtain ⟨e1, e2⟩ := run_succ (x := x) hc
  refine ⟨?_, ?_⟩
  ·rw [e1]; exact stepD_ok h1 (hcs c (List.mem_of_getElem? hc))
  rw [e2]; simp [h2]
theorem cmdT_free {c : Cmd} (hc : CmdOK c) : (10 : UInt8) ∉ cmdT c := by
 cases c with
 | «at» n =>
  have h : (10 : UInt8) ∉ Lib.itoa n := by
   have : Lib.itoa n = Lib.decDigits n.toNat := by unfold Lib.itoa; rw [if_neg (by have := hc.1; omega)]
   rw [this]
   intro hm
   have := dec_digits _ _ hm
   simp at this
  simp only [cmdT, lineT, List.mem_append, List.mem_cons, not_or]
  exact ⟨by decide, by decide, h⟩
 | _ => decide
theorem count_text : ∀ {l : List (List UInt8)}, (∀ q, q ∈ l → (10 : UInt8) ∉ q) → (textT l).count 10 = l.length := by
 intro l
 induction l with
 | nil => intro _; rfl
 | cons r l ih =>
  intro h
  simp only [textT, List.count_append, List.count_cons_self, List.length_cons]
  rw [List.count_eq_zero.2 (h r (List.mem_cons_self ..)), ih fun q hq => h q (List.mem_cons_of_mem _ hq)]
  omega
theorem suffix_text : ∀ {l : List (List UInt8)}, l ≠ [] → Lib.hasSuffix (textT l) [10] = true := by
 intro l
 induction l with
 | nil => intro h; exact absurd rfl h
 | cons r l ih =>
  intro _
  unfold Lib.hasSuffix
  rw [List.isSuffixOf_iff_suffix]
  by_cases h : l = []
  ·subst h; exact ⟨r, rfl⟩
  have h2 := ih h
  unfold Lib.hasSuffix at h2
  rw [List.isSuffixOf_iff_suffix] at h2
  obtain ⟨t, ht⟩ := h2
  exact ⟨r ++ 10 :: t, by simp only [textT]; rw [← ht]; simp⟩
theorem Wk_undef {a b c : Nat} {p : PV} : Wk a b c p .undef := fun _ x _ => .undef x
theorem Wk_tup3 {a b c : Nat} {p1 p2 p3 q1 q2 q3 : PV} (h1 : Wk a b c p1 q1) (h2 : Wk a b c p2 q2) (h3 : Wk a b c p3 q3) : Wk a b c (.tuple [p1, p2, p3]) (.tuple [q1, q2, q3]) := fun Ψ x h => by
 cases h with
 | tuple _ vs hl hh =>
  refine .tuple _ vs hl fun j p v e1 e2 => ?_
  match j, e1 with
  | 0, e1 => simp at e1; subst e1; exact h1 _ _ (hh 0 _ v rfl e2)
  | 1, e1 => simp at e1; subst e1; exact h2 _ _ (hh 1 _ v rfl e2)
  | 2, e1 => simp at e1; subst e1; exact h3 _ _ (hh 2 _ v rfl e2)
  | j + 3, e1 => simp at e1
section
variable {σ : Sg} {a b w : Option (List PV)} {l : List (Option (List PV))} {rm : List Nat} {ys : List LState} {n : Nat} {sec : Int} {st : List Int} {x : Director}
theorem DkS_ext2 : DkS (σ.ext (a :: b :: some (wkCells sec st (.tok σ.rooms.length st.length 1) x) :: l) (st.length :: rm) ys) (σ.store.length + 2) σ.rooms.length sec st x := ⟨Sg.get_ext .., Sg.room_ext0 ..⟩
theorem dkSg_ext2 : dkSg (σ.ext (a :: b :: w :: l) (n :: rm) ys) (σ.store.length + 2) σ.rooms.length sec st x = σ.ext (a :: b :: some (wkCells sec st (.tok σ.rooms.length st.length 1) x) :: l) (st.length :: rm) ys := by
 unfold dkSg
 rw [Sg.setRoom_ext0, Sg.set_ext]
 rfl
end
set_option maxHeartbeats 2000000 in
theorem run1_pc (Y : YEnv) (σ : Sg) (i1 : Nat) (x : Director) (hx : DiL x) (h0 : chkDi x = 0) (hd : σ.store[i1]? = some (some (diCells x))) :
 PC Tryz.prog Y 107 [.ptr i1 0] σ (I 0) (σ) := by
 refine PC_of_W Tryz.func107 rfl (by kernel_rfl) Tryz.ntmps107 (by simp) fun hcl hca => ?_
 refine W_sr [0] fun R hR => ?_
 simp only [go_sem, ldA_at hd, ldS_at hd, Mk.scCells, Bd.ctCells, shCells, ruCells]
 refine hR _ _ ?_; clear hR R
 try simp only [go_sem, ldA_at hd, ldS_at hd, Mk.scCells, Bd.ctCells, shCells, ruCells]
 refine W_sr [1] fun R hR => ?_
 simp only [go_sem, ldA_at hd, ldS_at hd, Mk.scCells, Bd.ctCells, shCells, ruCells]
 refine GCall_of (PC.val (v' := I 0) (Ni.Check_pc Y _ x hx) (by rw [h0])) ?_
 simp only [go_sem, ldA_at hd, ldS_at hd, Mk.scCells, Bd.ctCells, shCells, ruCells]
 refine hR _ _ ?_; clear hR R
 try simp only [go_sem, ldA_at hd, ldS_at hd, Mk.scCells, Bd.ctCells, shCells, ruCells]
 refine W_ret ?_
 simp only [go_sem, ldA_at hd, ldS_at hd, Mk.scCells, Bd.ctCells, shCells, ruCells]
 refine ⟨.inr (by trivial), ?_⟩
 first | refine Fsa hcl rfl ?_ | refine Fse hcl rfl ?_
 try simp only [go_sem]
 all_goals
  first | rfl | (simp_all; done) | (simp_all; omega)
set_option maxHeartbeats 2000000 in
theorem run2_pc (Y : YEnv) (σ : Sg) (i1 : Nat) (s : List UInt8) (hl : s.length ≤ 8000) (hd : σ.store[i1]? = some (some [txt s])) :
 PC Tryz.prog Y 109 [.ptr i1 0] σ (I 0) (σ) := by
 refine PC_of_W Tryz.func109 rfl (by kernel_rfl) Tryz.ntmps109 (by simp) fun hcl hca => ?_
 have hq : ((s.length : Int) ≤ 8000) = True := eq_true (by omega)
 refine W_sr [0] fun R hR => ?_
 simp only [go_sem, ldS_at hd]
 refine hR _ _ ?_; clear hR R
 try simp only [go_sem, ldS_at hd]
 refine W_sr [1] fun R hR => ?_
 simp only [go_sem, ldS_at hd]
 refine GCall_of (PC.val (v' := I 0) (unless_pc Y _ _ 6) (by simp only [unl, hq, decide_true, if_true])) ?_
 simp only [go_sem, ldS_at hd]
 refine hR _ _ ?_; clear hR R
 try simp only [go_sem, ldS_at hd]
 refine W_ret ?_
 simp only [go_sem, ldS_at hd]
 refine ⟨.inr (by trivial), ?_⟩
 first | refine Fsa hcl rfl ?_ | refine Fse hcl rfl ?_
 try simp only [go_sem]
 all_goals
  first | rfl | (simp_all; done) | (simp_all; omega)
set_option maxHeartbeats 2000000 in
theorem run3_pc (Y : YEnv) (σ : Sg) (i1 : Nat) (s : List UInt8) (hl : s.length ≤ 8000) (hne : s ≠ []) (hsf : Lib.hasSuffix s [10] = true) (hd : σ.store[i1]? = some (some [txt s])) :
 PC Tryz.prog Y 111 [.ptr i1 0] σ (I 0) (σ) := by
 refine PC_of_W Tryz.func111 rfl (by kernel_rfl) Tryz.ntmps111 (by simp) fun hcl hca => ?_
 have hq : (s = []) = False := eq_false hne
 refine W_sr [0] fun R hR => ?_
 simp only [go_sem, ldS_at hd, hq, decide_false, decide_true]
 refine hR _ _ ?_; clear hR R
 try simp only [go_sem, ldS_at hd, hq, decide_false, decide_true]
 refine W_sr [1] fun R hR => ?_
 simp only [go_sem, ldS_at hd, hq, decide_false, decide_true]
 refine GCall_of (PC.val (v' := .bool true) (HasSuffix_pc Y _ s [10] (by omega)) (by rw [hsf])) ?_
 simp only [go_sem, ldS_at hd, hq, decide_false, decide_true]
 refine GCall_of (PC.val (v' := I 0) (unless_pc Y _ true 1) rfl) ?_
 simp only [go_sem, ldS_at hd, hq, decide_false, decide_true]
 refine hR _ _ ?_; clear hR R
 try simp only [go_sem, ldS_at hd, hq, decide_false, decide_true]
 refine W_ret ?_
 simp only [go_sem, ldS_at hd, hq, decide_false, decide_true]
 refine ⟨.inr (by trivial), ?_⟩
 first | refine Fsa hcl rfl ?_ | refine Fse hcl rfl ?_
 try simp only [go_sem]
 all_goals
  first | rfl | (simp_all; done) | (simp_all; omega)
set_option maxHeartbeats 2000000 in
theorem run4_pc (Y : YEnv) (σ : Sg) (i1 : Nat) (s : List UInt8) (hc : s.count 10 ≤ 100) (hd : σ.store[i1]? = some (some [txt s])) :
 PC Tryz.prog Y 113 [.ptr i1 0] σ (I 0) (σ) := by
 refine PC_of_W Tryz.func113 rfl (by kernel_rfl) Tryz.ntmps113 (by simp) fun hcl hca => ?_
 have hq : ((s.count 10 : Int) ≤ 100) = True := eq_true (by omega)
 refine W_sr [0] fun R hR => ?_
 simp only [go_sem, ldS_at hd]
 refine hR _ _ ?_; clear hR R
 try simp only [go_sem, ldS_at hd]
 refine W_sr [1] fun R hR => ?_
 simp only [go_sem, ldS_at hd]
 refine GCall_of (Count_pc Y _ s 10) ?_
 simp only [go_sem, ldS_at hd]
 refine GCall_of (PC.val (v' := I 0) (unless_pc Y _ _ 5) (by simp only [unl, hq, decide_true, if_true])) ?_
 simp only [go_sem, ldS_at hd]
 refine hR _ _ ?_; clear hR R
 try simp only [go_sem, ldS_at hd]
 refine W_ret ?_
 simp only [go_sem, ldS_at hd]
 refine ⟨.inr (by trivial), ?_⟩
 first | refine Fsa hcl rfl ?_ | refine Fse hcl rfl ?_
 try simp only [go_sem]
 all_goals
  first | rfl | (simp_all; done) | (simp_all; omega)
set_option maxHeartbeats 8000000 in
theorem run_pc (Y : YEnv) (σ : Sg) (x : Director) (cs : List Cmd) (hx : DiL x) (hs : ScL x) (h0 : chkDi x = 0) (hcs : ∀ c, c ∈ cs → CmdOK c) (hn : cs ≠ []) (hn2 : cs.length ≤ 100) (s : List UInt8) (hS : textT (cs.map cmdT) = s) (hsl : s.length ≤ 8000) :
 PC Tryz.prog Y 52 [diPV x, txt s] σ (.tuple [.undef, .isl ((runD x ⟨0, []⟩ cs).1.map txt) .ro, I 0]) (σ) := by
 refine PC_of_W Tryz.func52 rfl (by kernel_rfl) Tryz.ntmps52 (by simp) fun hcl hca => ?_
 obtain ⟨rows, hrows⟩ : ∃ z, cs.map cmdT = z := ⟨_, rfl⟩
 have hrl0 : rows.length = cs.length := by rw [← hrows]; simp
 rw [hrows] at hS
 have hrt : textT rows = s := hS
 have hfr : ∀ q, q ∈ rows → (10 : UInt8) ∉ q := fun q hq => by
  rw [← hrows] at hq
  obtain ⟨c, hc, rfl⟩ := List.mem_map.1 hq
  exact cmdT_free (hcs c hc)
 have hrne : rows ≠ [] := fun h => hn (by rw [h] at hrl0; exact List.eq_nil_of_length_eq_zero hrl0.symm)
 have hne : s ≠ [] := fun h => hrne (textT_nil (hrt.trans h))
 have hsf : Lib.hasSuffix s [10] = true := by rw [← hrt]; exact suffix_text hrne
 have hct : s.count 10 ≤ 100 := by rw [← hrt, count_text hfr]; omega
 have hall := repAt_all x cs
 rw [← hrl0] at hall
 refine W_sr [2, 3] fun R hR => ?_
 simp only [go_sem, Mk.scCells, Bd.ctCells, dkSg_ext2]
 refine hR _ _ ?_; clear hR R
 try simp only [go_sem, Mk.scCells, Bd.ctCells, dkSg_ext2]
 refine W_sr [2, 3, 7] fun R hR => ?_
 simp only [go_sem, Mk.scCells, Bd.ctCells, dkSg_ext2]
 refine GCall_of (PC.val (v' := I 0) (first_pc Y _ [(107, [.ptr σ.store.length 0]), (109, [.ptr (σ.store.length + 1) 0]), (111, [.ptr (σ.store.length + 1) 0]), (113, [.ptr (σ.store.length + 1) 0])] [0, 0, 0, 0] .exact (by exact (.cons (run1_pc Y _ _ x hx h0 (Sg.get_ext0 ..)) (fun _ => .cons (run2_pc Y _ _ s hsl (Sg.get_ext (k := 1) ..)) (fun _ => .cons (run3_pc Y _ _ s hsl hne hsf (Sg.get_ext (k := 1) ..)) (fun _ => .cons (run4_pc Y _ _ s hct (Sg.get_ext (k := 1) ..)) (fun _ => .nil) rfl) rfl) rfl) rfl)) (by simp)) rfl) ?_
 simp only [go_sem, Mk.scCells, Bd.ctCells, dkSg_ext2]
 refine hR _ _ ?_; clear hR R
 try simp only [go_sem, Mk.scCells, Bd.ctCells, dkSg_ext2]
 refine W_seq fun Z3 K3 => ?_
 refine W_sr [2, 3, 7, 18] fun R hR => ?_
 simp only [go_sem, Mk.scCells, Bd.ctCells, dkSg_ext2]
 refine hR _ _ ?_; clear hR R
 try simp only [go_sem, Mk.scCells, Bd.ctCells, dkSg_ext2]
 refine W_cond_false rfl ?_
 refine W_skip (K3 _ _ ?_)
 refine W_sr [3, 8] fun R hR => ?_
 simp only [go_sem, Mk.scCells, Bd.ctCells, dkSg_ext2]
 refine hR _ _ ?_; clear hR R
 try simp only [go_sem, Mk.scCells, Bd.ctCells, dkSg_ext2]
 refine W_sr [3, 8, 9] fun R hR => ?_
 simp only [go_sem, Mk.scCells, Bd.ctCells, dkSg_ext2]
 refine hR _ _ ?_; clear hR R
 try simp only [go_sem, Mk.scCells, Bd.ctCells, dkSg_ext2]
 refine W_seq fun Z7 K7 => ?_
 refine W_sr [8, 9, 24] fun R hR => ?_
 simp only [go_sem, Mk.scCells, Bd.ctCells, dkSg_ext2]
 refine GCall_of (lines_pc Y _ s) ?_
 simp only [go_sem, Mk.scCells, Bd.ctCells, dkSg_ext2]
 refine hR _ _ ?_; clear hR R
 try simp only [go_sem, Mk.scCells, Bd.ctCells, dkSg_ext2]
 refine W_block ?_
 let L : Nat → Nat → List (Option (List PV)) := fun k j => [some (diCells x), some [txt s], some (wkCells (deskAt x cs k).sec (deskAt x cs k).st (.tok σ.rooms.length (deskAt x cs k).st.length 1) x), some [.ptr (σ.store.length + 2) 0], some [.isl ((repAt x cs k).map txt) (.tok (σ.rooms.length + 1) (repAt x cs k).length 1)], some [txt (textT (rows.drop j))]]
 let so : Nat → Sg := fun k => σ.ext (L k k) [(deskAt x cs k).st.length, (repAt x cs k).length] [.ready]
 let so2 : Nat → Sg := fun k => σ.ext (L (k + 1) k) [(deskAt x cs (k + 1)).st.length, (repAt x cs (k + 1)).length] [.ready]
 refine W_weak (Weak.roomX (j := 2) (off := 1) (es := 1) rfl rfl (by simp)) ?_
 simp only [go_sem]
 refine W_weak (Weak.roomX (j := 4) (off := 0) (es := 1) rfl rfl (by simp)) ?_
 simp only [go_sem]
 refine W_rangeFunc (gf := 176) (v := .tuple []) (s := .ready) (σ5 := so rows.length) rfl (by simp) (fun args τ b' τ' => ∃ k c, cs[k]? = some c ∧ args = [txt (cmdT c)] ∧ b' = true ∧ τ = so k ∧ τ' = so2 k) ?_ ?_ ?_ ?_ ?_
 ·rintro args τ b τ' ⟨k, c, hc, rfl, rfl, rfl, rfl⟩
  refine ⟨rfl, ?_, ?_⟩
  ·simp only [so, go_sem]
  simp only [so, L, go_sem]
  refine W_region [8, 9, 10] fun R hR => ?_
  simp only [go_sem, Mk.scCells, Bd.ctCells, dkSg_ext2, putAll]
  refine hR _ _ ?_; clear hR R
  try simp only [go_sem, Mk.scCells, Bd.ctCells, dkSg_ext2, putAll]
  obtain ⟨hD1, hR1⟩ := run_succ (x := x) hc
  have hkl : k < cs.length := (List.getElem?_eq_some_iff.1 hc).1
  obtain ⟨hok, hrl⟩ := run_ok (x := x) hcs k (by omega)
  have hcc := hcs c (List.mem_of_getElem? hc)
  obtain ⟨⟨sec, st⟩, hDk⟩ : ∃ z, deskAt x cs k = z := ⟨_, rfl⟩
  rw [hDk] at hD1 hR1 hok
  obtain ⟨⟨sec2, st2⟩, hs2⟩ : ∃ z, (stepD x ⟨sec, st⟩ c).2 = z := ⟨_, rfl⟩
  obtain ⟨q, hq⟩ : ∃ z, (stepD x ⟨sec, st⟩ c).1 = z := ⟨_, rfl⟩
  rw [hs2] at hD1
  rw [hq] at hR1
  simp only [hDk]
  refine W_post_weak ?_
  refine W_block ?_
  refine W_draw [] [0, 1, 2, 3, 4, 5, 6] [(0, 5)] [[], [], [], [1, 2], [1, 2, 3], [0, 1, 2, 3, 4], [0, 1, 2, 3, 4, 5]] mixed (by kernel_rfl) fun R hR => ?_
  simp only [go_sem, Mk.scCells, Bd.ctCells, dkSg_ext2, putAll, hs2, hrl]
  refine GCall_of (PC.val (v' := txt q) (deskLine_pc Y _ (σ.store.length + 2) σ.rooms.length sec st x c DkS_ext2 hok hs hcc) (by rw [hq])) ?_
  simp only [go_sem, Mk.scCells, Bd.ctCells, dkSg_ext2, putAll, hs2, hrl]
  try simp (disch := (first | omega | (simp only [go_sem, List.length_append] <;> omega))) only [wrapI, wrapU, appX_exact, appX_tok, strAdd, slT, slTa, slTb]
  try simp only [go_sem, Mk.scCells, Bd.ctCells, dkSg_ext2, putAll, hs2, hrl]
  try refine And.intro (by repeat' (first | refine And.intro ?_ ?_ | exact trivial | exact GOr_right (fun _ => by simp only [go_sem, Mk.scCells, Bd.ctCells, dkSg_ext2, putAll, hs2, hrl]))) ?_
  refine hR _ _ ?_; clear hR R
  try simp only [go_sem, Mk.scCells, Bd.ctCells, dkSg_ext2, putAll]
  refine ⟨[], _, Weak.keep [], ?_⟩
  simp only [RoundEnd, so2, L, hrl, hD1, hR1, List.map_append, List.map_cons, List.map_nil, List.length_append, List.length_cons, List.length_nil, go_sem, Mk.scCells, Bd.ctCells]
 ·have hst := lines1_pc (Y.at σ.ys.length (fun args τ b' τ' => ∃ k c, cs[k]? = some c ∧ args = [txt (cmdT c)] ∧ b' = true ∧ τ = so k ∧ τ' = so2 k)) σ σ.ys.length (σ.store.length + 5) rows so so2 hfr (by rw [hrt]; omega)
   (fun k _ => by simp only [so, L]; exact Sg.get_ext ..) (fun k _ => by simp only [so2, L]; exact Sg.get_ext ..)
   (fun k q hq => by
    rw [YEnv.at_self]
    rw [← hrows, List.getElem?_map, Option.map_eq_some_iff] at hq
    obtain ⟨c, hc, rfl⟩ := hq
    exact ⟨k, c, hc, rfl, rfl, rfl, rfl⟩)
   (fun k _ => by simp only [so, so2, L, Sg.set_ext]; rfl)
   (by simp only [so, L, go_sem] <;> omega) (by simp only [so, L, go_sem] <;> omega) (by simp only [so, L, go_sem])
   (fun _ => CleanSg_ext hcl (by show CleanLs _ _ _ _; simp only [L, go_sem, Mk.scCells, Bd.ctCells]; simp))
  have hs0 : so 0 = σ.ext (L 0 0) [0, 0] [.ready] := rfl
  rw [hs0] at hst
  simp only [L, deskAt_0, repAt_0, List.drop_zero, hrt, go_sem, Mk.scCells, Bd.ctCells] at hst ⊢
  exact hst
 ·simp only [so, L, go_sem]
 ·simp only [go_sem]
  exact CleanCut_ext hcl (by simp only [so, L, go_sem] <;> omega) (by simp only [so, L, go_sem, Nat.le_add_right]) (by omega) (by show CleanLs _ _ _ _; simp only [so, L, go_sem, Mk.scCells, Bd.ctCells]; simp)
 simp only [AfterLoop, so, L, go_sem]
 refine K7 _ _ ?_
 refine W_seq fun Z9 K9 => ?_
 refine W_draw [4, 5, 6] [0, 1, 2, 3, 4] [] [[], [], [0], [0, 1, 2], [0, 1, 2, 3]] mixed (by kernel_rfl) fun R hR => ?_
 simp only [go_sem, Mk.scCells, Bd.ctCells, dkSg_ext2]
 try refine And.intro (by repeat' (first | refine And.intro ?_ ?_ | exact trivial | exact GOr_right (fun _ => by simp only [go_sem, Mk.scCells, Bd.ctCells, dkSg_ext2]))) ?_
 refine hR _ _ (K9 _ _ ?_); clear hR R; try clear K9 Z9
 try simp only [go_sem, Mk.scCells, Bd.ctCells, dkSg_ext2]
 refine W_ret ?_
 simp only [go_sem, Mk.scCells, Bd.ctCells, dkSg_ext2]
 refine ⟨.inr (by trivial), ?_⟩
 rw [← hall]
 refine Fin_same hcl rfl (Wk_tup3 Wk_undef (Wk.ro (by simp only [go_sem]) (by simp only [go_sem])) (Wk_eq rfl (by simp only [go_sem])))
 try simp only [go_sem]
 all_goals
  skip
end Go.Proofs.YtpkkegbiddcodaaGreatDoor.Sd
namespace Go.Proofs.YtpkkegbiddcodaaGreatDoor.Mk
open Go Go.RowKit
set_option maxRecDepth 100000
/-- What depends on the drum's beat, and the beat behind it. -/
abbrev D (α : Type) := Int → α × Int
def dret {α : Type} (a : α) : D α := fun b => (a, b)
def dbind {α β : Type} (m : D α) (f : α → D β) : D β := fun b => f (m b).1 (m b).2
def Holds {α : Type} (m : D α) (R : α → Prop) : Prop := ∀ b, R (m b).1
theorem Holds.ret {α : Type} {a : α} {R : α → Prop} (h : R a) : Holds (dret a) R := fun _ => h
theorem Holds.bind {α β : Type} {m : D α} {f : α → D β} {R : α → Prop} {S : β → Prop} (h : Holds m R) (k : ∀ a, R a → Holds (f a) S) : Holds (dbind m f) S := fun b => k _ (h b) _
theorem Holds.mono {α : Type} {m : D α} {R S : α → Prop} (h : Holds m R) (k : ∀ a, R a → S a) : Holds m S := fun b => k _ (h b)
def xorU (a b : Int) : Int := match arith .xor .u64 a b with | some (.int _ n) => n | _ => 0
def hitB (b : Int) : Int := IntKind.u64.wrap (IntKind.u64.wrap (b * 15074714826142052245) + 11400714819323198485)
def hitM (x : Int) : Int := IntKind.u64.wrap (xorU x (x.fdiv 4294967296) * 15760922415973212899)
def hitX (b : Int) : Int := xorU (hitM (hitM (hitB b))) ((hitM (hitM (hitB b))).fdiv 4294967296)
theorem wrapU_bd (n : Int) : 0 ≤ IntKind.u64.wrap n ∧ IntKind.u64.wrap n ≤ 18446744073709551615 := by
 have h : IntKind.u64.wrap n = n % 18446744073709551616 := rfl
 rw [h]; omega
theorem hitX_bd (b : Int) : 0 ≤ hitX b ∧ hitX b ≤ 18446744073709551615 := wrapU_bd _
def roll0 (n : Int) : D Int := fun b => if n < 2 then (0, b) else ((hitX b / 2) % n, hitB b)
/-- A number drawn: sealed, so that nobody computes with it. -/
noncomputable def roll : Int → D Int := Classical.choose (⟨roll0, rfl⟩ : ∃ f, f = roll0)
theorem roll_eq : roll = fun n b => if n < 2 then (0, b) else ((hitX b / 2) % n, hitB b) := Classical.choose_spec (⟨roll0, rfl⟩ : ∃ f, f = roll0)
noncomputable def mid (lo hi : Int) : D Int := fun b => (lo + (roll (hi - lo + 1) b).1, (roll (hi - lo + 1) b).2)
noncomputable def anyOf (l : List Int) : D Int := fun b => ((l[(roll l.length b).1.toNat]?).getD 0, (roll l.length b).2)
theorem roll_bd (n : Int) : Holds (roll n) fun r => 0 ≤ r ∧ r < max n 1 := by
 intro b
 rw [roll_eq]
 dsimp only
 have := hitX_bd b
 by_cases h : n < 2
 ·rw [if_pos h]; simp only []; omega
 rw [if_neg h]
 have h1 := Int.emod_nonneg (hitX b / 2) (show n ≠ 0 by omega)
 have h2 := Int.emod_lt_of_pos (hitX b / 2) (show 0 < n by omega)
 simp only []; omega
theorem mid_bd (lo hi : Int) (h : lo ≤ hi) : Holds (mid lo hi) fun r => lo ≤ r ∧ r ≤ hi := by
 intro b
 have := roll_bd (hi - lo + 1) b
 simp only [mid] at *
 omega
theorem anyOf_mem (l : List Int) (h : l ≠ []) : Holds (anyOf l) fun r => r ∈ l := by
 intro b
 have := roll_bd l.length b
 simp only [anyOf] at *
 have hl : 0 < l.length := by cases l with | nil => exact absurd rfl h | cons => simp
 have hlt : (roll (l.length : Int) b).1.toNat < l.length := by omega
 rw [List.getElem?_eq_getElem hlt]
 exact List.getElem_mem hlt
set_option maxHeartbeats 2000000 in
theorem hit_pc (Y : YEnv) (σ : Sg) (d : Nat) (b : Int) (hd : σ.store[d]? = some (some [.int .u64 b])) :
 PC Tryz.prog Y 34 [.ptr d 0] σ (.int .u64 (hitX b)) (σ.setVar d [.int .u64 (hitB b)]) := by
 refine PC_of_W Tryz.func34 rfl (by kernel_rfl) Tryz.ntmps34 (by simp) fun hcl hca => ?_
 have hlt := lt_of_get hd
 refine W_sr [0] fun R hR => ?_
 simp only [go_sem, ldS_at hd, stX_at hd, ldS_sv hlt, stX_sv hlt, sv_ext hlt, sv_ext_sv hlt]
 refine hR _ _ ?_; clear hR R
 try simp only [go_sem, ldS_at hd, stX_at hd, ldS_sv hlt, stX_sv hlt, sv_ext hlt, sv_ext_sv hlt]
 refine W_sr [0] fun R hR => ?_
 simp only [go_sem, ldS_at hd, stX_at hd, ldS_sv hlt, stX_sv hlt, sv_ext hlt, sv_ext_sv hlt]
 try simp (disch := omega) only [wrapI, wrapU]
 refine hR _ _ ?_; clear hR R
 try simp only [go_sem, ldS_at hd, stX_at hd, ldS_sv hlt, stX_sv hlt, sv_ext hlt, sv_ext_sv hlt]
 refine W_sr [3] fun R hR => ?_
 simp only [go_sem, ldS_at hd, stX_at hd, ldS_sv hlt, stX_sv hlt, sv_ext hlt, sv_ext_sv hlt]
 refine hR _ _ ?_; clear hR R
 try simp only [go_sem, ldS_at hd, stX_at hd, ldS_sv hlt, stX_sv hlt, sv_ext hlt, sv_ext_sv hlt]
 refine W_sr [3] fun R hR => ?_
 simp only [go_sem, ldS_at hd, stX_at hd, ldS_sv hlt, stX_sv hlt, sv_ext hlt, sv_ext_sv hlt]
 try simp (disch := omega) only [wrapI, wrapU]
 refine hR _ _ ?_; clear hR R
 try simp only [go_sem, ldS_at hd, stX_at hd, ldS_sv hlt, stX_sv hlt, sv_ext hlt, sv_ext_sv hlt]
 refine W_sr [3] fun R hR => ?_
 simp only [go_sem, ldS_at hd, stX_at hd, ldS_sv hlt, stX_sv hlt, sv_ext hlt, sv_ext_sv hlt]
 try simp (disch := omega) only [wrapI, wrapU]
 refine hR _ _ ?_; clear hR R
 try simp only [go_sem, ldS_at hd, stX_at hd, ldS_sv hlt, stX_sv hlt, sv_ext hlt, sv_ext_sv hlt]
 refine W_sr [2] fun R hR => ?_
 simp only [go_sem, ldS_at hd, stX_at hd, ldS_sv hlt, stX_sv hlt, sv_ext hlt, sv_ext_sv hlt]
 refine hR _ _ ?_; clear hR R
 try simp only [go_sem, ldS_at hd, stX_at hd, ldS_sv hlt, stX_sv hlt, sv_ext hlt, sv_ext_sv hlt]
 refine W_ret ?_
 simp only [go_sem, ldS_at hd, stX_at hd, ldS_sv hlt, stX_sv hlt, sv_ext hlt, sv_ext_sv hlt]
 refine ⟨.inr (by trivial), ?_⟩
 first | refine Fin_set hcl (by simp only [go_sem]) rfl (Wk_eq ?_ (by simp only [go_sem])) | refine Fin_set0 hcl (by simp only [go_sem]) rfl (Wk_eq ?_ (by simp only [go_sem]))
 try simp only [go_sem]
 all_goals
  simp only [hitX, hitM, hitB, xorU, go_sem]; simp (disch := omega) only [wrapU]
set_option maxHeartbeats 2000000 in
theorem Roll_lo (Y : YEnv) (σ : Sg) (d : Nat) (n : Int) (hn : n < 2) :
 PC Tryz.prog Y 11 [.ptr d 0, I n] σ (I 0) (σ) := by
 refine PC_of_W Tryz.func11 rfl (by kernel_rfl) Tryz.ntmps11 (by simp) fun hcl hca => ?_
 refine W_sr [0, 1] fun R hR => ?_
 simp only [go_sem]
 refine hR _ _ ?_; clear hR R
 try simp only [go_sem]
 refine W_seq fun Z2 K2 => ?_
 refine W_sr [0, 1, 6] fun R hR => ?_
 simp only [go_sem]
 refine hR _ _ ?_; clear hR R
 try simp only [go_sem]
 refine W_cond rfl (fun c1 => ?_) (fun c1 => ?_)
 ·
  try simp only [nrm] at c1
  refine W_sr [4] fun R hR => ?_
  simp only [go_sem]
  refine hR _ _ ?_; clear hR R
  try simp only [go_sem]
  refine W_ret ?_
  simp only [go_sem]
  refine ⟨.inr (by trivial), ?_⟩
  first | refine Fsa hcl rfl ?_ | refine Fse hcl rfl ?_
  try simp only [go_sem]
  all_goals
   first | rfl | (simp_all; done) | (simp_all; omega)
 try simp only [nrm] at c1
 exfalso
 omega
set_option maxHeartbeats 2000000 in
theorem Roll_hi (Y : YEnv) (σ : Sg) (d : Nat) (b : Int) (hd : σ.store[d]? = some (some [.int .u64 b])) (n : Int) (hn : 2 ≤ n) (hn2 : n < 2 ^ 62) :
 PC Tryz.prog Y 11 [.ptr d 0, I n] σ (I ((hitX b / 2) % n)) (σ.setVar d [.int .u64 (hitB b)]) := by
 refine PC_of_W Tryz.func11 rfl (by kernel_rfl) Tryz.ntmps11 (by simp) fun hcl hca => ?_
 have hlt := lt_of_get hd
 have hb := hitX_bd b
 have e1 : (hitX b).fdiv 2 = hitX b / 2 := Int.fdiv_eq_ediv_of_nonneg _ (by omega)
 have e2 : (hitX b / 2).tmod n = (hitX b / 2) % n := Int.tmod_eq_emod_of_nonneg (by omega)
 have h1 := Int.emod_nonneg (hitX b / 2) (show n ≠ 0 by omega)
 have h2 := Int.emod_lt_of_pos (hitX b / 2) (show 0 < n by omega)
 have e3 : ¬ n = 0 := by omega
 have e4 : IntKind.u64.wrap n = n := wrapU (by omega) (by omega)
 refine W_sr [0, 1] fun R hR => ?_
 simp only [go_sem, ldS_at hd, stX_at hd, ldS_sv hlt, stX_sv hlt, sv_ext hlt, sv_ext_sv hlt]
 refine hR _ _ ?_; clear hR R
 try simp only [go_sem, ldS_at hd, stX_at hd, ldS_sv hlt, stX_sv hlt, sv_ext hlt, sv_ext_sv hlt]
 refine W_seq fun Z2 K2 => ?_
 refine W_sr [0, 1, 6] fun R hR => ?_
 simp only [go_sem, ldS_at hd, stX_at hd, ldS_sv hlt, stX_sv hlt, sv_ext hlt, sv_ext_sv hlt]
 refine hR _ _ ?_; clear hR R
 try simp only [go_sem, ldS_at hd, stX_at hd, ldS_sv hlt, stX_sv hlt, sv_ext hlt, sv_ext_sv hlt]
 refine W_cond rfl (fun c1 => ?_) (fun c1 => ?_)
 ·
  try simp only [nrm] at c1
  exfalso
  omega
 try simp only [nrm] at c1
 refine W_skip (K2 _ _ ?_)
 refine W_sr [4] fun R hR => ?_
 simp only [go_sem, ldS_at hd, stX_at hd, ldS_sv hlt, stX_sv hlt, sv_ext hlt, sv_ext_sv hlt, e4, e1, e2, e3]
 refine GCall_of (hit_pc Y _ d b hd) ?_
 simp only [go_sem, ldS_at hd, stX_at hd, ldS_sv hlt, stX_sv hlt, sv_ext hlt, sv_ext_sv hlt, e4, e1, e2, e3]
 try simp (disch := omega) only [wrapI, wrapU]
 refine hR _ _ ?_; clear hR R
 try simp only [go_sem, ldS_at hd, stX_at hd, ldS_sv hlt, stX_sv hlt, sv_ext hlt, sv_ext_sv hlt]
 refine W_ret ?_
 simp only [go_sem, ldS_at hd, stX_at hd, ldS_sv hlt, stX_sv hlt, sv_ext hlt, sv_ext_sv hlt]
 refine ⟨.inr (by trivial), ?_⟩
 first | refine Fin_set hcl (by simp only [go_sem]) rfl (Wk_eq ?_ (by simp only [go_sem])) | refine Fin_set0 hcl (by simp only [go_sem]) rfl (Wk_eq ?_ (by simp only [go_sem]))
 try simp only [go_sem]
 all_goals
  first | rfl | (simp_all; done) | (simp_all; omega)
theorem Roll_pc (Y : YEnv) (σ : Sg) (d : Nat) (b : Int) (hd : σ.store[d]? = some (some [.int .u64 b])) (n : Int) (hn2 : n < 2 ^ 62) : PC Tryz.prog Y 11 [.ptr d 0, I n] σ (I (roll n b).1) (σ.setVar d [.int .u64 (roll n b).2]) := by
 rw [roll_eq]
 dsimp only
 by_cases h : n < 2
 ·rw [if_pos h]; simp only []; rw [sv_self hd]; exact Roll_lo Y σ d n h
 rw [if_neg h]; exact Roll_hi Y σ d b hd n (by omega) hn2
set_option maxHeartbeats 2000000 in
theorem Mid_pc (Y : YEnv) (σ : Sg) (d : Nat) (b : Int) (hd : σ.store[d]? = some (some [.int .u64 b])) (lo hi : Int) (h1 : -2 ^ 60 ≤ lo) (h2 : lo ≤ 2 ^ 60) (h3 : -2 ^ 60 ≤ hi) (h4 : hi ≤ 2 ^ 60) :
 PC Tryz.prog Y 40 [.ptr d 0, I lo, I hi] σ (I (mid lo hi b).1) (σ.setVar d [.int .u64 (mid lo hi b).2]) := by
 refine PC_of_W Tryz.func40 rfl (by kernel_rfl) Tryz.ntmps40 (by simp) fun hcl hca => ?_
 have hlt := lt_of_get hd
 have hr := roll_bd (hi - lo + 1) b
 simp only [] at hr
 refine W_sr [0, 1, 2] fun R hR => ?_
 simp only [go_sem, ldS_at hd, stX_at hd, ldS_sv hlt, stX_sv hlt, sv_ext hlt, sv_ext_sv hlt]
 refine hR _ _ ?_; clear hR R
 try simp only [go_sem, ldS_at hd, stX_at hd, ldS_sv hlt, stX_sv hlt, sv_ext hlt, sv_ext_sv hlt]
 refine W_sr [6] fun R hR => ?_
 simp only [go_sem, ldS_at hd, stX_at hd, ldS_sv hlt, stX_sv hlt, sv_ext hlt, sv_ext_sv hlt]
 try simp (disch := omega) only [wrapI, wrapU]
 refine GCall_of (Roll_pc Y _ d b (by first | exact hd | exact sv_get hlt | exact get_svx hlt | exact get_extx hd) _ (by omega)) ?_
 simp only [go_sem, ldS_at hd, stX_at hd, ldS_sv hlt, stX_sv hlt, sv_ext hlt, sv_ext_sv hlt]
 try simp (disch := omega) only [wrapI, wrapU]
 refine hR _ _ ?_; clear hR R
 try simp only [go_sem, ldS_at hd, stX_at hd, ldS_sv hlt, stX_sv hlt, sv_ext hlt, sv_ext_sv hlt]
 refine W_ret ?_
 simp only [go_sem, ldS_at hd, stX_at hd, ldS_sv hlt, stX_sv hlt, sv_ext hlt, sv_ext_sv hlt]
 refine ⟨.inr (by trivial), ?_⟩
 first | refine Fin_set hcl (by simp only [go_sem]) rfl (Wk_eq ?_ (by simp only [go_sem])) | refine Fin_set0 hcl (by simp only [go_sem]) rfl (Wk_eq ?_ (by simp only [go_sem]))
 try simp only [go_sem]
 all_goals
  first | rfl | (simp_all; done) | (simp_all; omega)
set_option maxHeartbeats 2000000 in
theorem Any_pc (Y : YEnv) (σ : Sg) (d : Nat) (b : Int) (hd : σ.store[d]? = some (some [.int .u64 b])) (l : List Int) (hl : l ≠ []) (hl2 : l.length < 2 ^ 50) :
 PC Tryz.prog Y 7 [.ptr d 0, .isl (l.map I) .exact] σ (I (anyOf l b).1) (σ.setVar d [.int .u64 (anyOf l b).2]) := by
 refine PC_of_W Tryz.func7 rfl (by kernel_rfl) Tryz.ntmps7 (by simp) fun hcl hca => ?_
 have hlt := lt_of_get hd
 have hr := roll_bd l.length b
 simp only [] at hr
 have hl0 : 0 < l.length := by cases l with | nil => exact absurd rfl hl | cons => simp
 have hlt2 : (roll (l.length : Int) b).1.toNat < l.length := by omega
 obtain ⟨x, hx⟩ : ∃ x, l[(roll (l.length : Int) b).1.toNat]? = some x := ⟨_, List.getElem?_eq_getElem hlt2⟩
 have hnn := hr.1
 refine W_sr [0, 1] fun R hR => ?_
 simp only [go_sem, ldS_at hd, stX_at hd, ldS_sv hlt, stX_sv hlt, sv_ext hlt, sv_ext_sv hlt]
 refine hR _ _ ?_; clear hR R
 try simp only [go_sem, ldS_at hd, stX_at hd, ldS_sv hlt, stX_sv hlt, sv_ext hlt, sv_ext_sv hlt]
 refine W_seq fun Z2 K2 => ?_
 refine W_sr [0, 1, 7] fun R hR => ?_
 simp only [go_sem, ldS_at hd, stX_at hd, ldS_sv hlt, stX_sv hlt, sv_ext hlt, sv_ext_sv hlt]
 refine hR _ _ ?_; clear hR R
 try simp only [go_sem, ldS_at hd, stX_at hd, ldS_sv hlt, stX_sv hlt, sv_ext hlt, sv_ext_sv hlt]
 refine W_cond rfl (fun c1 => ?_) (fun c1 => ?_)
 ·
  try simp only [nrm] at c1
  exfalso
  omega
 try simp only [nrm] at c1
 refine W_skip (K2 _ _ ?_)
 refine W_sr [4] fun R hR => ?_
 simp only [go_sem, ldS_at hd, stX_at hd, ldS_sv hlt, stX_sv hlt, sv_ext hlt, sv_ext_sv hlt, hnn, hx]
 refine GCall_of (Roll_pc Y _ d b (by first | exact hd | exact sv_get hlt | exact get_svx hlt | exact get_extx hd) _ (by omega)) ?_
 simp only [go_sem, ldS_at hd, stX_at hd, ldS_sv hlt, stX_sv hlt, sv_ext hlt, sv_ext_sv hlt, hnn, hx]
 refine hR _ _ ?_; clear hR R
 try simp only [go_sem, ldS_at hd, stX_at hd, ldS_sv hlt, stX_sv hlt, sv_ext hlt, sv_ext_sv hlt]
 refine W_ret ?_
 simp only [go_sem, ldS_at hd, stX_at hd, ldS_sv hlt, stX_sv hlt, sv_ext hlt, sv_ext_sv hlt]
 refine ⟨.inr (by trivial), ?_⟩
 first | refine Fin_set hcl (by simp only [go_sem]) rfl (Wk_eq ?_ (by simp only [go_sem])) | refine Fin_set0 hcl (by simp only [go_sem]) rfl (Wk_eq ?_ (by simp only [go_sem]))
 try simp only [go_sem]
 all_goals
  simp only [anyOf, hx, Option.getD_some]
def drumB : List Int → Int → Int
 | [], b => b
 | x :: r, b => drumB r (hitB (xorU b (IntKind.u64.wrap x)))
set_option maxHeartbeats 2000000 in
theorem DrumOf_pc (Y : YEnv) (σ : Sg) (nums : List Int) (hl : nums.length < 2 ^ 60) :
 PC Tryz.prog Y 5 [ints nums] σ (.ptr σ.store.length 0) (σ.ext [some [.int .u64 (drumB nums 2685821657736338717)]] []) := by
 refine PC_of_W Tryz.func5 rfl (by kernel_rfl) Tryz.ntmps5 (by simp) fun hcl hca => ?_
 refine W_sr [0] fun R hR => ?_
 simp only [go_sem]
 refine hR _ _ ?_; clear hR R
 try simp only [go_sem]
 refine W_sr [0, 3] fun R hR => ?_
 simp only [go_sem]
 refine hR _ _ ?_; clear hR R
 try simp only [go_sem]
 refine W_seq fun Z3 K3 => ?_
 refine W_sr [0, 3, 4] fun R hR => ?_
 simp only [go_sem]
 refine hR _ _ ?_; clear hR R
 try simp only [go_sem]
 refine W_block ?_
 refine W_loopT (α := Nat × Int) (fun ⟨i, b⟩ => [(4, I i)]) (fun ⟨i, b⟩ => σ.ext [some [.int .u64 b]] []) (fun ⟨i, b⟩ => i ≤ nums.length ∧ drumB nums 2685821657736338717 = drumB (nums.drop i) b) (fun ⟨i, b⟩ => nums.length - i) ((0, 2685821657736338717)) rfl (by first | rfl | (simp only [go_sem]; done) | (simp only [go_sem]; rfl)) (⟨Nat.zero_le _, rfl⟩) ?_
 rintro ⟨i, b⟩ ⟨hi, hb⟩
 refine W_seq fun Z5 K5 => ?_
 refine W_sr [0, 3, 4, 10] fun R hR => ?_
 simp only [go_sem]
 refine hR _ _ ?_; clear hR R
 try simp only [go_sem]
 refine W_cond rfl (fun c1 => ?_) (fun c1 => ?_)
 ·
  try simp only [nrm] at c1
  have hi' : i < nums.length := by first | assumption | omega
  obtain ⟨x, hx⟩ : ∃ x, nums[i]? = some x := ⟨nums[i], by simp [hi']⟩
  have hdrop : nums.drop i = x :: nums.drop (i + 1) := by
   rw [List.drop_eq_getElem_cons hi']; congr 1; exact (List.getElem?_eq_some_iff.1 hx).2
  rw [hdrop] at hb
  simp only [drumB] at hb
  refine W_skip (K5 _ _ ?_)
  refine W_seq fun Z7 K7 => ?_
  refine W_block ?_
  refine W_seq fun Z8 K8 => ?_
  refine W_draw [0, 3, 4] [0, 1, 2, 3, 4, 5, 6, 7, 8, 9, 10, 11, 12, 13] [] [[], [], [1], [1, 2], [1, 2, 3], [], [], [5, 6], [5, 6, 7], [5, 6, 7, 8], [1, 2, 3, 4, 5, 6, 7, 8, 9], [0, 1, 2, 3, 4, 5, 6, 7, 8, 9, 10], [0, 1, 2, 3, 4, 5, 6, 7, 8, 9, 10, 11], [0, 1, 2, 3, 4, 5, 6, 7, 8, 9, 10, 11, 12]] mixed (by kernel_rfl) fun R hR => ?_
  simp only [go_sem, hx]
  try simp (disch := omega) only [wrapI, wrapU]
  try refine And.intro (by repeat' (first | refine And.intro ?_ ?_ | exact GOr_right (fun _ => by simp only [go_sem, hx]))) ?_
  refine hR _ _ (K8 _ _ ?_); clear hR R; try clear K8 Z8
  try simp only [go_sem, hx]
  refine W_region [0, 3, 4] fun R hR => ?_
  simp only [go_sem, hx]
  refine GCall_of (hit_pc Y _ _ _ (Sg.get_ext0 _ _ _ _)) ?_
  simp only [go_sem, hx]
  refine hR _ _ (K7 _ _ ?_); clear hR R; try clear K7 Z7
  try simp only [go_sem, hx]
  refine W_region [0, 3, 4] fun R hR => ?_
  simp only [go_sem, hx]
  try simp (disch := omega) only [wrapI, wrapU]
  refine hR _ _ ?_; clear hR R
  try simp only [go_sem, hx]
  refine ⟨(i + 1, hitB (xorU b (IntKind.u64.wrap x))), ?_, by (try simp only []); omega, ?_⟩
  ·exact Weak.eq (by rfl) (by simp only [xorU, go_sem]; simp (disch := omega) only [wrapU])
  try dsimp only
  exact ⟨hi', hb⟩
 try simp only [nrm] at c1
 have hdrop : nums.drop i = [] := List.drop_eq_nil_of_le (by omega)
 rw [hdrop] at hb
 simp only [drumB] at hb
 refine W_exit ?_
 simp only [go_sem]
 refine K3 _ _ ?_
 refine W_sr [2] fun R hR => ?_
 simp only [go_sem]
 refine hR _ _ ?_; clear hR R
 try simp only [go_sem]
 refine W_ret ?_
 simp only [go_sem]
 refine ⟨.inr (by trivial), ?_⟩
 rw [hb]; exact Fin_ext 1 0 hcl rfl (Wk_eq rfl (by simp only [go_sem] <;> omega)) (by show CleanLs _ _ _ _; simp only [go_sem])
 try simp only [go_sem]
 all_goals
  skip
/-- Two places exchanged. -/
def swapAt (l : List Int) (i k : Nat) : List Int := (l.set i ((l[k]?).getD 0)).set k ((l[i]?).getD 0)
theorem swapAt_len (l : List Int) (i k : Nat) : (swapAt l i k).length = l.length := by simp [swapAt]
theorem swapAt_perm {l : List Int} {i k : Nat} (hi : i < l.length) (hk : k < l.length) : (swapAt l i k).Perm l := by
 unfold swapAt
 rw [List.getElem?_eq_getElem hi, List.getElem?_eq_getElem hk]
 exact List.set_set_perm hi hk
noncomputable def orderA (n : Nat) : Nat → List Int → D (List Int)
 | 0, acc => dret acc
 | j + 1, acc => dbind (roll (((n - (j + 1) : Nat) : Int) + 1)) fun k => orderA n j (swapAt (acc ++ [((n - (j + 1) : Nat) : Int)]) (n - (j + 1)) k.toNat)
noncomputable def orderD (n : Nat) : D (List Int) := orderA n n []
theorem orderA_perm (n : Nat) : ∀ (j : Nat) (acc : List Int), j ≤ n → acc.Perm ((List.range (n - j)).map fun (i : Nat) => (i : Int)) → Holds (orderA n j acc) fun l => l.Perm ((List.range n).map fun (i : Nat) => (i : Int)) := by
 intro j
 induction j with
 | zero => intro acc _ h; exact .ret h
 | succ j ih =>
  intro acc hj h
  refine (roll_bd _).bind fun k hk => ih _ (by omega) ?_
  have hl : acc.length = n - (j + 1) := by rw [h.length_eq]; simp
  have hkl : k.toNat < (acc ++ [((n - (j + 1) : Nat) : Int)]).length := by simp; omega
  refine (swapAt_perm (by simp; omega) hkl).trans ?_
  have e : n - j = (n - (j + 1)) + 1 := by omega
  rw [e, List.range_succ, List.map_append]
  exact h.append_right _
theorem orderD_perm (n : Nat) : Holds (orderD n) fun l => l.Perm ((List.range n).map fun (i : Nat) => (i : Int)) := orderA_perm n n [] (Nat.le_refl _) (by simp)
theorem glI_of {l : List Int} {m : Nat} (h : l.length = m + 1) (n : Nat) : glI n l = .gsl (n + m) (m + 1) 1 := by
 cases l with
 | nil => simp at h
 | cons x l => simp only [List.length_cons] at h; simp only [glI]; rw [show l.length = m by omega]
theorem gsI_of {l : List Int} {m : Nat} (h : l.length = m + 1) : gsI l = List.replicate m none ++ [some (l.map I)] := by
 cases l with
 | nil => simp at h
 | cons x l => simp only [List.length_cons] at h; simp only [gsI]; rw [show l.length = m by omega]
theorem Weak.ungnilT {N : Nat} {lo : Nat × Nat} {E : Env} {σ : Sg} {t : Nat} (ht : E.get t = .gnil) : Weak N lo E σ (E.put (some t) (.isl [] .ro)) σ := by
 intro Ψ0 Ψ D a w hb le hr
 refine ⟨Ψ, le, hr.size, ⟨fun t' => ?_, hr.env.gt⟩, hr.sg, hr.dsub, hr.defs⟩
 rw [get_put1]
 split
 ·rename_i e
  subst e
  have hv := hr.env t'
  rw [ht] at hv
  exact VR.of_gnil hv
 exact hr.env t'
/-- Read at last. -/
theorem Weak.readI {N : Nat} {lo : Nat × Nat} {E : Env} {σ : Sg} {t : Nat} {A : List (Option (List PV))} {rm : List Nat} {ys : List LState} {out : List Int} (ht : E.get t = glI (σ.store.length + A.length) out) :
 Weak N lo E (σ.ext (A ++ gsI out) rm ys) (E.put (some t) (ints out)) (σ.ext (A ++ List.replicate out.length none) rm ys) := by
 cases out with
 | nil =>
  have h := Weak.ungnilT (N := N) (lo := lo) (E := E) (σ := σ.ext A rm ys) (t := t) ht
  simp only [gsI, List.append_nil, List.length_nil, List.replicate_zero]
  exact h
 | cons z zs =>
  have h := Weak.freeze (N := N) (lo := lo) (E := E) (σ := σ.ext (A ++ gsI (z :: zs)) rm ys) (t := t) (id := σ.store.length + (A.length + zs.length)) (len := zs.length + 1) (es := 1) (l := (z :: zs).map I) (by rw [ht]; simp only [glI, Nat.add_assoc]) (by rw [Sg.get_ext, rowC_ints]; exact gsI_get) (by simp) (fun q hq => by obtain ⟨x, _, rfl⟩ := List.mem_map.1 hq; rfl)
  rw [Sg.drop_ext, gsI_set] at h
  have e : List.replicate (z :: zs).length (none : Option (List PV)) = List.replicate zs.length none ++ [none] := by simp [List.replicate_succ']
  rw [e]
  exact h
set_option maxHeartbeats 4000000 in
theorem Order_pc (Y : YEnv) (σ : Sg) (d : Nat) (b : Int) (hd : σ.store[d]? = some (some [.int .u64 b])) (n : Nat) (hn : n < 2 ^ 40) :
 PC Tryz.prog Y 92 [.ptr d 0, I n] σ (ints (orderD n b).1) (σ.setVar d [.int .u64 (orderD n b).2]) := by
 refine PC_of_W Tryz.func92 rfl (by kernel_rfl) Tryz.ntmps92 (by simp) fun hcl hca => ?_
 have hlt := lt_of_get hd
 obtain ⟨res, hres⟩ : ∃ r, orderD n b = r := ⟨_, rfl⟩
 rw [hres]
 refine W_sr [0, 1] fun R hR => ?_
 simp only [go_sem, ldS_at hd, stX_at hd, ldS_sv hlt, stX_sv hlt, sv_ext hlt, sv_ext_sv hlt]
 refine hR _ _ ?_; clear hR R
 try simp only [go_sem, ldS_at hd, stX_at hd, ldS_sv hlt, stX_sv hlt, sv_ext hlt, sv_ext_sv hlt]
 refine W_sr [0, 1, 5] fun R hR => ?_
 simp only [go_sem, ldS_at hd, stX_at hd, ldS_sv hlt, stX_sv hlt, sv_ext hlt, sv_ext_sv hlt]
 refine hR _ _ ?_; clear hR R
 try simp only [go_sem, ldS_at hd, stX_at hd, ldS_sv hlt, stX_sv hlt, sv_ext hlt, sv_ext_sv hlt]
 refine W_seq fun Z3 K3 => ?_
 refine W_sr [0, 1, 5, 6] fun R hR => ?_
 simp only [go_sem, ldS_at hd, stX_at hd, ldS_sv hlt, stX_sv hlt, sv_ext hlt, sv_ext_sv hlt]
 refine hR _ _ ?_; clear hR R
 try simp only [go_sem, ldS_at hd, stX_at hd, ldS_sv hlt, stX_sv hlt, sv_ext hlt, sv_ext_sv hlt]
 refine W_block ?_
 refine W_weak (Weak.gnil (t := 5) rfl) ?_
 refine W_weak (Weak.keep [0, 1, 5, 6]) ?_
 simp only [go_sem]
 refine W_loopT (α := Nat × (List Int) × Int) (fun ⟨i, acc, b⟩ => [(5, glI σ.store.length acc), (6, I i)]) (fun ⟨i, acc, b⟩ => (σ.setVar d [.int .u64 b]).ext (gsI acc) []) (fun ⟨i, acc, b⟩ => i ≤ n ∧ acc.length = i ∧ res = orderA n (n - i) acc b) (fun ⟨i, acc, b⟩ => n - i) ((0, [], b)) rfl (by simp only [gsI, go_sem, sv_self hd]) (⟨Nat.zero_le _, rfl, hres.symm⟩) ?_
 rintro ⟨i, acc, b⟩ ⟨hi, hal, hinv⟩
 refine W_seq fun Z5 K5 => ?_
 refine W_sr [0, 1, 5, 6, 10] fun R hR => ?_
 simp only [go_sem, ldS_at hd, stX_at hd, ldS_sv hlt, stX_sv hlt, sv_ext hlt, sv_ext_sv hlt]
 refine hR _ _ ?_; clear hR R
 try simp only [go_sem, ldS_at hd, stX_at hd, ldS_sv hlt, stX_sv hlt, sv_ext hlt, sv_ext_sv hlt]
 refine W_cond rfl (fun c1 => ?_) (fun c1 => ?_)
 ·
  try simp only [nrm] at c1
  have hin : i < n := by first | omega | (simp at c1; omega)
  rw [show n - i = (n - (i + 1)) + 1 by omega] at hinv
  simp only [orderA, dbind] at hinv
  rw [show (n - (n - (i + 1) + 1) : Nat) = i by omega] at hinv
  have hkb := roll_bd ((i : Int) + 1) b
  obtain ⟨kz, hkz⟩ : ∃ z, (roll ((i : Int) + 1) b).1 = z := ⟨_, rfl⟩
  obtain ⟨b1, hb1⟩ : ∃ z, (roll ((i : Int) + 1) b).2 = z := ⟨_, rfl⟩
  simp only [hkz] at hkb
  obtain ⟨k, rfl⟩ : ∃ k : Nat, kz = k := ⟨kz.toNat, by omega⟩
  rw [hkz, hb1, Int.toNat_natCast] at hinv
  have hki : k < i + 1 := by omega
  have hL : (σ.setVar d [.int .u64 b1]).store.length = σ.store.length := sv_len
  have happ := appG_gl (σ := σ.setVar d [.int .u64 b1]) (A := []) (rm := []) (ys := []) (out := acc) (i : Int) (by omega)
  have hal2 : (acc ++ [(i : Int)]).length = i + 1 := by simp [hal]
  rw [glI_of hal2, gsI_of hal2] at happ
  obtain ⟨ac2, hac2⟩ : ∃ z, acc ++ [(i : Int)] = z := ⟨_, rfl⟩
  rw [hac2] at happ hal2 hinv
  simp only [go_sem, List.length_nil, hL] at happ
  obtain ⟨x, hx⟩ : ∃ z, ac2[i]? = some z := ⟨ac2[i]'(by omega), by simp⟩
  obtain ⟨y, hy⟩ : ∃ z, ac2[k]? = some z := ⟨ac2[k]'(by omega), by simp⟩
  have hsw : swapAt ac2 i k = (ac2.set i y).set k x := by simp only [swapAt, hx, hy, Option.getD_some]
  have hI1 : (i : Int) < ((i + 1 : Nat) : Int) := by omega
  have hI2 : (k : Int) < ((i + 1 : Nat) : Int) := by omega
  have hg1 : ∀ c : Option (List PV), (List.replicate i none ++ [c])[i]? = some c := fun c => by rw [List.getElem?_append_right (by simp)]; simp
  have hg2 : ∀ c c2 : Option (List PV), (List.replicate i none ++ [c]).set i c2 = List.replicate i none ++ [c2] := fun c c2 => by rw [List.set_append_right _ _ (by simp)]; simp
  have hm1 : i + 1 ≤ ac2.length := by omega
  have hm2 : k + 1 ≤ ac2.length := by omega
  have hsl : (swapAt ac2 i k).length = i + 1 := by rw [swapAt_len]; exact hal2
  refine W_skip (K5 _ _ ?_)
  refine W_seq fun Z7 K7 => ?_
  refine W_block ?_
  refine W_sr [0, 1, 5, 6, 7] fun R hR => ?_
  simp only [go_sem, ldS_at hd, stX_at hd, ldS_sv hlt, stX_sv hlt, sv_ext hlt, sv_ext_sv hlt, hkz, hb1, hL]
  try simp (disch := omega) only [wrapI, wrapU]
  refine GCall_of (Roll_pc Y _ d b (by first | exact hd | exact sv_get hlt | exact get_svx hlt | exact get_extx hd) ((i : Int) + 1) (by omega)) ?_
  simp only [go_sem, ldS_at hd, stX_at hd, ldS_sv hlt, stX_sv hlt, sv_ext hlt, sv_ext_sv hlt, hkz, hb1, hL]
  try simp (disch := omega) only [wrapI, wrapU]
  refine hR _ _ ?_; clear hR R
  try simp only [go_sem, ldS_at hd, stX_at hd, ldS_sv hlt, stX_sv hlt, sv_ext hlt, sv_ext_sv hlt, hkz, hb1, hL]
  refine W_sr [0, 1, 5, 6, 7] fun R hR => ?_
  simp only [go_sem, ldS_at hd, stX_at hd, ldS_sv hlt, stX_sv hlt, sv_ext hlt, sv_ext_sv hlt, hkz, hb1, hL, happ]
  try simp (disch := first | omega | (simp only [go_sem] <;> omega)) only [wrapI, wrapU, appX_exact, appX_tok]
  try simp only [go_sem, ldS_at hd, stX_at hd, ldS_sv hlt, stX_sv hlt, sv_ext hlt, sv_ext_sv hlt, hkz, hb1, hL, happ]
  refine hR _ _ ?_; clear hR R
  try simp only [go_sem, ldS_at hd, stX_at hd, ldS_sv hlt, stX_sv hlt, sv_ext hlt, sv_ext_sv hlt, hkz, hb1, hL]
  refine W_draw [0, 1, 5, 6] [0, 1, 2, 3, 4, 5, 6, 7, 8, 9, 10, 11, 12, 13, 14, 15] [(2, 15), (3, 15)] [[], [], [], [], [], [], [4, 5], [4, 5, 6], [], [], [8, 9], [8, 9, 10], [0, 1, 4, 5, 6, 7, 8, 9, 10, 11], [0, 1, 4, 5, 6, 7, 8, 9, 10, 11, 12], [0, 1, 2, 3, 4, 5, 6, 7, 8, 9, 10, 11, 12, 13], [0, 1, 2, 3, 4, 5, 6, 7, 8, 9, 10, 11, 12, 13, 14]] mixed (by kernel_rfl) fun R hR => ?_
  simp only [go_sem, ldS_at hd, stX_at hd, ldS_sv hlt, stX_sv hlt, sv_ext hlt, sv_ext_sv hlt, hkz, hb1, hL, hI1, hI2, iaM_nat (Int.ofNat_lt.1 hI1), iaM_nat (Int.ofNat_lt.1 hI2), Nat.mul_one, Nat.zero_add, hg1, hg2, hx, hy, hm1, hm2, List.getElem?_map, List.length_set]
  try refine And.intro (by repeat' (first | refine And.intro ?_ ?_ | exact GOr_right (fun _ => by simp only [go_sem, ldS_at hd, stX_at hd, ldS_sv hlt, stX_sv hlt, sv_ext hlt, sv_ext_sv hlt, hkz, hb1, hL, hI1, hI2, iaM_nat (Int.ofNat_lt.1 hI1), iaM_nat (Int.ofNat_lt.1 hI2), Nat.mul_one, Nat.zero_add, hg1, hg2, hx, hy, hm1, hm2, List.getElem?_map, List.length_set]))) ?_
  refine hR _ _ (K7 _ _ ?_); clear hR R; try clear K7 Z7
  try simp only [go_sem, ldS_at hd, stX_at hd, ldS_sv hlt, stX_sv hlt, sv_ext hlt, sv_ext_sv hlt, hkz, hb1, hL]
  refine W_region [0, 1, 5, 6] fun R hR => ?_
  simp only [go_sem, ldS_at hd, stX_at hd, ldS_sv hlt, stX_sv hlt, sv_ext hlt, sv_ext_sv hlt, hkz, hb1, hL]
  try simp (disch := omega) only [wrapI, wrapU]
  refine hR _ _ ?_; clear hR R
  try simp only [go_sem, ldS_at hd, stX_at hd, ldS_sv hlt, stX_sv hlt, sv_ext hlt, sv_ext_sv hlt, hkz, hb1, hL]
  refine ⟨(i + 1, swapAt ac2 i k, b1), ?_, by (try simp only []); omega, ?_⟩
  ·refine Weak.eq ?_ ?_
   ·simp only [go_sem, glI_of hsl]
    first | done | rfl | simp
   rw [gsI_of hsl, hsw]
  try dsimp only
  exact ⟨by omega, hsl, by rw [hinv]⟩
 try simp only [nrm] at c1
 have hie : n = i := by first | omega | (simp at c1; omega)
 subst hie
 rw [Nat.sub_self] at hinv
 simp only [orderA, dret] at hinv
 refine W_exit ?_
 simp only [go_sem, ldS_at hd, stX_at hd, ldS_sv hlt, stX_sv hlt, sv_ext hlt, sv_ext_sv hlt]
 refine K3 _ _ ?_
 refine W_seq fun Z10 K10 => ?_
 refine W_weak (Weak.readI (t := 5) (A := []) (out := acc) (by simp only [go_sem, sv_len])) ?_
 refine W_weak (Weak.keep [5]) ?_
 simp only [go_sem]
 refine W_region [4] fun R hR => ?_
 simp only [go_sem, ldS_at hd, stX_at hd, ldS_sv hlt, stX_sv hlt, sv_ext hlt, sv_ext_sv hlt]
 refine hR _ _ (K10 _ _ ?_); clear hR R; try clear K10 Z10
 try simp only [go_sem, ldS_at hd, stX_at hd, ldS_sv hlt, stX_sv hlt, sv_ext hlt, sv_ext_sv hlt]
 refine W_ret ?_
 simp only [go_sem, ldS_at hd, stX_at hd, ldS_sv hlt, stX_sv hlt, sv_ext hlt, sv_ext_sv hlt]
 refine ⟨.inr (by trivial), ?_⟩
 rw [hinv]; refine Fin_set hcl (by simp only [go_sem]) rfl (Wk_eq rfl ?_)
 try simp only [go_sem]
 all_goals
  simp only [go_sem]
theorem mem2 {a b r : Int} (h : r ∈ [a, b]) : r = a ∨ r = b := by simpa using h
theorem mem3 {a b c r : Int} (h : r ∈ [a, b, c]) : r = a ∨ r = b ∨ r = c := by simpa using h
noncomputable def scaleD (n : Int) : D Scale := dbind (mid 1 n) fun a => dbind (mid 1 3) fun mt => dbind (mid 1 3) fun jd => dbind (anyOf [0, 70, 98]) fun lo => dbind (roll jd) fun dr => dbind (anyOf [2, 30]) fun e => dbind (mid lo (min 100 (lo + e))) fun hi => dbind (orderD mt.toNat) fun od => dret ⟨a, mt, jd, dr, lo, hi, od⟩
theorem chkOrd_of {m : Int} : ∀ {l p : List Int}, (∀ x, x ∈ l → 0 ≤ x ∧ x ≤ m - 1) → l.Nodup → (∀ x, x ∈ l → x ∉ p) → chkOrd m p l = 0 := by
 intro l
 induction l with
 | nil => intro p _ _ _; rfl
 | cons n l ih =>
  intro p h1 h2 h3
  obtain ⟨a1, a2⟩ := List.nodup_cons.1 h2
  have hn := h1 n (by simp)
  have hin : inR n 0 (m - 1) = true := by rw [inR_true]; exact hn
  have hh : has p n = false := by
   cases h : has p n with
   | false => rfl
   | true => exact absurd (has_iff.1 h) (h3 n (by simp))
  simp only [chkOrd, hin, hh]
  refine ih (fun x hx => h1 x (by simp [hx])) a2 (fun x hx hp => ?_)
  rcases List.mem_append.1 hp with hp | hp
  ·exact h3 x (by simp [hx]) hp
  simp only [List.mem_singleton] at hp
  subst hp
  exact a1 hx
theorem nodup_range (n : Nat) : ((List.range n).map fun (i : Nat) => (i : Int)).Nodup := by
 rw [List.nodup_iff_pairwise_ne, List.pairwise_map]
 refine List.Pairwise.imp ?_ (List.nodup_range (n := n))
 intro a b h e
 exact h (by omega)
theorem order_ok {mt : Int} {od : List Int} (h : od.Perm ((List.range mt.toNat).map fun (i : Nat) => (i : Int))) : chkOrd mt [] od = 0 := by
 refine chkOrd_of (fun x hx => ?_) (h.nodup_iff.2 (nodup_range _)) (fun x _ hx => by cases hx)
 obtain ⟨i, hi, rfl⟩ := List.mem_map.1 (h.mem_iff.1 hx)
 have := List.mem_range.1 hi
 omega
theorem scaleD_ok (n : Int) (h1 : 1 ≤ n) (h2 : n ≤ 8) : Holds (scaleD n) fun s => chkSc s = 0 ∧ s.schools ≤ n ∧ s.matters ≤ 3 ∧ s.judges ≤ 3 := by
 unfold scaleD
 refine (mid_bd 1 n h1).bind fun a ha => (mid_bd 1 3 (by omega)).bind fun mt hmt => (mid_bd 1 3 (by omega)).bind fun jd hjd => (anyOf_mem [0, 70, 98] (by simp)).bind fun lo hlo => (roll_bd jd).bind fun dr hdr => (anyOf_mem [2, 30] (by simp)).bind fun e he => ?_
 have hlo' : 0 ≤ lo ∧ lo ≤ 98 := by rcases mem3 hlo with h | h | h <;> omega
 have he' : 2 ≤ e ∧ e ≤ 30 := by rcases mem2 he with h | h <;> omega
 refine (mid_bd lo (min 100 (lo + e)) (by omega)).bind fun hi hhi => (orderD_perm mt.toNat).bind fun od hod => .ret ⟨?_, by simp only []; omega, by simp only []; omega, by simp only []; omega⟩
 have hl : od.length = mt.toNat := by rw [hod.length_eq]; simp
 have hr : scRange ⟨a, mt, jd, dr, lo, hi, od⟩ = true := by
  simp only [scRange, Bool.and_eq_true, inR_true]
  omega
 unfold chkSc
 rw [hr]
 simp only [Bool.not_true, Bool.false_eq_true, if_false]
 rw [if_neg (by omega), if_neg (by omega)]
 exact order_ok hod
set_option maxHeartbeats 8000000 in
theorem ScaleOf_pc (Y : YEnv) (σ : Sg) (d : Nat) (b : Int) (hd : σ.store[d]? = some (some [.int .u64 b])) (n : Int) (h1 : 1 ≤ n) (h2 : n ≤ 8) :
 PC Tryz.prog Y 37 [.ptr d 0, I n] σ (scPV (scaleD n b).1) (σ.setVar d [.int .u64 (scaleD n b).2]) := by
 refine PC_of_W Tryz.func37 rfl (by kernel_rfl) Tryz.ntmps37 (by simp) fun hcl hca => ?_
 have hlt := lt_of_get hd
 obtain ⟨a, ha⟩ : ∃ zz, (mid 1 n b).1 = zz := ⟨_, rfl⟩
 obtain ⟨b1, hb1⟩ : ∃ zz, (mid 1 n b).2 = zz := ⟨_, rfl⟩
 have da := mid_bd 1 n h1 b
 simp only [ha] at da
 obtain ⟨mt, hmt⟩ : ∃ zz, (mid 1 3 b1).1 = zz := ⟨_, rfl⟩
 obtain ⟨b2, hb2⟩ : ∃ zz, (mid 1 3 b1).2 = zz := ⟨_, rfl⟩
 have dmt := mid_bd 1 3 (by omega) b1
 simp only [hmt] at dmt
 obtain ⟨jd, hjd⟩ : ∃ zz, (mid 1 3 b2).1 = zz := ⟨_, rfl⟩
 obtain ⟨b3, hb3⟩ : ∃ zz, (mid 1 3 b2).2 = zz := ⟨_, rfl⟩
 have djd := mid_bd 1 3 (by omega) b2
 simp only [hjd] at djd
 obtain ⟨lo, hlo⟩ : ∃ zz, (anyOf [0, 70, 98] b3).1 = zz := ⟨_, rfl⟩
 obtain ⟨b4, hb4⟩ : ∃ zz, (anyOf [0, 70, 98] b3).2 = zz := ⟨_, rfl⟩
 have dlo := anyOf_mem [0, 70, 98] (by simp) b3
 simp only [hlo] at dlo
 obtain ⟨dr, hdr⟩ : ∃ zz, (roll jd b4).1 = zz := ⟨_, rfl⟩
 obtain ⟨b5, hb5⟩ : ∃ zz, (roll jd b4).2 = zz := ⟨_, rfl⟩
 have ddr := roll_bd jd b4
 simp only [hdr] at ddr
 obtain ⟨e, he⟩ : ∃ zz, (anyOf [2, 30] b5).1 = zz := ⟨_, rfl⟩
 obtain ⟨b6, hb6⟩ : ∃ zz, (anyOf [2, 30] b5).2 = zz := ⟨_, rfl⟩
 have de := anyOf_mem [2, 30] (by simp) b5
 simp only [he] at de
 have hlo' : 0 ≤ lo ∧ lo ≤ 98 := by rcases mem3 dlo with h | h | h <;> omega
 have he' : 2 ≤ e ∧ e ≤ 30 := by rcases mem2 de with h | h <;> omega
 obtain ⟨mtn, hmtn⟩ : ∃ z : Nat, mt = z := ⟨mt.toNat, by omega⟩
 subst hmtn
 obtain ⟨hi, hhi⟩ : ∃ zz, (mid lo (min 100 (lo + e)) b6).1 = zz := ⟨_, rfl⟩
 obtain ⟨b7, hb7⟩ : ∃ zz, (mid lo (min 100 (lo + e)) b6).2 = zz := ⟨_, rfl⟩
 have dhi := mid_bd lo (min 100 (lo + e)) (by omega) b6
 simp only [hhi] at dhi
 obtain ⟨od, hod⟩ : ∃ zz, (orderD mtn b7).1 = zz := ⟨_, rfl⟩
 obtain ⟨b8, hb8⟩ : ∃ zz, (orderD mtn b7).2 = zz := ⟨_, rfl⟩
 have dod := orderD_perm mtn b7
 simp only [hod] at dod
 have hmin : (if (100 : Int) ≤ lo + e then 100 else lo + e) = min 100 (lo + e) := by split <;> omega
 have hres : scaleD n b = (⟨a, mtn, jd, dr, lo, hi, od⟩, b8) := by
  simp only [scaleD, dbind, ha, hb1, hmt, hb2, hjd, hb3, hlo, hb4, hdr, hb5, he, hb6, hhi, hb7, Int.toNat_natCast, hod, hb8, dret]
 rw [hres]
 refine W_sr [0, 1, 4] fun R hR => ?_
 simp only [go_sem, ldS_at hd, stX_at hd, ldS_sv hlt, stX_sv hlt, sv_ext hlt, sv_ext_sv hlt, ha, hb1, hmt, hb2, hjd, hb3, hlo, hb4, hdr, hb5, he, hb6, hhi, hb7, hod, hb8]
 refine hR _ _ ?_; clear hR R
 try simp only [go_sem, ldS_at hd, stX_at hd, ldS_sv hlt, stX_sv hlt, sv_ext hlt, sv_ext_sv hlt, ha, hb1, hmt, hb2, hjd, hb3, hlo, hb4, hdr, hb5, he, hb6, hhi, hb7, hod, hb8]
 refine W_sr [0, 4, 5] fun R hR => ?_
 simp only [go_sem, ldS_at hd, stX_at hd, ldS_sv hlt, stX_sv hlt, sv_ext hlt, sv_ext_sv hlt, ha, hb1, hmt, hb2, hjd, hb3, hlo, hb4, hdr, hb5, he, hb6, hhi, hb7, hod, hb8]
 refine GCall_of (Mid_pc Y _ d b (by first | exact hd | exact sv_get hlt | exact get_svx hlt | exact get_extx hd) 1 n (by omega) (by omega) (by omega) (by omega)) ?_
 simp only [go_sem, ldS_at hd, stX_at hd, ldS_sv hlt, stX_sv hlt, sv_ext hlt, sv_ext_sv hlt, ha, hb1, hmt, hb2, hjd, hb3, hlo, hb4, hdr, hb5, he, hb6, hhi, hb7, hod, hb8]
 refine GCall_of (Mid_pc Y _ d b1 (by first | exact hd | exact sv_get hlt | exact get_svx hlt | exact get_extx hd) 1 3 (by omega) (by omega) (by omega) (by omega)) ?_
 simp only [go_sem, ldS_at hd, stX_at hd, ldS_sv hlt, stX_sv hlt, sv_ext hlt, sv_ext_sv hlt, ha, hb1, hmt, hb2, hjd, hb3, hlo, hb4, hdr, hb5, he, hb6, hhi, hb7, hod, hb8]
 refine GCall_of (Mid_pc Y _ d b2 (by first | exact hd | exact sv_get hlt | exact get_svx hlt | exact get_extx hd) 1 3 (by omega) (by omega) (by omega) (by omega)) ?_
 simp only [go_sem, ldS_at hd, stX_at hd, ldS_sv hlt, stX_sv hlt, sv_ext hlt, sv_ext_sv hlt, ha, hb1, hmt, hb2, hjd, hb3, hlo, hb4, hdr, hb5, he, hb6, hhi, hb7, hod, hb8]
 refine GCall_of (Any_pc Y _ d b3 (by first | exact hd | exact sv_get hlt | exact get_svx hlt | exact get_extx hd) [0, 70, 98] (by simp) (by simp)) ?_
 simp only [go_sem, ldS_at hd, stX_at hd, ldS_sv hlt, stX_sv hlt, sv_ext hlt, sv_ext_sv hlt, ha, hb1, hmt, hb2, hjd, hb3, hlo, hb4, hdr, hb5, he, hb6, hhi, hb7, hod, hb8]
 refine hR _ _ ?_; clear hR R
 try simp only [go_sem, ldS_at hd, stX_at hd, ldS_sv hlt, stX_sv hlt, sv_ext hlt, sv_ext_sv hlt, ha, hb1, hmt, hb2, hjd, hb3, hlo, hb4, hdr, hb5, he, hb6, hhi, hb7, hod, hb8]
 refine W_seq fun Z3 K3 => ?_
 have hmin2 : min (100 : Int) (lo + e) = min 100 (lo + e) := rfl
 refine W_draw [4, 5] [0, 1, 2, 3, 4, 5, 6, 7, 8, 9, 10, 11, 12, 13, 14, 15, 16, 17, 18, 19, 20, 21, 22, 23, 24] [(4, 3), (4, 14), (5, 3), (5, 14), (6, 3), (6, 14), (7, 3), (7, 14), (8, 3), (8, 14), (9, 3), (10, 3), (15, 3), (15, 11), (15, 14), (16, 3), (16, 11), (16, 14), (17, 3), (17, 11), (17, 14), (19, 11), (19, 14), (19, 18)] [[], [], [1], [0, 1, 2], [], [], [5], [], [7], [], [], [0, 1, 2, 3, 9, 10], [0, 1, 2, 3, 7, 8, 9, 10, 11], [0, 1, 2, 3, 7, 8, 9, 10, 11, 12], [0, 1, 2, 3, 4, 5, 6, 7, 8, 9, 10, 11, 12, 13], [], [], [16], [0, 1, 2, 3, 4, 5, 6, 7, 8, 9, 10, 11, 12, 13, 14, 15, 16, 17], [0, 1, 2, 3, 5, 6, 7, 8, 16, 17], [0, 1, 2, 3, 4, 5, 6, 7, 8, 9, 10, 11, 12, 13, 14, 15, 16, 17, 18, 19], [0, 1, 2, 3, 4, 5, 6, 7, 8, 9, 10, 11, 12, 13, 14, 15, 16, 17, 18, 19, 20], [0, 1, 2, 3, 4, 5, 6, 7, 8, 9, 10, 11, 12, 13, 14, 15, 16, 17, 18, 19, 20, 21], [0, 1, 2, 3, 4, 5, 6, 7, 8, 9, 10, 11, 12, 13, 14, 15, 16, 17, 18, 19, 20, 21, 22], [0, 1, 2, 3, 4, 5, 6, 7, 8, 9, 10, 11, 12, 13, 14, 15, 16, 17, 18, 19, 20, 21, 22, 23]] mixed (by kernel_rfl) fun R hR => ?_
 simp only [go_sem, ldS_at hd, stX_at hd, ldS_sv hlt, stX_sv hlt, sv_ext hlt, sv_ext_sv hlt, ha, hb1, hmt, hb2, hjd, hb3, hlo, hb4, hdr, hb5, he, hb6, hhi, hb7, hod, hb8]
 refine GCall_of (Roll_pc Y _ d b4 (by first | exact hd | exact sv_get hlt | exact get_svx hlt | exact get_extx hd) jd (by omega)) ?_
 simp only [go_sem, ldS_at hd, stX_at hd, ldS_sv hlt, stX_sv hlt, sv_ext hlt, sv_ext_sv hlt, ha, hb1, hmt, hb2, hjd, hb3, hlo, hb4, hdr, hb5, he, hb6, hhi, hb7, hod, hb8]
 refine GCall_of (Any_pc Y _ d b5 (by first | exact hd | exact sv_get hlt | exact get_svx hlt | exact get_extx hd) [2, 30] (by simp) (by simp)) ?_
 simp only [go_sem, ldS_at hd, stX_at hd, ldS_sv hlt, stX_sv hlt, sv_ext hlt, sv_ext_sv hlt, ha, hb1, hmt, hb2, hjd, hb3, hlo, hb4, hdr, hb5, he, hb6, hhi, hb7, hod, hb8]
 try simp (disch := omega) only [wrapI]
 try simp only [hmin, hmin2]
 try simp (disch := omega) only [wrapI, wrapU]
 refine GCall_of (Mid_pc Y _ d b6 (by first | exact hd | exact sv_get hlt | exact get_svx hlt | exact get_extx hd) lo (min 100 (lo + e)) (by omega) (by omega) (by omega) (by omega)) ?_
 simp only [go_sem, ldS_at hd, stX_at hd, ldS_sv hlt, stX_sv hlt, sv_ext hlt, sv_ext_sv hlt, ha, hb1, hmt, hb2, hjd, hb3, hlo, hb4, hdr, hb5, he, hb6, hhi, hb7, hod, hb8]
 try simp (disch := omega) only [wrapI, wrapU]
 refine GCall_of (Order_pc Y _ d b7 (by first | exact hd | exact sv_get hlt | exact get_svx hlt | exact get_extx hd) mtn (by omega)) ?_
 simp only [go_sem, ldS_at hd, stX_at hd, ldS_sv hlt, stX_sv hlt, sv_ext hlt, sv_ext_sv hlt, ha, hb1, hmt, hb2, hjd, hb3, hlo, hb4, hdr, hb5, he, hb6, hhi, hb7, hod, hb8]
 try simp (disch := omega) only [wrapI, wrapU]
 try refine And.intro (by repeat' (first | refine And.intro ?_ ?_ | exact GOr_right (fun _ => by simp only [go_sem, ldS_at hd, stX_at hd, ldS_sv hlt, stX_sv hlt, sv_ext hlt, sv_ext_sv hlt, ha, hb1, hmt, hb2, hjd, hb3, hlo, hb4, hdr, hb5, he, hb6, hhi, hb7, hod, hb8]))) ?_
 refine hR _ _ (K3 _ _ ?_); clear hR R; try clear K3 Z3
 try simp only [go_sem, ldS_at hd, stX_at hd, ldS_sv hlt, stX_sv hlt, sv_ext hlt, sv_ext_sv hlt, ha, hb1, hmt, hb2, hjd, hb3, hlo, hb4, hdr, hb5, he, hb6, hhi, hb7, hod, hb8]
 refine W_sr [4] fun R hR => ?_
 simp only [go_sem, ldS_at hd, stX_at hd, ldS_sv hlt, stX_sv hlt, sv_ext hlt, sv_ext_sv hlt, ha, hb1, hmt, hb2, hjd, hb3, hlo, hb4, hdr, hb5, he, hb6, hhi, hb7, hod, hb8]
 refine hR _ _ ?_; clear hR R
 try simp only [go_sem, ldS_at hd, stX_at hd, ldS_sv hlt, stX_sv hlt, sv_ext hlt, sv_ext_sv hlt, ha, hb1, hmt, hb2, hjd, hb3, hlo, hb4, hdr, hb5, he, hb6, hhi, hb7, hod, hb8]
 refine W_ret ?_
 simp only [go_sem, ldS_at hd, stX_at hd, ldS_sv hlt, stX_sv hlt, sv_ext hlt, sv_ext_sv hlt, ha, hb1, hmt, hb2, hjd, hb3, hlo, hb4, hdr, hb5, he, hb6, hhi, hb7, hod, hb8]
 refine ⟨.inr (by trivial), ?_⟩
 first | refine Fin_set hcl (by simp only [go_sem]) (by show resPV Tryz.prog _ _ [.cell 4 31] = some _; simp only [resPV, go_sem]; rfl) (Wk_eq ?_ (by simp only [go_sem])) | refine Fin_set0 hcl (by simp only [go_sem]) (by show resPV Tryz.prog _ _ [.cell 4 31] = some _; simp only [resPV, go_sem]; rfl) (Wk_eq ?_ (by simp only [go_sem]))
 try simp only [go_sem]
 all_goals
  skip
end Go.Proofs.YtpkkegbiddcodaaGreatDoor.Mk
namespace Go.Proofs.YtpkkegbiddcodaaGreatDoor.Ki
open Go Go.RowKit Mk
open Pa (Rules School Wing shPV shCells ruPV ruCells)
set_option maxRecDepth 100000
noncomputable def rulesD : D Rules := dbind (roll 60) fun x => dbind (roll 400) fun y => dbind (anyOf [0, x, y]) fun lo => dbind (roll 40) fun z => dbind (roll 2000) fun u => dbind (anyOf [0, z, u]) fun m => dbind (roll 20) fun v => dbind (roll 300) fun t => dbind (anyOf [0, v, t]) fun g => dret ⟨lo, lo + m, g⟩
set_option maxHeartbeats 4000000 in
theorem RulesOf_pc (Y : YEnv) (σ : Sg) (d : Nat) (b : Int) (hd : σ.store[d]? = some (some [.int .u64 b])) :
 PC Tryz.prog Y 36 [.ptr d 0] σ (ruPV (rulesD b).1) (σ.setVar d [.int .u64 (rulesD b).2]) := by
 refine PC_of_W Tryz.func36 rfl (by kernel_rfl) Tryz.ntmps36 (by simp) fun hcl hca => ?_
 have hlt := lt_of_get hd
 obtain ⟨x, hx⟩ : ∃ zz, (roll 60 b).1 = zz := ⟨_, rfl⟩
 obtain ⟨b1, hb1⟩ : ∃ zz, (roll 60 b).2 = zz := ⟨_, rfl⟩
 have dx := roll_bd 60 b
 simp only [hx] at dx
 obtain ⟨y, hy⟩ : ∃ zz, (roll 400 b1).1 = zz := ⟨_, rfl⟩
 obtain ⟨b2, hb2⟩ : ∃ zz, (roll 400 b1).2 = zz := ⟨_, rfl⟩
 have dy := roll_bd 400 b1
 simp only [hy] at dy
 obtain ⟨lo, hlo⟩ : ∃ zz, (anyOf [0, x, y] b2).1 = zz := ⟨_, rfl⟩
 obtain ⟨b3, hb3⟩ : ∃ zz, (anyOf [0, x, y] b2).2 = zz := ⟨_, rfl⟩
 have dlo := anyOf_mem [0, x, y] (by simp) b2
 simp only [hlo] at dlo
 obtain ⟨z, hz⟩ : ∃ zz, (roll 40 b3).1 = zz := ⟨_, rfl⟩
 obtain ⟨b4, hb4⟩ : ∃ zz, (roll 40 b3).2 = zz := ⟨_, rfl⟩
 have dz := roll_bd 40 b3
 simp only [hz] at dz
 obtain ⟨u, hu⟩ : ∃ zz, (roll 2000 b4).1 = zz := ⟨_, rfl⟩
 obtain ⟨b5, hb5⟩ : ∃ zz, (roll 2000 b4).2 = zz := ⟨_, rfl⟩
 have du := roll_bd 2000 b4
 simp only [hu] at du
 obtain ⟨m, hm⟩ : ∃ zz, (anyOf [0, z, u] b5).1 = zz := ⟨_, rfl⟩
 obtain ⟨b6, hb6⟩ : ∃ zz, (anyOf [0, z, u] b5).2 = zz := ⟨_, rfl⟩
 have dm := anyOf_mem [0, z, u] (by simp) b5
 simp only [hm] at dm
 obtain ⟨v, hv⟩ : ∃ zz, (roll 20 b6).1 = zz := ⟨_, rfl⟩
 obtain ⟨b7, hb7⟩ : ∃ zz, (roll 20 b6).2 = zz := ⟨_, rfl⟩
 have dv := roll_bd 20 b6
 simp only [hv] at dv
 obtain ⟨t, ht⟩ : ∃ zz, (roll 300 b7).1 = zz := ⟨_, rfl⟩
 obtain ⟨b8, hb8⟩ : ∃ zz, (roll 300 b7).2 = zz := ⟨_, rfl⟩
 have dt := roll_bd 300 b7
 simp only [ht] at dt
 obtain ⟨g, hg⟩ : ∃ zz, (anyOf [0, v, t] b8).1 = zz := ⟨_, rfl⟩
 obtain ⟨b9, hb9⟩ : ∃ zz, (anyOf [0, v, t] b8).2 = zz := ⟨_, rfl⟩
 have dg := anyOf_mem [0, v, t] (by simp) b8
 simp only [hg] at dg
 have hlo' : 0 ≤ lo ∧ lo ≤ 400 := by rcases mem3 dlo with h | h | h <;> omega
 have hm' : 0 ≤ m ∧ m ≤ 2000 := by rcases mem3 dm with h | h | h <;> omega
 have hres : rulesD b = (⟨lo, lo + m, g⟩, b9) := by
  simp only [rulesD, dbind, hx, hb1, hy, hb2, hlo, hb3, hz, hb4, hu, hb5, hm, hb6, hv, hb7, ht, hb8, hg, hb9, dret]
 rw [hres]
 refine W_sr [0, 2] fun R hR => ?_
 simp only [go_sem, ldS_at hd, stX_at hd, ldS_sv hlt, stX_sv hlt, sv_ext hlt, sv_ext_sv hlt, hx, hb1, hy, hb2, hlo, hb3, hz, hb4, hu, hb5, hm, hb6, hv, hb7, ht, hb8, hg, hb9]
 refine hR _ _ ?_; clear hR R
 try simp only [go_sem, ldS_at hd, stX_at hd, ldS_sv hlt, stX_sv hlt, sv_ext hlt, sv_ext_sv hlt, hx, hb1, hy, hb2, hlo, hb3, hz, hb4, hu, hb5, hm, hb6, hv, hb7, ht, hb8, hg, hb9]
 refine W_sr [0, 2, 3] fun R hR => ?_
 simp only [go_sem, ldS_at hd, stX_at hd, ldS_sv hlt, stX_sv hlt, sv_ext hlt, sv_ext_sv hlt, hx, hb1, hy, hb2, hlo, hb3, hz, hb4, hu, hb5, hm, hb6, hv, hb7, ht, hb8, hg, hb9]
 refine GCall_of (Roll_pc Y _ d b (by first | exact hd | exact sv_get hlt | exact get_svx hlt | exact get_extx hd) 60 (by omega)) ?_
 simp only [go_sem, ldS_at hd, stX_at hd, ldS_sv hlt, stX_sv hlt, sv_ext hlt, sv_ext_sv hlt, hx, hb1, hy, hb2, hlo, hb3, hz, hb4, hu, hb5, hm, hb6, hv, hb7, ht, hb8, hg, hb9]
 refine GCall_of (Roll_pc Y _ d b1 (by first | exact hd | exact sv_get hlt | exact get_svx hlt | exact get_extx hd) 400 (by omega)) ?_
 simp only [go_sem, ldS_at hd, stX_at hd, ldS_sv hlt, stX_sv hlt, sv_ext hlt, sv_ext_sv hlt, hx, hb1, hy, hb2, hlo, hb3, hz, hb4, hu, hb5, hm, hb6, hv, hb7, ht, hb8, hg, hb9]
 refine GCall_of (Any_pc Y _ d b2 (by first | exact hd | exact sv_get hlt | exact get_svx hlt | exact get_extx hd) [0, x, y] (by simp) (by simp)) ?_
 simp only [go_sem, ldS_at hd, stX_at hd, ldS_sv hlt, stX_sv hlt, sv_ext hlt, sv_ext_sv hlt, hx, hb1, hy, hb2, hlo, hb3, hz, hb4, hu, hb5, hm, hb6, hv, hb7, ht, hb8, hg, hb9]
 refine hR _ _ ?_; clear hR R
 try simp only [go_sem, ldS_at hd, stX_at hd, ldS_sv hlt, stX_sv hlt, sv_ext hlt, sv_ext_sv hlt, hx, hb1, hy, hb2, hlo, hb3, hz, hb4, hu, hb5, hm, hb6, hv, hb7, ht, hb8, hg, hb9]
 refine W_sr [2] fun R hR => ?_
 simp only [go_sem, ldS_at hd, stX_at hd, ldS_sv hlt, stX_sv hlt, sv_ext hlt, sv_ext_sv hlt, hx, hb1, hy, hb2, hlo, hb3, hz, hb4, hu, hb5, hm, hb6, hv, hb7, ht, hb8, hg, hb9]
 refine GCall_of (Roll_pc Y _ d b3 (by first | exact hd | exact sv_get hlt | exact get_svx hlt | exact get_extx hd) 40 (by omega)) ?_
 simp only [go_sem, ldS_at hd, stX_at hd, ldS_sv hlt, stX_sv hlt, sv_ext hlt, sv_ext_sv hlt, hx, hb1, hy, hb2, hlo, hb3, hz, hb4, hu, hb5, hm, hb6, hv, hb7, ht, hb8, hg, hb9]
 refine GCall_of (Roll_pc Y _ d b4 (by first | exact hd | exact sv_get hlt | exact get_svx hlt | exact get_extx hd) 2000 (by omega)) ?_
 simp only [go_sem, ldS_at hd, stX_at hd, ldS_sv hlt, stX_sv hlt, sv_ext hlt, sv_ext_sv hlt, hx, hb1, hy, hb2, hlo, hb3, hz, hb4, hu, hb5, hm, hb6, hv, hb7, ht, hb8, hg, hb9]
 refine GCall_of (Any_pc Y _ d b5 (by first | exact hd | exact sv_get hlt | exact get_svx hlt | exact get_extx hd) [0, z, u] (by simp) (by simp)) ?_
 simp only [go_sem, ldS_at hd, stX_at hd, ldS_sv hlt, stX_sv hlt, sv_ext hlt, sv_ext_sv hlt, hx, hb1, hy, hb2, hlo, hb3, hz, hb4, hu, hb5, hm, hb6, hv, hb7, ht, hb8, hg, hb9]
 try simp (disch := (first | omega | (simp only [go_sem, List.length_append] <;> omega))) only [wrapI, wrapU, strAdd, slT, slTa, slTb]
 refine GCall_of (Roll_pc Y _ d b6 (by first | exact hd | exact sv_get hlt | exact get_svx hlt | exact get_extx hd) 20 (by omega)) ?_
 simp only [go_sem, ldS_at hd, stX_at hd, ldS_sv hlt, stX_sv hlt, sv_ext hlt, sv_ext_sv hlt, hx, hb1, hy, hb2, hlo, hb3, hz, hb4, hu, hb5, hm, hb6, hv, hb7, ht, hb8, hg, hb9]
 try simp (disch := (first | omega | (simp only [go_sem, List.length_append] <;> omega))) only [wrapI, wrapU, strAdd, slT, slTa, slTb]
 refine GCall_of (Roll_pc Y _ d b7 (by first | exact hd | exact sv_get hlt | exact get_svx hlt | exact get_extx hd) 300 (by omega)) ?_
 simp only [go_sem, ldS_at hd, stX_at hd, ldS_sv hlt, stX_sv hlt, sv_ext hlt, sv_ext_sv hlt, hx, hb1, hy, hb2, hlo, hb3, hz, hb4, hu, hb5, hm, hb6, hv, hb7, ht, hb8, hg, hb9]
 try simp (disch := (first | omega | (simp only [go_sem, List.length_append] <;> omega))) only [wrapI, wrapU, strAdd, slT, slTa, slTb]
 refine GCall_of (Any_pc Y _ d b8 (by first | exact hd | exact sv_get hlt | exact get_svx hlt | exact get_extx hd) [0, v, t] (by simp) (by simp)) ?_
 simp only [go_sem, ldS_at hd, stX_at hd, ldS_sv hlt, stX_sv hlt, sv_ext hlt, sv_ext_sv hlt, hx, hb1, hy, hb2, hlo, hb3, hz, hb4, hu, hb5, hm, hb6, hv, hb7, ht, hb8, hg, hb9]
 try simp (disch := (first | omega | (simp only [go_sem, List.length_append] <;> omega))) only [wrapI, wrapU, strAdd, slT, slTa, slTb]
 refine hR _ _ ?_; clear hR R
 try simp only [go_sem, ldS_at hd, stX_at hd, ldS_sv hlt, stX_sv hlt, sv_ext hlt, sv_ext_sv hlt, hx, hb1, hy, hb2, hlo, hb3, hz, hb4, hu, hb5, hm, hb6, hv, hb7, ht, hb8, hg, hb9]
 refine W_ret ?_
 simp only [go_sem, ldS_at hd, stX_at hd, ldS_sv hlt, stX_sv hlt, sv_ext hlt, sv_ext_sv hlt, hx, hb1, hy, hb2, hlo, hb3, hz, hb4, hu, hb5, hm, hb6, hv, hb7, ht, hb8, hg, hb9]
 refine ⟨.inr (by trivial), ?_⟩
 first | refine Fin_set hcl (by simp only [go_sem]) (by show resPV Tryz.prog _ _ [.cell 2 29] = some _; simp only [resPV, go_sem]; rfl) (Wk_eq ?_ (by simp only [go_sem])) | refine Fin_set0 hcl (by simp only [go_sem]) (by show resPV Tryz.prog _ _ [.cell 2 29] = some _; simp only [resPV, go_sem]; rfl) (Wk_eq ?_ (by simp only [go_sem]))
 try simp only [go_sem]
 all_goals
  first | rfl | (simp_all; done) | (simp_all; omega)
open Go Go.RowKit Mk
open Pa (Rules School Wing shPV shCells ruPV ruCells wgPV wgCells)
def wnames : List (List UInt8) := [[102, 114, 111, 110, 116], [100, 114, 117, 109, 115], [102, 108, 97, 103, 115], [102, 108, 111, 97, 116], [98, 97, 105, 97, 110, 97, 115], [107, 105, 100, 115], [113, 117, 101, 101, 110, 115], [98, 97, 99, 107]]
noncomputable def schoolA (rt : Int) : Nat → List Wing → D School
 | 0, acc => dret ⟨rt, acc⟩
 | k + 1, acc => dbind (anyOf [5, 40]) fun q => dbind (mid 1 q) fun p => dbind (anyOf [10, 80]) fun q2 => dbind (mid 1 q2) fun ln => dbind (roll 4) fun x => dbind (roll 30) fun y => dbind (anyOf [0, x, y]) fun e => schoolA rt k (acc ++ [⟨(wnames[acc.length]?).getD [], ln, p, p + e⟩])
noncomputable def schoolD (n : Int) : D School := dbind (anyOf [60, 400, 2000]) fun q => dbind (mid 1 q) fun rt => dbind (mid 1 n) fun k => schoolA rt k.toNat []
set_option maxHeartbeats 2000000 in
theorem wingNames_pc (Y : YEnv) (σ : Sg)  :
 PC Tryz.prog Y 91 [] σ (.isl (wnames.map txt) .exact) (σ) := by
 refine PC_of_W Tryz.func91 rfl (by kernel_rfl) Tryz.ntmps91 (by simp) fun hcl hca => ?_
 refine W_sr [] fun R hR => ?_
 simp only [go_sem]
 refine hR _ _ ?_; clear hR R
 try simp only [go_sem]
 refine W_sr [0] fun R hR => ?_
 simp only [go_sem]
 refine hR _ _ ?_; clear hR R
 try simp only [go_sem]
 refine W_ret ?_
 simp only [go_sem]
 refine ⟨.inr (by trivial), ?_⟩
 first | refine Fsa hcl rfl ?_ | refine Fse hcl rfl ?_
 try simp only [go_sem]
 all_goals
  first | rfl | (simp_all; done) | (simp_all; omega)
set_option maxHeartbeats 8000000 in
theorem SchoolOf_pc (Y : YEnv) (σ : Sg) (d : Nat) (b : Int) (hd : σ.store[d]? = some (some [.int .u64 b])) (n : Int) (h1 : 1 ≤ n) (h2 : n ≤ 8) :
 PC Tryz.prog Y 35 [.ptr d 0, I n] σ (shPV (schoolD n b).1) (σ.setVar d [.int .u64 (schoolD n b).2]) := by
 refine PC_of_W Tryz.func35 rfl (by kernel_rfl) Tryz.ntmps35 (by simp) fun hcl hca => ?_
 have hlt := lt_of_get hd
 obtain ⟨res, hres⟩ : ∃ r, schoolD n b = r := ⟨_, rfl⟩
 rw [hres]
 obtain ⟨q, hq⟩ : ∃ zz, (anyOf [60, 400, 2000] b).1 = zz := ⟨_, rfl⟩
 obtain ⟨b1, hb1⟩ : ∃ zz, (anyOf [60, 400, 2000] b).2 = zz := ⟨_, rfl⟩
 have dq := anyOf_mem [60, 400, 2000] (by simp) b
 simp only [hq] at dq
 have dq3 := mem3 dq
 obtain ⟨rt, hrt⟩ : ∃ zz, (mid 1 q b1).1 = zz := ⟨_, rfl⟩
 obtain ⟨b2, hb2⟩ : ∃ zz, (mid 1 q b1).2 = zz := ⟨_, rfl⟩
 have drt := mid_bd 1 q (by omega) b1
 simp only [hrt] at drt
 obtain ⟨kk, hkk⟩ : ∃ zz, (mid 1 n b2).1 = zz := ⟨_, rfl⟩
 obtain ⟨b3, hb3⟩ : ∃ zz, (mid 1 n b2).2 = zz := ⟨_, rfl⟩
 have dkk := mid_bd 1 n (by omega) b2
 simp only [hkk] at dkk
 simp only [schoolD, dbind, hq, hb1, hrt, hb2, hkk, hb3] at hres
 have hkt : ((kk.toNat : Nat) : Int) = kk := by omega
 have hwn : wnames.length = 8 := rfl
 refine W_sr [0, 1, 4] fun R hR => ?_
 simp only [go_sem, ldS_at hd, stX_at hd, ldS_sv hlt, stX_sv hlt, sv_ext hlt, sv_ext_sv hlt, hq, hb1, hrt, hb2, hkk, hb3]
 refine hR _ _ ?_; clear hR R
 try simp only [go_sem, ldS_at hd, stX_at hd, ldS_sv hlt, stX_sv hlt, sv_ext hlt, sv_ext_sv hlt, hq, hb1, hrt, hb2, hkk, hb3]
 refine W_sr [0, 1, 4, 5] fun R hR => ?_
 simp only [go_sem, ldS_at hd, stX_at hd, ldS_sv hlt, stX_sv hlt, sv_ext hlt, sv_ext_sv hlt, hq, hb1, hrt, hb2, hkk, hb3]
 refine GCall_of (Any_pc Y _ d b (by first | exact hd | exact sv_get hlt | exact get_svx hlt | exact get_extx hd) [60, 400, 2000] (by simp) (by simp)) ?_
 simp only [go_sem, ldS_at hd, stX_at hd, ldS_sv hlt, stX_sv hlt, sv_ext hlt, sv_ext_sv hlt, hq, hb1, hrt, hb2, hkk, hb3]
 refine GCall_of (Mid_pc Y _ d b1 (by first | exact hd | exact sv_get hlt | exact get_svx hlt | exact get_extx hd) 1 q (by omega) (by omega) (by omega) (by omega)) ?_
 simp only [go_sem, ldS_at hd, stX_at hd, ldS_sv hlt, stX_sv hlt, sv_ext hlt, sv_ext_sv hlt, hq, hb1, hrt, hb2, hkk, hb3]
 refine hR _ _ ?_; clear hR R
 try simp only [go_sem, ldS_at hd, stX_at hd, ldS_sv hlt, stX_sv hlt, sv_ext hlt, sv_ext_sv hlt, hq, hb1, hrt, hb2, hkk, hb3]
 refine W_seq fun Z3 K3 => ?_
 refine W_sr [0, 4, 5, 6] fun R hR => ?_
 simp only [go_sem, ldS_at hd, stX_at hd, ldS_sv hlt, stX_sv hlt, sv_ext hlt, sv_ext_sv hlt, hq, hb1, hrt, hb2, hkk, hb3]
 refine GCall_of (Mid_pc Y _ d b2 (by first | exact hd | exact sv_get hlt | exact get_svx hlt | exact get_extx hd) 1 n (by omega) (by omega) (by omega) (by omega)) ?_
 simp only [go_sem, ldS_at hd, stX_at hd, ldS_sv hlt, stX_sv hlt, sv_ext hlt, sv_ext_sv hlt, hq, hb1, hrt, hb2, hkk, hb3]
 refine hR _ _ ?_; clear hR R
 try simp only [go_sem, ldS_at hd, stX_at hd, ldS_sv hlt, stX_sv hlt, sv_ext hlt, sv_ext_sv hlt, hq, hb1, hrt, hb2, hkk, hb3]
 refine W_block ?_
 refine W_weak (Weak.roomSV (j := 1) (off := 1) (es := 4) rfl rfl (by simp)) ?_
 simp only [go_sem, ldS_at hd, stX_at hd, ldS_sv hlt, stX_sv hlt, sv_ext hlt, sv_ext_sv hlt, hq, hb1, hrt, hb2, hkk, hb3]
 refine W_loopT (α := Nat × (List Wing) × Int) (fun ⟨k, acc, b⟩ => [(6, I k)]) (fun ⟨k, acc, b⟩ => (σ.setVar d [.int .u64 b]).ext [some [.int .i64 0, .isl [] .exact], some [I rt, .isl (acc.map wgPV) (.tok σ.rooms.length acc.length 4)]] [acc.length]) (fun ⟨k, acc, b⟩ => acc.length + k ≤ 8 ∧ res = schoolA rt k acc b) (fun ⟨k, acc, b⟩ => k) ((kk.toNat, [], b3)) (by simp only [go_sem, hkt, List.map]) (by first | rfl | (simp only [go_sem]; done) | (simp only [go_sem]; rfl)) (⟨by (try dsimp only); simp; omega, hres.symm⟩) ?_
 rintro ⟨k, acc, b⟩ ⟨hal, hinv⟩
 refine W_seq fun Z5 K5 => ?_
 refine W_sr [0, 4, 5, 6, 18] fun R hR => ?_
 simp only [go_sem, ldS_at hd, stX_at hd, ldS_sv hlt, stX_sv hlt, sv_ext hlt, sv_ext_sv hlt, hq, hb1, hrt, hb2, hkk, hb3]
 refine hR _ _ ?_; clear hR R
 try simp only [go_sem, ldS_at hd, stX_at hd, ldS_sv hlt, stX_sv hlt, sv_ext hlt, sv_ext_sv hlt, hq, hb1, hrt, hb2, hkk, hb3]
 refine W_cond rfl (fun c1 => ?_) (fun c1 => ?_)
 ·
  try simp only [nrm] at c1
  obtain ⟨k, rfl⟩ : ∃ j, k = j + 1 := ⟨k - 1, by omega⟩
  obtain ⟨nm, hnm⟩ : ∃ z, wnames[acc.length]? = some z := ⟨wnames[acc.length]'(by rw [hwn]; omega), by simp⟩
  obtain ⟨q1, hq1⟩ : ∃ zz, (anyOf [5, 40] b).1 = zz := ⟨_, rfl⟩
  obtain ⟨b4, hb4⟩ : ∃ zz, (anyOf [5, 40] b).2 = zz := ⟨_, rfl⟩
  have dq1 := anyOf_mem [5, 40] (by simp) b
  simp only [hq1] at dq1
  have dq11 := mem2 dq1
  obtain ⟨p, hp⟩ : ∃ zz, (mid 1 q1 b4).1 = zz := ⟨_, rfl⟩
  obtain ⟨b5, hb5⟩ : ∃ zz, (mid 1 q1 b4).2 = zz := ⟨_, rfl⟩
  have dp := mid_bd 1 q1 (by omega) b4
  simp only [hp] at dp
  obtain ⟨q2, hq2⟩ : ∃ zz, (anyOf [10, 80] b5).1 = zz := ⟨_, rfl⟩
  obtain ⟨b6, hb6⟩ : ∃ zz, (anyOf [10, 80] b5).2 = zz := ⟨_, rfl⟩
  have dq2 := anyOf_mem [10, 80] (by simp) b5
  simp only [hq2] at dq2
  have dq21 := mem2 dq2
  obtain ⟨ln, hln⟩ : ∃ zz, (mid 1 q2 b6).1 = zz := ⟨_, rfl⟩
  obtain ⟨b7, hb7⟩ : ∃ zz, (mid 1 q2 b6).2 = zz := ⟨_, rfl⟩
  have dln := mid_bd 1 q2 (by omega) b6
  simp only [hln] at dln
  obtain ⟨x, hx⟩ : ∃ zz, (roll 4 b7).1 = zz := ⟨_, rfl⟩
  obtain ⟨b8, hb8⟩ : ∃ zz, (roll 4 b7).2 = zz := ⟨_, rfl⟩
  have dx := roll_bd 4 b7
  simp only [hx] at dx
  obtain ⟨y, hy⟩ : ∃ zz, (roll 30 b8).1 = zz := ⟨_, rfl⟩
  obtain ⟨b9, hb9⟩ : ∃ zz, (roll 30 b8).2 = zz := ⟨_, rfl⟩
  have dy := roll_bd 30 b8
  simp only [hy] at dy
  obtain ⟨e, he⟩ : ∃ zz, (anyOf [0, x, y] b9).1 = zz := ⟨_, rfl⟩
  obtain ⟨b10, hb10⟩ : ∃ zz, (anyOf [0, x, y] b9).2 = zz := ⟨_, rfl⟩
  have de := anyOf_mem [0, x, y] (by simp) b9
  simp only [he] at de
  have de3 := mem3 de
  simp only [schoolA, dbind, hq1, hb4, hp, hb5, hq2, hb6, hln, hb7, hx, hb8, hy, hb9, he, hb10, hnm, Option.getD_some] at hinv
  refine W_skip (K5 _ _ ?_)
  refine W_seq fun Z7 K7 => ?_
  refine W_block ?_
  refine W_sr [0, 4, 5, 6, 7] fun R hR => ?_
  simp only [go_sem, ldS_at hd, stX_at hd, ldS_sv hlt, stX_sv hlt, sv_ext hlt, sv_ext_sv hlt, hq, hb1, hrt, hb2, hkk, hb3, hq1, hb4, hp, hb5, hq2, hb6, hln, hb7, hx, hb8, hy, hb9, he, hb10]
  refine GCall_of (Any_pc Y _ d b (by first | exact hd | exact sv_get hlt | exact get_svx hlt | exact get_extx hd) [5, 40] (by simp) (by simp)) ?_
  simp only [go_sem, ldS_at hd, stX_at hd, ldS_sv hlt, stX_sv hlt, sv_ext hlt, sv_ext_sv hlt, hq, hb1, hrt, hb2, hkk, hb3, hq1, hb4, hp, hb5, hq2, hb6, hln, hb7, hx, hb8, hy, hb9, he, hb10]
  refine GCall_of (Mid_pc Y _ d b4 (by first | exact hd | exact sv_get hlt | exact get_svx hlt | exact get_extx hd) 1 q1 (by omega) (by omega) (by omega) (by omega)) ?_
  simp only [go_sem, ldS_at hd, stX_at hd, ldS_sv hlt, stX_sv hlt, sv_ext hlt, sv_ext_sv hlt, hq, hb1, hrt, hb2, hkk, hb3, hq1, hb4, hp, hb5, hq2, hb6, hln, hb7, hx, hb8, hy, hb9, he, hb10]
  refine hR _ _ ?_; clear hR R
  try simp only [go_sem, ldS_at hd, stX_at hd, ldS_sv hlt, stX_sv hlt, sv_ext hlt, sv_ext_sv hlt, hq, hb1, hrt, hb2, hkk, hb3, hq1, hb4, hp, hb5, hq2, hb6, hln, hb7, hx, hb8, hy, hb9, he, hb10]
  refine W_draw [0, 4, 5, 6] [0, 1, 2, 3, 4, 5, 6, 7, 8, 9, 10, 11, 12, 13, 14, 15, 16, 17, 18, 19, 20, 21, 22, 23, 24, 25, 26, 27, 28] [(0, 11), (0, 12), (0, 17), (0, 19), (0, 21), (0, 26), (1, 11), (1, 12), (1, 17), (1, 19), (1, 21), (1, 26), (3, 2), (3, 12), (3, 17), (3, 19), (3, 21), (3, 26), (4, 2), (4, 12), (4, 17), (4, 19), (4, 21), (4, 26), (5, 2), (5, 12), (5, 17), (5, 19), (5, 21), (5, 26), (6, 12), (6, 17), (6, 19), (6, 21), (6, 26), (7, 12), (7, 17), (7, 19), (7, 21), (7, 26), (8, 2), (8, 12), (9, 2), (10, 2), (13, 2), (13, 11), (13, 12), (13, 19), (13, 21), (13, 26), (14, 2), (14, 11), (14, 12), (14, 19), (14, 21), (14, 26), (15, 2), (15, 11), (15, 12), (15, 19), (15, 21), (16, 2), (16, 11), (16, 12), (18, 2), (18, 11), (18, 12), (18, 17)] [[], [0], [], [], [3], [3, 4], [2, 3, 4, 5], [2, 3, 4, 5, 6], [], [], [], [2, 9, 10], [2, 8, 9, 10, 11], [], [], [], [], [2, 8, 9, 10, 11, 12, 16], [], [2, 8, 9, 10, 11, 12, 16, 17, 18], [2, 8, 9, 10, 11, 12, 16, 17, 18, 19], [2, 8, 9, 10, 11, 12, 15, 16, 17, 18, 19, 20], [2, 8, 9, 10, 11, 12, 14, 15, 16, 17, 18, 19, 20, 21], [2, 8, 9, 10, 11, 12, 13, 14, 15, 16, 17, 18, 19, 20, 21, 22], [2, 3, 4, 5, 6, 7, 8, 9, 10, 11, 12, 13, 14, 15, 16, 17, 18, 19, 20, 21, 22, 23], [2, 3, 4, 5, 6, 7, 8, 9, 10, 11, 12, 13, 14, 15, 16, 17, 18, 19, 20, 21, 22, 23, 24], [0, 1, 2, 3, 4, 5, 6, 7, 8, 9, 10, 11, 12, 13, 14, 15, 16, 17, 18, 19, 20, 21, 22, 23, 24, 25], [0, 1, 2, 3, 4, 5, 6, 7, 8, 9, 10, 11, 12, 13, 14, 15, 16, 17, 18, 19, 20, 21, 22, 23, 24, 25, 26], [0, 1, 2, 3, 4, 5, 6, 7, 8, 9, 10, 11, 12, 13, 14, 15, 16, 17, 18, 19, 20, 21, 22, 23, 24, 25, 26, 27]] mixed (by kernel_rfl) fun R hR => ?_
  simp only [go_sem, ldS_at hd, stX_at hd, ldS_sv hlt, stX_sv hlt, sv_ext hlt, sv_ext_sv hlt, hq, hb1, hrt, hb2, hkk, hb3, hq1, hb4, hp, hb5, hq2, hb6, hln, hb7, hx, hb8, hy, hb9, he, hb10, hnm]
  refine GCall_of (wingNames_pc Y _) ?_
  simp only [go_sem, ldS_at hd, stX_at hd, ldS_sv hlt, stX_sv hlt, sv_ext hlt, sv_ext_sv hlt, hq, hb1, hrt, hb2, hkk, hb3, hq1, hb4, hp, hb5, hq2, hb6, hln, hb7, hx, hb8, hy, hb9, he, hb10, hnm]
  refine GCall_of (Any_pc Y _ d b5 (by first | exact hd | exact sv_get hlt | exact get_svx hlt | exact get_extx hd) [10, 80] (by simp) (by simp)) ?_
  simp only [go_sem, ldS_at hd, stX_at hd, ldS_sv hlt, stX_sv hlt, sv_ext hlt, sv_ext_sv hlt, hq, hb1, hrt, hb2, hkk, hb3, hq1, hb4, hp, hb5, hq2, hb6, hln, hb7, hx, hb8, hy, hb9, he, hb10, hnm]
  refine GCall_of (Mid_pc Y _ d b6 (by first | exact hd | exact sv_get hlt | exact get_svx hlt | exact get_extx hd) 1 q2 (by omega) (by omega) (by omega) (by omega)) ?_
  simp only [go_sem, ldS_at hd, stX_at hd, ldS_sv hlt, stX_sv hlt, sv_ext hlt, sv_ext_sv hlt, hq, hb1, hrt, hb2, hkk, hb3, hq1, hb4, hp, hb5, hq2, hb6, hln, hb7, hx, hb8, hy, hb9, he, hb10, hnm]
  refine GCall_of (Roll_pc Y _ d b7 (by first | exact hd | exact sv_get hlt | exact get_svx hlt | exact get_extx hd) 4 (by omega)) ?_
  simp only [go_sem, ldS_at hd, stX_at hd, ldS_sv hlt, stX_sv hlt, sv_ext hlt, sv_ext_sv hlt, hq, hb1, hrt, hb2, hkk, hb3, hq1, hb4, hp, hb5, hq2, hb6, hln, hb7, hx, hb8, hy, hb9, he, hb10, hnm]
  refine GCall_of (Roll_pc Y _ d b8 (by first | exact hd | exact sv_get hlt | exact get_svx hlt | exact get_extx hd) 30 (by omega)) ?_
  simp only [go_sem, ldS_at hd, stX_at hd, ldS_sv hlt, stX_sv hlt, sv_ext hlt, sv_ext_sv hlt, hq, hb1, hrt, hb2, hkk, hb3, hq1, hb4, hp, hb5, hq2, hb6, hln, hb7, hx, hb8, hy, hb9, he, hb10, hnm]
  refine GCall_of (Any_pc Y _ d b9 (by first | exact hd | exact sv_get hlt | exact get_svx hlt | exact get_extx hd) [0, x, y] (by simp) (by simp)) ?_
  simp only [go_sem, ldS_at hd, stX_at hd, ldS_sv hlt, stX_sv hlt, sv_ext hlt, sv_ext_sv hlt, hq, hb1, hrt, hb2, hkk, hb3, hq1, hb4, hp, hb5, hq2, hb6, hln, hb7, hx, hb8, hy, hb9, he, hb10, hnm]
  try simp (disch := (first | omega | (simp only [go_sem, List.length_append] <;> omega))) only [wrapI, wrapU, appX_exact, appX_tok, strAdd, slT, slTa, slTb]
  try simp only [go_sem, ldS_at hd, stX_at hd, ldS_sv hlt, stX_sv hlt, sv_ext hlt, sv_ext_sv hlt, hq, hb1, hrt, hb2, hkk, hb3, hq1, hb4, hp, hb5, hq2, hb6, hln, hb7, hx, hb8, hy, hb9, he, hb10, hnm]
  try refine And.intro (by repeat' (first | refine And.intro ?_ ?_ | exact trivial | exact GOr_right (fun _ => by simp only [go_sem, ldS_at hd, stX_at hd, ldS_sv hlt, stX_sv hlt, sv_ext hlt, sv_ext_sv hlt, hq, hb1, hrt, hb2, hkk, hb3, hq1, hb4, hp, hb5, hq2, hb6, hln, hb7, hx, hb8, hy, hb9, he, hb10, hnm]))) ?_
  refine hR _ _ (K7 _ _ ?_); clear hR R; try clear K7 Z7
  try simp only [go_sem, ldS_at hd, stX_at hd, ldS_sv hlt, stX_sv hlt, sv_ext hlt, sv_ext_sv hlt, hq, hb1, hrt, hb2, hkk, hb3, hq1, hb4, hp, hb5, hq2, hb6, hln, hb7, hx, hb8, hy, hb9, he, hb10]
  refine W_region [0, 4, 5, 6] fun R hR => ?_
  simp only [go_sem, ldS_at hd, stX_at hd, ldS_sv hlt, stX_sv hlt, sv_ext hlt, sv_ext_sv hlt, hq, hb1, hrt, hb2, hkk, hb3, hq1, hb4, hp, hb5, hq2, hb6, hln, hb7, hx, hb8, hy, hb9, he, hb10]
  try simp (disch := (first | omega | (simp only [go_sem, List.length_append] <;> omega))) only [wrapI, wrapU, strAdd, slT, slTa, slTb]
  refine hR _ _ ?_; clear hR R
  try simp only [go_sem, ldS_at hd, stX_at hd, ldS_sv hlt, stX_sv hlt, sv_ext hlt, sv_ext_sv hlt, hq, hb1, hrt, hb2, hkk, hb3, hq1, hb4, hp, hb5, hq2, hb6, hln, hb7, hx, hb8, hy, hb9, he, hb10]
  refine ⟨(k, acc ++ [⟨nm, ln, p, p + e⟩], b10), ?_, by (try simp only []); omega, ?_⟩
  ·first | exact Weak.refl | exact Wqq
  try dsimp only
  exact ⟨by simp; omega, hinv⟩
 try simp only [nrm] at c1
 obtain rfl : k = 0 := by omega
 simp only [schoolA, dret] at hinv
 refine W_exit ?_
 simp only [go_sem, ldS_at hd, stX_at hd, ldS_sv hlt, stX_sv hlt, sv_ext hlt, sv_ext_sv hlt, hq, hb1, hrt, hb2, hkk, hb3]
 refine K3 _ _ ?_
 refine W_sr [4] fun R hR => ?_
 simp only [go_sem, ldS_at hd, stX_at hd, ldS_sv hlt, stX_sv hlt, sv_ext hlt, sv_ext_sv hlt, hq, hb1, hrt, hb2, hkk, hb3]
 refine hR _ _ ?_; clear hR R
 try simp only [go_sem, ldS_at hd, stX_at hd, ldS_sv hlt, stX_sv hlt, sv_ext hlt, sv_ext_sv hlt, hq, hb1, hrt, hb2, hkk, hb3]
 refine W_ret ?_
 simp only [go_sem, ldS_at hd, stX_at hd, ldS_sv hlt, stX_sv hlt, sv_ext hlt, sv_ext_sv hlt, hq, hb1, hrt, hb2, hkk, hb3]
 refine ⟨.inr (by trivial), ?_⟩
 rw [hinv]; refine Fin_set hcl (by simp only [go_sem]) (by show resPV Tryz.prog _ _ [.cell 4 27] = some _; simp only [resPV, go_sem]; rfl) (Wk.ro (by simp only [go_sem]) ?_)
 try simp only [go_sem]
 all_goals
  simp only [go_sem]
open Go Go.RowKit Mk
open Co (Fund Ledger fdPV fdCells lgPV lgCells)
noncomputable def usesA (dy un am : Int) : Nat → Nat → List Int → D Fund
 | 0, _, acc => dret ⟨dy, un, am, acc⟩
 | k + 1, u, acc => dbind (roll 3) fun x => usesA dy un am k (u + 1) (if x = 0 then acc else acc ++ [(u : Int)])
noncomputable def fundD (cn : Int) : D Fund := dbind (roll 10) fun dy => dbind (anyOf [dy + 4, 20]) fun q => dbind (mid dy q) fun un => dbind (roll (2 * cn + 1)) fun am => usesA dy un am 3 0 []
noncomputable def billsA (cn : Int) (fs : List Fund) : Nat → List Co.Bill → D Ledger
 | 0, acc => dret ⟨fs, acc⟩
 | k + 1, acc => dbind (mid 3 12) fun dy => dbind (roll 3) fun us => dbind (roll (cn + 1)) fun am => billsA cn fs k (acc ++ [⟨dy, us, am⟩])
noncomputable def fundsA (bl cn : Int) : Nat → List Fund → D Ledger
 | 0, acc => dbind (roll (bl + 1)) fun k => billsA cn acc k.toNat []
 | k + 1, acc => dbind (fundD cn) fun f => fundsA bl cn k (acc ++ [f])
noncomputable def ledgerD (fu bl cn : Int) : D Ledger := dbind (roll (fu + 1)) fun k => fundsA bl cn k.toNat []
set_option maxHeartbeats 2000000 in
theorem Rare_pc (Y : YEnv) (σ : Sg) (d : Nat) (b : Int) (hd : σ.store[d]? = some (some [.int .u64 b])) (n : Int) (h1 : n < 2 ^ 60) :
 PC Tryz.prog Y 55 [.ptr d 0, I n] σ (.bool (decide ((roll n b).1 = 0))) (σ.setVar d [.int .u64 (roll n b).2]) := by
 refine PC_of_W Tryz.func55 rfl (by kernel_rfl) Tryz.ntmps55 (by simp) fun hcl hca => ?_
 have hlt := lt_of_get hd
 obtain ⟨x, hx⟩ : ∃ z, (roll n b).1 = z := ⟨_, rfl⟩
 obtain ⟨b1, hb1⟩ : ∃ z, (roll n b).2 = z := ⟨_, rfl⟩
 rw [hx, hb1]
 refine W_sr [0, 1] fun R hR => ?_
 simp only [go_sem, ldS_at hd, stX_at hd, ldS_sv hlt, stX_sv hlt, sv_ext hlt, sv_ext_sv hlt, hx, hb1]
 refine hR _ _ ?_; clear hR R
 try simp only [go_sem, ldS_at hd, stX_at hd, ldS_sv hlt, stX_sv hlt, sv_ext hlt, sv_ext_sv hlt, hx, hb1]
 refine W_sr [4] fun R hR => ?_
 simp only [go_sem, ldS_at hd, stX_at hd, ldS_sv hlt, stX_sv hlt, sv_ext hlt, sv_ext_sv hlt, hx, hb1]
 refine GCall_of (Roll_pc Y _ d b (by first | exact hd | exact sv_get hlt | exact get_svx hlt | exact get_extx hd) n (by omega)) ?_
 simp only [go_sem, ldS_at hd, stX_at hd, ldS_sv hlt, stX_sv hlt, sv_ext hlt, sv_ext_sv hlt, hx, hb1]
 refine hR _ _ ?_; clear hR R
 try simp only [go_sem, ldS_at hd, stX_at hd, ldS_sv hlt, stX_sv hlt, sv_ext hlt, sv_ext_sv hlt, hx, hb1]
 refine W_ret ?_
 simp only [go_sem, ldS_at hd, stX_at hd, ldS_sv hlt, stX_sv hlt, sv_ext hlt, sv_ext_sv hlt, hx, hb1]
 refine ⟨.inr (by trivial), ?_⟩
 first | refine Fin_set hcl (by simp only [go_sem]) rfl (Wk_eq ?_ (by simp only [go_sem])) | refine Fin_set0 hcl (by simp only [go_sem]) rfl (Wk_eq ?_ (by simp only [go_sem]))
 try simp only [go_sem]
 all_goals
  first | rfl | (simp_all; done) | (simp_all; omega)
set_option maxHeartbeats 8000000 in
theorem LedgerOf_pc (Y : YEnv) (σ : Sg) (d : Nat) (b : Int) (hd : σ.store[d]? = some (some [.int .u64 b])) (fu bl cn : Int) (h1 : 0 ≤ fu) (h2 : fu ≤ 100) (h3 : 0 ≤ bl) (h4 : bl ≤ 100) (h5 : 0 ≤ cn) (h6 : cn ≤ 100000) :
 PC Tryz.prog Y 39 [.ptr d 0, I fu, I bl, I cn] σ (lgPV (ledgerD fu bl cn b).1) (σ.setVar d [.int .u64 (ledgerD fu bl cn b).2]) := by
 refine PC_of_W Tryz.func39 rfl (by kernel_rfl) Tryz.ntmps39 (by simp) fun hcl hca => ?_
 have hlt := lt_of_get hd
 obtain ⟨res, hres⟩ : ∃ r, ledgerD fu bl cn b = r := ⟨_, rfl⟩
 rw [hres]
 obtain ⟨kk, hkk⟩ : ∃ zz, (roll (fu + 1) b).1 = zz := ⟨_, rfl⟩
 obtain ⟨b1, hb1⟩ : ∃ zz, (roll (fu + 1) b).2 = zz := ⟨_, rfl⟩
 have dkk := roll_bd (fu + 1) b
 simp only [hkk] at dkk
 simp only [ledgerD, dbind, hkk, hb1] at hres
 have hkt : ((kk.toNat : Nat) : Int) = kk := by omega
 refine W_sr [0, 1, 2, 3, 8] fun R hR => ?_
 simp only [go_sem, ldS_at hd, stX_at hd, ldS_sv hlt, stX_sv hlt, sv_ext hlt, sv_ext_sv hlt, hkk, hb1]
 refine hR _ _ ?_; clear hR R
 try simp only [go_sem, ldS_at hd, stX_at hd, ldS_sv hlt, stX_sv hlt, sv_ext hlt, sv_ext_sv hlt, hkk, hb1]
 refine W_sr [0, 1, 2, 3, 8, 9] fun R hR => ?_
 simp only [go_sem, ldS_at hd, stX_at hd, ldS_sv hlt, stX_sv hlt, sv_ext hlt, sv_ext_sv hlt, hkk, hb1]
 refine hR _ _ ?_; clear hR R
 try simp only [go_sem, ldS_at hd, stX_at hd, ldS_sv hlt, stX_sv hlt, sv_ext hlt, sv_ext_sv hlt, hkk, hb1]
 refine W_seq fun Z3 K3 => ?_
 refine W_sr [0, 2, 3, 8, 9, 10] fun R hR => ?_
 simp only [go_sem, ldS_at hd, stX_at hd, ldS_sv hlt, stX_sv hlt, sv_ext hlt, sv_ext_sv hlt, hkk, hb1]
 try simp (disch := (first | omega | (simp only [go_sem, List.length_append] <;> omega))) only [wrapI, wrapU, strAdd, slT, slTa, slTb]
 refine GCall_of (Roll_pc Y _ d b (by first | exact hd | exact sv_get hlt | exact get_svx hlt | exact get_extx hd) (fu + 1) (by omega)) ?_
 simp only [go_sem, ldS_at hd, stX_at hd, ldS_sv hlt, stX_sv hlt, sv_ext hlt, sv_ext_sv hlt, hkk, hb1]
 try simp (disch := (first | omega | (simp only [go_sem, List.length_append] <;> omega))) only [wrapI, wrapU, strAdd, slT, slTa, slTb]
 refine hR _ _ ?_; clear hR R
 try simp only [go_sem, ldS_at hd, stX_at hd, ldS_sv hlt, stX_sv hlt, sv_ext hlt, sv_ext_sv hlt, hkk, hb1]
 refine W_block ?_
 refine W_weak (Weak.roomSV (j := 1) (off := 0) (es := 4) rfl rfl (by simp)) ?_
 simp only [go_sem, ldS_at hd, stX_at hd, ldS_sv hlt, stX_sv hlt, sv_ext hlt, sv_ext_sv hlt, hkk, hb1]
 refine W_loopT (α := Nat × (List Fund) × Int) (fun ⟨k, acc, b⟩ => [(10, I k)]) (fun ⟨k, acc, b⟩ => (σ.setVar d [.int .u64 b]).ext [some [.isl [] .exact, .isl [] .exact], some [.isl (acc.map fdPV) (.tok σ.rooms.length acc.length 4), .isl [] .exact]] [acc.length]) (fun ⟨k, acc, b⟩ => acc.length + k ≤ 2000 ∧ res = fundsA bl cn k acc b) (fun ⟨k, acc, b⟩ => k) ((kk.toNat, [], b1)) (by simp only [go_sem, hkt, List.map]) (by first | rfl | (simp only [go_sem]; done) | (simp only [go_sem]; rfl)) (⟨by (try dsimp only); simp; omega, hres.symm⟩) ?_
 rintro ⟨k, acc, b⟩ ⟨hal, hinv⟩
 refine W_seq fun Z5 K5 => ?_
 refine W_sr [0, 2, 3, 8, 9, 10, 20] fun R hR => ?_
 simp only [go_sem, ldS_at hd, stX_at hd, ldS_sv hlt, stX_sv hlt, sv_ext hlt, sv_ext_sv hlt, hkk, hb1]
 refine hR _ _ ?_; clear hR R
 try simp only [go_sem, ldS_at hd, stX_at hd, ldS_sv hlt, stX_sv hlt, sv_ext hlt, sv_ext_sv hlt, hkk, hb1]
 refine W_cond rfl (fun c1 => ?_) (fun c1 => ?_)
 ·
  try simp only [nrm] at c1
  obtain ⟨k, rfl⟩ : ∃ j, k = j + 1 := ⟨k - 1, by omega⟩
  obtain ⟨gres, hgr⟩ : ∃ r, fundD cn b = r := ⟨_, rfl⟩
  simp only [fundsA, dbind, hgr] at hinv
  obtain ⟨dy, hdy⟩ : ∃ zz, (roll 10 b).1 = zz := ⟨_, rfl⟩
  obtain ⟨b2, hb2⟩ : ∃ zz, (roll 10 b).2 = zz := ⟨_, rfl⟩
  have ddy := roll_bd 10 b
  simp only [hdy] at ddy
  obtain ⟨q, hq⟩ : ∃ zz, (anyOf [dy + 4, 20] b2).1 = zz := ⟨_, rfl⟩
  obtain ⟨b3, hb3⟩ : ∃ zz, (anyOf [dy + 4, 20] b2).2 = zz := ⟨_, rfl⟩
  have dq := anyOf_mem [dy + 4, 20] (by simp) b2
  simp only [hq] at dq
  have dq1 := mem2 dq
  obtain ⟨un, hun⟩ : ∃ zz, (mid dy q b3).1 = zz := ⟨_, rfl⟩
  obtain ⟨b4, hb4⟩ : ∃ zz, (mid dy q b3).2 = zz := ⟨_, rfl⟩
  have dun := mid_bd dy q (by omega) b3
  simp only [hun] at dun
  obtain ⟨am, ham⟩ : ∃ zz, (roll (2 * cn + 1) b4).1 = zz := ⟨_, rfl⟩
  obtain ⟨b5, hb5⟩ : ∃ zz, (roll (2 * cn + 1) b4).2 = zz := ⟨_, rfl⟩
  have dam := roll_bd (2 * cn + 1) b4
  simp only [ham] at dam
  simp only [fundD, dbind, hdy, hb2, hq, hb3, hun, hb4, ham, hb5] at hgr
  refine W_skip (K5 _ _ ?_)
  refine W_seq fun Z7 K7 => ?_
  refine W_block ?_
  refine W_sr [0, 2, 3, 8, 9, 10, 11] fun R hR => ?_
  simp only [go_sem, ldS_at hd, stX_at hd, ldS_sv hlt, stX_sv hlt, sv_ext hlt, sv_ext_sv hlt, hkk, hb1, hdy, hb2, hq, hb3, hun, hb4, ham, hb5]
  refine GCall_of (Roll_pc Y _ d b (by first | exact hd | exact sv_get hlt | exact get_svx hlt | exact get_extx hd) 10 (by omega)) ?_
  simp only [go_sem, ldS_at hd, stX_at hd, ldS_sv hlt, stX_sv hlt, sv_ext hlt, sv_ext_sv hlt, hkk, hb1, hdy, hb2, hq, hb3, hun, hb4, ham, hb5]
  refine hR _ _ ?_; clear hR R
  try simp only [go_sem, ldS_at hd, stX_at hd, ldS_sv hlt, stX_sv hlt, sv_ext hlt, sv_ext_sv hlt, hkk, hb1, hdy, hb2, hq, hb3, hun, hb4, ham, hb5]
  refine W_sr [0, 2, 3, 8, 9, 10, 12] fun R hR => ?_
  simp only [go_sem, ldS_at hd, stX_at hd, ldS_sv hlt, stX_sv hlt, sv_ext hlt, sv_ext_sv hlt, hkk, hb1, hdy, hb2, hq, hb3, hun, hb4, ham, hb5]
  try simp (disch := (first | omega | (simp only [go_sem, List.length_append] <;> omega))) only [wrapI, wrapU, strAdd, slT, slTa, slTb]
  refine GCall_of (Any_pc Y _ d b2 (by first | exact hd | exact sv_get hlt | exact get_svx hlt | exact get_extx hd) [dy + 4, 20] (by simp) (by simp)) ?_
  simp only [go_sem, ldS_at hd, stX_at hd, ldS_sv hlt, stX_sv hlt, sv_ext hlt, sv_ext_sv hlt, hkk, hb1, hdy, hb2, hq, hb3, hun, hb4, ham, hb5]
  try simp (disch := (first | omega | (simp only [go_sem, List.length_append] <;> omega))) only [wrapI, wrapU, strAdd, slT, slTa, slTb]
  refine GCall_of (Mid_pc Y _ d b3 (by first | exact hd | exact sv_get hlt | exact get_svx hlt | exact get_extx hd) dy q (by omega) (by omega) (by omega) (by omega)) ?_
  simp only [go_sem, ldS_at hd, stX_at hd, ldS_sv hlt, stX_sv hlt, sv_ext hlt, sv_ext_sv hlt, hkk, hb1, hdy, hb2, hq, hb3, hun, hb4, ham, hb5]
  try simp (disch := (first | omega | (simp only [go_sem, List.length_append] <;> omega))) only [wrapI, wrapU, strAdd, slT, slTa, slTb]
  refine GCall_of (Roll_pc Y _ d b4 (by first | exact hd | exact sv_get hlt | exact get_svx hlt | exact get_extx hd) (2 * cn + 1) (by omega)) ?_
  simp only [go_sem, ldS_at hd, stX_at hd, ldS_sv hlt, stX_sv hlt, sv_ext hlt, sv_ext_sv hlt, hkk, hb1, hdy, hb2, hq, hb3, hun, hb4, ham, hb5]
  try simp (disch := (first | omega | (simp only [go_sem, List.length_append] <;> omega))) only [wrapI, wrapU, strAdd, slT, slTa, slTb]
  refine hR _ _ ?_; clear hR R
  try simp only [go_sem, ldS_at hd, stX_at hd, ldS_sv hlt, stX_sv hlt, sv_ext hlt, sv_ext_sv hlt, hkk, hb1, hdy, hb2, hq, hb3, hun, hb4, ham, hb5]
  refine W_seq fun Z10 K10 => ?_
  refine W_sr [0, 2, 3, 8, 9, 10, 12, 13] fun R hR => ?_
  simp only [go_sem, ldS_at hd, stX_at hd, ldS_sv hlt, stX_sv hlt, sv_ext hlt, sv_ext_sv hlt, hkk, hb1, hdy, hb2, hq, hb3, hun, hb4, ham, hb5]
  refine hR _ _ ?_; clear hR R
  try simp only [go_sem, ldS_at hd, stX_at hd, ldS_sv hlt, stX_sv hlt, sv_ext hlt, sv_ext_sv hlt, hkk, hb1, hdy, hb2, hq, hb3, hun, hb4, ham, hb5]
  refine W_block ?_
  refine W_weak (Weak.roomSV (j := 2) (off := 3) (es := 1) rfl rfl (by simp)) ?_
  simp only [go_sem, ldS_at hd, stX_at hd, ldS_sv hlt, stX_sv hlt, sv_ext hlt, sv_ext_sv hlt, hkk, hb1, hdy, hb2, hq, hb3, hun, hb4, ham, hb5]
  refine W_loopT (α := Nat × (List Int) × Int) (fun ⟨u, us, bp⟩ => [(13, I u)]) (fun ⟨u, us, bp⟩ => (σ.setVar d [.int .u64 bp]).ext [some [.isl [] .exact, .isl [] .exact], some [.isl (acc.map fdPV) (.tok σ.rooms.length acc.length 4), .isl [] .exact], some [I dy, I un, I am, .isl (us.map I) (.tok (σ.rooms.length + 1) us.length 1)]] [acc.length, us.length]) (fun ⟨u, us, bp⟩ => u ≤ 3 ∧ us.length ≤ u ∧ gres = usesA dy un am (3 - u) u us bp) (fun ⟨u, us, bp⟩ => 3 - u) ((0, [], b5)) rfl (by first | rfl | (simp only [go_sem]; done) | (simp only [go_sem]; rfl)) (⟨by (try dsimp only); omega, by simp, hgr.symm⟩) ?_
  rintro ⟨u, us, bp⟩ ⟨hu3, hul, hg3⟩
  refine W_seq fun Z12 K12 => ?_
  refine W_sr [0, 2, 3, 8, 9, 10, 12, 13, 41] fun R hR => ?_
  simp only [go_sem, ldS_at hd, stX_at hd, ldS_sv hlt, stX_sv hlt, sv_ext hlt, sv_ext_sv hlt, hkk, hb1, hdy, hb2, hq, hb3, hun, hb4, ham, hb5]
  refine hR _ _ ?_; clear hR R
  try simp only [go_sem, ldS_at hd, stX_at hd, ldS_sv hlt, stX_sv hlt, sv_ext hlt, sv_ext_sv hlt, hkk, hb1, hdy, hb2, hq, hb3, hun, hb4, ham, hb5]
  refine W_cond rfl (fun c2 => ?_) (fun c2 => ?_)
  ·
   try simp only [nrm] at c2
   obtain ⟨j, hj⟩ : ∃ j, 3 - u = j + 1 := ⟨2 - u, by omega⟩
   have hj2 : 3 - (u + 1) = j := by omega
   rw [hj] at hg3
   obtain ⟨x, hx⟩ : ∃ zz, (roll 3 bp).1 = zz := ⟨_, rfl⟩
   obtain ⟨b6, hb6⟩ : ∃ zz, (roll 3 bp).2 = zz := ⟨_, rfl⟩
   have dx := roll_bd 3 bp
   simp only [hx] at dx
   simp only [usesA, dbind, hx, hb6] at hg3
   refine W_skip (K12 _ _ ?_)
   refine W_seq fun Z14 K14 => ?_
   refine W_block ?_
   refine W_sr [0, 2, 3, 8, 9, 10, 12, 13, 46] fun R hR => ?_
   simp only [go_sem, ldS_at hd, stX_at hd, ldS_sv hlt, stX_sv hlt, sv_ext hlt, sv_ext_sv hlt, hkk, hb1, hdy, hb2, hq, hb3, hun, hb4, ham, hb5, hx, hb6]
   refine GCall_of (Rare_pc Y _ d bp (by first | exact hd | exact sv_get hlt | exact get_svx hlt | exact get_extx hd) 3 (by omega)) ?_
   simp only [go_sem, ldS_at hd, stX_at hd, ldS_sv hlt, stX_sv hlt, sv_ext hlt, sv_ext_sv hlt, hkk, hb1, hdy, hb2, hq, hb3, hun, hb4, ham, hb5, hx, hb6]
   refine hR _ _ ?_; clear hR R
   try simp only [go_sem, ldS_at hd, stX_at hd, ldS_sv hlt, stX_sv hlt, sv_ext hlt, sv_ext_sv hlt, hkk, hb1, hdy, hb2, hq, hb3, hun, hb4, ham, hb5, hx, hb6]
   refine W_cond rfl (fun c3 => ?_) (fun c3 => ?_)
   ·
    try simp only [nrm] at c3
    refine W_region [0, 2, 3, 8, 9, 10, 12, 13] fun R hR => ?_
    simp only [go_sem, ldS_at hd, stX_at hd, ldS_sv hlt, stX_sv hlt, sv_ext hlt, sv_ext_sv hlt, hkk, hb1, hdy, hb2, hq, hb3, hun, hb4, ham, hb5, hx, hb6]
    try simp (disch := (first | omega | (simp only [go_sem, List.length_append] <;> omega))) only [wrapI, wrapU, appX_exact, appX_tok, strAdd, slT, slTa, slTb]
    try simp only [go_sem, ldS_at hd, stX_at hd, ldS_sv hlt, stX_sv hlt, sv_ext hlt, sv_ext_sv hlt, hkk, hb1, hdy, hb2, hq, hb3, hun, hb4, ham, hb5, hx, hb6]
    refine hR _ _ (K14 _ _ ?_); clear hR R; try clear K14 Z14
    try simp only [go_sem, ldS_at hd, stX_at hd, ldS_sv hlt, stX_sv hlt, sv_ext hlt, sv_ext_sv hlt, hkk, hb1, hdy, hb2, hq, hb3, hun, hb4, ham, hb5, hx, hb6]
    refine W_region [0, 2, 3, 8, 9, 10, 12, 13] fun R hR => ?_
    simp only [go_sem, ldS_at hd, stX_at hd, ldS_sv hlt, stX_sv hlt, sv_ext hlt, sv_ext_sv hlt, hkk, hb1, hdy, hb2, hq, hb3, hun, hb4, ham, hb5, hx, hb6]
    try simp (disch := (first | omega | (simp only [go_sem, List.length_append] <;> omega))) only [wrapI, wrapU, strAdd, slT, slTa, slTb]
    refine hR _ _ ?_; clear hR R
    try simp only [go_sem, ldS_at hd, stX_at hd, ldS_sv hlt, stX_sv hlt, sv_ext hlt, sv_ext_sv hlt, hkk, hb1, hdy, hb2, hq, hb3, hun, hb4, ham, hb5, hx, hb6]
    refine ⟨(u + 1, us ++ [(u : Int)], b6), ?_, by (try simp only []); omega, ?_⟩
    ·first | exact Weak.refl | exact Wqq
    try dsimp only
    refine ⟨by omega, by simp; omega, ?_⟩
    rw [hg3, hj2, if_neg (by first | omega | simpa using c3)]
   try simp only [nrm] at c3
   refine W_skip (K14 _ _ ?_)
   refine W_region [0, 2, 3, 8, 9, 10, 12, 13] fun R hR => ?_
   simp only [go_sem, ldS_at hd, stX_at hd, ldS_sv hlt, stX_sv hlt, sv_ext hlt, sv_ext_sv hlt, hkk, hb1, hdy, hb2, hq, hb3, hun, hb4, ham, hb5, hx, hb6]
   try simp (disch := (first | omega | (simp only [go_sem, List.length_append] <;> omega))) only [wrapI, wrapU, strAdd, slT, slTa, slTb]
   refine hR _ _ ?_; clear hR R
   try simp only [go_sem, ldS_at hd, stX_at hd, ldS_sv hlt, stX_sv hlt, sv_ext hlt, sv_ext_sv hlt, hkk, hb1, hdy, hb2, hq, hb3, hun, hb4, ham, hb5, hx, hb6]
   refine ⟨(u + 1, us, b6), ?_, by (try simp only []); omega, ?_⟩
   ·first | exact Weak.refl | exact Wqq
   try dsimp only
   refine ⟨by omega, by omega, ?_⟩
   rw [hg3, hj2, if_pos (by first | omega | simpa using c3)]
  try simp only [nrm] at c2
  have hu0 : 3 - u = 0 := by omega
  rw [hu0] at hg3
  simp only [usesA, dret] at hg3
  refine W_exit ?_
  simp only [go_sem, ldS_at hd, stX_at hd, ldS_sv hlt, stX_sv hlt, sv_ext hlt, sv_ext_sv hlt, hkk, hb1, hdy, hb2, hq, hb3, hun, hb4, ham, hb5]
  refine K10 _ _ ?_
  refine W_weak (Weak.roSV (j := 2) (off := 3) rfl rfl) ?_
  simp only [go_sem]
  refine W_region [0, 2, 3, 8, 9, 10] fun R hR => ?_
  simp only [go_sem, ldS_at hd, stX_at hd, ldS_sv hlt, stX_sv hlt, sv_ext hlt, sv_ext_sv hlt, hkk, hb1, hdy, hb2, hq, hb3, hun, hb4, ham, hb5]
  try simp (disch := (first | omega | (simp only [go_sem, List.length_append] <;> omega))) only [wrapI, wrapU, appX_exact, appX_tok, strAdd, slT, slTa, slTb]
  try simp only [go_sem, ldS_at hd, stX_at hd, ldS_sv hlt, stX_sv hlt, sv_ext hlt, sv_ext_sv hlt, hkk, hb1, hdy, hb2, hq, hb3, hun, hb4, ham, hb5]
  refine hR _ _ (K7 _ _ ?_); clear hR R; try clear K7 Z7
  try simp only [go_sem, ldS_at hd, stX_at hd, ldS_sv hlt, stX_sv hlt, sv_ext hlt, sv_ext_sv hlt, hkk, hb1, hdy, hb2, hq, hb3, hun, hb4, ham, hb5]
  refine W_region [0, 2, 3, 8, 9, 10] fun R hR => ?_
  simp only [go_sem, ldS_at hd, stX_at hd, ldS_sv hlt, stX_sv hlt, sv_ext hlt, sv_ext_sv hlt, hkk, hb1, hdy, hb2, hq, hb3, hun, hb4, ham, hb5]
  try simp (disch := (first | omega | (simp only [go_sem, List.length_append] <;> omega))) only [wrapI, wrapU, strAdd, slT, slTa, slTb]
  refine hR _ _ ?_; clear hR R
  try simp only [go_sem, ldS_at hd, stX_at hd, ldS_sv hlt, stX_sv hlt, sv_ext hlt, sv_ext_sv hlt, hkk, hb1, hdy, hb2, hq, hb3, hun, hb4, ham, hb5]
  refine ⟨(k, acc ++ [gres.1], bp), ?_, by (try simp only []); omega, ?_⟩
  ·refine Weak.trans (Weak.cutSV 2 1 (by omega) (by omega) hcl (by simp only [go_sem]) (by simp only [go_sem] <;> omega) (by simp only [go_sem] <;> omega)) ?_
   simp only [go_sem]
   rw [hg3]
   exact Weak.eq (by first | rfl | (simp only [go_sem]; done) | (simp [go_sem]; done) | (simp [go_sem]; omega)) (by first | rfl | (simp only [go_sem]; done) | (simp [go_sem]; done))
  try dsimp only
  refine ⟨by simp; omega, ?_⟩
  rw [hinv, hg3]
 try simp only [nrm] at c1
 obtain rfl : k = 0 := by omega
 obtain ⟨k0, hk0⟩ : ∃ zz, (roll (bl + 1) b).1 = zz := ⟨_, rfl⟩
 obtain ⟨b7, hb7⟩ : ∃ zz, (roll (bl + 1) b).2 = zz := ⟨_, rfl⟩
 have dk0 := roll_bd (bl + 1) b
 simp only [hk0] at dk0
 simp only [fundsA, dbind, hk0, hb7] at hinv
 clear hres
 have hkz : ((k0.toNat : Nat) : Int) = k0 := by omega
 refine W_exit ?_
 simp only [go_sem, ldS_at hd, stX_at hd, ldS_sv hlt, stX_sv hlt, sv_ext hlt, sv_ext_sv hlt, hkk, hb1, hk0, hb7]
 refine K3 _ _ ?_
 refine W_seq fun Z16 K16 => ?_
 refine W_sr [0, 3, 8, 9, 14] fun R hR => ?_
 simp only [go_sem, ldS_at hd, stX_at hd, ldS_sv hlt, stX_sv hlt, sv_ext hlt, sv_ext_sv hlt, hkk, hb1, hk0, hb7]
 try simp (disch := (first | omega | (simp only [go_sem, List.length_append] <;> omega))) only [wrapI, wrapU, strAdd, slT, slTa, slTb]
 refine GCall_of (Roll_pc Y _ d b (by first | exact hd | exact sv_get hlt | exact get_svx hlt | exact get_extx hd) (bl + 1) (by omega)) ?_
 simp only [go_sem, ldS_at hd, stX_at hd, ldS_sv hlt, stX_sv hlt, sv_ext hlt, sv_ext_sv hlt, hkk, hb1, hk0, hb7]
 try simp (disch := (first | omega | (simp only [go_sem, List.length_append] <;> omega))) only [wrapI, wrapU, strAdd, slT, slTa, slTb]
 refine hR _ _ ?_; clear hR R
 try simp only [go_sem, ldS_at hd, stX_at hd, ldS_sv hlt, stX_sv hlt, sv_ext hlt, sv_ext_sv hlt, hkk, hb1, hk0, hb7]
 refine W_block ?_
 refine W_weak (Weak.roomSV (j := 1) (off := 1) (es := 3) rfl rfl (by simp)) ?_
 simp only [go_sem, ldS_at hd, stX_at hd, ldS_sv hlt, stX_sv hlt, sv_ext hlt, sv_ext_sv hlt, hkk, hb1, hk0, hb7]
 refine W_loopT (α := Nat × (List Co.Bill) × Int) (fun ⟨k, ab, b⟩ => [(14, I k)]) (fun ⟨k, ab, b⟩ => (σ.setVar d [.int .u64 b]).ext [some [.isl [] .exact, .isl [] .exact], some [.isl (acc.map fdPV) (.tok σ.rooms.length acc.length 4), .isl (ab.map Co.blPV) (.tok (σ.rooms.length + 1) ab.length 3)]] [acc.length, ab.length]) (fun ⟨k, ab, b⟩ => ab.length + k ≤ 2000 ∧ res = billsA cn acc k ab b) (fun ⟨k, ab, b⟩ => k) ((k0.toNat, [], b7)) (by simp only [go_sem, hkz, List.map, hk0, hb7]) (by first | rfl | (simp only [go_sem]; done) | (simp only [go_sem]; rfl)) (⟨by (try dsimp only); simp; omega, hinv⟩) ?_
 rintro ⟨k, ab, b⟩ ⟨hal2, hinv2⟩
 refine W_seq fun Z18 K18 => ?_
 refine W_sr [0, 3, 8, 9, 14, 64] fun R hR => ?_
 simp only [go_sem, ldS_at hd, stX_at hd, ldS_sv hlt, stX_sv hlt, sv_ext hlt, sv_ext_sv hlt, hkk, hb1, hk0, hb7]
 refine hR _ _ ?_; clear hR R
 try simp only [go_sem, ldS_at hd, stX_at hd, ldS_sv hlt, stX_sv hlt, sv_ext hlt, sv_ext_sv hlt, hkk, hb1, hk0, hb7]
 refine W_cond rfl (fun c4 => ?_) (fun c4 => ?_)
 ·
  try simp only [nrm] at c4
  obtain ⟨k, rfl⟩ : ∃ j, k = j + 1 := ⟨k - 1, by omega⟩
  obtain ⟨dy2, hdy2⟩ : ∃ zz, (mid 3 12 b).1 = zz := ⟨_, rfl⟩
  obtain ⟨b8, hb8⟩ : ∃ zz, (mid 3 12 b).2 = zz := ⟨_, rfl⟩
  have ddy2 := mid_bd 3 12 (by omega) b
  simp only [hdy2] at ddy2
  obtain ⟨us2, hus2⟩ : ∃ zz, (roll 3 b8).1 = zz := ⟨_, rfl⟩
  obtain ⟨b9, hb9⟩ : ∃ zz, (roll 3 b8).2 = zz := ⟨_, rfl⟩
  have dus2 := roll_bd 3 b8
  simp only [hus2] at dus2
  obtain ⟨am2, ham2⟩ : ∃ zz, (roll (cn + 1) b9).1 = zz := ⟨_, rfl⟩
  obtain ⟨b10, hb10⟩ : ∃ zz, (roll (cn + 1) b9).2 = zz := ⟨_, rfl⟩
  have dam2 := roll_bd (cn + 1) b9
  simp only [ham2] at dam2
  simp only [billsA, dbind, hdy2, hb8, hus2, hb9, ham2, hb10] at hinv2
  refine W_skip (K18 _ _ ?_)
  refine W_seq fun Z20 K20 => ?_
  refine W_block ?_
  refine W_draw [0, 3, 8, 9, 14] [0, 1, 2, 3, 4, 5, 6, 7, 8, 9, 10, 11, 12, 13, 14] [(0, 5), (0, 9), (0, 12), (1, 5), (1, 9), (1, 12), (4, 3), (6, 3), (6, 5), (7, 3), (7, 5), (8, 3), (8, 5)] [[], [0], [], [2], [], [2, 3, 4], [], [], [7], [2, 3, 4, 5, 6, 7, 8], [2, 3, 4, 5, 6, 7, 8, 9], [2, 3, 4, 5, 6, 7, 8, 9, 10], [0, 1, 2, 3, 4, 5, 6, 7, 8, 9, 10, 11], [0, 1, 2, 3, 4, 5, 6, 7, 8, 9, 10, 11, 12], [0, 1, 2, 3, 4, 5, 6, 7, 8, 9, 10, 11, 12, 13]] mixed (by kernel_rfl) fun R hR => ?_
  simp only [go_sem, ldS_at hd, stX_at hd, ldS_sv hlt, stX_sv hlt, sv_ext hlt, sv_ext_sv hlt, hkk, hb1, hk0, hb7, hdy2, hb8, hus2, hb9, ham2, hb10]
  refine GCall_of (Mid_pc Y _ d b (by first | exact hd | exact sv_get hlt | exact get_svx hlt | exact get_extx hd) 3 12 (by omega) (by omega) (by omega) (by omega)) ?_
  simp only [go_sem, ldS_at hd, stX_at hd, ldS_sv hlt, stX_sv hlt, sv_ext hlt, sv_ext_sv hlt, hkk, hb1, hk0, hb7, hdy2, hb8, hus2, hb9, ham2, hb10]
  refine GCall_of (Roll_pc Y _ d b8 (by first | exact hd | exact sv_get hlt | exact get_svx hlt | exact get_extx hd) 3 (by omega)) ?_
  simp only [go_sem, ldS_at hd, stX_at hd, ldS_sv hlt, stX_sv hlt, sv_ext hlt, sv_ext_sv hlt, hkk, hb1, hk0, hb7, hdy2, hb8, hus2, hb9, ham2, hb10]
  try simp (disch := (first | omega | (simp only [go_sem, List.length_append] <;> omega))) only [wrapI, wrapU, strAdd, slT, slTa, slTb]
  refine GCall_of (Roll_pc Y _ d b9 (by first | exact hd | exact sv_get hlt | exact get_svx hlt | exact get_extx hd) (cn + 1) (by omega)) ?_
  simp only [go_sem, ldS_at hd, stX_at hd, ldS_sv hlt, stX_sv hlt, sv_ext hlt, sv_ext_sv hlt, hkk, hb1, hk0, hb7, hdy2, hb8, hus2, hb9, ham2, hb10]
  try simp (disch := (first | omega | (simp only [go_sem, List.length_append] <;> omega))) only [wrapI, wrapU, appX_exact, appX_tok, strAdd, slT, slTa, slTb]
  try simp only [go_sem, ldS_at hd, stX_at hd, ldS_sv hlt, stX_sv hlt, sv_ext hlt, sv_ext_sv hlt, hkk, hb1, hk0, hb7, hdy2, hb8, hus2, hb9, ham2, hb10]
  try refine And.intro (by repeat' (first | refine And.intro ?_ ?_ | exact trivial | exact GOr_right (fun _ => by simp only [go_sem, ldS_at hd, stX_at hd, ldS_sv hlt, stX_sv hlt, sv_ext hlt, sv_ext_sv hlt, hkk, hb1, hk0, hb7, hdy2, hb8, hus2, hb9, ham2, hb10]))) ?_
  refine hR _ _ (K20 _ _ ?_); clear hR R; try clear K20 Z20
  try simp only [go_sem, ldS_at hd, stX_at hd, ldS_sv hlt, stX_sv hlt, sv_ext hlt, sv_ext_sv hlt, hkk, hb1, hk0, hb7, hdy2, hb8, hus2, hb9, ham2, hb10]
  refine W_region [0, 3, 8, 9, 14] fun R hR => ?_
  simp only [go_sem, ldS_at hd, stX_at hd, ldS_sv hlt, stX_sv hlt, sv_ext hlt, sv_ext_sv hlt, hkk, hb1, hk0, hb7, hdy2, hb8, hus2, hb9, ham2, hb10]
  try simp (disch := (first | omega | (simp only [go_sem, List.length_append] <;> omega))) only [wrapI, wrapU, strAdd, slT, slTa, slTb]
  refine hR _ _ ?_; clear hR R
  try simp only [go_sem, ldS_at hd, stX_at hd, ldS_sv hlt, stX_sv hlt, sv_ext hlt, sv_ext_sv hlt, hkk, hb1, hk0, hb7, hdy2, hb8, hus2, hb9, ham2, hb10]
  refine ⟨(k, ab ++ [⟨dy2, us2, am2⟩], b10), ?_, by (try simp only []); omega, ?_⟩
  ·first | exact Weak.refl | exact Wqq
  try dsimp only
  exact ⟨by simp; omega, hinv2⟩
 try simp only [nrm] at c4
 obtain rfl : k = 0 := by omega
 simp only [billsA, dret] at hinv2
 refine W_exit ?_
 simp only [go_sem, ldS_at hd, stX_at hd, ldS_sv hlt, stX_sv hlt, sv_ext hlt, sv_ext_sv hlt, hkk, hb1, hk0, hb7]
 refine K16 _ _ ?_
 refine W_sr [8] fun R hR => ?_
 simp only [go_sem, ldS_at hd, stX_at hd, ldS_sv hlt, stX_sv hlt, sv_ext hlt, sv_ext_sv hlt, hkk, hb1, hk0, hb7]
 refine hR _ _ ?_; clear hR R
 try simp only [go_sem, ldS_at hd, stX_at hd, ldS_sv hlt, stX_sv hlt, sv_ext hlt, sv_ext_sv hlt, hkk, hb1, hk0, hb7]
 refine W_ret ?_
 simp only [go_sem, ldS_at hd, stX_at hd, ldS_sv hlt, stX_sv hlt, sv_ext hlt, sv_ext_sv hlt, hkk, hb1, hk0, hb7]
 refine ⟨.inr (by trivial), ?_⟩
 rw [hinv2]; refine Fin_set hcl (by simp only [go_sem]) (by show resPV Tryz.prog _ _ [.cell 8 82] = some _; simp only [resPV, go_sem]; rfl) (Wk.ro (by simp only [go_sem]) ?_)
 try simp only [go_sem]
 all_goals
  simp only [go_sem]
end Go.Proofs.YtpkkegbiddcodaaGreatDoor.Ki
namespace Go.Proofs.YtpkkegbiddcodaaGreatDoor.Bd
open Go Go.RowKit
set_option maxRecDepth 100000
set_option maxHeartbeats 2000000 in
theorem rother_pc (Y : YEnv) (σ : Sg) (s : Int × Int) (at' : Int) :
 PC Tryz.prog Y 119 [stPV s, I at'] σ (I (other s at')) (σ) := by
 refine PC_of_W Tryz.func119 rfl (by kernel_rfl) Tryz.ntmps119 (by simp) fun hcl hca => ?_
 refine W_sr [1, 2] fun R hR => ?_
 simp only [go_sem]
 refine hR _ _ ?_; clear hR R
 try simp only [go_sem]
 refine W_seq fun Z2 K2 => ?_
 refine W_sr [2, 5] fun R hR => ?_
 simp only [go_sem]
 refine hR _ _ ?_; clear hR R
 try simp only [go_sem]
 refine W_block ?_
 refine W_sr [2, 5, 6] fun R hR => ?_
 simp only [go_sem]
 refine hR _ _ ?_; clear hR R
 try simp only [go_sem]
 refine W_cond rfl (fun c1 => ?_) (fun c1 => ?_)
 ·
  try simp only [nrm] at c1
  refine W_sr [4] fun R hR => ?_
  simp only [go_sem]
  refine hR _ _ ?_; clear hR R
  try simp only [go_sem]
  refine W_ret ?_
  simp only [go_sem]
  refine ⟨.inr (by trivial), ?_⟩
  first | refine Fsa hcl rfl ?_ | refine Fse hcl rfl ?_
  try simp only [go_sem]
  all_goals
   simp_all [other]
 try simp only [nrm] at c1
 refine W_sr [2, 12] fun R hR => ?_
 simp only [go_sem]
 refine hR _ _ ?_; clear hR R
 try simp only [go_sem]
 refine W_cond rfl (fun c2 => ?_) (fun c2 => ?_)
 ·
  try simp only [nrm] at c2
  refine W_sr [4] fun R hR => ?_
  simp only [go_sem]
  refine hR _ _ ?_; clear hR R
  try simp only [go_sem]
  refine W_ret ?_
  simp only [go_sem]
  refine ⟨.inr (by trivial), ?_⟩
  first | refine Fsa hcl rfl ?_ | refine Fse hcl rfl ?_
  try simp only [go_sem]
  all_goals
   simp_all [other]
 try simp only [nrm] at c2
 refine W_skip (K2 _ _ ?_)
 refine W_sr [4] fun R hR => ?_
 simp only [go_sem]
 refine hR _ _ ?_; clear hR R
 try simp only [go_sem]
 refine W_ret ?_
 simp only [go_sem]
 refine ⟨.inr (by trivial), ?_⟩
 first | refine Fsa hcl rfl ?_ | refine Fse hcl rfl ?_
 try simp only [go_sem]
 all_goals
  simp_all [other]
/-- What depends on the drum's beat, and the beat behind it. -/
abbrev D (α : Type) := Int → α × Int
def dret {α : Type} (a : α) : D α := fun b => (a, b)
def dbind {α β : Type} (m : D α) (f : α → D β) : D β := fun b => f (m b).1 (m b).2
def Holds {α : Type} (m : D α) (R : α → Prop) : Prop := ∀ b, R (m b).1
theorem Holds.ret {α : Type} {a : α} {R : α → Prop} (h : R a) : Holds (dret a) R := fun _ => h
theorem Holds.bind {α β : Type} {m : D α} {f : α → D β} {R : α → Prop} {S : β → Prop} (h : Holds m R) (k : ∀ a, R a → Holds (f a) S) : Holds (dbind m f) S := fun b => k _ (h b) _
def xorU (a b : Int) : Int := match arith .xor .u64 a b with | some (.int _ n) => n | _ => 0
def hitB (b : Int) : Int := IntKind.u64.wrap (IntKind.u64.wrap (b * 15074714826142052245) + 11400714819323198485)
def hitM (x : Int) : Int := IntKind.u64.wrap (xorU x (x.fdiv 4294967296) * 15760922415973212899)
def hitX (b : Int) : Int := xorU (hitM (hitM (hitB b))) ((hitM (hitM (hitB b))).fdiv 4294967296)
theorem wrapU_bd (n : Int) : 0 ≤ IntKind.u64.wrap n ∧ IntKind.u64.wrap n ≤ 18446744073709551615 := by
 have h : IntKind.u64.wrap n = n % 18446744073709551616 := rfl
 rw [h]; omega
theorem hitX_bd (b : Int) : 0 ≤ hitX b ∧ hitX b ≤ 18446744073709551615 := wrapU_bd _
def roll (n : Int) : D Int := fun b => if n < 2 then (0, b) else ((hitX b / 2) % n, hitB b)
def mid (lo hi : Int) : D Int := fun b => (lo + (roll (hi - lo + 1) b).1, (roll (hi - lo + 1) b).2)
def anyOf (l : List Int) : D Int := fun b => ((l[(roll l.length b).1.toNat]?).getD 0, (roll l.length b).2)
theorem roll_bd (n : Int) : Holds (roll n) fun r => 0 ≤ r ∧ r < max n 1 := by
 intro b
 unfold roll
 have := hitX_bd b
 by_cases h : n < 2
 ·rw [if_pos h]; simp only []; omega
 rw [if_neg h]
 have h1 := Int.emod_nonneg (hitX b / 2) (show n ≠ 0 by omega)
 have h2 := Int.emod_lt_of_pos (hitX b / 2) (show 0 < n by omega)
 simp only []; omega
theorem mid_bd (lo hi : Int) (h : lo ≤ hi) : Holds (mid lo hi) fun r => lo ≤ r ∧ r ≤ hi := by
 intro b
 have := roll_bd (hi - lo + 1) b
 simp only [mid] at *
 omega
theorem anyOf_mem (l : List Int) (h : l ≠ []) : Holds (anyOf l) fun r => r ∈ l := by
 intro b
 have := roll_bd l.length b
 simp only [anyOf] at *
 have hl : 0 < l.length := by cases l with | nil => exact absurd rfl h | cons => simp
 have hlt : (roll (l.length : Int) b).1.toNat < l.length := by omega
 rw [List.getElem?_eq_getElem hlt]
 exact List.getElem_mem hlt
set_option maxHeartbeats 2000000 in
theorem hit_pc (Y : YEnv) (σ : Sg) (d : Nat) (b : Int) (hd : σ.store[d]? = some (some [.int .u64 b])) :
 PC Tryz.prog Y 34 [.ptr d 0] σ (.int .u64 (hitX b)) (σ.setVar d [.int .u64 (hitB b)]) := by
 refine PC_of_W Tryz.func34 rfl (by kernel_rfl) Tryz.ntmps34 (by simp) fun hcl hca => ?_
 have hlt := lt_of_get hd
 refine W_sr [0] fun R hR => ?_
 simp only [go_sem, ldS_at hd, stX_at hd, ldS_sv hlt, stX_sv hlt, sv_ext hlt, sv_ext_sv hlt]
 refine hR _ _ ?_; clear hR R
 try simp only [go_sem, ldS_at hd, stX_at hd, ldS_sv hlt, stX_sv hlt, sv_ext hlt, sv_ext_sv hlt]
 refine W_sr [0] fun R hR => ?_
 simp only [go_sem, ldS_at hd, stX_at hd, ldS_sv hlt, stX_sv hlt, sv_ext hlt, sv_ext_sv hlt]
 try simp (disch := omega) only [wrapI, wrapU]
 refine hR _ _ ?_; clear hR R
 try simp only [go_sem, ldS_at hd, stX_at hd, ldS_sv hlt, stX_sv hlt, sv_ext hlt, sv_ext_sv hlt]
 refine W_sr [3] fun R hR => ?_
 simp only [go_sem, ldS_at hd, stX_at hd, ldS_sv hlt, stX_sv hlt, sv_ext hlt, sv_ext_sv hlt]
 refine hR _ _ ?_; clear hR R
 try simp only [go_sem, ldS_at hd, stX_at hd, ldS_sv hlt, stX_sv hlt, sv_ext hlt, sv_ext_sv hlt]
 refine W_sr [3] fun R hR => ?_
 simp only [go_sem, ldS_at hd, stX_at hd, ldS_sv hlt, stX_sv hlt, sv_ext hlt, sv_ext_sv hlt]
 try simp (disch := omega) only [wrapI, wrapU]
 refine hR _ _ ?_; clear hR R
 try simp only [go_sem, ldS_at hd, stX_at hd, ldS_sv hlt, stX_sv hlt, sv_ext hlt, sv_ext_sv hlt]
 refine W_sr [3] fun R hR => ?_
 simp only [go_sem, ldS_at hd, stX_at hd, ldS_sv hlt, stX_sv hlt, sv_ext hlt, sv_ext_sv hlt]
 try simp (disch := omega) only [wrapI, wrapU]
 refine hR _ _ ?_; clear hR R
 try simp only [go_sem, ldS_at hd, stX_at hd, ldS_sv hlt, stX_sv hlt, sv_ext hlt, sv_ext_sv hlt]
 refine W_sr [2] fun R hR => ?_
 simp only [go_sem, ldS_at hd, stX_at hd, ldS_sv hlt, stX_sv hlt, sv_ext hlt, sv_ext_sv hlt]
 refine hR _ _ ?_; clear hR R
 try simp only [go_sem, ldS_at hd, stX_at hd, ldS_sv hlt, stX_sv hlt, sv_ext hlt, sv_ext_sv hlt]
 refine W_ret ?_
 simp only [go_sem, ldS_at hd, stX_at hd, ldS_sv hlt, stX_sv hlt, sv_ext hlt, sv_ext_sv hlt]
 refine ⟨.inr (by trivial), ?_⟩
 first | refine Fin_set hcl (by simp only [go_sem]) rfl (Wk_eq ?_ (by simp only [go_sem])) | refine Fin_set0 hcl (by simp only [go_sem]) rfl (Wk_eq ?_ (by simp only [go_sem]))
 try simp only [go_sem]
 all_goals
  simp only [hitX, hitM, hitB, xorU, go_sem]; simp (disch := omega) only [wrapU]
set_option maxHeartbeats 2000000 in
theorem Roll_lo (Y : YEnv) (σ : Sg) (d : Nat) (n : Int) (hn : n < 2) :
 PC Tryz.prog Y 11 [.ptr d 0, I n] σ (I 0) (σ) := by
 refine PC_of_W Tryz.func11 rfl (by kernel_rfl) Tryz.ntmps11 (by simp) fun hcl hca => ?_
 refine W_sr [0, 1] fun R hR => ?_
 simp only [go_sem]
 refine hR _ _ ?_; clear hR R
 try simp only [go_sem]
 refine W_seq fun Z2 K2 => ?_
 refine W_sr [0, 1, 6] fun R hR => ?_
 simp only [go_sem]
 refine hR _ _ ?_; clear hR R
 try simp only [go_sem]
 refine W_cond rfl (fun c1 => ?_) (fun c1 => ?_)
 ·
  try simp only [nrm] at c1
  refine W_sr [4] fun R hR => ?_
  simp only [go_sem]
  refine hR _ _ ?_; clear hR R
  try simp only [go_sem]
  refine W_ret ?_
  simp only [go_sem]
  refine ⟨.inr (by trivial), ?_⟩
  first | refine Fsa hcl rfl ?_ | refine Fse hcl rfl ?_
  try simp only [go_sem]
  all_goals
   first | rfl | (simp_all; done) | (simp_all; omega)
 try simp only [nrm] at c1
 exfalso
 omega
set_option maxHeartbeats 2000000 in
theorem Roll_hi (Y : YEnv) (σ : Sg) (d : Nat) (b : Int) (hd : σ.store[d]? = some (some [.int .u64 b])) (n : Int) (hn : 2 ≤ n) (hn2 : n < 2 ^ 62) :
 PC Tryz.prog Y 11 [.ptr d 0, I n] σ (I ((hitX b / 2) % n)) (σ.setVar d [.int .u64 (hitB b)]) := by
 refine PC_of_W Tryz.func11 rfl (by kernel_rfl) Tryz.ntmps11 (by simp) fun hcl hca => ?_
 have hlt := lt_of_get hd
 have hb := hitX_bd b
 have e1 : (hitX b).fdiv 2 = hitX b / 2 := Int.fdiv_eq_ediv_of_nonneg _ (by omega)
 have e2 : (hitX b / 2).tmod n = (hitX b / 2) % n := Int.tmod_eq_emod_of_nonneg (by omega)
 have h1 := Int.emod_nonneg (hitX b / 2) (show n ≠ 0 by omega)
 have h2 := Int.emod_lt_of_pos (hitX b / 2) (show 0 < n by omega)
 have e3 : ¬ n = 0 := by omega
 have e4 : IntKind.u64.wrap n = n := wrapU (by omega) (by omega)
 refine W_sr [0, 1] fun R hR => ?_
 simp only [go_sem, ldS_at hd, stX_at hd, ldS_sv hlt, stX_sv hlt, sv_ext hlt, sv_ext_sv hlt]
 refine hR _ _ ?_; clear hR R
 try simp only [go_sem, ldS_at hd, stX_at hd, ldS_sv hlt, stX_sv hlt, sv_ext hlt, sv_ext_sv hlt]
 refine W_seq fun Z2 K2 => ?_
 refine W_sr [0, 1, 6] fun R hR => ?_
 simp only [go_sem, ldS_at hd, stX_at hd, ldS_sv hlt, stX_sv hlt, sv_ext hlt, sv_ext_sv hlt]
 refine hR _ _ ?_; clear hR R
 try simp only [go_sem, ldS_at hd, stX_at hd, ldS_sv hlt, stX_sv hlt, sv_ext hlt, sv_ext_sv hlt]
 refine W_cond rfl (fun c1 => ?_) (fun c1 => ?_)
 ·
  try simp only [nrm] at c1
  exfalso
  omega
 try simp only [nrm] at c1
 refine W_skip (K2 _ _ ?_)
 refine W_sr [4] fun R hR => ?_
 simp only [go_sem, ldS_at hd, stX_at hd, ldS_sv hlt, stX_sv hlt, sv_ext hlt, sv_ext_sv hlt, e4, e1, e2, e3]
 refine GCall_of (hit_pc Y _ d b hd) ?_
 simp only [go_sem, ldS_at hd, stX_at hd, ldS_sv hlt, stX_sv hlt, sv_ext hlt, sv_ext_sv hlt, e4, e1, e2, e3]
 try simp (disch := omega) only [wrapI, wrapU]
 refine hR _ _ ?_; clear hR R
 try simp only [go_sem, ldS_at hd, stX_at hd, ldS_sv hlt, stX_sv hlt, sv_ext hlt, sv_ext_sv hlt]
 refine W_ret ?_
 simp only [go_sem, ldS_at hd, stX_at hd, ldS_sv hlt, stX_sv hlt, sv_ext hlt, sv_ext_sv hlt]
 refine ⟨.inr (by trivial), ?_⟩
 first | refine Fin_set hcl (by simp only [go_sem]) rfl (Wk_eq ?_ (by simp only [go_sem])) | refine Fin_set0 hcl (by simp only [go_sem]) rfl (Wk_eq ?_ (by simp only [go_sem]))
 try simp only [go_sem]
 all_goals
  first | rfl | (simp_all; done) | (simp_all; omega)
theorem Roll_pc (Y : YEnv) (σ : Sg) (d : Nat) (b : Int) (hd : σ.store[d]? = some (some [.int .u64 b])) (n : Int) (hn2 : n < 2 ^ 62) : PC Tryz.prog Y 11 [.ptr d 0, I n] σ (I (roll n b).1) (σ.setVar d [.int .u64 (roll n b).2]) := by
 unfold roll
 by_cases h : n < 2
 ·rw [if_pos h]; simp only []; rw [sv_self hd]; exact Roll_lo Y σ d n h
 rw [if_neg h]; exact Roll_hi Y σ d b hd n (by omega) hn2
set_option maxHeartbeats 2000000 in
theorem Mid_pc (Y : YEnv) (σ : Sg) (d : Nat) (b : Int) (hd : σ.store[d]? = some (some [.int .u64 b])) (lo hi : Int) (h1 : -2 ^ 60 ≤ lo) (h2 : lo ≤ 2 ^ 60) (h3 : -2 ^ 60 ≤ hi) (h4 : hi ≤ 2 ^ 60) :
 PC Tryz.prog Y 40 [.ptr d 0, I lo, I hi] σ (I (mid lo hi b).1) (σ.setVar d [.int .u64 (mid lo hi b).2]) := by
 refine PC_of_W Tryz.func40 rfl (by kernel_rfl) Tryz.ntmps40 (by simp) fun hcl hca => ?_
 have hlt := lt_of_get hd
 have hr := roll_bd (hi - lo + 1) b
 simp only [] at hr
 refine W_sr [0, 1, 2] fun R hR => ?_
 simp only [go_sem, ldS_at hd, stX_at hd, ldS_sv hlt, stX_sv hlt, sv_ext hlt, sv_ext_sv hlt]
 refine hR _ _ ?_; clear hR R
 try simp only [go_sem, ldS_at hd, stX_at hd, ldS_sv hlt, stX_sv hlt, sv_ext hlt, sv_ext_sv hlt]
 refine W_sr [6] fun R hR => ?_
 simp only [go_sem, ldS_at hd, stX_at hd, ldS_sv hlt, stX_sv hlt, sv_ext hlt, sv_ext_sv hlt]
 try simp (disch := omega) only [wrapI, wrapU]
 refine GCall_of (Roll_pc Y _ d b (by first | exact hd | exact sv_get hlt | exact get_svx hlt | exact get_extx hd) _ (by omega)) ?_
 simp only [go_sem, ldS_at hd, stX_at hd, ldS_sv hlt, stX_sv hlt, sv_ext hlt, sv_ext_sv hlt]
 try simp (disch := omega) only [wrapI, wrapU]
 refine hR _ _ ?_; clear hR R
 try simp only [go_sem, ldS_at hd, stX_at hd, ldS_sv hlt, stX_sv hlt, sv_ext hlt, sv_ext_sv hlt]
 refine W_ret ?_
 simp only [go_sem, ldS_at hd, stX_at hd, ldS_sv hlt, stX_sv hlt, sv_ext hlt, sv_ext_sv hlt]
 refine ⟨.inr (by trivial), ?_⟩
 first | refine Fin_set hcl (by simp only [go_sem]) rfl (Wk_eq ?_ (by simp only [go_sem])) | refine Fin_set0 hcl (by simp only [go_sem]) rfl (Wk_eq ?_ (by simp only [go_sem]))
 try simp only [go_sem]
 all_goals
  first | rfl | (simp_all; done) | (simp_all; omega)
set_option maxHeartbeats 2000000 in
theorem Any_pc (Y : YEnv) (σ : Sg) (d : Nat) (b : Int) (hd : σ.store[d]? = some (some [.int .u64 b])) (l : List Int) (hl : l ≠ []) (hl2 : l.length < 2 ^ 50) :
 PC Tryz.prog Y 7 [.ptr d 0, .isl (l.map I) .exact] σ (I (anyOf l b).1) (σ.setVar d [.int .u64 (anyOf l b).2]) := by
 refine PC_of_W Tryz.func7 rfl (by kernel_rfl) Tryz.ntmps7 (by simp) fun hcl hca => ?_
 have hlt := lt_of_get hd
 have hr := roll_bd l.length b
 simp only [] at hr
 have hl0 : 0 < l.length := by cases l with | nil => exact absurd rfl hl | cons => simp
 have hlt2 : (roll (l.length : Int) b).1.toNat < l.length := by omega
 obtain ⟨x, hx⟩ : ∃ x, l[(roll (l.length : Int) b).1.toNat]? = some x := ⟨_, List.getElem?_eq_getElem hlt2⟩
 have hnn := hr.1
 refine W_sr [0, 1] fun R hR => ?_
 simp only [go_sem, ldS_at hd, stX_at hd, ldS_sv hlt, stX_sv hlt, sv_ext hlt, sv_ext_sv hlt]
 refine hR _ _ ?_; clear hR R
 try simp only [go_sem, ldS_at hd, stX_at hd, ldS_sv hlt, stX_sv hlt, sv_ext hlt, sv_ext_sv hlt]
 refine W_seq fun Z2 K2 => ?_
 refine W_sr [0, 1, 7] fun R hR => ?_
 simp only [go_sem, ldS_at hd, stX_at hd, ldS_sv hlt, stX_sv hlt, sv_ext hlt, sv_ext_sv hlt]
 refine hR _ _ ?_; clear hR R
 try simp only [go_sem, ldS_at hd, stX_at hd, ldS_sv hlt, stX_sv hlt, sv_ext hlt, sv_ext_sv hlt]
 refine W_cond rfl (fun c1 => ?_) (fun c1 => ?_)
 ·
  try simp only [nrm] at c1
  exfalso
  omega
 try simp only [nrm] at c1
 refine W_skip (K2 _ _ ?_)
 refine W_sr [4] fun R hR => ?_
 simp only [go_sem, ldS_at hd, stX_at hd, ldS_sv hlt, stX_sv hlt, sv_ext hlt, sv_ext_sv hlt, hnn, hx]
 refine GCall_of (Roll_pc Y _ d b (by first | exact hd | exact sv_get hlt | exact get_svx hlt | exact get_extx hd) _ (by omega)) ?_
 simp only [go_sem, ldS_at hd, stX_at hd, ldS_sv hlt, stX_sv hlt, sv_ext hlt, sv_ext_sv hlt, hnn, hx]
 refine hR _ _ ?_; clear hR R
 try simp only [go_sem, ldS_at hd, stX_at hd, ldS_sv hlt, stX_sv hlt, sv_ext hlt, sv_ext_sv hlt]
 refine W_ret ?_
 simp only [go_sem, ldS_at hd, stX_at hd, ldS_sv hlt, stX_sv hlt, sv_ext hlt, sv_ext_sv hlt]
 refine ⟨.inr (by trivial), ?_⟩
 first | refine Fin_set hcl (by simp only [go_sem]) rfl (Wk_eq ?_ (by simp only [go_sem])) | refine Fin_set0 hcl (by simp only [go_sem]) rfl (Wk_eq ?_ (by simp only [go_sem]))
 try simp only [go_sem]
 all_goals
  simp only [anyOf, hx, Option.getD_some]
def fit (x n : Int) : Int := if n < 2 then 0 else if x.tmod n < 0 then x.tmod n + n else x.tmod n
theorem fit_bd (x n : Int) : 0 ≤ fit x n ∧ fit x n < max n 1 := by
 unfold fit
 split
 ·omega
 have h1 := Int.tmod_lt_of_pos x (show 0 < n by omega)
 have h2 := Int.lt_tmod_of_pos x (show 0 < n by omega)
 split <;> omega
def spanOf (lo hi : Int) : D (Int × Int) := dbind (mid lo hi) fun n => dbind (roll 3) fun k =>
 if k = 0 then dret (n, n) else if k = 1 then dbind (mid n (min hi (n + 3))) fun m => dret (n, m) else dbind (mid n hi) fun m => dret (n, m)
theorem spanOf_bd (lo hi : Int) (h : lo ≤ hi) : Holds (spanOf lo hi) fun s => lo ≤ s.1 ∧ s.1 ≤ s.2 ∧ s.2 ≤ hi := by
 unfold spanOf
 refine (mid_bd lo hi h).bind fun n hn => ?_
 refine (roll_bd 3).bind fun k _ => ?_
 split
 ·exact .ret (by simp only []; omega)
 split
 ·refine (mid_bd n (min hi (n + 3)) (by omega)).bind fun m hm => .ret (by simp only []; omega)
 refine (mid_bd n hi (by omega)).bind fun m hm => .ret (by simp only []; omega)
set_option maxHeartbeats 2000000 in
theorem Fit_pc (Y : YEnv) (σ : Sg) (x n : Int) (hn : n < 2 ^ 60) (h1 : -2 ^ 60 ≤ x) (h2 : x ≤ 2 ^ 60) :
 PC Tryz.prog Y 149 [I x, I n] σ (I (fit x n)) (σ) := by
 refine PC_of_W Tryz.func149 rfl (by kernel_rfl) Tryz.ntmps149 (by simp) fun hcl hca => ?_
 refine W_sr [0, 1] fun R hR => ?_
 simp only [go_sem]
 refine hR _ _ ?_; clear hR R
 try simp only [go_sem]
 refine W_seq fun Z2 K2 => ?_
 refine W_sr [0, 1, 6] fun R hR => ?_
 simp only [go_sem]
 refine hR _ _ ?_; clear hR R
 try simp only [go_sem]
 refine W_cond rfl (fun c1 => ?_) (fun c1 => ?_)
 ·
  try simp only [nrm] at c1
  refine W_sr [4] fun R hR => ?_
  simp only [go_sem]
  refine hR _ _ ?_; clear hR R
  try simp only [go_sem]
  refine W_ret ?_
  simp only [go_sem]
  refine ⟨.inr (by trivial), ?_⟩
  first | refine Fsa hcl rfl ?_ | refine Fse hcl rfl ?_
  try simp only [go_sem]
  all_goals
   simp [fit, *]
 try simp only [nrm] at c1
 refine W_skip (K2 _ _ ?_)
 refine W_seq fun Z5 K5 => ?_
 have hn0 : ¬ n = 0 := by omega
 have t1 := Int.tmod_lt_of_pos x (show 0 < n by omega)
 have t2 := Int.lt_tmod_of_pos x (show 0 < n by omega)
 refine W_region [0, 1] fun R hR => ?_
 simp only [go_sem, hn0]
 try simp (disch := omega) only [wrapI, wrapU]
 refine hR _ _ (K5 _ _ ?_); clear hR R; try clear K5 Z5
 try simp only [go_sem]
 refine W_seq fun Z6 K6 => ?_
 refine W_sr [0, 1, 11] fun R hR => ?_
 simp only [go_sem]
 refine hR _ _ ?_; clear hR R
 try simp only [go_sem]
 refine W_cond rfl (fun c2 => ?_) (fun c2 => ?_)
 ·
  try simp only [nrm] at c2
  refine W_region [0] fun R hR => ?_
  simp only [go_sem]
  try simp (disch := omega) only [wrapI, wrapU]
  refine hR _ _ (K6 _ _ ?_); clear hR R; try clear K6 Z6
  try simp only [go_sem]
  refine W_sr [4] fun R hR => ?_
  simp only [go_sem]
  refine hR _ _ ?_; clear hR R
  try simp only [go_sem]
  refine W_ret ?_
  simp only [go_sem]
  refine ⟨.inr (by trivial), ?_⟩
  first | refine Fsa hcl rfl ?_ | refine Fse hcl rfl ?_
  try simp only [go_sem]
  all_goals
   simp [fit, *]
 try simp only [nrm] at c2
 refine W_skip (K6 _ _ ?_)
 refine W_sr [4] fun R hR => ?_
 simp only [go_sem]
 refine hR _ _ ?_; clear hR R
 try simp only [go_sem]
 refine W_ret ?_
 simp only [go_sem]
 refine ⟨.inr (by trivial), ?_⟩
 first | refine Fsa hcl rfl ?_ | refine Fse hcl rfl ?_
 try simp only [go_sem]
 all_goals
  simp [fit, *]
set_option maxHeartbeats 2000000 in
theorem Span_pc (Y : YEnv) (σ : Sg) (d : Nat) (b : Int) (hd : σ.store[d]? = some (some [.int .u64 b])) (lo hi : Int) (h0 : lo ≤ hi) (h1 : -2 ^ 50 ≤ lo) (h2 : lo ≤ 2 ^ 50) (h3 : -2 ^ 50 ≤ hi) (h4 : hi ≤ 2 ^ 50) :
 PC Tryz.prog Y 150 [.ptr d 0, I lo, I hi] σ (.agg [I (spanOf lo hi b).1.1, I (spanOf lo hi b).1.2]) (σ.setVar d [.int .u64 (spanOf lo hi b).2]) := by
 refine PC_of_W Tryz.func150 rfl (by kernel_rfl) Tryz.ntmps150 (by simp) fun hcl hca => ?_
 have hlt := lt_of_get hd
 obtain ⟨n, hn⟩ : ∃ n, (mid lo hi b).1 = n := ⟨_, rfl⟩
 have nb := mid_bd lo hi h0 b
 simp only [hn] at nb
 obtain ⟨b1, hb1⟩ : ∃ n, (mid lo hi b).2 = n := ⟨_, rfl⟩
 obtain ⟨k, hk⟩ : ∃ n, (roll 3 b1).1 = n := ⟨_, rfl⟩
 obtain ⟨b2, hb2⟩ : ∃ n, (roll 3 b1).2 = n := ⟨_, rfl⟩
 have e1 : ∀ {α : Type} (f : Int → D α), dbind (mid lo hi) f b = f n b1 := fun f => by simp only [dbind, hn, hb1]
 have e2 : ∀ {α : Type} (f : Int → D α), dbind (roll 3) f b1 = f k b2 := fun f => by simp only [dbind, hk, hb2]
 simp only [spanOf, e1, e2]
 refine W_sr [0, 1, 2, 6] fun R hR => ?_
 simp only [go_sem, ldS_at hd, stX_at hd, ldS_sv hlt, stX_sv hlt, sv_ext hlt, sv_ext_sv hlt, hn, hb1, hk, hb2]
 refine hR _ _ ?_; clear hR R
 try simp only [go_sem, ldS_at hd, stX_at hd, ldS_sv hlt, stX_sv hlt, sv_ext hlt, sv_ext_sv hlt, hn, hb1, hk, hb2]
 refine W_sr [0, 2, 6, 7] fun R hR => ?_
 simp only [go_sem, ldS_at hd, stX_at hd, ldS_sv hlt, stX_sv hlt, sv_ext hlt, sv_ext_sv hlt, hn, hb1, hk, hb2]
 refine GCall_of (Mid_pc Y _ d b (by first | exact hd | exact sv_get hlt | exact get_svx hlt | exact get_extx hd) lo hi (by omega) (by omega) (by omega) (by omega)) ?_
 simp only [go_sem, ldS_at hd, stX_at hd, ldS_sv hlt, stX_sv hlt, sv_ext hlt, sv_ext_sv hlt, hn, hb1, hk, hb2]
 refine hR _ _ ?_; clear hR R
 try simp only [go_sem, ldS_at hd, stX_at hd, ldS_sv hlt, stX_sv hlt, sv_ext hlt, sv_ext_sv hlt, hn, hb1, hk, hb2]
 refine W_seq fun Z3 K3 => ?_
 refine W_sr [0, 2, 6, 7, 13] fun R hR => ?_
 simp only [go_sem, ldS_at hd, stX_at hd, ldS_sv hlt, stX_sv hlt, sv_ext hlt, sv_ext_sv hlt, hn, hb1, hk, hb2]
 refine GCall_of (Roll_pc Y _ d b1 (by first | exact hd | exact sv_get hlt | exact get_svx hlt | exact get_extx hd) 3 (by omega)) ?_
 simp only [go_sem, ldS_at hd, stX_at hd, ldS_sv hlt, stX_sv hlt, sv_ext hlt, sv_ext_sv hlt, hn, hb1, hk, hb2]
 refine hR _ _ ?_; clear hR R
 try simp only [go_sem, ldS_at hd, stX_at hd, ldS_sv hlt, stX_sv hlt, sv_ext hlt, sv_ext_sv hlt, hn, hb1, hk, hb2]
 refine W_block ?_
 refine W_sr [0, 2, 6, 7, 13, 14] fun R hR => ?_
 simp only [go_sem, ldS_at hd, stX_at hd, ldS_sv hlt, stX_sv hlt, sv_ext hlt, sv_ext_sv hlt, hn, hb1, hk, hb2]
 refine hR _ _ ?_; clear hR R
 try simp only [go_sem, ldS_at hd, stX_at hd, ldS_sv hlt, stX_sv hlt, sv_ext hlt, sv_ext_sv hlt, hn, hb1, hk, hb2]
 refine W_cond rfl (fun c1 => ?_) (fun c1 => ?_)
 ·
  try simp only [nrm] at c1
  refine W_sr [6] fun R hR => ?_
  simp only [go_sem, ldS_at hd, stX_at hd, ldS_sv hlt, stX_sv hlt, sv_ext hlt, sv_ext_sv hlt, hn, hb1, hk, hb2]
  refine hR _ _ ?_; clear hR R
  try simp only [go_sem, ldS_at hd, stX_at hd, ldS_sv hlt, stX_sv hlt, sv_ext hlt, sv_ext_sv hlt, hn, hb1, hk, hb2]
  refine W_ret ?_
  simp only [go_sem, ldS_at hd, stX_at hd, ldS_sv hlt, stX_sv hlt, sv_ext hlt, sv_ext_sv hlt, hn, hb1, hk, hb2]
  refine ⟨.inr (by trivial), ?_⟩
  rw [if_pos c1]; refine Fin_set hcl (by simp only [go_sem]) (by show resPV Tryz.prog _ _ [.cell 6 48] = some _; simp only [resPV, go_sem]; rfl) (Wk_eq ?_ (by simp only [go_sem]))
  try simp only [go_sem]
  all_goals
   rfl
 try simp only [nrm] at c1
 refine W_sr [0, 2, 6, 7, 19] fun R hR => ?_
 simp only [go_sem, ldS_at hd, stX_at hd, ldS_sv hlt, stX_sv hlt, sv_ext hlt, sv_ext_sv hlt, hn, hb1, hk, hb2]
 refine hR _ _ ?_; clear hR R
 try simp only [go_sem, ldS_at hd, stX_at hd, ldS_sv hlt, stX_sv hlt, sv_ext hlt, sv_ext_sv hlt, hn, hb1, hk, hb2]
 refine W_cond rfl (fun c2 => ?_) (fun c2 => ?_)
 ·
  try simp only [nrm] at c2
  refine W_sr [6] fun R hR => ?_
  simp only [go_sem, ldS_at hd, stX_at hd, ldS_sv hlt, stX_sv hlt, sv_ext hlt, sv_ext_sv hlt, hn, hb1, hk, hb2]
  try simp (disch := omega) only [wrapI, wrapU]
  refine GCall_of (Mid_pc Y _ d b2 (by first | exact hd | exact sv_get hlt | exact get_svx hlt | exact get_extx hd) n _ (by omega) (by omega) (by omega) (by omega)) ?_
  simp only [go_sem, ldS_at hd, stX_at hd, ldS_sv hlt, stX_sv hlt, sv_ext hlt, sv_ext_sv hlt, hn, hb1, hk, hb2]
  try simp (disch := omega) only [wrapI, wrapU]
  refine hR _ _ ?_; clear hR R
  try simp only [go_sem, ldS_at hd, stX_at hd, ldS_sv hlt, stX_sv hlt, sv_ext hlt, sv_ext_sv hlt, hn, hb1, hk, hb2]
  refine W_ret ?_
  simp only [go_sem, ldS_at hd, stX_at hd, ldS_sv hlt, stX_sv hlt, sv_ext hlt, sv_ext_sv hlt, hn, hb1, hk, hb2]
  refine ⟨.inr (by trivial), ?_⟩
  rw [if_neg c1, if_pos c2]; refine Fin_set hcl (by simp only [go_sem]) (by show resPV Tryz.prog _ _ [.cell 6 48] = some _; simp only [resPV, go_sem]; rfl) (Wk_eq ?_ (by simp only [go_sem]))
  try simp only [go_sem]
  all_goals
   rfl
 try simp only [nrm] at c2
 refine W_skip (K3 _ _ ?_)
 refine W_sr [6] fun R hR => ?_
 simp only [go_sem, ldS_at hd, stX_at hd, ldS_sv hlt, stX_sv hlt, sv_ext hlt, sv_ext_sv hlt, hn, hb1, hk, hb2]
 refine GCall_of (Mid_pc Y _ d b2 (by first | exact hd | exact sv_get hlt | exact get_svx hlt | exact get_extx hd) n hi (by omega) (by omega) (by omega) (by omega)) ?_
 simp only [go_sem, ldS_at hd, stX_at hd, ldS_sv hlt, stX_sv hlt, sv_ext hlt, sv_ext_sv hlt, hn, hb1, hk, hb2]
 refine hR _ _ ?_; clear hR R
 try simp only [go_sem, ldS_at hd, stX_at hd, ldS_sv hlt, stX_sv hlt, sv_ext hlt, sv_ext_sv hlt, hn, hb1, hk, hb2]
 refine W_ret ?_
 simp only [go_sem, ldS_at hd, stX_at hd, ldS_sv hlt, stX_sv hlt, sv_ext hlt, sv_ext_sv hlt, hn, hb1, hk, hb2]
 refine ⟨.inr (by trivial), ?_⟩
 rw [if_neg c1, if_neg c2]; refine Fin_set hcl (by simp only [go_sem]) (by show resPV Tryz.prog _ _ [.cell 6 48] = some _; simp only [resPV, go_sem]; rfl) (Wk_eq ?_ (by simp only [go_sem]))
 try simp only [go_sem]
 all_goals
  rfl
def pathD (sts : List (Int × Int)) (g : Group) : Nat → Int → List Int → D Group
 | 0, _, acc => dret { g with path := acc }
 | k + 1, at', acc => dbind (roll sts.length) fun s => if 0 ≤ other ((sts[s.toNat]?).getD (0, 0)) at' then pathD sts g k (other ((sts[s.toNat]?).getD (0, 0)) at') (acc ++ [s]) else pathD sts g k at' acc
def groupD (n : Int) (sts : List (Int × Int)) : D Group := dbind (anyOf [30, 90]) fun x => dbind (spanOf 0 x) fun sz => dbind (anyOf [0, 4]) fun y => dbind (spanOf 0 y) fun a => dbind (mid 1 4) fun stay => dbind (roll n) fun f => dbind (roll 5) fun k =>
 pathD sts ⟨sz.1, sz.2, a.1, a.2, stay, f, []⟩ (if 0 < sts.length then k.toNat else 0) f []
def townC (steps n : Int) (rooms : List Int) (sts : List (Int × Int)) : Nat → List Group → D Town
 | 0, acc => dret ⟨rooms, sts, acc, steps⟩
 | k + 1, acc => dbind (groupD n sts) fun g => townC steps n rooms sts k (acc ++ [g])
def townB (gr steps n : Int) (rooms : List Int) : Nat → List (Int × Int) → D Town
 | 0, acc => dbind (roll (gr + 1)) fun g => townC steps n rooms acc g.toNat []
 | k + 1, acc => dbind (roll n) fun a => dbind (mid 1 (n - 1)) fun m => townB gr steps n rooms k (acc ++ [(a, fit (a + m) n)])
def townA (st gr steps n : Int) : Nat → List Int → D Town
 | 0, acc => dbind (roll (st + 1)) fun m => townB gr steps n acc (if 1 < n then m.toNat else 0) []
 | k + 1, acc => dbind (roll 60) fun x => dbind (roll 150) fun y => dbind (anyOf [x, y, 500]) fun z => townA st gr steps n k (acc ++ [z])
def townD (sq st gr : Int) : D Town := dbind (anyOf [4, 11]) fun x => dbind (roll x) fun steps => dbind (mid 1 sq) fun n => townA st gr steps n n.toNat []
theorem mem2 {a b r : Int} (h : r ∈ [a, b]) : r = a ∨ r = b := by simpa using h
theorem mem3 {a b c r : Int} (h : r ∈ [a, b, c]) : r = a ∨ r = b ∨ r = c := by simpa using h
set_option maxHeartbeats 4000000 in
theorem TownOf_pc (Y : YEnv) (σ : Sg) (d : Nat) (b : Int) (hd : σ.store[d]? = some (some [.int .u64 b])) (sq st gr : Int) (hs1 : 1 ≤ sq) (hs2 : sq ≤ 1000) (ht1 : 0 ≤ st) (ht2 : st ≤ 1000) (hg1 : 0 ≤ gr) (hg2 : gr ≤ 1000) :
 PC Tryz.prog Y 93 [.ptr d 0, I sq, I st, I gr] σ (twPV (townD sq st gr b).1) (σ.setVar d [.int .u64 (townD sq st gr b).2]) := by
 refine PC_of_W Tryz.func93 rfl (by kernel_rfl) Tryz.ntmps93 (by simp) fun hcl hca => ?_
 have hlt := lt_of_get hd
 obtain ⟨res, hres⟩ : ∃ r, townD sq st gr b = r := ⟨_, rfl⟩
 rw [hres]
 obtain ⟨x0, hx0⟩ : ∃ zz, (anyOf [4, 11] b).1 = zz := ⟨_, rfl⟩
 obtain ⟨b1, hb1⟩ : ∃ zz, (anyOf [4, 11] b).2 = zz := ⟨_, rfl⟩
 have dx0 := anyOf_mem [4, 11] (by simp) b
 simp only [hx0] at dx0
 obtain ⟨steps, hsteps⟩ : ∃ zz, (roll x0 b1).1 = zz := ⟨_, rfl⟩
 obtain ⟨b2, hb2⟩ : ∃ zz, (roll x0 b1).2 = zz := ⟨_, rfl⟩
 have dsteps := roll_bd x0 b1
 simp only [hsteps] at dsteps
 obtain ⟨n, hn⟩ : ∃ zz, (mid 1 sq b2).1 = zz := ⟨_, rfl⟩
 obtain ⟨b3, hb3⟩ : ∃ zz, (mid 1 sq b2).2 = zz := ⟨_, rfl⟩
 have dn := mid_bd 1 sq hs1 b2
 simp only [hn] at dn
 have dx1 := mem2 dx0
 simp only [townD, dbind, hx0, hb1, hsteps, hb2, hn, hb3] at hres
 have hnn : n - ((n.toNat : Nat) : Int) = 0 := by omega
 refine W_sr [0, 1, 2, 3, 8] fun R hR => ?_
 simp only [go_sem, ldS_at hd, stX_at hd, ldS_sv hlt, stX_sv hlt, sv_ext hlt, sv_ext_sv hlt, hx0, hb1, hsteps, hb2, hn, hb3]
 refine hR _ _ ?_; clear hR R
 try simp only [go_sem, ldS_at hd, stX_at hd, ldS_sv hlt, stX_sv hlt, sv_ext hlt, sv_ext_sv hlt, hx0, hb1, hsteps, hb2, hn, hb3]
 refine W_sr [0, 1, 2, 3, 8, 9] fun R hR => ?_
 simp only [go_sem, ldS_at hd, stX_at hd, ldS_sv hlt, stX_sv hlt, sv_ext hlt, sv_ext_sv hlt, hx0, hb1, hsteps, hb2, hn, hb3]
 refine GCall_of (Any_pc Y _ d b (by first | exact hd | exact sv_get hlt | exact get_svx hlt | exact get_extx hd) [4, 11] (by simp) (by simp)) ?_
 simp only [go_sem, ldS_at hd, stX_at hd, ldS_sv hlt, stX_sv hlt, sv_ext hlt, sv_ext_sv hlt, hx0, hb1, hsteps, hb2, hn, hb3]
 refine GCall_of (Roll_pc Y _ d b1 (by first | exact hd | exact sv_get hlt | exact get_svx hlt | exact get_extx hd) x0 (by omega)) ?_
 simp only [go_sem, ldS_at hd, stX_at hd, ldS_sv hlt, stX_sv hlt, sv_ext hlt, sv_ext_sv hlt, hx0, hb1, hsteps, hb2, hn, hb3]
 refine hR _ _ ?_; clear hR R
 try simp only [go_sem, ldS_at hd, stX_at hd, ldS_sv hlt, stX_sv hlt, sv_ext hlt, sv_ext_sv hlt, hx0, hb1, hsteps, hb2, hn, hb3]
 refine W_sr [0, 2, 3, 8, 9, 10] fun R hR => ?_
 simp only [go_sem, ldS_at hd, stX_at hd, ldS_sv hlt, stX_sv hlt, sv_ext hlt, sv_ext_sv hlt, hx0, hb1, hsteps, hb2, hn, hb3]
 refine GCall_of (Mid_pc Y _ d b2 (by first | exact hd | exact sv_get hlt | exact get_svx hlt | exact get_extx hd) 1 sq (by omega) (by omega) (by omega) (by omega)) ?_
 simp only [go_sem, ldS_at hd, stX_at hd, ldS_sv hlt, stX_sv hlt, sv_ext hlt, sv_ext_sv hlt, hx0, hb1, hsteps, hb2, hn, hb3]
 refine hR _ _ ?_; clear hR R
 try simp only [go_sem, ldS_at hd, stX_at hd, ldS_sv hlt, stX_sv hlt, sv_ext hlt, sv_ext_sv hlt, hx0, hb1, hsteps, hb2, hn, hb3]
 refine W_seq fun Z4 K4 => ?_
 refine W_sr [0, 2, 3, 8, 9, 10, 11] fun R hR => ?_
 simp only [go_sem, ldS_at hd, stX_at hd, ldS_sv hlt, stX_sv hlt, sv_ext hlt, sv_ext_sv hlt, hx0, hb1, hsteps, hb2, hn, hb3]
 refine hR _ _ ?_; clear hR R
 try simp only [go_sem, ldS_at hd, stX_at hd, ldS_sv hlt, stX_sv hlt, sv_ext hlt, sv_ext_sv hlt, hx0, hb1, hsteps, hb2, hn, hb3]
 refine W_block ?_
 refine W_weak (Weak.roomSV (j := 1) (off := 0) (es := 1) rfl rfl (by simp)) ?_
 simp only [go_sem, ldS_at hd, stX_at hd, ldS_sv hlt, stX_sv hlt, sv_ext hlt, sv_ext_sv hlt, hx0, hb1, hsteps, hb2, hn, hb3]
 refine W_loopT (α := Nat × (List Int) × Int) (fun ⟨k, acc, b⟩ => [(11, I (n - (k : Int)))]) (fun ⟨k, acc, b⟩ => (σ.setVar d [.int .u64 b]).ext [some [.isl [] .exact, .isl [] .exact, .isl [] .exact, I 0], some [.isl (acc.map I) (.tok σ.rooms.length acc.length 1), .isl [] .exact, .isl [] .exact, I steps]] [acc.length]) (fun ⟨k, acc, b⟩ => (k : Int) ≤ n ∧ acc.length + k ≤ 2000 ∧ res = townA st gr steps n k acc b) (fun ⟨k, acc, b⟩ => k) ((n.toNat, [], b3)) (by simp only [go_sem, hnn]) (by first | rfl | (simp only [go_sem]; done) | (simp only [go_sem]; rfl)) (⟨by (try dsimp only); omega, by (try dsimp only); simp; omega, hres.symm⟩) ?_
 rintro ⟨k, acc, b⟩ ⟨hk, hal, hinv⟩
 refine W_seq fun Z6 K6 => ?_
 refine W_sr [0, 2, 3, 8, 9, 10, 11, 31] fun R hR => ?_
 simp only [go_sem, ldS_at hd, stX_at hd, ldS_sv hlt, stX_sv hlt, sv_ext hlt, sv_ext_sv hlt, hx0, hb1, hsteps, hb2, hn, hb3]
 refine hR _ _ ?_; clear hR R
 try simp only [go_sem, ldS_at hd, stX_at hd, ldS_sv hlt, stX_sv hlt, sv_ext hlt, sv_ext_sv hlt, hx0, hb1, hsteps, hb2, hn, hb3]
 refine W_cond rfl (fun c1 => ?_) (fun c1 => ?_)
 ·
  try simp only [nrm] at c1
  obtain ⟨k, rfl⟩ : ∃ j, k = j + 1 := ⟨k - 1, by omega⟩
  obtain ⟨x, hx⟩ : ∃ zz, (roll 60 b).1 = zz := ⟨_, rfl⟩
  obtain ⟨b4, hb4⟩ : ∃ zz, (roll 60 b).2 = zz := ⟨_, rfl⟩
  have dx := roll_bd 60 b
  simp only [hx] at dx
  obtain ⟨y, hy⟩ : ∃ zz, (roll 150 b4).1 = zz := ⟨_, rfl⟩
  obtain ⟨b5, hb5⟩ : ∃ zz, (roll 150 b4).2 = zz := ⟨_, rfl⟩
  have dy := roll_bd 150 b4
  simp only [hy] at dy
  obtain ⟨z, hz⟩ : ∃ zz, (anyOf [x, y, 500] b5).1 = zz := ⟨_, rfl⟩
  obtain ⟨b6, hb6⟩ : ∃ zz, (anyOf [x, y, 500] b5).2 = zz := ⟨_, rfl⟩
  have dz := anyOf_mem [x, y, 500] (by simp) b5
  simp only [hz] at dz
  simp only [townA, dbind, hx, hb4, hy, hb5, hz, hb6] at hinv
  refine W_skip (K6 _ _ ?_)
  refine W_seq fun Z8 K8 => ?_
  refine W_block ?_
  refine W_draw [0, 2, 3, 8, 9, 10, 11] [0, 1, 2, 3, 4, 5, 6, 7, 8, 9, 10, 11, 12] [(0, 6), (0, 8), (0, 10), (1, 6), (1, 8), (1, 10), (2, 6), (2, 8), (5, 4)] [[], [0], [], [], [3], [], [3, 4, 5], [3, 4, 5, 6], [2, 3, 4, 5, 6, 7], [2, 3, 4, 5, 6, 7, 8], [0, 1, 2, 3, 4, 5, 6, 7, 8, 9], [0, 1, 2, 3, 4, 5, 6, 7, 8, 9, 10], [0, 1, 2, 3, 4, 5, 6, 7, 8, 9, 10, 11]] mixed (by kernel_rfl) fun R hR => ?_
  simp only [go_sem, ldS_at hd, stX_at hd, ldS_sv hlt, stX_sv hlt, sv_ext hlt, sv_ext_sv hlt, hx0, hb1, hsteps, hb2, hn, hb3, hx, hb4, hy, hb5, hz, hb6]
  refine GCall_of (Roll_pc Y _ d b (by first | exact hd | exact sv_get hlt | exact get_svx hlt | exact get_extx hd) 60 (by omega)) ?_
  simp only [go_sem, ldS_at hd, stX_at hd, ldS_sv hlt, stX_sv hlt, sv_ext hlt, sv_ext_sv hlt, hx0, hb1, hsteps, hb2, hn, hb3, hx, hb4, hy, hb5, hz, hb6]
  refine GCall_of (Roll_pc Y _ d b4 (by first | exact hd | exact sv_get hlt | exact get_svx hlt | exact get_extx hd) 150 (by omega)) ?_
  simp only [go_sem, ldS_at hd, stX_at hd, ldS_sv hlt, stX_sv hlt, sv_ext hlt, sv_ext_sv hlt, hx0, hb1, hsteps, hb2, hn, hb3, hx, hb4, hy, hb5, hz, hb6]
  refine GCall_of (Any_pc Y _ d b5 (by first | exact hd | exact sv_get hlt | exact get_svx hlt | exact get_extx hd) [x, y, 500] (by simp) (by simp)) ?_
  simp only [go_sem, ldS_at hd, stX_at hd, ldS_sv hlt, stX_sv hlt, sv_ext hlt, sv_ext_sv hlt, hx0, hb1, hsteps, hb2, hn, hb3, hx, hb4, hy, hb5, hz, hb6]
  simp (disch := first | omega | (simp only [go_sem] <;> omega)) only [wrapI, wrapU, appX_exact, appX_tok]
  try simp only [go_sem, ldS_at hd, stX_at hd, ldS_sv hlt, stX_sv hlt, sv_ext hlt, sv_ext_sv hlt, hx0, hb1, hsteps, hb2, hn, hb3, hx, hb4, hy, hb5, hz, hb6]
  try refine And.intro (by repeat' (first | refine And.intro ?_ ?_ | exact GOr_right (fun _ => by simp only [go_sem, ldS_at hd, stX_at hd, ldS_sv hlt, stX_sv hlt, sv_ext hlt, sv_ext_sv hlt, hx0, hb1, hsteps, hb2, hn, hb3, hx, hb4, hy, hb5, hz, hb6]))) ?_
  refine hR _ _ (K8 _ _ ?_); clear hR R; try clear K8 Z8
  try simp only [go_sem, ldS_at hd, stX_at hd, ldS_sv hlt, stX_sv hlt, sv_ext hlt, sv_ext_sv hlt, hx0, hb1, hsteps, hb2, hn, hb3, hx, hb4, hy, hb5, hz, hb6]
  refine W_region [0, 2, 3, 8, 9, 10, 11] fun R hR => ?_
  simp only [go_sem, ldS_at hd, stX_at hd, ldS_sv hlt, stX_sv hlt, sv_ext hlt, sv_ext_sv hlt, hx0, hb1, hsteps, hb2, hn, hb3, hx, hb4, hy, hb5, hz, hb6]
  try simp (disch := omega) only [wrapI, wrapU]
  refine hR _ _ ?_; clear hR R
  try simp only [go_sem, ldS_at hd, stX_at hd, ldS_sv hlt, stX_sv hlt, sv_ext hlt, sv_ext_sv hlt, hx0, hb1, hsteps, hb2, hn, hb3, hx, hb4, hy, hb5, hz, hb6]
  refine ⟨(k, acc ++ [z], b6), ?_, by (try simp only []); omega, ?_⟩
  ·first | exact Weak.refl | exact Wqq
  try dsimp only
  exact ⟨by omega, by simp; omega, hinv⟩
 try simp only [nrm] at c1
 obtain rfl : k = 0 := by omega
 obtain ⟨m1, hm1⟩ : ∃ zz, (roll (st + 1) b).1 = zz := ⟨_, rfl⟩
 obtain ⟨b7, hb7⟩ : ∃ zz, (roll (st + 1) b).2 = zz := ⟨_, rfl⟩
 have dm1 := roll_bd (st + 1) b
 simp only [hm1] at dm1
 simp only [townA, dbind, hm1, hb7] at hinv
 clear hres
 have hmt : ((m1.toNat : Nat) : Int) = m1 := by omega
 refine W_exit ?_
 simp only [go_sem, ldS_at hd, stX_at hd, ldS_sv hlt, stX_sv hlt, sv_ext hlt, sv_ext_sv hlt, hx0, hb1, hsteps, hb2, hn, hb3, hm1, hb7]
 refine K4 _ _ ?_
 refine W_seq fun Z9 K9 => ?_
 refine W_sr [0, 3, 8, 9, 10, 12] fun R hR => ?_
 simp only [go_sem, ldS_at hd, stX_at hd, ldS_sv hlt, stX_sv hlt, sv_ext hlt, sv_ext_sv hlt, hx0, hb1, hsteps, hb2, hn, hb3, hm1, hb7]
 try simp (disch := omega) only [wrapI, wrapU]
 refine GCall_of (Roll_pc Y _ d b (by first | exact hd | exact sv_get hlt | exact get_svx hlt | exact get_extx hd) (st + 1) (by omega)) ?_
 simp only [go_sem, ldS_at hd, stX_at hd, ldS_sv hlt, stX_sv hlt, sv_ext hlt, sv_ext_sv hlt, hx0, hb1, hsteps, hb2, hn, hb3, hm1, hb7]
 try simp (disch := omega) only [wrapI, wrapU]
 refine hR _ _ ?_; clear hR R
 try simp only [go_sem, ldS_at hd, stX_at hd, ldS_sv hlt, stX_sv hlt, sv_ext hlt, sv_ext_sv hlt, hx0, hb1, hsteps, hb2, hn, hb3, hm1, hb7]
 refine W_block ?_
 refine W_weak (Weak.roomSV (j := 1) (off := 1) (es := 2) rfl rfl (by simp)) ?_
 simp only [go_sem, ldS_at hd, stX_at hd, ldS_sv hlt, stX_sv hlt, sv_ext hlt, sv_ext_sv hlt, hx0, hb1, hsteps, hb2, hn, hb3, hm1, hb7]
 refine W_loopT (α := Nat × (List (Int × Int)) × Int) (fun ⟨k, acs, b⟩ => [(12, I k)]) (fun ⟨k, acs, b⟩ => (σ.setVar d [.int .u64 b]).ext [some [.isl [] .exact, .isl [] .exact, .isl [] .exact, I 0], some [.isl (acc.map I) (.tok σ.rooms.length acc.length 1), .isl (acs.map stPV) (.tok (σ.rooms.length + 1) acs.length 2), .isl [] .exact, I steps]] [acc.length, acs.length]) (fun ⟨k, acs, b⟩ => acs.length + k ≤ 2000 ∧ res = townB gr steps n acc (if 1 < n then k else 0) acs b) (fun ⟨k, acs, b⟩ => k) ((m1.toNat, [], b7)) (by simp only [go_sem, hmt]) (by first | rfl | (simp only [go_sem]; done) | (simp only [go_sem]; rfl)) (⟨by (try dsimp only); simp; omega, hinv⟩) ?_
 rintro ⟨k, acs, b⟩ ⟨hal2, hinv⟩
 refine W_seq fun Z11 K11 => ?_
 refine W_seq fun Z12 K12 => ?_
 refine W_regionJ [0, 3, 8, 9, 10, 12, 55] [(55, .bool (decide (0 < (k : Int)) && decide (1 < n)))] ?_ fun R hR => ?_
 ·refine K12 _ _ ?_
  simp only [go_sem, ldS_at hd, stX_at hd, ldS_sv hlt, stX_sv hlt, sv_ext hlt, sv_ext_sv hlt, hx0, hb1, hsteps, hb2, hn, hb3, hm1, hb7]
  refine W_cond rfl (fun c2 => ?_) (fun c2 => ?_)
  ·
   try simp only [nrm] at c2
   simp only [Bool.and_eq_true, decide_eq_true_eq] at c2
   obtain ⟨k, rfl⟩ : ∃ j, k = j + 1 := ⟨k - 1, by omega⟩
   rw [if_pos c2.2] at hinv
   obtain ⟨a0, ha0⟩ : ∃ zz, (roll n b).1 = zz := ⟨_, rfl⟩
   obtain ⟨b8, hb8⟩ : ∃ zz, (roll n b).2 = zz := ⟨_, rfl⟩
   have da0 := roll_bd n b
   simp only [ha0] at da0
   obtain ⟨m0, hm0⟩ : ∃ zz, (mid 1 (n - 1) b8).1 = zz := ⟨_, rfl⟩
   obtain ⟨b9, hb9⟩ : ∃ zz, (mid 1 (n - 1) b8).2 = zz := ⟨_, rfl⟩
   have dm0 := mid_bd 1 (n - 1) (by omega) b8
   simp only [hm0] at dm0
   have dft := fit_bd (a0 + m0) n
   simp only [townB, dbind, ha0, hb8, hm0, hb9] at hinv
   refine W_skip (K11 _ _ ?_)
   refine W_seq fun Z13 K13 => ?_
   refine W_block ?_
   refine W_sr [0, 3, 8, 9, 10, 12, 13] fun R hR => ?_
   simp only [go_sem, ldS_at hd, stX_at hd, ldS_sv hlt, stX_sv hlt, sv_ext hlt, sv_ext_sv hlt, hx0, hb1, hsteps, hb2, hn, hb3, hm1, hb7, ha0, hb8, hm0, hb9]
   refine GCall_of (Roll_pc Y _ d b (by first | exact hd | exact sv_get hlt | exact get_svx hlt | exact get_extx hd) n (by omega)) ?_
   simp only [go_sem, ldS_at hd, stX_at hd, ldS_sv hlt, stX_sv hlt, sv_ext hlt, sv_ext_sv hlt, hx0, hb1, hsteps, hb2, hn, hb3, hm1, hb7, ha0, hb8, hm0, hb9]
   refine hR _ _ ?_; clear hR R
   try simp only [go_sem, ldS_at hd, stX_at hd, ldS_sv hlt, stX_sv hlt, sv_ext hlt, sv_ext_sv hlt, hx0, hb1, hsteps, hb2, hn, hb3, hm1, hb7, ha0, hb8, hm0, hb9]
   refine W_draw [0, 3, 8, 9, 10, 12] [0, 1, 2, 3, 4, 5, 6, 7, 8, 9, 10, 11, 12, 13, 14, 15] [(0, 10), (0, 13), (1, 10), (1, 13), (2, 10), (2, 13), (3, 10), (9, 7)] [[], [0], [], [], [], [], [5], [4, 5, 6], [3, 4, 5, 6, 7], [], [3, 4, 5, 6, 7, 8, 9], [2, 3, 4, 5, 6, 7, 8, 9, 10], [2, 3, 4, 5, 6, 7, 8, 9, 10, 11], [0, 1, 2, 3, 4, 5, 6, 7, 8, 9, 10, 11, 12], [0, 1, 2, 3, 4, 5, 6, 7, 8, 9, 10, 11, 12, 13], [0, 1, 2, 3, 4, 5, 6, 7, 8, 9, 10, 11, 12, 13, 14]] mixed (by kernel_rfl) fun R hR => ?_
   simp only [go_sem, ldS_at hd, stX_at hd, ldS_sv hlt, stX_sv hlt, sv_ext hlt, sv_ext_sv hlt, hx0, hb1, hsteps, hb2, hn, hb3, hm1, hb7, ha0, hb8, hm0, hb9]
   try simp (disch := omega) only [wrapI, wrapU]
   refine GCall_of (Mid_pc Y _ d b8 (by first | exact hd | exact sv_get hlt | exact get_svx hlt | exact get_extx hd) 1 (n - 1) (by omega) (by omega) (by omega) (by omega)) ?_
   simp only [go_sem, ldS_at hd, stX_at hd, ldS_sv hlt, stX_sv hlt, sv_ext hlt, sv_ext_sv hlt, hx0, hb1, hsteps, hb2, hn, hb3, hm1, hb7, ha0, hb8, hm0, hb9]
   try simp (disch := omega) only [wrapI, wrapU]
   refine GCall_of (Fit_pc Y _ (a0 + m0) n (by omega) (by omega) (by omega)) ?_
   simp only [go_sem, ldS_at hd, stX_at hd, ldS_sv hlt, stX_sv hlt, sv_ext hlt, sv_ext_sv hlt, hx0, hb1, hsteps, hb2, hn, hb3, hm1, hb7, ha0, hb8, hm0, hb9]
   simp (disch := first | omega | (simp only [go_sem] <;> omega)) only [wrapI, wrapU, appX_exact, appX_tok]
   try simp only [go_sem, ldS_at hd, stX_at hd, ldS_sv hlt, stX_sv hlt, sv_ext hlt, sv_ext_sv hlt, hx0, hb1, hsteps, hb2, hn, hb3, hm1, hb7, ha0, hb8, hm0, hb9]
   try refine And.intro (by repeat' (first | refine And.intro ?_ ?_ | exact GOr_right (fun _ => by simp only [go_sem, ldS_at hd, stX_at hd, ldS_sv hlt, stX_sv hlt, sv_ext hlt, sv_ext_sv hlt, hx0, hb1, hsteps, hb2, hn, hb3, hm1, hb7, ha0, hb8, hm0, hb9]))) ?_
   refine hR _ _ (K13 _ _ ?_); clear hR R; try clear K13 Z13
   try simp only [go_sem, ldS_at hd, stX_at hd, ldS_sv hlt, stX_sv hlt, sv_ext hlt, sv_ext_sv hlt, hx0, hb1, hsteps, hb2, hn, hb3, hm1, hb7, ha0, hb8, hm0, hb9]
   refine W_region [0, 3, 8, 9, 10, 12] fun R hR => ?_
   simp only [go_sem, ldS_at hd, stX_at hd, ldS_sv hlt, stX_sv hlt, sv_ext hlt, sv_ext_sv hlt, hx0, hb1, hsteps, hb2, hn, hb3, hm1, hb7, ha0, hb8, hm0, hb9]
   try simp (disch := omega) only [wrapI, wrapU]
   refine hR _ _ ?_; clear hR R
   try simp only [go_sem, ldS_at hd, stX_at hd, ldS_sv hlt, stX_sv hlt, sv_ext hlt, sv_ext_sv hlt, hx0, hb1, hsteps, hb2, hn, hb3, hm1, hb7, ha0, hb8, hm0, hb9]
   refine ⟨(k, acs ++ [(a0, fit (a0 + m0) n)], b9), ?_, by (try simp only []); omega, ?_⟩
   ·first | exact Weak.refl | exact Wqq
   try dsimp only
   exact ⟨by simp; omega, by rw [if_pos c2.2]; exact hinv⟩
  try simp only [nrm] at c2
  simp only [Bool.and_eq_false_iff, decide_eq_false_iff_not] at c2
  have hz : (if 1 < n then k else 0) = 0 := by split <;> omega
  rw [hz] at hinv
  obtain ⟨gg, hgg⟩ : ∃ zz, (roll (gr + 1) b).1 = zz := ⟨_, rfl⟩
  obtain ⟨b10, hb10⟩ : ∃ zz, (roll (gr + 1) b).2 = zz := ⟨_, rfl⟩
  have dgg := roll_bd (gr + 1) b
  simp only [hgg] at dgg
  simp only [townB, dbind, hgg, hb10] at hinv
  have hgt : ((gg.toNat : Nat) : Int) = gg := by omega
  refine W_exit ?_
  simp only [go_sem, ldS_at hd, stX_at hd, ldS_sv hlt, stX_sv hlt, sv_ext hlt, sv_ext_sv hlt, hx0, hb1, hsteps, hb2, hn, hb3, hm1, hb7, hgg, hb10]
  refine K9 _ _ ?_
  refine W_seq fun Z15 K15 => ?_
  refine W_sr [0, 8, 9, 10, 14] fun R hR => ?_
  simp only [go_sem, ldS_at hd, stX_at hd, ldS_sv hlt, stX_sv hlt, sv_ext hlt, sv_ext_sv hlt, hx0, hb1, hsteps, hb2, hn, hb3, hm1, hb7, hgg, hb10]
  try simp (disch := omega) only [wrapI, wrapU]
  refine GCall_of (Roll_pc Y _ d b (by first | exact hd | exact sv_get hlt | exact get_svx hlt | exact get_extx hd) (gr + 1) (by omega)) ?_
  simp only [go_sem, ldS_at hd, stX_at hd, ldS_sv hlt, stX_sv hlt, sv_ext hlt, sv_ext_sv hlt, hx0, hb1, hsteps, hb2, hn, hb3, hm1, hb7, hgg, hb10]
  try simp (disch := omega) only [wrapI, wrapU]
  refine hR _ _ ?_; clear hR R
  try simp only [go_sem, ldS_at hd, stX_at hd, ldS_sv hlt, stX_sv hlt, sv_ext hlt, sv_ext_sv hlt, hx0, hb1, hsteps, hb2, hn, hb3, hm1, hb7, hgg, hb10]
  refine W_block ?_
  refine W_weak (Weak.roomSV (j := 1) (off := 2) (es := 7) rfl rfl (by simp)) ?_
  simp only [go_sem, ldS_at hd, stX_at hd, ldS_sv hlt, stX_sv hlt, sv_ext hlt, sv_ext_sv hlt, hx0, hb1, hsteps, hb2, hn, hb3, hm1, hb7, hgg, hb10]
  refine W_loopT (α := Nat × (List Group) × Int) (fun ⟨k2, acg, b⟩ => [(14, I k2)]) (fun ⟨k2, acg, b⟩ => (σ.setVar d [.int .u64 b]).ext [some [.isl [] .exact, .isl [] .exact, .isl [] .exact, I 0], some [.isl (acc.map I) (.tok σ.rooms.length acc.length 1), .isl (acs.map stPV) (.tok (σ.rooms.length + 1) acs.length 2), .isl (acg.map grPV) (.tok (σ.rooms.length + 2) acg.length 7), I steps]] [acc.length, acs.length, acg.length]) (fun ⟨k2, acg, b⟩ => acg.length + k2 ≤ 2000 ∧ res = townC steps n acc acs k2 acg b) (fun ⟨k2, acg, b⟩ => k2) ((gg.toNat, [], b10)) (by simp only [go_sem, hgt]) (by first | rfl | (simp only [go_sem]; done) | (simp only [go_sem]; rfl)) (⟨by (try dsimp only); simp; omega, hinv⟩) ?_
  rintro ⟨k2, acg, b⟩ ⟨hal3, hinv⟩
  refine W_seq fun Z17 K17 => ?_
  refine W_sr [0, 8, 9, 10, 14, 81] fun R hR => ?_
  simp only [go_sem, ldS_at hd, stX_at hd, ldS_sv hlt, stX_sv hlt, sv_ext hlt, sv_ext_sv hlt, hx0, hb1, hsteps, hb2, hn, hb3, hm1, hb7, hgg, hb10]
  refine hR _ _ ?_; clear hR R
  try simp only [go_sem, ldS_at hd, stX_at hd, ldS_sv hlt, stX_sv hlt, sv_ext hlt, sv_ext_sv hlt, hx0, hb1, hsteps, hb2, hn, hb3, hm1, hb7, hgg, hb10]
  refine W_cond rfl (fun c3 => ?_) (fun c3 => ?_)
  ·
   try simp only [nrm] at c3
   obtain ⟨k2, rfl⟩ : ∃ j, k2 = j + 1 := ⟨k2 - 1, by omega⟩
   obtain ⟨gres, hgr⟩ : ∃ r, groupD n acs b = r := ⟨_, rfl⟩
   simp only [townC, dbind, hgr] at hinv
   obtain ⟨x2, hx2⟩ : ∃ zz, (anyOf [30, 90] b).1 = zz := ⟨_, rfl⟩
   obtain ⟨b11, hb11⟩ : ∃ zz, (anyOf [30, 90] b).2 = zz := ⟨_, rfl⟩
   have dx2 := anyOf_mem [30, 90] (by simp) b
   simp only [hx2] at dx2
   have dx2b := mem2 dx2
   obtain ⟨sz, hsz⟩ : ∃ zz, (spanOf 0 x2 b11).1 = zz := ⟨_, rfl⟩
   obtain ⟨b12, hb12⟩ : ∃ zz, (spanOf 0 x2 b11).2 = zz := ⟨_, rfl⟩
   have dsz := spanOf_bd 0 x2 (by omega) b11
   simp only [hsz] at dsz
   obtain ⟨x3, hx3⟩ : ∃ zz, (anyOf [0, 4] b12).1 = zz := ⟨_, rfl⟩
   obtain ⟨b13, hb13⟩ : ∃ zz, (anyOf [0, 4] b12).2 = zz := ⟨_, rfl⟩
   have dx3 := anyOf_mem [0, 4] (by simp) b12
   simp only [hx3] at dx3
   have dx3b := mem2 dx3
   obtain ⟨aa, haa⟩ : ∃ zz, (spanOf 0 x3 b13).1 = zz := ⟨_, rfl⟩
   obtain ⟨b14, hb14⟩ : ∃ zz, (spanOf 0 x3 b13).2 = zz := ⟨_, rfl⟩
   have daa := spanOf_bd 0 x3 (by omega) b13
   simp only [haa] at daa
   obtain ⟨stay, hstay⟩ : ∃ zz, (mid 1 4 b14).1 = zz := ⟨_, rfl⟩
   obtain ⟨b15, hb15⟩ : ∃ zz, (mid 1 4 b14).2 = zz := ⟨_, rfl⟩
   have dstay := mid_bd 1 4 (by omega) b14
   simp only [hstay] at dstay
   obtain ⟨fst, hfst⟩ : ∃ zz, (roll n b15).1 = zz := ⟨_, rfl⟩
   obtain ⟨b16, hb16⟩ : ∃ zz, (roll n b15).2 = zz := ⟨_, rfl⟩
   have dfst := roll_bd n b15
   simp only [hfst] at dfst
   obtain ⟨kk, hkk⟩ : ∃ zz, (roll 5 b16).1 = zz := ⟨_, rfl⟩
   obtain ⟨b17, hb17⟩ : ∃ zz, (roll 5 b16).2 = zz := ⟨_, rfl⟩
   have dkk := roll_bd 5 b16
   simp only [hkk] at dkk
   simp only [groupD, dbind, hx2, hb11, hsz, hb12, hx3, hb13, haa, hb14, hstay, hb15, hfst, hb16, hkk, hb17] at hgr
   have hkt : ((kk.toNat : Nat) : Int) = kk := by omega
   refine W_skip (K17 _ _ ?_)
   refine W_seq fun Z19 K19 => ?_
   refine W_block ?_
   refine W_sr [0, 8, 9, 10, 14, 15] fun R hR => ?_
   simp only [go_sem, ldS_at hd, stX_at hd, ldS_sv hlt, stX_sv hlt, sv_ext hlt, sv_ext_sv hlt, hx0, hb1, hsteps, hb2, hn, hb3, hm1, hb7, hgg, hb10, hx2, hb11, hsz, hb12, hx3, hb13, haa, hb14, hstay, hb15, hfst, hb16, hkk, hb17]
   refine GCall_of (Any_pc Y _ d b (by first | exact hd | exact sv_get hlt | exact get_svx hlt | exact get_extx hd) [30, 90] (by simp) (by simp)) ?_
   simp only [go_sem, ldS_at hd, stX_at hd, ldS_sv hlt, stX_sv hlt, sv_ext hlt, sv_ext_sv hlt, hx0, hb1, hsteps, hb2, hn, hb3, hm1, hb7, hgg, hb10, hx2, hb11, hsz, hb12, hx3, hb13, haa, hb14, hstay, hb15, hfst, hb16, hkk, hb17]
   refine GCall_of (Span_pc Y _ d b11 (by first | exact hd | exact sv_get hlt | exact get_svx hlt | exact get_extx hd) 0 x2 (by omega) (by omega) (by omega) (by omega) (by omega)) ?_
   simp only [go_sem, ldS_at hd, stX_at hd, ldS_sv hlt, stX_sv hlt, sv_ext hlt, sv_ext_sv hlt, hx0, hb1, hsteps, hb2, hn, hb3, hm1, hb7, hgg, hb10, hx2, hb11, hsz, hb12, hx3, hb13, haa, hb14, hstay, hb15, hfst, hb16, hkk, hb17]
   refine GCall_of (Any_pc Y _ d b12 (by first | exact hd | exact sv_get hlt | exact get_svx hlt | exact get_extx hd) [0, 4] (by simp) (by simp)) ?_
   simp only [go_sem, ldS_at hd, stX_at hd, ldS_sv hlt, stX_sv hlt, sv_ext hlt, sv_ext_sv hlt, hx0, hb1, hsteps, hb2, hn, hb3, hm1, hb7, hgg, hb10, hx2, hb11, hsz, hb12, hx3, hb13, haa, hb14, hstay, hb15, hfst, hb16, hkk, hb17]
   refine GCall_of (Span_pc Y _ d b13 (by first | exact hd | exact sv_get hlt | exact get_svx hlt | exact get_extx hd) 0 x3 (by omega) (by omega) (by omega) (by omega) (by omega)) ?_
   simp only [go_sem, ldS_at hd, stX_at hd, ldS_sv hlt, stX_sv hlt, sv_ext hlt, sv_ext_sv hlt, hx0, hb1, hsteps, hb2, hn, hb3, hm1, hb7, hgg, hb10, hx2, hb11, hsz, hb12, hx3, hb13, haa, hb14, hstay, hb15, hfst, hb16, hkk, hb17]
   refine GCall_of (Mid_pc Y _ d b14 (by first | exact hd | exact sv_get hlt | exact get_svx hlt | exact get_extx hd) 1 4 (by omega) (by omega) (by omega) (by omega)) ?_
   simp only [go_sem, ldS_at hd, stX_at hd, ldS_sv hlt, stX_sv hlt, sv_ext hlt, sv_ext_sv hlt, hx0, hb1, hsteps, hb2, hn, hb3, hm1, hb7, hgg, hb10, hx2, hb11, hsz, hb12, hx3, hb13, haa, hb14, hstay, hb15, hfst, hb16, hkk, hb17]
   refine GCall_of (Roll_pc Y _ d b15 (by first | exact hd | exact sv_get hlt | exact get_svx hlt | exact get_extx hd) n (by omega)) ?_
   simp only [go_sem, ldS_at hd, stX_at hd, ldS_sv hlt, stX_sv hlt, sv_ext hlt, sv_ext_sv hlt, hx0, hb1, hsteps, hb2, hn, hb3, hm1, hb7, hgg, hb10, hx2, hb11, hsz, hb12, hx3, hb13, haa, hb14, hstay, hb15, hfst, hb16, hkk, hb17]
   refine hR _ _ ?_; clear hR R
   try simp only [go_sem, ldS_at hd, stX_at hd, ldS_sv hlt, stX_sv hlt, sv_ext hlt, sv_ext_sv hlt, hx0, hb1, hsteps, hb2, hn, hb3, hm1, hb7, hgg, hb10, hx2, hb11, hsz, hb12, hx3, hb13, haa, hb14, hstay, hb15, hfst, hb16, hkk, hb17]
   refine W_sr [0, 8, 9, 10, 14, 15, 16] fun R hR => ?_
   simp only [go_sem, ldS_at hd, stX_at hd, ldS_sv hlt, stX_sv hlt, sv_ext hlt, sv_ext_sv hlt, hx0, hb1, hsteps, hb2, hn, hb3, hm1, hb7, hgg, hb10, hx2, hb11, hsz, hb12, hx3, hb13, haa, hb14, hstay, hb15, hfst, hb16, hkk, hb17]
   refine hR _ _ ?_; clear hR R
   try simp only [go_sem, ldS_at hd, stX_at hd, ldS_sv hlt, stX_sv hlt, sv_ext hlt, sv_ext_sv hlt, hx0, hb1, hsteps, hb2, hn, hb3, hm1, hb7, hgg, hb10, hx2, hb11, hsz, hb12, hx3, hb13, haa, hb14, hstay, hb15, hfst, hb16, hkk, hb17]
   refine W_seq fun Z22 K22 => ?_
   refine W_sr [0, 8, 9, 10, 14, 15, 16, 17] fun R hR => ?_
   simp only [go_sem, ldS_at hd, stX_at hd, ldS_sv hlt, stX_sv hlt, sv_ext hlt, sv_ext_sv hlt, hx0, hb1, hsteps, hb2, hn, hb3, hm1, hb7, hgg, hb10, hx2, hb11, hsz, hb12, hx3, hb13, haa, hb14, hstay, hb15, hfst, hb16, hkk, hb17]
   refine GCall_of (Roll_pc Y _ d b16 (by first | exact hd | exact sv_get hlt | exact get_svx hlt | exact get_extx hd) 5 (by omega)) ?_
   simp only [go_sem, ldS_at hd, stX_at hd, ldS_sv hlt, stX_sv hlt, sv_ext hlt, sv_ext_sv hlt, hx0, hb1, hsteps, hb2, hn, hb3, hm1, hb7, hgg, hb10, hx2, hb11, hsz, hb12, hx3, hb13, haa, hb14, hstay, hb15, hfst, hb16, hkk, hb17]
   refine hR _ _ ?_; clear hR R
   try simp only [go_sem, ldS_at hd, stX_at hd, ldS_sv hlt, stX_sv hlt, sv_ext hlt, sv_ext_sv hlt, hx0, hb1, hsteps, hb2, hn, hb3, hm1, hb7, hgg, hb10, hx2, hb11, hsz, hb12, hx3, hb13, haa, hb14, hstay, hb15, hfst, hb16, hkk, hb17]
   refine W_block ?_
   refine W_weak (Weak.roomSV (j := 2) (off := 6) (es := 1) rfl rfl (by simp)) ?_
   simp only [go_sem, ldS_at hd, stX_at hd, ldS_sv hlt, stX_sv hlt, sv_ext hlt, sv_ext_sv hlt, hx0, hb1, hsteps, hb2, hn, hb3, hm1, hb7, hgg, hb10, hx2, hb11, hsz, hb12, hx3, hb13, haa, hb14, hstay, hb15, hfst, hb16, hkk, hb17]
   refine W_loopT (α := Nat × Int × (List Int) × Int) (fun ⟨k3, at', acp, bp⟩ => [(16, I at'), (17, I k3)]) (fun ⟨k3, at', acp, bp⟩ => (σ.setVar d [.int .u64 bp]).ext [some [.isl [] .exact, .isl [] .exact, .isl [] .exact, I 0], some [.isl (acc.map I) (.tok σ.rooms.length acc.length 1), .isl (acs.map stPV) (.tok (σ.rooms.length + 1) acs.length 2), .isl (acg.map grPV) (.tok (σ.rooms.length + 2) acg.length 7), I steps], some [I sz.1, I sz.2, I aa.1, I aa.2, I stay, I fst, .isl (acp.map I) (.tok (σ.rooms.length + 3) acp.length 1)]] [acc.length, acs.length, acg.length, acp.length]) (fun ⟨k3, at', acp, bp⟩ => acp.length + k3 ≤ 100 ∧ gres = pathD acs ⟨sz.1, sz.2, aa.1, aa.2, stay, fst, []⟩ (if 0 < acs.length then k3 else 0) at' acp bp) (fun ⟨k3, at', acp, bp⟩ => k3) ((kk.toNat, fst, [], b17)) (by simp only [go_sem, hkt]) (by first | rfl | (simp only [go_sem]; done) | (simp only [go_sem]; rfl)) (⟨by (try dsimp only); simp; omega, hgr.symm⟩) ?_
   rintro ⟨k3, at', acp, bp⟩ ⟨hal4, hg3⟩
   refine W_seq fun Z24 K24 => ?_
   refine W_seq fun Z25 K25 => ?_
   refine W_regionJ [0, 8, 9, 10, 14, 15, 16, 17, 111] [(111, .bool (decide (0 < (k3 : Int)) && decide (0 < (acs.length : Int))))] ?_ fun R hR => ?_
   ·refine K25 _ _ ?_
    simp only [go_sem, ldS_at hd, stX_at hd, ldS_sv hlt, stX_sv hlt, sv_ext hlt, sv_ext_sv hlt, hx0, hb1, hsteps, hb2, hn, hb3, hm1, hb7, hgg, hb10, hx2, hb11, hsz, hb12, hx3, hb13, haa, hb14, hstay, hb15, hfst, hb16, hkk, hb17]
    refine W_cond rfl (fun c4 => ?_) (fun c4 => ?_)
    ·
     try simp only [nrm] at c4
     simp only [Bool.and_eq_true, decide_eq_true_eq] at c4
     obtain ⟨k3, rfl⟩ : ∃ j, k3 = j + 1 := ⟨k3 - 1, by omega⟩
     have hap : 0 < acs.length := by omega
     rw [if_pos hap] at hg3
     obtain ⟨s0, hs0⟩ : ∃ zz, (roll acs.length bp).1 = zz := ⟨_, rfl⟩
     obtain ⟨b18, hb18⟩ : ∃ zz, (roll acs.length bp).2 = zz := ⟨_, rfl⟩
     have ds0 := roll_bd acs.length bp
     simp only [hs0] at ds0
     obtain ⟨s, hs⟩ : ∃ s, acs[s0.toNat]? = some s := ⟨acs[s0.toNat]'(by omega), by simp⟩
     have hs00 : 0 ≤ s0 := by omega
     simp only [pathD, dbind, hs0, hb18, hs, Option.getD_some] at hg3
     refine W_skip (K24 _ _ ?_)
     refine W_seq fun Z26 K26 => ?_
     refine W_block ?_
     refine W_sr [0, 8, 9, 10, 14, 15, 16, 17, 18] fun R hR => ?_
     simp only [go_sem, ldS_at hd, stX_at hd, ldS_sv hlt, stX_sv hlt, sv_ext hlt, sv_ext_sv hlt, hx0, hb1, hsteps, hb2, hn, hb3, hm1, hb7, hgg, hb10, hx2, hb11, hsz, hb12, hx3, hb13, haa, hb14, hstay, hb15, hfst, hb16, hkk, hb17, hs0, hb18, hs, hs00]
     refine GCall_of (Roll_pc Y _ d bp (by first | exact hd | exact sv_get hlt | exact get_svx hlt | exact get_extx hd) acs.length (by omega)) ?_
     simp only [go_sem, ldS_at hd, stX_at hd, ldS_sv hlt, stX_sv hlt, sv_ext hlt, sv_ext_sv hlt, hx0, hb1, hsteps, hb2, hn, hb3, hm1, hb7, hgg, hb10, hx2, hb11, hsz, hb12, hx3, hb13, haa, hb14, hstay, hb15, hfst, hb16, hkk, hb17, hs0, hb18, hs, hs00]
     refine hR _ _ ?_; clear hR R
     try simp only [go_sem, ldS_at hd, stX_at hd, ldS_sv hlt, stX_sv hlt, sv_ext hlt, sv_ext_sv hlt, hx0, hb1, hsteps, hb2, hn, hb3, hm1, hb7, hgg, hb10, hx2, hb11, hsz, hb12, hx3, hb13, haa, hb14, hstay, hb15, hfst, hb16, hkk, hb17, hs0, hb18, hs, hs00]
     refine W_sr [0, 8, 9, 10, 14, 15, 16, 17, 18, 19] fun R hR => ?_
     simp only [go_sem, ldS_at hd, stX_at hd, ldS_sv hlt, stX_sv hlt, sv_ext hlt, sv_ext_sv hlt, hx0, hb1, hsteps, hb2, hn, hb3, hm1, hb7, hgg, hb10, hx2, hb11, hsz, hb12, hx3, hb13, haa, hb14, hstay, hb15, hfst, hb16, hkk, hb17, hs0, hb18, hs, hs00]
     refine GCall_of (rother_pc Y _ s at') ?_
     simp only [go_sem, ldS_at hd, stX_at hd, ldS_sv hlt, stX_sv hlt, sv_ext hlt, sv_ext_sv hlt, hx0, hb1, hsteps, hb2, hn, hb3, hm1, hb7, hgg, hb10, hx2, hb11, hsz, hb12, hx3, hb13, haa, hb14, hstay, hb15, hfst, hb16, hkk, hb17, hs0, hb18, hs, hs00]
     refine hR _ _ ?_; clear hR R
     try simp only [go_sem, ldS_at hd, stX_at hd, ldS_sv hlt, stX_sv hlt, sv_ext hlt, sv_ext_sv hlt, hx0, hb1, hsteps, hb2, hn, hb3, hm1, hb7, hgg, hb10, hx2, hb11, hsz, hb12, hx3, hb13, haa, hb14, hstay, hb15, hfst, hb16, hkk, hb17, hs0, hb18, hs, hs00]
     refine W_sr [0, 8, 9, 10, 14, 15, 16, 17, 18, 19, 127] fun R hR => ?_
     simp only [go_sem, ldS_at hd, stX_at hd, ldS_sv hlt, stX_sv hlt, sv_ext hlt, sv_ext_sv hlt, hx0, hb1, hsteps, hb2, hn, hb3, hm1, hb7, hgg, hb10, hx2, hb11, hsz, hb12, hx3, hb13, haa, hb14, hstay, hb15, hfst, hb16, hkk, hb17, hs0, hb18, hs, hs00]
     refine hR _ _ ?_; clear hR R
     try simp only [go_sem, ldS_at hd, stX_at hd, ldS_sv hlt, stX_sv hlt, sv_ext hlt, sv_ext_sv hlt, hx0, hb1, hsteps, hb2, hn, hb3, hm1, hb7, hgg, hb10, hx2, hb11, hsz, hb12, hx3, hb13, haa, hb14, hstay, hb15, hfst, hb16, hkk, hb17, hs0, hb18, hs, hs00]
     refine W_cond rfl (fun c5 => ?_) (fun c5 => ?_)
     ·
      try simp only [nrm] at c5
      refine W_region [0, 8, 9, 10, 14, 15, 16, 17] fun R hR => ?_
      simp only [go_sem, ldS_at hd, stX_at hd, ldS_sv hlt, stX_sv hlt, sv_ext hlt, sv_ext_sv hlt, hx0, hb1, hsteps, hb2, hn, hb3, hm1, hb7, hgg, hb10, hx2, hb11, hsz, hb12, hx3, hb13, haa, hb14, hstay, hb15, hfst, hb16, hkk, hb17, hs0, hb18, hs, hs00]
      simp (disch := first | omega | (simp only [go_sem] <;> omega)) only [wrapI, wrapU, appX_exact, appX_tok]
      try simp only [go_sem, ldS_at hd, stX_at hd, ldS_sv hlt, stX_sv hlt, sv_ext hlt, sv_ext_sv hlt, hx0, hb1, hsteps, hb2, hn, hb3, hm1, hb7, hgg, hb10, hx2, hb11, hsz, hb12, hx3, hb13, haa, hb14, hstay, hb15, hfst, hb16, hkk, hb17, hs0, hb18, hs, hs00]
      refine hR _ _ (K26 _ _ ?_); clear hR R; try clear K26 Z26
      try simp only [go_sem, ldS_at hd, stX_at hd, ldS_sv hlt, stX_sv hlt, sv_ext hlt, sv_ext_sv hlt, hx0, hb1, hsteps, hb2, hn, hb3, hm1, hb7, hgg, hb10, hx2, hb11, hsz, hb12, hx3, hb13, haa, hb14, hstay, hb15, hfst, hb16, hkk, hb17, hs0, hb18, hs, hs00]
      refine W_region [0, 8, 9, 10, 14, 15, 16, 17] fun R hR => ?_
      simp only [go_sem, ldS_at hd, stX_at hd, ldS_sv hlt, stX_sv hlt, sv_ext hlt, sv_ext_sv hlt, hx0, hb1, hsteps, hb2, hn, hb3, hm1, hb7, hgg, hb10, hx2, hb11, hsz, hb12, hx3, hb13, haa, hb14, hstay, hb15, hfst, hb16, hkk, hb17, hs0, hb18, hs, hs00]
      try simp (disch := omega) only [wrapI, wrapU]
      refine hR _ _ ?_; clear hR R
      try simp only [go_sem, ldS_at hd, stX_at hd, ldS_sv hlt, stX_sv hlt, sv_ext hlt, sv_ext_sv hlt, hx0, hb1, hsteps, hb2, hn, hb3, hm1, hb7, hgg, hb10, hx2, hb11, hsz, hb12, hx3, hb13, haa, hb14, hstay, hb15, hfst, hb16, hkk, hb17, hs0, hb18, hs, hs00]
      refine ⟨(k3, other s at', acp ++ [s0], b18), ?_, by (try simp only []); omega, ?_⟩
      ·first | exact Weak.refl | exact Wqq
      try dsimp only
      refine ⟨by (try simp); omega, ?_⟩
      rw [if_pos hap, hg3]; first | rw [if_pos c5] | rw [if_neg c5]
     try simp only [nrm] at c5
     refine W_skip (K26 _ _ ?_)
     refine W_region [0, 8, 9, 10, 14, 15, 16, 17] fun R hR => ?_
     simp only [go_sem, ldS_at hd, stX_at hd, ldS_sv hlt, stX_sv hlt, sv_ext hlt, sv_ext_sv hlt, hx0, hb1, hsteps, hb2, hn, hb3, hm1, hb7, hgg, hb10, hx2, hb11, hsz, hb12, hx3, hb13, haa, hb14, hstay, hb15, hfst, hb16, hkk, hb17, hs0, hb18, hs, hs00]
     try simp (disch := omega) only [wrapI, wrapU]
     refine hR _ _ ?_; clear hR R
     try simp only [go_sem, ldS_at hd, stX_at hd, ldS_sv hlt, stX_sv hlt, sv_ext hlt, sv_ext_sv hlt, hx0, hb1, hsteps, hb2, hn, hb3, hm1, hb7, hgg, hb10, hx2, hb11, hsz, hb12, hx3, hb13, haa, hb14, hstay, hb15, hfst, hb16, hkk, hb17, hs0, hb18, hs, hs00]
     refine ⟨(k3, at', acp, b18), ?_, by (try simp only []); omega, ?_⟩
     ·first | exact Weak.refl | exact Wqq
     try dsimp only
     refine ⟨by (try simp); omega, ?_⟩
     rw [if_pos hap, hg3]; first | rw [if_pos c5] | rw [if_neg c5]
    try simp only [nrm] at c4
    simp only [Bool.and_eq_false_iff, decide_eq_false_iff_not] at c4
    have hz : (if 0 < acs.length then k3 else 0) = 0 := by split <;> omega
    rw [hz] at hg3
    simp only [pathD, dret] at hg3
    refine W_exit ?_
    simp only [go_sem, ldS_at hd, stX_at hd, ldS_sv hlt, stX_sv hlt, sv_ext hlt, sv_ext_sv hlt, hx0, hb1, hsteps, hb2, hn, hb3, hm1, hb7, hgg, hb10, hx2, hb11, hsz, hb12, hx3, hb13, haa, hb14, hstay, hb15, hfst, hb16, hkk, hb17]
    refine K22 _ _ ?_
    refine W_weak (Weak.roSV (j := 2) (off := 6) rfl rfl) ?_
    simp only [go_sem]
    refine W_region [0, 8, 9, 10, 14] fun R hR => ?_
    simp only [go_sem, ldS_at hd, stX_at hd, ldS_sv hlt, stX_sv hlt, sv_ext hlt, sv_ext_sv hlt, hx0, hb1, hsteps, hb2, hn, hb3, hm1, hb7, hgg, hb10, hx2, hb11, hsz, hb12, hx3, hb13, haa, hb14, hstay, hb15, hfst, hb16, hkk, hb17]
    simp (disch := first | omega | (simp only [go_sem] <;> omega)) only [wrapI, wrapU, appX_exact, appX_tok]
    try simp only [go_sem, ldS_at hd, stX_at hd, ldS_sv hlt, stX_sv hlt, sv_ext hlt, sv_ext_sv hlt, hx0, hb1, hsteps, hb2, hn, hb3, hm1, hb7, hgg, hb10, hx2, hb11, hsz, hb12, hx3, hb13, haa, hb14, hstay, hb15, hfst, hb16, hkk, hb17]
    refine hR _ _ (K19 _ _ ?_); clear hR R; try clear K19 Z19
    try simp only [go_sem, ldS_at hd, stX_at hd, ldS_sv hlt, stX_sv hlt, sv_ext hlt, sv_ext_sv hlt, hx0, hb1, hsteps, hb2, hn, hb3, hm1, hb7, hgg, hb10, hx2, hb11, hsz, hb12, hx3, hb13, haa, hb14, hstay, hb15, hfst, hb16, hkk, hb17]
    refine W_region [0, 8, 9, 10, 14] fun R hR => ?_
    simp only [go_sem, ldS_at hd, stX_at hd, ldS_sv hlt, stX_sv hlt, sv_ext hlt, sv_ext_sv hlt, hx0, hb1, hsteps, hb2, hn, hb3, hm1, hb7, hgg, hb10, hx2, hb11, hsz, hb12, hx3, hb13, haa, hb14, hstay, hb15, hfst, hb16, hkk, hb17]
    try simp (disch := omega) only [wrapI, wrapU]
    refine hR _ _ ?_; clear hR R
    try simp only [go_sem, ldS_at hd, stX_at hd, ldS_sv hlt, stX_sv hlt, sv_ext hlt, sv_ext_sv hlt, hx0, hb1, hsteps, hb2, hn, hb3, hm1, hb7, hgg, hb10, hx2, hb11, hsz, hb12, hx3, hb13, haa, hb14, hstay, hb15, hfst, hb16, hkk, hb17]
    refine ⟨(k2, acg ++ [gres.1], bp), ?_, by (try simp only []); omega, ?_⟩
    ·refine Weak.trans (Weak.cutSV 2 3 (by omega) (by omega) hcl (by simp only [go_sem]) (by simp only [go_sem] <;> omega) (by simp only [go_sem] <;> omega)) ?_
     simp only [go_sem]
     rw [hg3]
     exact Weak.eq (by first | rfl | (simp only [go_sem]; done) | (simp [go_sem]; done) | (simp [go_sem]; omega)) (by first | rfl | (simp only [go_sem]; done) | (simp [go_sem]; done))
    try dsimp only
    refine ⟨by simp; omega, ?_⟩
    rw [hinv, hg3]
   simp only [go_sem, ldS_at hd, stX_at hd, ldS_sv hlt, stX_sv hlt, sv_ext hlt, sv_ext_sv hlt, hx0, hb1, hsteps, hb2, hn, hb3, hm1, hb7, hgg, hb10, hx2, hb11, hsz, hb12, hx3, hb13, haa, hb14, hstay, hb15, hfst, hb16, hkk, hb17]
   refine GWant_split (fun g1 => ?_) (fun g1 => ?_)
   ·try simp only [Bool.not_eq_true', Bool.not_eq_false'] at g1
    have n1 := g1; try simp only [nrm] at n1
    simp only [go_sem, ldS_at hd, stX_at hd, ldS_sv hlt, stX_sv hlt, sv_ext hlt, sv_ext_sv hlt, hx0, hb1, hsteps, hb2, hn, hb3, hm1, hb7, hgg, hb10, hx2, hb11, hsz, hb12, hx3, hb13, haa, hb14, hstay, hb15, hfst, hb16, hkk, hb17, g1]
    refine hR _ ?_
    try simp only [go_sem, ldS_at hd, stX_at hd, ldS_sv hlt, stX_sv hlt, sv_ext hlt, sv_ext_sv hlt, hx0, hb1, hsteps, hb2, hn, hb3, hm1, hb7, hgg, hb10, hx2, hb11, hsz, hb12, hx3, hb13, haa, hb14, hstay, hb15, hfst, hb16, hkk, hb17]
    all_goals
     first | rfl | (simp [*]; done) | (simp [*]; omega)
   try simp only [Bool.not_eq_true', Bool.not_eq_false'] at g1
   have n1 := g1; try simp only [nrm] at n1
   simp only [go_sem, ldS_at hd, stX_at hd, ldS_sv hlt, stX_sv hlt, sv_ext hlt, sv_ext_sv hlt, hx0, hb1, hsteps, hb2, hn, hb3, hm1, hb7, hgg, hb10, hx2, hb11, hsz, hb12, hx3, hb13, haa, hb14, hstay, hb15, hfst, hb16, hkk, hb17, g1]
   refine hR _ ?_
   try simp only [go_sem, ldS_at hd, stX_at hd, ldS_sv hlt, stX_sv hlt, sv_ext hlt, sv_ext_sv hlt, hx0, hb1, hsteps, hb2, hn, hb3, hm1, hb7, hgg, hb10, hx2, hb11, hsz, hb12, hx3, hb13, haa, hb14, hstay, hb15, hfst, hb16, hkk, hb17]
   all_goals
    first | rfl | (simp [*]; done) | (simp [*]; omega)
  try simp only [nrm] at c3
  obtain rfl : k2 = 0 := by omega
  simp only [townC, dret] at hinv
  refine W_exit ?_
  simp only [go_sem, ldS_at hd, stX_at hd, ldS_sv hlt, stX_sv hlt, sv_ext hlt, sv_ext_sv hlt, hx0, hb1, hsteps, hb2, hn, hb3, hm1, hb7, hgg, hb10]
  refine K15 _ _ ?_
  refine W_sr [8] fun R hR => ?_
  simp only [go_sem, ldS_at hd, stX_at hd, ldS_sv hlt, stX_sv hlt, sv_ext hlt, sv_ext_sv hlt, hx0, hb1, hsteps, hb2, hn, hb3, hm1, hb7, hgg, hb10]
  refine hR _ _ ?_; clear hR R
  try simp only [go_sem, ldS_at hd, stX_at hd, ldS_sv hlt, stX_sv hlt, sv_ext hlt, sv_ext_sv hlt, hx0, hb1, hsteps, hb2, hn, hb3, hm1, hb7, hgg, hb10]
  refine W_ret ?_
  simp only [go_sem, ldS_at hd, stX_at hd, ldS_sv hlt, stX_sv hlt, sv_ext hlt, sv_ext_sv hlt, hx0, hb1, hsteps, hb2, hn, hb3, hm1, hb7, hgg, hb10]
  refine ⟨.inr (by trivial), ?_⟩
  rw [hinv]; refine Fin_set hcl (by simp only [go_sem]) (by show resPV Tryz.prog _ _ [.cell 8 35] = some _; simp only [resPV, go_sem]; rfl) (Wk.ro (by simp only [go_sem]) ?_)
  try simp only [go_sem]
  all_goals
   simp only [go_sem]
 simp only [go_sem, ldS_at hd, stX_at hd, ldS_sv hlt, stX_sv hlt, sv_ext hlt, sv_ext_sv hlt, hx0, hb1, hsteps, hb2, hn, hb3, hm1, hb7]
 refine GWant_split (fun g2 => ?_) (fun g2 => ?_)
 ·try simp only [Bool.not_eq_true', Bool.not_eq_false'] at g2
  have n2 := g2; try simp only [nrm] at n2
  simp only [go_sem, ldS_at hd, stX_at hd, ldS_sv hlt, stX_sv hlt, sv_ext hlt, sv_ext_sv hlt, hx0, hb1, hsteps, hb2, hn, hb3, hm1, hb7, g2]
  refine hR _ ?_
  try simp only [go_sem, ldS_at hd, stX_at hd, ldS_sv hlt, stX_sv hlt, sv_ext hlt, sv_ext_sv hlt, hx0, hb1, hsteps, hb2, hn, hb3, hm1, hb7]
  all_goals
   first | rfl | (simp [*]; done) | (simp [*]; omega)
 try simp only [Bool.not_eq_true', Bool.not_eq_false'] at g2
 have n2 := g2; try simp only [nrm] at n2
 simp only [go_sem, ldS_at hd, stX_at hd, ldS_sv hlt, stX_sv hlt, sv_ext hlt, sv_ext_sv hlt, hx0, hb1, hsteps, hb2, hn, hb3, hm1, hb7, g2]
 refine hR _ ?_
 try simp only [go_sem, ldS_at hd, stX_at hd, ldS_sv hlt, stX_sv hlt, sv_ext hlt, sv_ext_sv hlt, hx0, hb1, hsteps, hb2, hn, hb3, hm1, hb7]
 all_goals
  first | rfl | (simp [*]; done) | (simp [*]; omega)
structure GroupV (n : Nat) (sts : List (Int × Int)) (g : Group) : Prop where
 s1 : 0 ≤ g.slo
 s2 : g.slo ≤ g.shi
 s3 : g.shi ≤ 1000000
 a1 : 0 ≤ g.alo
 a2 : g.alo ≤ g.ahi
 a3 : g.ahi ≤ 96
 t1 : 1 ≤ g.stay
 t2 : g.stay ≤ 96
 f1 : 0 ≤ g.first
 f2 : g.first < n
 p1 : g.path.length ≤ 4
 p2 : chkPath sts g.path g.first = 0
def StreetV (n : Nat) (s : Int × Int) : Prop := 0 ≤ s.1 ∧ s.1 < n ∧ 0 ≤ s.2 ∧ s.2 < n ∧ s.1 ≠ s.2
structure TownV (sq st gr : Nat) (t : Town) : Prop where
 r0 : 1 ≤ t.rooms.length
 r1 : t.rooms.length ≤ sq
 r2 : ∀ r, r ∈ t.rooms → 0 ≤ r ∧ r ≤ 500
 s1 : t.streets.length ≤ st
 s2 : ∀ s, s ∈ t.streets → StreetV t.rooms.length s
 w1 : 0 ≤ t.steps
 w2 : t.steps ≤ 96
 g1 : t.groups.length ≤ gr
 g2 : ∀ g, g ∈ t.groups → GroupV t.rooms.length t.streets g
theorem chkStreets_ok {n : Nat} : ∀ {l : List (Int × Int)}, (∀ s, s ∈ l → StreetV n s) → chkStreets n l = 0 := by
 intro l
 induction l with
 | nil => intro _; rfl
 | cons s r ih =>
  intro h
  obtain ⟨h1, h2, h3, h4, h5⟩ := h s (by simp)
  simp only [chkStreets]
  rw [if_neg (by simp [inR]; omega), if_neg h5]
  exact ih fun x hx => h x (by simp [hx])
theorem chkGroup_ok {t : Town} {g : Group} (h : GroupV t.rooms.length t.streets g) : chkGroup t g = 0 := by
 have e1 : chkSpan g.slo g.shi 1000000 = 0 := by
  have := h.s1; have := h.s2; have := h.s3
  unfold chkSpan; rw [if_neg (by simp [inR]; omega), if_neg (by omega)]
 have e2 : chkSpan g.alo g.ahi 96 = 0 := by
  have := h.a1; have := h.a2; have := h.a3
  unfold chkSpan; rw [if_neg (by simp [inR]; omega), if_neg (by omega)]
 have := h.t1; have := h.t2; have := h.f1; have := h.f2; have := h.p1
 unfold chkGroup
 rw [if_neg (by simp [e1]), if_neg (by simp [e2]), if_neg (by simp [inR]; omega), if_neg (by simp [inR]; omega), if_neg (by omega)]
 exact h.p2
theorem chkGroups_ok {t : Town} : ∀ {l : List Group}, (∀ g, g ∈ l → GroupV t.rooms.length t.streets g) → chkGroups t l = 0 := by
 intro l
 induction l with
 | nil => intro _; rfl
 | cons g r ih =>
  intro h
  simp only [chkGroups]
  rw [if_neg (by rw [chkGroup_ok (h g (by simp))]; simp)]
  exact ih fun x hx => h x (by simp [hx])
theorem TownV.ok {sq st gr : Nat} {t : Town} (h : TownV sq st gr t) (h1 : sq ≤ 12) (h2 : st ≤ 12) (h3 : gr ≤ 12) : chkTown t = 0 := by
 have := h.r0; have := h.r1; have := h.s1; have := h.w1; have := h.w2; have := h.g1
 have e : allIn 0 1000000 t.rooms = true := by
  unfold allIn; rw [List.all_eq_true]; intro r hr
  have := h.r2 r hr
  simp [inR]; omega
 unfold chkTown
 rw [if_neg (by omega), if_neg (by omega), if_neg (by simp [e]), if_neg (by omega), if_neg (by rw [chkStreets_ok h.s2]; simp), if_neg (by simp [inR]; omega), if_neg (by omega)]
 exact chkGroups_ok h.g2
def pathEnd (sts : List (Int × Int)) : List Int → Int → Int
 | [], a => a
 | s :: r, a => pathEnd sts r (other ((sts[s.toNat]?).getD (0, 0)) a)
theorem chkPath_snoc {sts : List (Int × Int)} {s : Int} (h1 : 0 ≤ s) (h2 : s < sts.length) : ∀ (p : List Int) (a : Int), chkPath sts p a = 0 → 0 ≤ other ((sts[s.toNat]?).getD (0, 0)) (pathEnd sts p a) →
 chkPath sts (p ++ [s]) a = 0 ∧ pathEnd sts (p ++ [s]) a = other ((sts[s.toNat]?).getD (0, 0)) (pathEnd sts p a) := by
 intro p
 induction p with
 | nil =>
  intro a _ ho
  obtain ⟨x, hx⟩ : ∃ x, sts[s.toNat]? = some x := ⟨_, List.getElem?_eq_getElem (by omega)⟩
  simp only [hx, Option.getD_some, pathEnd] at ho
  simp only [List.nil_append, chkPath, pathEnd, hx, Option.getD_some]
  rw [if_neg (by simp [inR]; omega), if_neg (by omega)]
  exact ⟨by simp [chkPath], trivial⟩
 | cons y r ih =>
  intro a hc ho
  simp only [List.cons_append, chkPath, pathEnd] at hc ho ⊢
  by_cases hy : (!inR y 0 ((sts.length : Int) - 1)) = true
  ·rw [if_pos hy] at hc; cases hc
  rw [if_neg hy] at hc ⊢
  cases hs : sts[y.toNat]? with
  | none => rw [hs] at hc; cases hc
  | some z =>
   rw [hs] at hc ho
   simp only [Option.getD_some] at hc ho ⊢
   by_cases hz : other z a < 0
   ·rw [if_pos hz] at hc; cases hc
   rw [if_neg hz] at hc ⊢
   exact ih _ hc ho
theorem pathD_ok {n : Nat} {sts : List (Int × Int)} {g : Group} (hg : GroupV n sts { g with path := [] }) : ∀ (k : Nat) (a : Int) (acc : List Int), (k ≠ 0 → 0 < sts.length) → acc.length + k ≤ 4 → chkPath sts acc g.first = 0 → pathEnd sts acc g.first = a →
 Holds (pathD sts g k a acc) (GroupV n sts) := by
 intro k
 induction k with
 | zero =>
  intro a acc _ hl hc _
  exact .ret ⟨hg.s1, hg.s2, hg.s3, hg.a1, hg.a2, hg.a3, hg.t1, hg.t2, hg.f1, hg.f2, by simpa using hl, hc⟩
 | succ k ih =>
  intro a acc h0 hl hc he
  have hs := h0 (by omega)
  refine (roll_bd sts.length).bind fun s hsb => ?_
  split
  ·rename_i ho
   obtain ⟨q1, q2⟩ := chkPath_snoc (s := s) (by omega) (by omega) acc g.first hc (by rw [he]; exact ho)
   exact ih _ _ (fun _ => hs) (by simp; omega) q1 (by rw [q2, he])
  exact ih _ _ (fun _ => hs) (by omega) hc he
theorem groupD_ok {n : Nat} (hn : 1 ≤ n) (sts : List (Int × Int)) : Holds (groupD n sts) (GroupV n sts) := by
 unfold groupD
 refine (anyOf_mem [30, 90] (by simp)).bind fun x hx => ?_
 have hx := mem2 hx
 refine (spanOf_bd 0 x (by omega)).bind fun sz hsz => ?_
 refine (anyOf_mem [0, 4] (by simp)).bind fun y hy => ?_
 have hy := mem2 hy
 refine (spanOf_bd 0 y (by omega)).bind fun a ha => ?_
 refine (mid_bd 1 4 (by omega)).bind fun st hst => ?_
 refine (roll_bd n).bind fun f hf => ?_
 refine (roll_bd 5).bind fun k hk => ?_
 refine pathD_ok ⟨by (try dsimp only); omega, by (try dsimp only); omega, by (try dsimp only); omega, by (try dsimp only); omega, by (try dsimp only); omega, by (try dsimp only); omega, by (try dsimp only); omega, by (try dsimp only); omega, by (try dsimp only); omega, by (try dsimp only); omega, by simp, rfl⟩ _ _ _ (fun h => ?_) ?_ rfl rfl
 ·split at h
  ·assumption
  exact absurd rfl h
 split <;> simp <;> omega
theorem fit_street {a m n : Int} (ha : 0 ≤ a) (ha2 : a < n) (hm : 1 ≤ m) (hm2 : m ≤ n - 1) : 0 ≤ fit (a + m) n ∧ fit (a + m) n < n ∧ a ≠ fit (a + m) n := by
 have hb := fit_bd (a + m) n
 have e : fit (a + m) n = (a + m) % n := by
  unfold fit
  rw [if_neg (by omega), Int.tmod_eq_emod_of_nonneg (by omega), if_neg (by have := Int.emod_nonneg (a + m) (show n ≠ 0 by omega); omega)]
 refine ⟨by omega, by omega, ?_⟩
 rw [e]
 by_cases h : a + m < n
 ·rw [Int.emod_eq_of_lt (by omega) h]; omega
 have : (a + m) % n = a + m - n := by
  rw [← Int.sub_emod_right, Int.emod_eq_of_lt (by omega) (by omega)]
 omega
theorem townC_ok {sq st gr : Nat} {steps : Int} {rooms : List Int} {sts : List (Int × Int)} (hr0 : 1 ≤ rooms.length) (hr1 : rooms.length ≤ sq) (hr2 : ∀ r, r ∈ rooms → 0 ≤ r ∧ r ≤ 500) (hs1 : sts.length ≤ st) (hs2 : ∀ s, s ∈ sts → StreetV rooms.length s)
 (hw1 : 0 ≤ steps) (hw2 : steps ≤ 96) : ∀ (k : Nat) (acc : List Group), acc.length + k ≤ gr → (∀ g, g ∈ acc → GroupV rooms.length sts g) → Holds (townC steps rooms.length rooms sts k acc) (TownV sq st gr) := by
 intro k
 induction k with
 | zero => intro acc hl hg; exact .ret ⟨hr0, hr1, hr2, hs1, hs2, hw1, hw2, by simpa using hl, hg⟩
 | succ k ih =>
  intro acc hl hg
  refine (groupD_ok hr0 sts).bind fun g hgv => ih _ (by simp; omega) fun x hx => ?_
  rcases List.mem_append.1 hx with hx | hx
  ·exact hg x hx
  simp only [List.mem_singleton] at hx; subst hx; exact hgv
theorem townB_ok {sq st gr : Nat} {steps : Int} {rooms : List Int} (hr0 : 1 ≤ rooms.length) (hr1 : rooms.length ≤ sq) (hr2 : ∀ r, r ∈ rooms → 0 ≤ r ∧ r ≤ 500) (hw1 : 0 ≤ steps) (hw2 : steps ≤ 96) : ∀ (k : Nat) (acc : List (Int × Int)), (k ≠ 0 → 1 < rooms.length) → acc.length + k ≤ st →
 (∀ s, s ∈ acc → StreetV rooms.length s) → Holds (townB gr steps rooms.length rooms k acc) (TownV sq st gr) := by
 intro k
 induction k with
 | zero =>
  intro acc _ hl hs
  refine (roll_bd (gr + 1)).bind fun g hg => ?_
  exact townC_ok hr0 hr1 hr2 (by simpa using hl) hs hw1 hw2 _ [] (by simp; omega) (fun g hg => by cases hg)
 | succ k ih =>
  intro acc h1 hl hs
  have hn := h1 (by omega)
  refine (roll_bd rooms.length).bind fun a ha => (mid_bd 1 ((rooms.length : Int) - 1) (by omega)).bind fun m hm => ih _ (fun _ => hn) (by simp; omega) fun x hx => ?_
  rcases List.mem_append.1 hx with hx | hx
  ·exact hs x hx
  simp only [List.mem_singleton] at hx; subst hx
  have := fit_street (a := a) (m := m) (n := rooms.length) (by omega) (by omega) (by omega) (by omega)
  exact ⟨by (try dsimp only); omega, by (try dsimp only); omega, this.1, this.2.1, this.2.2⟩
theorem townA_ok {sq st gr : Nat} {steps : Int} {n : Nat} (hn : 1 ≤ n) (hn2 : n ≤ sq) (hw1 : 0 ≤ steps) (hw2 : steps ≤ 96) : ∀ (k : Nat) (acc : List Int), acc.length + k = n → (∀ r, r ∈ acc → 0 ≤ r ∧ r ≤ 500) → Holds (townA st gr steps n k acc) (TownV sq st gr) := by
 intro k
 induction k with
 | zero =>
  intro acc hl hr
  have hl : acc.length = n := by simpa using hl
  subst hl
  refine (roll_bd (st + 1)).bind fun m hm => ?_
  refine townB_ok hn hn2 hr hw1 hw2 _ [] (fun h => ?_) ?_ (fun s hs => by cases hs)
  ·split at h
   ·omega
   exact absurd rfl h
  split <;> simp <;> omega
 | succ k ih =>
  intro acc hl hr
  refine (roll_bd 60).bind fun x hx => (roll_bd 150).bind fun y hy => (anyOf_mem [x, y, 500] (by simp)).bind fun z hz => ih _ (by simp; omega) fun w hw => ?_
  have hz := mem3 hz
  rcases List.mem_append.1 hw with hw | hw
  ·exact hr w hw
  simp only [List.mem_singleton] at hw; subst hw; omega
theorem townD_ok {sq st gr : Nat} (h : 1 ≤ sq) : Holds (townD sq st gr) (TownV sq st gr) := by
 unfold townD
 refine (anyOf_mem [4, 11] (by simp)).bind fun x hx => (roll_bd x).bind fun steps hst => (mid_bd 1 sq (by omega)).bind fun n hn => ?_
 have hx := mem2 hx
 obtain ⟨m, rfl⟩ : ∃ m : Nat, n = (m : Int) := ⟨n.toNat, by omega⟩
 rw [Int.toNat_natCast]
 exact townA_ok (by omega) (by omega) (by omega) (by omega) m [] (by simp) (fun r hr => by cases hr)
end Go.Proofs.YtpkkegbiddcodaaGreatDoor.Bd
