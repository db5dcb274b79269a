/-
  Parts of texts, and numbers out of texts, as the library makes them.
  Rows of a word and numbers, plainly: written and read back.
  Walks: rows, parts of texts, numbers (the document's).
  Minutes, plainly: what is written of a scale and a night, what is read of a text.
  Walks: rows of minutes are read (the document's); lengths.
  Walks: nights checked, as the document has them.
  Who stands ahead: an order in which no two schools are equal. The plain law.
  Points grow with marks; who may win. The plain law.
  Walks: absences and nights checked, who is missing, as the document has them.
  Walks: minutes are written (the document's).
  Builders among a walk's variables: written to, read.
  Walk: a row is written into a builder (the program's closure).
  (CheckNight stands in E9.)
  Walk: minutes are written (the program's).
  Walks: a number taken into bounds; a text that is blotted.
  Minutes read, plainly.
  Walk: a row of minutes is taken (the document's).
  Walk: minutes are read (the document's).
-/
import Derived.Test.YtpiepcplalkfiaaGreatDoorPe
import Derived.CallsIn
import Derived.RangeFuncLeaves
import Derived.RangeFuncRecord
import Derived.OrdersIn
import Derived.Below
import Derived.Laws.World
import Derived.Laws.StructEq
import Derived.Laws.BytesString
import Derived.Laws.Append
import Derived.MapKept
import Derived.ProofKit
import Derived.Carry
import Derived.Handed
import Derived.ChangeCalls
import Derived.Stop.Joined
import Derived.Lib.LaidTab
import Derived.Shelf.Strconv.Itoa3
import Derived.RangeFuncIn
import Derived.RangeFuncNested
import Derived.Test.YtpiepcplalkfiaaGreatDoorProg
import Derived.KernelRfl
import Derived.IntWalk
import Derived.Test.YtpiepcplalkfiaaGreatDoorRows
import Derived.Sort.OwnSortedInts
import Derived.Lib.SlicesCompact
import Derived.Shelf.Sort.Plain
import Derived.Shelf.Slices.In.SortNone
import Derived.Shelf.Small.Bits
import Derived.Shelf.Strings.Builder1
import Derived.Lib.SplitLaws
import Derived.Lib.AtoiAll
import Derived.Lib.ItoaNum
import Derived.Lib.IndexBytes
import Derived.Shelf.Strings.Split
import Derived.Shelf.Strconv.AtoiAll
import Derived.Lib.AtoiErrMem
import Derived.Lib.ItoaLen
import Derived.Lib.AtoiAllCases
import Derived.Test.YtpiepcplalkfiaaGreatDoorCards
import Derived.Test.YtpiepcplalkfiaaGreatDoorTie
import Derived.JoinedOf
import Derived.LaidMore
import Derived.LaidSub
import Derived.Lay
import Derived.SevenTiedAt
import Derived.Lib.LaidU8
import Derived.Shelf.Vars
set_option linter.unusedSimpArgs false
set_option linter.unusedVariables false
namespace Go.Proofs.YtpiepcplalkfiaaGreatDoor
open Go Go.RowKit Go.Shelf
set_option maxRecDepth 100000
def lays146_ren : Go.Shelf.Ren := ⟨fun | 146 => 62 | 221 => 91 | 268 => 118 | 138 => 119 | 143 => 120 | 195 => 138 | 197 => 139 | 218 => 140 | 219 => 141 | 260 => 155 | 217 => 156 | 225 => 157 | 224 => 158 | 267 => 159 | 266 => 174 | 314 => 175 | n => n, fun | 9 => 9 | 31 => 64 | 3 => 3 | 4 => 4 | 0 => 0 | 105 => 195 | 21 => 21 | 5 => 5 | 46 => 149 | 119 => 225 | 139 => 228 | 138 => 227 | 146 => 229 | 51 => 171 | n => n, fun | 1 => 1 | 3 => 4 | 4 => 5 | n => n⟩
theorem lays146 : Lays.n146 Tryz.prog lays146_ren where
 mixed := by kernel_rfl
 f138 := Tryz.func119.trans (congrArg some (by kernel_rfl))
 f143 := Tryz.func120.trans (congrArg some (by kernel_rfl))
 f146 := Tryz.func62.trans (congrArg some (by kernel_rfl))
 f195 := Tryz.func138.trans (congrArg some (by kernel_rfl))
 f197 := Tryz.func139.trans (congrArg some (by kernel_rfl))
 f217 := Tryz.func156.trans (congrArg some (by kernel_rfl))
 f218 := Tryz.func140.trans (congrArg some (by kernel_rfl))
 f219 := Tryz.func141.trans (congrArg some (by kernel_rfl))
 f221 := Tryz.func91.trans (congrArg some (by kernel_rfl))
 f224 := Tryz.func158.trans (congrArg some (by kernel_rfl))
 f225 := Tryz.func157.trans (congrArg some (by kernel_rfl))
 f260 := Tryz.func155.trans (congrArg some (by kernel_rfl))
 f266 := Tryz.func174.trans (congrArg some (by kernel_rfl))
 f267 := Tryz.func159.trans (congrArg some (by kernel_rfl))
 f268 := Tryz.func118.trans (congrArg some (by kernel_rfl))
 f314 := Tryz.func175.trans (congrArg some (by kernel_rfl))
 t0 := Tryz.underlying0
 a0 := Tryz.isAgg0
 z0 := Tryz.sizeOf0
 v0 := Tryz.zeroValue0
 t3 := Tryz.underlying3
 a3 := Tryz.isAgg3
 z3 := Tryz.sizeOf3
 v3 := Tryz.zeroValue3
 t4 := Tryz.underlying4
 a4 := Tryz.isAgg4
 z4 := Tryz.sizeOf4
 v4 := Tryz.zeroValue4
 t5 := Tryz.underlying5
 a5 := Tryz.isAgg5
 z5 := Tryz.sizeOf5
 v5 := Tryz.zeroValue5
 t9 := Tryz.underlying9
 a9 := Tryz.isAgg9
 z9 := Tryz.sizeOf9
 v9 := Tryz.zeroValue9
 t21 := Tryz.underlying21
 a21 := Tryz.isAgg21
 z21 := Tryz.sizeOf21
 v21 := Tryz.zeroValue21
 t31 := Tryz.underlying64
 a31 := Tryz.isAgg64
 z31 := Tryz.sizeOf64
 v31 := Tryz.zeroValue64
 t46 := Tryz.underlying149
 a46 := Tryz.isAgg149
 z46 := Tryz.sizeOf149
 v46 := Tryz.zeroValue149
 t51 := Tryz.underlying171
 a51 := Tryz.isAgg171
 z51 := Tryz.sizeOf171
 v51 := Tryz.zeroValue171
 t105 := Tryz.underlying195
 a105 := Tryz.isAgg195
 z105 := Tryz.sizeOf195
 v105 := Tryz.zeroValue195
 t119 := Tryz.underlying225
 a119 := Tryz.isAgg225
 z119 := Tryz.sizeOf225
 t138 := Tryz.underlying227
 a138 := Tryz.isAgg227
 z138 := Tryz.sizeOf227
 v138 := Tryz.zeroValue227
 t139 := Tryz.underlying228
 a139 := Tryz.isAgg228
 z139 := Tryz.sizeOf228
 v139 := Tryz.zeroValue228
 t146 := Tryz.underlying229
 a146 := Tryz.isAgg229
 z146 := Tryz.sizeOf229
 v146 := Tryz.zeroValue229
 g1 := by kernel_rfl
 g3 := by kernel_rfl
 g4 := by kernel_rfl
def lays172_ren : Go.Shelf.Ren := ⟨fun | 172 => 92 | 244 => 121 | 245 => 122 | 247 => 142 | 279 => 143 | 280 => 144 | 281 => 145 | 282 => 146 | 287 => 160 | 316 => 161 | 171 => 56 | 205 => 162 | 321 => 176 | 322 => 177 | 243 => 88 | 246 => 114 | 283 => 131 | 284 => 132 | 285 => 133 | 286 => 134 | 129 => 109 | 317 => 150 | 318 => 151 | 319 => 152 | 320 => 153 | 337 => 172 | 338 => 173 | n => n, fun | 9 => 9 | 3 => 3 | 75 => 118 | 76 => 119 | 4 => 4 | 5 => 5 | 167 => 198 | 37 => 114 | 0 => 0 | 85 => 199 | 2 => 2 | 168 => 201 | 53 => 104 | 175 => 213 | 46 => 149 | 210 => 217 | 127 => 152 | 145 => 235 | 143 => 233 | 21 => 21 | 171 => 188 | 173 => 190 | 212 => 210 | 51 => 171 | 20 => 20 | 213 => 211 | 232 => 238 | 233 => 239 | 80 => 124 | n => n, fun | 15 => 2 | 16 => 3 | 17 => 0 | 18 => 6 | 19 => 7 | n => n⟩
theorem lays172 : LaysC.n172 Tryz.prog lays172_ren where
 mixed := by kernel_rfl
 f129 := Tryz.func109.trans (congrArg some (by kernel_rfl))
 f171 := Tryz.func56.trans (congrArg some (by kernel_rfl))
 f172 := Tryz.func92.trans (congrArg some (by kernel_rfl))
 f205 := Tryz.func162.trans (congrArg some (by kernel_rfl))
 f243 := Tryz.func88.trans (congrArg some (by kernel_rfl))
 f244 := Tryz.func121.trans (congrArg some (by kernel_rfl))
 f245 := Tryz.func122.trans (congrArg some (by kernel_rfl))
 f246 := Tryz.func114.trans (congrArg some (by kernel_rfl))
 f247 := Tryz.func142.trans (congrArg some (by kernel_rfl))
 f279 := Tryz.func143.trans (congrArg some (by kernel_rfl))
 f280 := Tryz.func144.trans (congrArg some (by kernel_rfl))
 f281 := Tryz.func145.trans (congrArg some (by kernel_rfl))
 f282 := Tryz.func146.trans (congrArg some (by kernel_rfl))
 f283 := Tryz.func131.trans (congrArg some (by kernel_rfl))
 f284 := Tryz.func132.trans (congrArg some (by kernel_rfl))
 f285 := Tryz.func133.trans (congrArg some (by kernel_rfl))
 f286 := Tryz.func134.trans (congrArg some (by kernel_rfl))
 f287 := Tryz.func160.trans (congrArg some (by kernel_rfl))
 f316 := Tryz.func161.trans (congrArg some (by kernel_rfl))
 f317 := Tryz.func150.trans (congrArg some (by kernel_rfl))
 f318 := Tryz.func151.trans (congrArg some (by kernel_rfl))
 f319 := Tryz.func152.trans (congrArg some (by kernel_rfl))
 f320 := Tryz.func153.trans (congrArg some (by kernel_rfl))
 f321 := Tryz.func176.trans (congrArg some (by kernel_rfl))
 f322 := Tryz.func177.trans (congrArg some (by kernel_rfl))
 f337 := Tryz.func172.trans (congrArg some (by kernel_rfl))
 f338 := Tryz.func173.trans (congrArg some (by kernel_rfl))
 t0 := Tryz.underlying0
 a0 := Tryz.isAgg0
 z0 := Tryz.sizeOf0
 v0 := Tryz.zeroValue0
 t2 := Tryz.underlying2
 a2 := Tryz.isAgg2
 z2 := Tryz.sizeOf2
 v2 := Tryz.zeroValue2
 t3 := Tryz.underlying3
 a3 := Tryz.isAgg3
 z3 := Tryz.sizeOf3
 v3 := Tryz.zeroValue3
 t4 := Tryz.underlying4
 a4 := Tryz.isAgg4
 z4 := Tryz.sizeOf4
 v4 := Tryz.zeroValue4
 t5 := Tryz.underlying5
 a5 := Tryz.isAgg5
 z5 := Tryz.sizeOf5
 v5 := Tryz.zeroValue5
 t9 := Tryz.underlying9
 a9 := Tryz.isAgg9
 z9 := Tryz.sizeOf9
 v9 := Tryz.zeroValue9
 t20 := Tryz.underlying20
 a20 := Tryz.isAgg20
 z20 := Tryz.sizeOf20
 v20 := Tryz.zeroValue20
 t21 := Tryz.underlying21
 a21 := Tryz.isAgg21
 z21 := Tryz.sizeOf21
 v21 := Tryz.zeroValue21
 t37 := Tryz.underlying114
 a37 := Tryz.isAgg114
 z37 := Tryz.sizeOf114
 v37 := Tryz.zeroValue114
 t46 := Tryz.underlying149
 a46 := Tryz.isAgg149
 z46 := Tryz.sizeOf149
 v46 := Tryz.zeroValue149
 t51 := Tryz.underlying171
 a51 := Tryz.isAgg171
 z51 := Tryz.sizeOf171
 v51 := Tryz.zeroValue171
 t53 := Tryz.underlying104
 a53 := Tryz.isAgg104
 z53 := Tryz.sizeOf104
 v53 := Tryz.zeroValue104
 t75 := Tryz.underlying118
 a75 := Tryz.isAgg118
 z75 := Tryz.sizeOf118
 v75 := Tryz.zeroValue118
 t76 := Tryz.underlying119
 a76 := Tryz.isAgg119
 z76 := Tryz.sizeOf119
 v76 := Tryz.zeroValue119
 t85 := Tryz.underlying199
 a85 := Tryz.isAgg199
 z85 := Tryz.sizeOf199
 v85 := Tryz.zeroValue199
 t127 := Tryz.underlying152
 a127 := Tryz.isAgg152
 z127 := Tryz.sizeOf152
 v127 := Tryz.zeroValue152
 t143 := Tryz.underlying233
 a143 := Tryz.isAgg233
 z143 := Tryz.sizeOf233
 v143 := Tryz.zeroValue233
 t145 := Tryz.underlying235
 a145 := Tryz.isAgg235
 z145 := Tryz.sizeOf235
 v145 := Tryz.zeroValue235
 t167 := Tryz.underlying198
 a167 := Tryz.isAgg198
 z167 := Tryz.sizeOf198
 v167 := Tryz.zeroValue198
 t168 := Tryz.underlying201
 a168 := Tryz.isAgg201
 z168 := Tryz.sizeOf201
 v168 := Tryz.zeroValue201
 t171 := Tryz.underlying188
 a171 := Tryz.isAgg188
 z171 := Tryz.sizeOf188
 v171 := Tryz.zeroValue188
 t173 := Tryz.underlying190
 a173 := Tryz.isAgg190
 z173 := Tryz.sizeOf190
 v173 := Tryz.zeroValue190
 t175 := Tryz.underlying213
 a175 := Tryz.isAgg213
 z175 := Tryz.sizeOf213
 v175 := Tryz.zeroValue213
 t210 := Tryz.underlying217
 a210 := Tryz.isAgg217
 z210 := Tryz.sizeOf217
 v210 := Tryz.zeroValue217
 t212 := Tryz.underlying210
 a212 := Tryz.isAgg210
 z212 := Tryz.sizeOf210
 v212 := Tryz.zeroValue210
 t213 := Tryz.underlying211
 a213 := Tryz.isAgg211
 z213 := Tryz.sizeOf211
 t232 := Tryz.underlying238
 a232 := Tryz.isAgg238
 z232 := Tryz.sizeOf238
 v232 := Tryz.zeroValue238
 t233 := Tryz.underlying239
 a233 := Tryz.isAgg239
 z233 := Tryz.sizeOf239
 v233 := Tryz.zeroValue239
 g15 := by kernel_rfl
 g16 := by kernel_rfl
 g17 := by kernel_rfl
 g18 := by kernel_rfl
 g19 := by kernel_rfl
 t80 := Tryz.underlying124
 a80 := Tryz.isAgg124
 z80 := Tryz.sizeOf124
 v80 := Tryz.zeroValue124
 i0 := by kernel_rfl
 i2 := by kernel_rfl
 i3 := by kernel_rfl
 i4 := by kernel_rfl
 i5 := by kernel_rfl
 i9 := by kernel_rfl
 i20 := by kernel_rfl
 i21 := by kernel_rfl
 i37 := by kernel_rfl
 i46 := by kernel_rfl
 i51 := by kernel_rfl
 i53 := by kernel_rfl
 i75 := by kernel_rfl
 i76 := by kernel_rfl
 i80 := by kernel_rfl
 i85 := by kernel_rfl
 i127 := by kernel_rfl
 i143 := by kernel_rfl
 i145 := by kernel_rfl
 i167 := by kernel_rfl
 i168 := by kernel_rfl
 i171 := by kernel_rfl
 i173 := by kernel_rfl
 i175 := by kernel_rfl
 i210 := by kernel_rfl
 i212 := by kernel_rfl
 i232 := by kernel_rfl
 i233 := by kernel_rfl
 m15 := by kernel_rfl
 m16 := by kernel_rfl
 m17 := by kernel_rfl
 m18 := by kernel_rfl
 m19 := by kernel_rfl
 c0 := by kernel_rfl
 c2 := by kernel_rfl
 c3 := by kernel_rfl
 c4 := by kernel_rfl
 c5 := by kernel_rfl
 c9 := by kernel_rfl
 c20 := by kernel_rfl
 c21 := by kernel_rfl
 c37 := by kernel_rfl
 c46 := by kernel_rfl
 c51 := by kernel_rfl
 c53 := by kernel_rfl
 c75 := by kernel_rfl
 c76 := by kernel_rfl
 c80 := by kernel_rfl
 c85 := by kernel_rfl
 c127 := by kernel_rfl
 c143 := by kernel_rfl
 c145 := by kernel_rfl
 c167 := by kernel_rfl
 c168 := by kernel_rfl
 c171 := by kernel_rfl
 c173 := by kernel_rfl
 c175 := by kernel_rfl
 c210 := by kernel_rfl
 c212 := by kernel_rfl
 c213 := by kernel_rfl
 c232 := by kernel_rfl
 c233 := by kernel_rfl
theorem two_arg {Ψ : Ty} {p q : PV} {vals : Array Value} (ha : VRs Ψ [p, q] vals) : ∃ x y, vals = #[x, y] ∧ VR Ψ p x ∧ VR Ψ q y := by
 have := ha.1
 match vals, this with
 | ⟨[x, y]⟩, _ => exact ⟨x, y, rfl, ha.2 0 _ _ rfl rfl, ha.2 1 _ _ rfl rfl⟩
theorem Split_pc (Y : YEnv) (σ : Sg) (l : List UInt8) (b : UInt8) (hl : l.length < 4294967281) :
 PC Tryz.prog Y 62 [.str ⟨l.toArray⟩, .str ⟨#[b]⟩] σ (.isl ((splitL b l).map txt) .exact) σ := by
 refine PC_of_callsG (by kernel_rfl) fun Ψ vals w hs ha hG => ?_
 obtain ⟨x, y, rfl, hx, hy⟩ := two_arg ha
 obtain rfl := hx.str_inv
 obtain rfl := hy.str_inv
 have hgn : Tryz.prog.globalNamed "internal/bytealg.MaxLen" = some 1 := by kernel_rfl
 obtain ⟨m, hm⟩ := hG.max 1 hgn
 have hm' := hs.imm _ _ _ hm
 have hsz : (⟨l.toArray⟩ : ByteArray).size = l.length := by simp [ByteArray.size]
 refine (Any.strings_Split lays146 (by kernel_rfl) ⟨l.toArray⟩ ⟨#[b]⟩ m w (by rw [hsz]; exact hl) hm' (Nat.le_refl 1)).mono ?_
 rintro e2 w2 ⟨rfl, rfl⟩
 have hsp := splitB_one b ⟨l.toArray⟩
 have hdl : (⟨l.toArray⟩ : ByteArray).data.toList = l := by simp
 rw [hdl] at hsp
 have hlen := Lib.splitB_all ⟨#[b]⟩ (Nat.le_refl 1) 0 _ (⟨l.toArray⟩ : ByteArray) rfl
 have hln : ((splitL b l).map txt).length = Lib.countB ⟨l.toArray⟩ ⟨#[b]⟩ + 1 := by
  rw [List.length_map, ← hsp, List.length_map, hlen]
 obtain ⟨Ψ', le, hs', hv⟩ := hs.newSlice (es := 1) (l := (splitL b l).map txt) (C := ((Lib.splitB ⟨#[b]⟩ 0 (Lib.countB ⟨l.toArray⟩ ⟨#[b]⟩) ⟨l.toArray⟩).map Value.string).toArray) 9 (fun k e hk => by
  obtain ⟨p, _, rfl⟩ := List.mem_map.1 (List.mem_of_getElem? hk)
  rfl) (fun k e j p hk hj => by
  rw [← hsp, List.map_map, List.getElem?_map, Option.map_eq_some_iff] at hk
  obtain ⟨q, hq, rfl⟩ := hk
  obtain ⟨rfl, rfl⟩ := one_get hj
  refine ⟨.string q, by simp [hq], ?_⟩
  have : (⟨q.data.toList.toArray⟩ : ByteArray) = q := by simp
  show VR Ψ (.str ⟨q.data.toList.toArray⟩) _
  rw [this]
  exact .str q)
 rw [hln] at hv
 exact ⟨_, Ψ', rfl, le, hs', hv, (Below.refl _ _).alloc hs.base _⟩
def errPV (ok : Bool) : PV := match ok with
 | true => .niliface
 | false => .iface 201 .undef
theorem Atoi_pc (Y : YEnv) (σ : Sg) (l : List UInt8) (hl : l.length ≤ 281474976710656) :
 PC Tryz.prog Y 92 [.str ⟨l.toArray⟩] σ (.tuple [I (atoiV l), errPV (atoiOK l)]) σ := by
 refine PC_of_callsG (by kernel_rfl) fun Ψ vals w hs ha hG => ?_
 obtain ⟨x, rfl, hx⟩ := one_arg ha
 obtain rfl := hx.str_inv
 have hsz : (⟨l.toArray⟩ : ByteArray).size = l.length := by simp [ByteArray.size]
 have hdl : (⟨l.toArray⟩ : ByteArray).data.toList = l := by simp
 have low : ∀ {w2 : World}, Below w.heap.size w w2 → SR Ψ σ w2 ∧ Below Ψ.base w w2 := fun hb =>
  ⟨hs.more (fun k hk => hb.block k hk) hb.size, ⟨hb.os, hb.tape, hb.output, hb.size, fun k hk => hb.block k (Nat.lt_of_lt_of_le hk hs.base)⟩⟩
 have tup : ∀ (n : Int) (p : PV) (v : Value), VR Ψ p v → VR Ψ (.tuple [I n, p]) (.tuple #[.int .i64 n, v]) := fun n p v hp =>
  .tuple _ _ rfl fun j q y h1 h2 => by
   match j, h1, h2 with
   | 0, h1, h2 => simp at h1 h2; subst h1 h2; exact .int _ _
   | 1, h1, h2 => simp at h1 h2; subst h1 h2; exact hp
   | j + 2, h1, h2 => simp at h1
 unfold atoiV atoiOK
 cases hA : Lib.atoiAll l with
 | ok v =>
  refine (Any.strconv_Atoi_ok lays172 ⟨l.toArray⟩ (by rw [hsz]; omega) v (by rw [hdl]; exact hA) w).mono ?_
  rintro e2 w2 ⟨rfl, hw⟩
  have hb : Below w.heap.size w w2 := by
   rcases hw with rfl | ⟨t, rfl⟩
   ·exact Below.refl _ _
   exact Lib.bytesWorld_below _ _ _
  exact ⟨_, Ψ, rfl, Ty.le.refl _, (low hb).1, tup v _ _ .niliface, (low hb).2⟩
 | range =>
  have hgn : Tryz.prog.globalNamed "strconv.ErrRange" = some 3 := by kernel_rfl
  obtain ⟨te, xe, he⟩ := hG.err rfl "strconv.ErrRange" (by simp) 3 hgn
  refine (Any.strconv_Atoi_range lays172 ⟨l.toArray⟩ (by rw [hsz]; exact hl) (by rw [hdl]; exact hA) _ w (hs.imm _ _ _ he) (.inr ⟨_, _, rfl⟩)).mono ?_
  rintro e2 w2 ⟨N, rfl, _, _, hb⟩
  rw [hdl]
  exact ⟨_, Ψ, rfl, Ty.le.refl _, (low hb).1, tup _ _ _ (.iface _ _ _ (.undef _)), (low hb).2⟩
 | _ =>
  have hgn : Tryz.prog.globalNamed "strconv.ErrSyntax" = some 2 := by kernel_rfl
  obtain ⟨te, xe, he⟩ := hG.err rfl "strconv.ErrSyntax" (by simp) 2 hgn
  refine (Any.strconv_Atoi_syntax lays172 ⟨l.toArray⟩ (by rw [hsz]; exact hl) (by rw [hdl]; exact hA) _ w (hs.imm _ _ _ he) (.inr ⟨_, _, rfl⟩)).mono ?_
  rintro e2 w2 ⟨N, rfl, _, _, hb⟩
  exact ⟨_, Ψ, rfl, Ty.le.refl _, (low hb).1, tup 0 _ _ (.iface _ _ _ (.undef _)), (low hb).2⟩
open Go
def rowT (w : List UInt8) (l : List Int) : List UInt8 := w ++ l.flatMap fun n => 32 :: Lib.itoa n
theorem rowT_nil (w : List UInt8) : rowT w [] = w := by simp [rowT]
theorem rowT_cons (w : List UInt8) (n : Int) (l : List Int) : rowT w (n :: l) = rowT (w ++ 32 :: Lib.itoa n) l := by simp [rowT]
theorem rowT_take {w : List UInt8} {l : List Int} {i : Nat} {n : Int} (h : l[i]? = some n) : rowT w (l.take (i + 1)) = rowT w (l.take i) ++ 32 :: Lib.itoa n := by
 unfold rowT
 rw [List.take_add_one, h, List.flatMap_append]
 simp
/-- The numbers of some words; none: one of them is no number. -/
def numsE (k : Nat) : List (List UInt8) → Option (List Int)
 | [] => some []
 | w :: r => match numE k w with
  | none => none
  | some n => (numsE k r).map fun l => (n : Int) :: l
def parseE (k : Nat) (s : List UInt8) : Option (List UInt8 × List Int) := match splitL 32 s with
 | [] => none
 | w :: r => (numsE k r).map fun l => (w, l)
theorem numsE_len {k : Nat} : ∀ {ws : List (List UInt8)} {l : List Int}, numsE k ws = some l → l.length = ws.length := by
 intro ws
 induction ws with
 | nil => intro l h; simp [numsE] at h; subst h; rfl
 | cons w r ih =>
  intro l h
  simp only [numsE] at h
  split at h
  ·cases h
  simp only [Option.map_eq_some_iff] at h
  obtain ⟨l0, h0, rfl⟩ := h
  simp [ih h0]
open Go Go.RowKit
def Fits (l : List Int) : Prop := ∀ n, n ∈ l → -9223372036854775808 ≤ n ∧ n ≤ 9223372036854775807
theorem u8_48 {c : UInt8} : (c = 48) ↔ c.toNat = 48 := ⟨fun h => by rw [h]; rfl, fun h => UInt8.toNat.inj h⟩
theorem numFrom_cons (n : Nat) (c : UInt8) (r : List UInt8) : numFrom n (c :: r) = if 48 ≤ c.toNat ∧ c.toNat ≤ 57 then numFrom (10 * n + (c.toNat - 48)) r else none := rfl
theorem take_free {b : UInt8} {s : List UInt8} {f i : Nat} {c : UInt8} (h : b ∉ (s.drop f).take (i - f)) (hf : f ≤ i) (hx : s[i]? = some c) (hc : c ≠ b) : b ∉ (s.drop f).take (i + 1 - f) := by
 rw [show i + 1 - f = (i - f) + 1 by omega, List.take_add_one, List.getElem?_drop, show f + (i - f) = i by omega, hx]
 simp only [Option.toList_some, List.mem_append, List.mem_singleton, not_or]
 exact ⟨h, fun e => hc e.symm⟩
theorem drop_cut {s : List UInt8} {f i : Nat} {c : UInt8} (hf : f ≤ i) (hx : s[i]? = some c) : s.drop f = (s.drop f).take (i - f) ++ c :: s.drop (i + 1) := by
 have hl : i < s.length := (List.getElem?_eq_some_iff.1 hx).1
 have hv : s[i] = c := (List.getElem?_eq_some_iff.1 hx).2
 have h1 := (List.take_append_drop (i - f) (s.drop f)).symm
 rw [List.drop_drop, show f + (i - f) = i by omega, List.drop_eq_getElem_cons hl, hv] at h1
 exact h1
set_option maxHeartbeats 2000000 in
theorem rrow_pc (Y : YEnv) (σ : Sg) (w : List UInt8) (l : List Int) (o : Own) (hw : w.length ≤ 2 ^ 40) (hl : l.length ≤ 2 ^ 30) (hv : Fits l) :
 PC Tryz.prog Y 60 [txt w, .isl (l.map I) o] σ (txt (rowT w l ++ [10])) (σ) := by
 refine PC_of_W Tryz.func60 rfl (by kernel_rfl) Tryz.ntmps60 (by simp) fun hcl hca => ?_
 refine W_sr [0, 1] fun R hR => ?_
 simp only [go_sem]
 refine hR _ _ ?_; clear hR R
 try simp only [go_sem]
 refine W_seq fun Z2 K2 => ?_
 refine W_sr [0, 1, 5] fun R hR => ?_
 simp only [go_sem]
 refine hR _ _ ?_; clear hR R
 try simp only [go_sem]
 refine W_block ?_
 refine W_loopS (α := Nat × (List UInt8)) (fun ⟨i, acc⟩ => [(0, txt acc), (5, I i)]) (fun ⟨i, acc⟩ => i ≤ l.length ∧ rowT acc (l.drop i) = rowT w l ∧ acc.length ≤ w.length + 22 * i) (fun ⟨i, acc⟩ => l.length - i) ((0, w)) rfl (⟨Nat.zero_le _, rfl, by omega⟩) ?_
 rintro ⟨i, acc⟩ ⟨hi, hinv, hal⟩
 refine W_seq fun Z4 K4 => ?_
 refine W_sr [0, 1, 5, 9] fun R hR => ?_
 simp only [go_sem]
 refine hR _ _ ?_; clear hR R
 try simp only [go_sem]
 refine W_cond rfl (fun c1 => ?_) (fun c1 => ?_)
 ·
  try simp only [nrm] at c1
  have hi' : i < l.length := by first | assumption | omega
  obtain ⟨x, hx⟩ : ∃ x, l[i]? = some x := ⟨l[i], by simp [hi']⟩
  have hdrop : l.drop i = x :: l.drop (i + 1) := by
   rw [List.drop_eq_getElem_cons hi']; congr 1; exact (List.getElem?_eq_some_iff.1 hx).2
  have hxv := hv x (List.mem_of_getElem? hx)
  have hxl := Lib.itoa_length_le x hxv.1 hxv.2
  rw [hdrop, rowT_cons] at hinv
  refine W_skip (K4 _ _ ?_)
  refine W_seq fun Z6 K6 => ?_
  refine W_block ?_
  refine W_region [0, 1, 5] fun R hR => ?_
  simp only [go_sem, hx]
  try simp (disch := (first | omega | (simp only [go_sem, List.length_append] <;> omega))) only [wrapI, wrapU, appX_exact, appX_tok, strAdd, slT, slTa, slTb]
  try simp only [go_sem, hx]
  try simp (disch := (first | omega | (simp only [go_sem, List.length_append] <;> omega))) only [wrapI, wrapU, strAdd, slT, slTa, slTb]
  refine GCall_of (Itoa_pc Y _ x hxv.1 hxv.2) ?_
  simp only [go_sem, hx]
  try simp (disch := (first | omega | (simp only [go_sem, List.length_append] <;> omega))) only [wrapI, wrapU, appX_exact, appX_tok, strAdd, slT, slTa, slTb]
  try simp only [go_sem, hx]
  refine hR _ _ (K6 _ _ ?_); clear hR R; try clear K6 Z6
  try simp only [go_sem, hx]
  refine W_region [0, 1, 5] fun R hR => ?_
  simp only [go_sem, hx]
  try simp (disch := (first | omega | (simp only [go_sem, List.length_append] <;> omega))) only [wrapI, wrapU, strAdd, slT, slTa, slTb]
  refine hR _ _ ?_; clear hR R
  try simp only [go_sem, hx]
  refine ⟨(i + 1, acc ++ 32 :: Lib.itoa x), ?_, by (try simp only []); omega, ?_⟩
  ·refine Weak.eq (by simp only [List.append_assoc, List.cons_append, List.nil_append]; first | done | rfl) rfl
  try dsimp only
  exact ⟨hi', hinv, by simp only [List.length_append, List.length_cons]; omega⟩
 try simp only [nrm] at c1
 have hdrop : l.drop i = [] := List.drop_eq_nil_of_le (by omega)
 rw [hdrop, rowT_nil] at hinv
 refine W_exit ?_
 simp only [go_sem]
 refine K2 _ _ ?_
 refine W_sr [4] fun R hR => ?_
 simp only [go_sem]
 try simp (disch := (first | omega | (simp only [go_sem, List.length_append] <;> omega))) only [wrapI, wrapU, appX_exact, appX_tok, strAdd, slT, slTa, slTb]
 try simp only [go_sem]
 refine hR _ _ ?_; clear hR R
 try simp only [go_sem]
 refine W_ret ?_
 simp only [go_sem]
 refine ⟨.inr (by trivial), ?_⟩
 first | refine Fsa hcl rfl ?_ | refine Fse hcl rfl ?_
 try simp only [go_sem]
 all_goals
  first | rw [← hinv] | rfl
set_option maxHeartbeats 2000000 in
theorem rsplit_pc (Y : YEnv) (σ : Sg) (s : List UInt8) (b : UInt8) (hs : s.length ≤ 2 ^ 40) :
 PC Tryz.prog Y 64 [txt s, .int .u8 b.toNat] σ (.isl ((splitL b s).map txt) .ro) (σ) := by
 refine PC_of_W Tryz.func64 rfl (by kernel_rfl) Tryz.ntmps64 (by simp) fun hcl hca => ?_
 refine W_sr [0, 1] fun R hR => ?_
 simp only [go_sem]
 refine hR _ _ ?_; clear hR R
 try simp only [go_sem]
 refine W_sr [0, 1, 5] fun R hR => ?_
 simp only [go_sem]
 refine hR _ _ ?_; clear hR R
 try simp only [go_sem]
 refine W_sr [0, 1, 5, 6] fun R hR => ?_
 simp only [go_sem]
 refine hR _ _ ?_; clear hR R
 try simp only [go_sem]
 refine W_seq fun Z4 K4 => ?_
 refine W_sr [0, 1, 5, 6, 7] fun R hR => ?_
 simp only [go_sem]
 refine hR _ _ ?_; clear hR R
 try simp only [go_sem]
 refine W_block ?_
 refine W_weak (Weak.room (t := 5) (es := 1) rfl (by simp)) ?_
 refine W_weak (Weak.keep [0, 1, 5, 6, 7]) ?_
 simp only [go_sem]
 refine W_loopT (α := Nat × Nat × (List (List UInt8))) (fun ⟨i, f, out⟩ => [(5, .isl (out.map txt) (.tok σ.rooms.length out.length 1)), (6, I f), (7, I i)]) (fun ⟨i, f, out⟩ => σ.ext [] [out.length]) (fun ⟨i, f, out⟩ => i ≤ s.length + 1 ∧ out.length ≤ i ∧ (i ≤ s.length → f ≤ i ∧ out ++ splitL b (s.drop f) = splitL b s ∧ b ∉ (s.drop f).take (i - f)) ∧ (i = s.length + 1 → out = splitL b s)) (fun ⟨i, f, out⟩ => s.length + 1 - i) ((0, 0, [])) rfl (by first | rfl | (simp only [go_sem]; done) | (simp only [go_sem]; rfl)) (⟨by omega, Nat.le_refl _, fun _ => ⟨Nat.le_refl _, rfl, by simp⟩, fun h => by omega⟩) ?_
 rintro ⟨i, f, out⟩ ⟨hi, hol, hin, hend⟩
 refine W_seq fun Z6 K6 => ?_
 refine W_sr [0, 1, 5, 6, 7, 11] fun R hR => ?_
 simp only [go_sem]
 refine hR _ _ ?_; clear hR R
 try simp only [go_sem]
 refine W_cond rfl (fun c1 => ?_) (fun c1 => ?_)
 ·
  try simp only [nrm] at c1
  have hi1 : i ≤ s.length := by first | omega | (simp at c1; omega)
  obtain ⟨hfi, hsp, hfree⟩ := hin hi1
  refine W_skip (K6 _ _ ?_)
  refine W_seq fun Z8 K8 => ?_
  refine W_block ?_
  refine W_seq fun Z9 K9 => ?_
  refine W_regionJ [0, 1, 5, 6, 7, 24] [(24, .bool (decide (i = s.length) || decide (s[i]? = some b)))] ?_ fun R hR => ?_
  ·refine K9 _ _ ?_
   simp only [go_sem]
   refine W_cond rfl (fun c2 => ?_) (fun c2 => ?_)
   ·
    try simp only [nrm] at c2
    have hcut : ∀ c, s[i]? = some c → c = b := fun c hc => by
     simp only [Bool.or_eq_true, decide_eq_true_eq] at c2
     rcases c2 with h | h
     ·rw [h] at hc; simp at hc
     rw [hc] at h; injection h
    refine W_sr [0, 1, 5, 7] fun R hR => ?_
    simp only [go_sem]
    try simp (disch := (first | omega | (simp only [go_sem, List.length_append] <;> omega))) only [wrapI, wrapU, appX_exact, appX_tok, strAdd, slT, slTa, slTb]
    try simp only [go_sem]
    try simp (disch := (first | omega | (simp only [go_sem, List.length_append] <;> omega))) only [wrapI, wrapU, appX_exact, appX_tok, strAdd, slT, slTa, slTb]
    try simp only [go_sem]
    refine hR _ _ ?_; clear hR R
    try simp only [go_sem]
    refine W_region [0, 1, 5, 6, 7] fun R hR => ?_
    simp only [go_sem]
    try simp (disch := (first | omega | (simp only [go_sem, List.length_append] <;> omega))) only [wrapI, wrapU, strAdd, slT, slTa, slTb]
    refine hR _ _ (K8 _ _ ?_); clear hR R; try clear K8 Z8
    try simp only [go_sem]
    refine W_region [0, 1, 5, 6, 7] fun R hR => ?_
    simp only [go_sem]
    try simp (disch := (first | omega | (simp only [go_sem, List.length_append] <;> omega))) only [wrapI, wrapU, strAdd, slT, slTa, slTb]
    refine hR _ _ ?_; clear hR R
    try simp only [go_sem]
    refine ⟨(i + 1, i + 1, out ++ [(s.drop f).take (i - f)]), ?_, by (try simp only []); omega, ?_⟩
    ·first | exact Weak.refl | exact Wqq
    try dsimp only
    refine ⟨by omega, by simp; omega, fun h1 => ?_, fun h1 => ?_⟩
    ·obtain ⟨c, hx⟩ : ∃ c, s[i]? = some c := ⟨s[i]'(by omega), by simp⟩
     have hcb : c = b := hcut c hx
     have hd := drop_cut hfi hx
     rw [hcb] at hd
     refine ⟨Nat.le_refl _, ?_, by simp⟩
     rw [← hsp, hd, splitL_app _ hfree, List.append_assoc]
     rw [← hd]
     simp
    have hil : i = s.length := by omega
    have hd : (s.drop f).take (i - f) = s.drop f := List.take_of_length_le (by simp; omega)
    rw [hd] at hfree ⊢
    rw [← hsp, splitL_one hfree]
   try simp only [nrm] at c2
   have hnot : ∃ c, s[i]? = some c ∧ c ≠ b := by
    simp only [Bool.or_eq_false_iff, decide_eq_false_iff_not] at c2
    refine ⟨s[i]'(by omega), by simp, fun e => c2.2 ?_⟩
    rw [← e]; simp
   refine W_skip (K8 _ _ ?_)
   refine W_region [0, 1, 5, 6, 7] fun R hR => ?_
   simp only [go_sem]
   try simp (disch := (first | omega | (simp only [go_sem, List.length_append] <;> omega))) only [wrapI, wrapU, strAdd, slT, slTa, slTb]
   refine hR _ _ ?_; clear hR R
   try simp only [go_sem]
   refine ⟨(i + 1, f, out), ?_, by (try simp only []); omega, ?_⟩
   ·first | exact Weak.refl | exact Wqq
   try dsimp only
   obtain ⟨c, hx, hcb⟩ := hnot
   exact ⟨by omega, by omega, fun _ => ⟨by omega, hsp, take_free hfree hfi hx hcb⟩, fun h => by have := (List.getElem?_eq_some_iff.1 hx).1; omega⟩
  simp only [go_sem]
  refine GWant_split (fun g1 => ?_) (fun g1 => ?_)
  ·try simp only [Bool.not_eq_true', Bool.not_eq_false'] at g1
   have n1 := g1; try simp only [nrm] at n1
   have hil : i < s.length := by simp at g1; omega
   obtain ⟨c, hx⟩ : ∃ c, s[i]? = some c := ⟨s[i], by simp [hil]⟩
   have hix := ixT (k := .i64) hx
   simp only [go_sem, hix, g1]
   refine hR _ ?_
   all_goals try simp only [go_sem, hix]
   all_goals
    first | rfl | (simp [*]; done) | (simp_all; done) | (rw [u8_beq, hx]; simp [show ¬ i = s.length by omega])
  try simp only [Bool.not_eq_true', Bool.not_eq_false'] at g1
  have n1 := g1; try simp only [nrm] at n1
  simp only [go_sem, g1]
  refine hR _ ?_
  all_goals try simp only [go_sem]
  all_goals
   first | rfl | (simp [*]; done) | (simp_all; done) | (rw [u8_beq, hx]; simp [show ¬ i = s.length by omega])
 try simp only [nrm] at c1
 have hie : i = s.length + 1 := by first | omega | (simp at c1; omega)
 have hout := hend hie
 refine W_exit ?_
 simp only [go_sem]
 refine K4 _ _ ?_
 refine W_sr [4] fun R hR => ?_
 simp only [go_sem]
 refine hR _ _ ?_; clear hR R
 try simp only [go_sem]
 refine W_ret ?_
 simp only [go_sem]
 refine ⟨.inr (by trivial), ?_⟩
 refine Fin_same hcl rfl (Wk.ro (by simp only [go_sem]) ?_)
 try simp only [go_sem]
 all_goals
  subst hout; first | rfl | (simp only [go_sem]; done)
set_option maxHeartbeats 2000000 in
theorem rnumber_pc (Y : YEnv) (σ : Sg) (w : List UInt8) (hw : w.length ≤ 2 ^ 40) :
 PC Tryz.prog Y 93 [txt w] σ (.tuple [I (((numE 6 w).getD 0 : Nat) : Int), .bool (numE 6 w).isSome]) (σ) := by
 refine PC_of_W Tryz.func93 rfl (by kernel_rfl) Tryz.ntmps93 (by simp) fun hcl hca => ?_
 refine W_sr [0] fun R hR => ?_
 simp only [go_sem]
 refine hR _ _ ?_; clear hR R
 try simp only [go_sem]
 refine W_seq fun Z2 K2 => ?_
 refine W_seq fun Z3 K3 => ?_
 refine W_regionJ [0, 23] [(23, .bool (decide (w = [] ∨ 6 < w.length ∨ (w.head? = some 48 ∧ 1 < w.length))))] ?_ fun R hR => ?_
 ·refine K3 _ _ ?_
  simp only [go_sem]
  refine W_cond rfl (fun c1 => ?_) (fun c1 => ?_)
  ·
   try simp only [nrm] at c1
   have hnone : numE 6 w = none := by unfold numE; exact if_pos (by simpa using c1)
   refine W_sr [2, 3] fun R hR => ?_
   simp only [go_sem]
   refine hR _ _ ?_; clear hR R
   try simp only [go_sem]
   refine W_ret ?_
   simp only [go_sem]
   refine ⟨.inr (by trivial), ?_⟩
   first | refine Fsa hcl rfl ?_ | refine Fse hcl rfl ?_
   try simp only [go_sem]
   all_goals
    first | rfl | (rw [hnone]; rfl) | (rw [hsome, ← hinv]; rfl) | simp_all
  try simp only [nrm] at c1
  have hsome : numE 6 w = numFrom 0 w := by unfold numE; exact if_neg (by simpa using c1)
  have hl7 : w.length ≤ 6 := by simp at c1; omega
  refine W_skip (K2 _ _ ?_)
  refine W_sr [0, 4] fun R hR => ?_
  simp only [go_sem]
  refine hR _ _ ?_; clear hR R
  try simp only [go_sem]
  refine W_seq fun Z6 K6 => ?_
  refine W_sr [0, 4, 5] fun R hR => ?_
  simp only [go_sem]
  refine hR _ _ ?_; clear hR R
  try simp only [go_sem]
  refine W_block ?_
  refine W_loopS (α := Nat × Nat) (fun ⟨i, n⟩ => [(4, I n), (5, I i)]) (fun ⟨i, n⟩ => i ≤ w.length ∧ numFrom n (w.drop i) = numFrom 0 w ∧ n < 10 ^ i) (fun ⟨i, n⟩ => w.length - i) ((0, 0)) rfl (⟨Nat.zero_le _, rfl, by simp⟩) ?_
  rintro ⟨i, n⟩ ⟨hi, hinv, hn⟩
  refine W_seq fun Z8 K8 => ?_
  refine W_sr [0, 4, 5, 27] fun R hR => ?_
  simp only [go_sem]
  refine hR _ _ ?_; clear hR R
  try simp only [go_sem]
  refine W_cond rfl (fun c2 => ?_) (fun c2 => ?_)
  ·
   try simp only [nrm] at c2
   have hi' : i < w.length := by first | assumption | omega
   obtain ⟨c, hx⟩ : ∃ c, w[i]? = some c := ⟨w[i], by simp [hi']⟩
   have hdrop : w.drop i = c :: w.drop (i + 1) := by
    rw [List.drop_eq_getElem_cons hi']; congr 1; exact (List.getElem?_eq_some_iff.1 hx).2
   rw [hdrop, numFrom_cons] at hinv
   have hix := ixT (k := .i64) hx
   have hcb := c.toNat_lt
   refine W_skip (K8 _ _ ?_)
   refine W_seq fun Z10 K10 => ?_
   refine W_block ?_
   refine W_seq fun Z11 K11 => ?_
   refine W_seq fun Z12 K12 => ?_
   refine W_regionJ [0, 4, 5, 39] [(39, .bool (!decide (48 ≤ c.toNat ∧ c.toNat ≤ 57)))] ?_ fun R hR => ?_
   ·refine K12 _ _ ?_
    simp only [go_sem, hix]
    refine W_cond rfl (fun c3 => ?_) (fun c3 => ?_)
    ·
     try simp only [nrm] at c3
     have hnd : ¬ (48 ≤ c.toNat ∧ c.toNat ≤ 57) := by simpa using c3
     rw [if_neg hnd] at hinv
     have hnone := hsome.trans hinv.symm
     refine W_sr [2, 3] fun R hR => ?_
     simp only [go_sem, hix]
     refine hR _ _ ?_; clear hR R
     try simp only [go_sem, hix]
     refine W_ret ?_
     simp only [go_sem, hix]
     refine ⟨.inr (by trivial), ?_⟩
     first | refine Fsa hcl rfl ?_ | refine Fse hcl rfl ?_
     try simp only [go_sem]
     all_goals
      first | rfl | (rw [hnone]; rfl) | (rw [hsome, ← hinv]; rfl) | simp_all
    try simp only [nrm] at c3
    have hd : 48 ≤ c.toNat ∧ c.toNat ≤ 57 := by simpa using c3
    rw [if_pos hd] at hinv
    have hp : 10 ^ i ≤ 10 ^ 6 := Nat.pow_le_pow_right (by omega) (by omega)
    have hw1 : IntKind.u8.wrap ((c.toNat : Int) - 48) = ((c.toNat - 48 : Nat) : Int) := by rw [wrap8 (by omega) (by omega)]; omega
    have hw2 : IntKind.i64.wrap ((c.toNat - 48 : Nat) : Int) = ((c.toNat - 48 : Nat) : Int) := wrapI (by omega) (by omega)
    have hw3 : IntKind.i64.wrap (10 * (n : Int)) = ((10 * n : Nat) : Int) := by rw [wrapI (by omega) (by omega)]; omega
    have hw4 : IntKind.i64.wrap (((10 * n : Nat) : Int) + ((c.toNat - 48 : Nat) : Int)) = ((10 * n + (c.toNat - 48) : Nat) : Int) := by rw [wrapI (by omega) (by omega)]; omega
    refine W_skip (K11 _ _ ?_)
    refine W_region [0, 4, 5] fun R hR => ?_
    simp only [go_sem, hix, hw1, hw2, hw3, hw4]
    try simp (disch := (first | omega | (simp only [go_sem, List.length_append] <;> omega))) only [wrapI, wrapU, strAdd, slT, slTa, slTb]
    refine hR _ _ (K10 _ _ ?_); clear hR R; try clear K10 Z10
    try simp only [go_sem, hix, hw1, hw2, hw3, hw4]
    refine W_region [0, 4, 5] fun R hR => ?_
    simp only [go_sem, hix, hw1, hw2, hw3, hw4]
    try simp (disch := (first | omega | (simp only [go_sem, List.length_append] <;> omega))) only [wrapI, wrapU, strAdd, slT, slTa, slTb]
    refine hR _ _ ?_; clear hR R
    try simp only [go_sem, hix, hw1, hw2, hw3, hw4]
    refine ⟨(i + 1, 10 * n + (c.toNat - 48)), ?_, by (try simp only []); omega, ?_⟩
    ·first | exact Weak.refl | exact Wqq
    try dsimp only
    exact ⟨hi', hinv, by rw [Nat.pow_succ]; omega⟩
   simp only [go_sem, hix]
   refine GWant_split (fun g1 => ?_) (fun g1 => ?_)
   ·try simp only [Bool.not_eq_true', Bool.not_eq_false'] at g1
    have n1 := g1; try simp only [nrm] at n1
    simp only [go_sem, hix, g1]
    refine hR _ ?_
    all_goals try simp only [go_sem, hix]
    all_goals
     first | rfl | (simp [*]; done) | (simp only [List.cons.injEq, Prod.mk.injEq, PV.bool.injEq, true_and, and_true]; rw [Bool.eq_iff_iff]; simp only [Bool.not_eq_true', decide_eq_false_iff_not, decide_eq_true_eq, Bool.or_eq_true, Bool.and_eq_true]; first | omega | (simp_all; done) | (simp_all; omega))
   try simp only [Bool.not_eq_true', Bool.not_eq_false'] at g1
   have n1 := g1; try simp only [nrm] at n1
   simp only [go_sem, hix, g1]
   refine hR _ ?_
   all_goals try simp only [go_sem, hix]
   all_goals
    first | rfl | (simp [*]; done) | (simp only [List.cons.injEq, Prod.mk.injEq, PV.bool.injEq, true_and, and_true]; rw [Bool.eq_iff_iff]; simp only [Bool.not_eq_true', decide_eq_false_iff_not, decide_eq_true_eq, Bool.or_eq_true, Bool.and_eq_true]; first | omega | (simp_all; done) | (simp_all; omega))
  try simp only [nrm] at c2
  have hdrop : w.drop i = [] := List.drop_eq_nil_of_le (by omega)
  rw [hdrop] at hinv
  simp only [numFrom] at hinv
  refine W_exit ?_
  simp only [go_sem]
  refine K6 _ _ ?_
  refine W_sr [2, 3] fun R hR => ?_
  simp only [go_sem]
  refine hR _ _ ?_; clear hR R
  try simp only [go_sem]
  refine W_ret ?_
  simp only [go_sem]
  refine ⟨.inr (by trivial), ?_⟩
  first | refine Fsa hcl rfl ?_ | refine Fse hcl rfl ?_
  try simp only [go_sem]
  all_goals
   first | rfl | (rw [hnone]; rfl) | (rw [hsome, ← hinv]; rfl) | simp_all
 simp only [go_sem]
 refine GWant_split (fun g2 => ?_) (fun g2 => ?_)
 ·try simp only [Bool.not_eq_true', Bool.not_eq_false'] at g2
  have n2 := g2; try simp only [nrm] at n2
  simp only [go_sem, g2]
  refine GWant_split (fun g3 => ?_) (fun g3 => ?_)
  ·try simp only [Bool.not_eq_true', Bool.not_eq_false'] at g3
   have n3 := g3; try simp only [nrm] at n3
   have hwl : 0 < w.length := by first | omega | (simp at g2; omega) | (simp at n2; omega) | (rcases w with _ | ⟨c, r⟩ <;> simp_all; done)
   obtain ⟨c0, hc0⟩ : ∃ c, w[0]? = some c := ⟨w[0], by simp [hwl]⟩
   have hh : w.head? = some c0 := by rw [← hc0]; cases w <;> rfl
   have hix := ixT0 (k := .i64) hc0
   simp only [go_sem, hix, g2, g3]
   refine GWant_split (fun g4 => ?_) (fun g4 => ?_)
   ·try simp only [Bool.not_eq_true', Bool.not_eq_false'] at g4
    have n4 := g4; try simp only [nrm] at n4
    simp only [go_sem, hix, g2, g3, g4]
    refine hR _ ?_
    all_goals try simp only [go_sem, hix]
    all_goals
     first | rfl | (simp [*]; done) | (simp_all; done) | (simp only [List.cons.injEq, Prod.mk.injEq, PV.bool.injEq, true_and, and_true]; rw [Bool.eq_iff_iff]; rcases w with _ | ⟨c1, r⟩ <;> simp_all [u8_48] <;> omega) | (rcases w with _ | ⟨c1, r⟩ <;> simp_all [u8_48] <;> omega)
   try simp only [Bool.not_eq_true', Bool.not_eq_false'] at g4
   have n4 := g4; try simp only [nrm] at n4
   simp only [go_sem, hix, g2, g3, g4]
   refine hR _ ?_
   all_goals try simp only [go_sem, hix]
   all_goals
    first | rfl | (simp [*]; done) | (simp_all; done) | (simp only [List.cons.injEq, Prod.mk.injEq, PV.bool.injEq, true_and, and_true]; rw [Bool.eq_iff_iff]; rcases w with _ | ⟨c1, r⟩ <;> simp_all [u8_48] <;> omega) | (rcases w with _ | ⟨c1, r⟩ <;> simp_all [u8_48] <;> omega)
  try simp only [Bool.not_eq_true', Bool.not_eq_false'] at g3
  have n3 := g3; try simp only [nrm] at n3
  simp only [go_sem, g2, g3]
  refine hR _ ?_
  all_goals try simp only [go_sem]
  all_goals
   first | rfl | (simp [*]; done) | (simp_all; done) | (simp only [List.cons.injEq, Prod.mk.injEq, PV.bool.injEq, true_and, and_true]; rw [Bool.eq_iff_iff]; rcases w with _ | ⟨c1, r⟩ <;> simp_all [u8_48] <;> omega) | (rcases w with _ | ⟨c1, r⟩ <;> simp_all [u8_48] <;> omega)
 try simp only [Bool.not_eq_true', Bool.not_eq_false'] at g2
 have n2 := g2; try simp only [nrm] at n2
 simp only [go_sem, g2]
 refine hR _ ?_
 all_goals try simp only [go_sem]
 all_goals
  first | rfl | (simp [*]; done) | (simp_all; done) | (simp only [List.cons.injEq, Prod.mk.injEq, PV.bool.injEq, true_and, and_true]; rw [Bool.eq_iff_iff]; rcases w with _ | ⟨c1, r⟩ <;> simp_all [u8_48] <;> omega) | (rcases w with _ | ⟨c1, r⟩ <;> simp_all [u8_48] <;> omega)
def scaleW : List UInt8 := [115, 99, 97, 108, 101]
def orderW : List UInt8 := [111, 114, 100, 101, 114]
def marksW : List UInt8 := [109, 97, 114, 107, 115]
def absentW : List UInt8 := [97, 98, 115, 101, 110, 116]
def fineW : List UInt8 := [102, 105, 110, 101]
def endW : List UInt8 := [101, 110, 100]
def scNums (s : Scale) : List Int := [s.schools, s.matters, s.judges, s.drop, s.low, s.high]
def evNums (e : Envl) : List Int := [e.matter, e.judge, e.sl] ++ e.marks
def prNums (a : Int × Int) : List Int := [a.1, a.2]
def lineT (w : List UInt8) (l : List Int) : List UInt8 := rowT w l ++ [10]
def evT (l : List Envl) : List UInt8 := l.flatMap fun e => lineT marksW (evNums e)
def prT (w : List UInt8) (l : List (Int × Int)) : List UInt8 := l.flatMap fun a => lineT w (prNums a)
def headT (s : Scale) : List UInt8 := lineT scaleW (scNums s) ++ lineT orderW s.order
def minT (s : Scale) (n : Night) : List UInt8 := headT s ++ evT n.opened ++ prT absentW n.absent ++ prT fineW n.fines ++ lineT endW [(n.opened.length : Int)]
def minA (s : Scale) (n : Night) : List UInt8 × Int := if knownE s n ≠ 0 then ([], knownE s n) else if 3000 < (minT s n).length then ([], 6) else (minT s n, 0)
theorem evT_take {l : List Envl} {i : Nat} {b : Envl} (h : l[i]? = some b) : evT (l.take (i + 1)) = evT (l.take i) ++ lineT marksW (evNums b) := by
 unfold evT
 rw [List.take_add_one, h, List.flatMap_append]
 simp
theorem prT_take {w : List UInt8} {l : List (Int × Int)} {i : Nat} {b : Int × Int} (h : l[i]? = some b) : prT w (l.take (i + 1)) = prT w (l.take i) ++ lineT w (prNums b) := by
 unfold prT
 rw [List.take_add_one, h, List.flatMap_append]
 simp
def Lim (b : Int) (l : List Int) : Prop := ∀ n, n ∈ l → 0 ≤ n ∧ n ≤ b
theorem chkOrd_lim {m : Int} : ∀ (l p : List Int), chkOrd m p l = 0 → Lim (m - 1) l := by
 intro l
 induction l with
 | nil => intro p _ n hn; cases hn
 | cons x l ih =>
  intro p h n hn
  simp only [chkOrd] at h
  split at h
  ·cases h
  rename_i h1
  split at h
  ·cases h
  rcases List.mem_cons.1 hn with rfl | hn
  ·simpa [inR] using h1
  exact ih _ h n hn
theorem sealSum_bd : ∀ (l : List Int) (i : Nat), Lim 100 l → 0 ≤ sealSum i l := by
 intro l
 induction l with
 | nil => intro i _; simp [sealSum]
 | cons x l ih =>
  intro i h
  have h1 := ih (i + 1) fun n hn => h n (List.mem_cons_of_mem _ hn)
  have h2 := h x (List.mem_cons_self ..)
  simp only [sealSum]
  have : 0 ≤ ((i : Int) + 1) * x := Int.mul_nonneg (by omega) h2.1
  omega
structure EnvK (e : Envl) : Prop where
 m : 0 ≤ e.matter ∧ e.matter ≤ 5
 j : 0 ≤ e.judge ∧ e.judge ≤ 4
 s : 0 ≤ e.sl ∧ e.sl ≤ 996
 l : e.marks.length ≤ 8
 k : Lim 100 e.marks
structure NightK (s : Scale) (n : Night) : Prop where
 v : s.V
 sc : Lim 100 (scNums s)
 ol : s.order.length ≤ 6
 od : Lim 5 s.order
 el : n.opened.length ≤ 60
 ev : ∀ e, e ∈ n.opened → EnvK e
 al : n.absent.length ≤ 60
 ab : ∀ a, a ∈ n.absent → Lim 5 (prNums a)
 fl : n.fines.length ≤ 10
 fi : ∀ a, a ∈ n.fines → Lim 1000 (prNums a)
theorem marked_k {s : Scale} {e : Envl} (hv : s.V) (h : marked s (e.matter, e.judge) e.marks = 0) (hs : e.sl = sealOf (e.matter, e.judge) e.marks) : EnvK e := by
 unfold marked at h
 split at h
 ·cases h
 rename_i h1
 split at h
 ·cases h
 rename_i h2
 split at h
 ·cases h
 rename_i h3
 have h1' : (0 ≤ e.matter ∧ e.matter ≤ s.matters - 1) ∧ (0 ≤ e.judge ∧ e.judge ≤ s.judges - 1) := by simpa [ofSc, inR] using h1
 have hm := hv.mt
 have hj := hv.jd
 have hsc := hv.sc
 have hlo := hv.lo
 have hhi := hv.hi
 have hk : Lim 100 e.marks := fun n hn => by
  have h3' : ∀ x, x ∈ e.marks → s.low ≤ x ∧ x ≤ s.high := by simpa [outMarks, inR] using h3
  have := h3' n hn
  omega
 have hss := sealSum_bd e.marks 0 hk
 refine ⟨⟨h1'.1.1, by omega⟩, ⟨h1'.2.1, by omega⟩, ?_, by omega, hk⟩
 rw [hs]
 unfold sealOf
 simp only
 have e0 : 0 ≤ (e.matter + 1) * 101 + (e.judge + 1) * 1009 + sealSum 0 e.marks := by omega
 rw [Int.tmod_eq_emod_of_nonneg e0]
 have := Int.emod_nonneg ((e.matter + 1) * 101 + (e.judge + 1) * 1009 + sealSum 0 e.marks) (show (997 : Int) ≠ 0 by omega)
 have := Int.emod_lt_of_pos ((e.matter + 1) * 101 + (e.judge + 1) * 1009 + sealSum 0 e.marks) (show (0 : Int) < 997 by omega)
 omega
theorem openK_k {s : Scale} (hv : s.V) : ∀ (l : List Envl) (k : Kn), (openK s l k).1 = 0 → ∀ e, e ∈ l → EnvK e := by
 intro l
 induction l with
 | nil => intro k _ e he; cases he
 | cons x l ih =>
  intro k h e he
  simp only [openK] at h
  split at h
  ·rename_i h1; exact absurd h h1
  rename_i h1
  split at h
  ·cases h
  rename_i h2
  have h' : (openK s l (aput (x.matter, x.judge) x.marks k)).1 = 0 := by
   revert h
   repeat' split
   all_goals first | (intro h; exact h) | (intro h; cases h; done) | (intro h; simpa using h)
  rcases List.mem_cons.1 he with rfl | he
  ·exact marked_k hv (by simpa using h1) (by simpa using h2)
  exact ih _ h' e he
theorem missK_k {s : Scale} (hv : s.V) : ∀ (l : List (Int × Int)) (k : Kn), (missK s l k).1 = 0 → ∀ a, a ∈ l → Lim 5 (prNums a) := by
 intro l
 induction l with
 | nil => intro k _ e he; cases he
 | cons x l ih =>
  intro k h e he
  simp only [missK] at h
  split at h
  ·cases h
  rename_i h1
  split at h
  ·cases h
  rcases List.mem_cons.1 he with rfl | he
  ·have h1' : (0 ≤ e.1 ∧ e.1 ≤ s.matters - 1) ∧ (0 ≤ e.2 ∧ e.2 ≤ s.judges - 1) := by simpa [ofSc, inR] using h1
   have hm := hv.mt
   have hj := hv.jd
   intro n hn
   simp only [prNums, List.mem_cons, List.not_mem_nil, or_false] at hn
   rcases hn with rfl | rfl <;> omega
  exact ih _ h e he
theorem finesR_k {s : Scale} (hv : s.V) : ∀ (l : List (Int × Int)), finesR s l = 0 → ∀ a, a ∈ l → Lim 1000 (prNums a) := by
 intro l
 induction l with
 | nil => intro _ e he; cases he
 | cons x l ih =>
  intro h e he
  simp only [finesR] at h
  split at h
  ·cases h
  rename_i h1
  split at h
  ·cases h
  rename_i h2
  rcases List.mem_cons.1 he with rfl | he
  ·have h1' : 0 ≤ e.1 ∧ e.1 ≤ s.schools - 1 := by simpa [inR] using h1
   have h2' : 0 ≤ e.2 ∧ e.2 ≤ 1000 := by simpa [inR] using h2
   have hsc := hv.sc
   intro n hn
   simp only [prNums, List.mem_cons, List.not_mem_nil, or_false] at hn
   rcases hn with rfl | rfl <;> omega
  exact ih h e he
theorem night_k {s : Scale} {n : Night} (h : knownE s n = 0) : NightK s n := by
 obtain ⟨hv, h1, h2, h3, h4, _, h6⟩ := known_ok h
 have hsc := hv.sc; have hmt := hv.mt; have hjd := hv.jd; have hdr := hv.dr; have hlo := hv.lo; have hhi := hv.hi; have hol := hv.ol
 unfold finesE at h6
 split at h6
 ·cases h6
 rename_i h7
 refine ⟨hv, fun n hn => ?_, by omega, fun n hn => ?_, by omega, openK_k hv _ _ h2, by omega, missK_k hv _ _ h4, by omega, finesR_k hv _ h6⟩
 ·simp only [scNums, List.mem_cons, List.not_mem_nil, or_false] at hn
  rcases hn with rfl | rfl | rfl | rfl | rfl | rfl <;> omega
 have := chkOrd_lim _ _ hv.od n hn
 omega
theorem EnvK.nums {e : Envl} (h : EnvK e) : Lim 1000 (evNums e) := fun n hn => by
 have := h.m; have := h.j; have := h.s
 simp only [evNums, List.cons_append, List.nil_append, List.mem_cons] at hn
 rcases hn with rfl | rfl | rfl | hn <;> try omega
 have := h.k n hn
 omega
theorem splitL_mem {b : UInt8} : ∀ {s : List UInt8} {p : List UInt8}, p ∈ splitL b s → p.length ≤ s.length := by
 intro s
 induction s with
 | nil => intro p h; simp [splitL] at h; simp [h]
 | cons c r ih =>
  intro p h
  simp only [splitL] at h
  split at h
  ·rcases List.mem_cons.1 h with rfl | h
   ·simp
   have := ih h; simp; omega
  cases hs : splitL b r with
  | nil => exact absurd hs (splitL_ne b r)
  | cons p0 q =>
   rw [hs] at h ih
   rcases List.mem_cons.1 h with rfl | h
   ·have := ih (List.mem_cons_self ..); simp; omega
   have := ih (List.mem_cons_of_mem _ h); simp; omega
theorem splitL_le {b : UInt8} {s : List UInt8} : (splitL b s).length ≤ s.length + 1 := by
 rw [splitL_len]
 have := List.count_le_length (a := b) (l := s)
 omega
def parsePV : Option (List UInt8 × List Int) → PV
 | some p => .tuple [txt p.1, ints p.2, .bool true]
 | none => .tuple [txt [], ints [], .bool false]
theorem parseE_of {k : Nat} {s w : List UInt8} {ws : List (List UInt8)} (h : splitL 32 s = ws) (h0 : ws[0]? = some w) : parseE k s = (numsE k ws.tail).map fun l => (w, l) := by
 unfold parseE
 rw [h]
 cases ws with
 | nil => simp at h0
 | cons a r => simp at h0; subst h0; rfl
theorem tail_drop {α : Type} (l : List α) : l.tail = l.drop 1 := by cases l <;> rfl
theorem rsplit_32 (Y : YEnv) (σ : Sg) (s : List UInt8) (hs : s.length ≤ 2 ^ 40) : PC Tryz.prog Y 64 [txt s, .int .u8 32] σ (.isl ((splitL 32 s).map txt) .ro) σ := rsplit_pc Y σ s 32 hs
theorem rsplit_10 (Y : YEnv) (σ : Sg) (s : List UInt8) (hs : s.length ≤ 2 ^ 40) : PC Tryz.prog Y 64 [txt s, .int .u8 10] σ (.isl ((splitL 10 s).map txt) .ro) σ := rsplit_pc Y σ s 10 hs
theorem rowT_len : ∀ (l : List Int) (w : List UInt8), Fits l → (rowT w l).length ≤ w.length + 22 * l.length := by
 intro l
 induction l with
 | nil => intro w _; simp [rowT]
 | cons n l ih =>
  intro w h
  rw [rowT_cons]
  have h1 := ih (w ++ 32 :: Lib.itoa n) fun m hm => h m (List.mem_cons_of_mem _ hm)
  have h2 := h n (List.mem_cons_self ..)
  have h3 := Lib.itoa_length_le n h2.1 h2.2
  simp only [List.length_append, List.length_cons] at h1 ⊢
  omega
theorem lineT_len {w : List UInt8} {l : List Int} (h : Fits l) : (lineT w l).length ≤ w.length + 22 * l.length + 1 := by
 have := rowT_len l w h
 simp only [lineT, List.length_append, List.length_cons, List.length_nil]
 omega
theorem Lim.fits {b : Int} {l : List Int} (h : Lim b l) (hb : b ≤ 1000) : Fits l := fun n hn => by have := h n hn; omega
theorem evT_len : ∀ {l : List Envl}, (∀ e, e ∈ l → EnvK e) → (evT l).length ≤ 300 * l.length := by
 intro l
 induction l with
 | nil => intro _; simp [evT]
 | cons b l ih =>
  intro h
  have h1 := ih fun x hx => h x (List.mem_cons_of_mem _ hx)
  have hb := h b (List.mem_cons_self ..)
  have h2 := lineT_len (w := marksW) (hb.nums.fits (by omega))
  have h3 := hb.l
  have e1 : (evNums b).length = 3 + b.marks.length := by simp [evNums]; omega
  have e2 : marksW.length = 5 := rfl
  simp only [evT, List.flatMap_cons, List.length_append, List.length_cons] at h1 ⊢
  omega
theorem prT_len {w : List UInt8} (hw : w.length ≤ 6) : ∀ {l : List (Int × Int)}, (∀ a, a ∈ l → Fits (prNums a)) → (prT w l).length ≤ 60 * l.length := by
 intro l
 induction l with
 | nil => intro _; simp [prT]
 | cons b l ih =>
  intro h
  have h1 := ih fun x hx => h x (List.mem_cons_of_mem _ hx)
  have h2 := lineT_len (w := w) (h b (List.mem_cons_self ..))
  have e1 : (prNums b).length = 2 := rfl
  simp only [prT, List.flatMap_cons, List.length_append, List.length_cons] at h1 ⊢
  omega
theorem headT_len {s : Scale} {n : Night} (h : NightK s n) : (headT s).length ≤ 300 := by
 have h1 := lineT_len (w := scaleW) (h.sc.fits (by omega))
 have h2 := lineT_len (w := orderW) (h.od.fits (by omega))
 have h3 := h.ol
 have e1 : (scNums s).length = 6 := rfl
 have e2 : scaleW.length = 5 := rfl
 have e3 : orderW.length = 5 := rfl
 simp only [headT, List.length_append]
 omega
theorem Fits.one {n : Nat} (h : n ≤ 2 ^ 60) : Fits [(n : Int)] := fun m hm => by simp at hm; subst hm; omega
theorem endT_len {n : Nat} (h : n ≤ 2 ^ 60) : (lineT endW [(n : Int)]).length ≤ 30 := by
 have := lineT_len (w := endW) (Fits.one h)
 have e2 : endW.length = 3 := rfl
 simp only [List.length_cons, List.length_nil] at this
 omega
set_option maxHeartbeats 2000000 in
theorem rparse_pc (Y : YEnv) (σ : Sg) (s : List UInt8) (hs : s.length ≤ 2 ^ 40) :
 PC Tryz.prog Y 65 [txt s] σ (parsePV (parseE 6 s)) (σ) := by
 refine PC_of_W Tryz.func65 rfl (by kernel_rfl) Tryz.ntmps65 (by simp) fun hcl hca => ?_
 obtain ⟨ws, hws⟩ : ∃ z, splitL 32 s = z := ⟨_, rfl⟩
 have hwm : ∀ p, p ∈ ws → p.length ≤ 2 ^ 40 := fun p hp => by rw [← hws] at hp; have := splitL_mem hp; omega
 have hwn : ws ≠ [] := by rw [← hws]; exact splitL_ne 32 s
 have hwl : 0 < ws.length := List.length_pos_iff.2 hwn
 have hw40 : ws.length ≤ 2 ^ 40 + 1 := by rw [← hws]; have := splitL_le (b := 32) (s := s); omega
 obtain ⟨w0, hx0⟩ : ∃ w, ws[0]? = some w := ⟨ws[0], by simp [hwl]⟩
 have hpe := parseE_of (k := 6) hws hx0
 refine W_sr [0] fun R hR => ?_
 simp only [go_sem]
 refine hR _ _ ?_; clear hR R
 try simp only [go_sem]
 refine W_sr [5] fun R hR => ?_
 simp only [go_sem]
 refine GCall_of (PC.val (v' := .isl (ws.map txt) .ro) (rsplit_32 Y _ s hs) (by rw [hws])) ?_
 simp only [go_sem]
 refine hR _ _ ?_; clear hR R
 try simp only [go_sem]
 refine W_sr [5, 6] fun R hR => ?_
 simp only [go_sem]
 refine hR _ _ ?_; clear hR R
 try simp only [go_sem]
 refine W_seq fun Z4 K4 => ?_
 refine W_sr [5, 6, 7] fun R hR => ?_
 simp only [go_sem]
 refine hR _ _ ?_; clear hR R
 try simp only [go_sem]
 refine W_block ?_
 refine W_weak (Weak.room (t := 6) (es := 1) rfl (by simp)) ?_
 refine W_weak (Weak.keep [5, 6, 7]) ?_
 simp only [go_sem]
 refine W_loopT (α := Nat × (List Int)) (fun ⟨i, l⟩ => [(6, .isl (l.map I) (.tok σ.rooms.length l.length 1)), (7, I i)]) (fun ⟨i, l⟩ => σ.ext [] [l.length]) (fun ⟨i, l⟩ => 1 ≤ i ∧ i ≤ ws.length ∧ l.length ≤ i ∧ numsE 6 ws.tail = (numsE 6 (ws.drop i)).map fun r => l ++ r) (fun ⟨i, l⟩ => ws.length - i) ((1, [])) rfl (by first | rfl | (simp only [go_sem]; done) | (simp only [go_sem]; rfl)) (⟨Nat.le_refl _, hwl, Nat.zero_le _, by rw [tail_drop]; simp⟩) ?_
 rintro ⟨i, l⟩ ⟨hi0, hi, hll, hinv⟩
 refine W_seq fun Z6 K6 => ?_
 refine W_sr [5, 6, 7, 15] fun R hR => ?_
 simp only [go_sem]
 refine hR _ _ ?_; clear hR R
 try simp only [go_sem]
 refine W_cond rfl (fun c1 => ?_) (fun c1 => ?_)
 ·
  try simp only [nrm] at c1
  have hi' : i < ws.length := by first | assumption | omega
  obtain ⟨w, hx⟩ : ∃ w, ws[i]? = some w := ⟨ws[i], by simp [hi']⟩
  have hdrop : ws.drop i = w :: ws.drop (i + 1) := by
   rw [List.drop_eq_getElem_cons hi']; congr 1; exact (List.getElem?_eq_some_iff.1 hx).2
  rw [hdrop] at hinv
  simp only [numsE] at hinv
  obtain ⟨q, hq⟩ : ∃ z, numE 6 w = z := ⟨_, rfl⟩
  refine W_skip (K6 _ _ ?_)
  refine W_seq fun Z8 K8 => ?_
  refine W_block ?_
  refine W_sr [5, 6, 7, 8, 9] fun R hR => ?_
  simp only [go_sem, hx]
  refine GCall_of (PC.val (v' := .tuple [I ((q.getD 0 : Nat) : Int), .bool q.isSome]) (rnumber_pc Y _ w (hwm w (List.mem_of_getElem? hx))) (by rw [hq])) ?_
  simp only [go_sem, hx]
  refine hR _ _ ?_; clear hR R
  try simp only [go_sem, hx]
  refine W_seq fun Z10 K10 => ?_
  refine W_sr [5, 6, 7, 8, 27] fun R hR => ?_
  simp only [go_sem, hx]
  refine hR _ _ ?_; clear hR R
  try simp only [go_sem, hx]
  refine W_cond rfl (fun c2 => ?_) (fun c2 => ?_)
  ·
   try simp only [nrm] at c2
   have hqn : q = none := by cases q with
    | none => rfl
    | some n => simp at c2
   subst hqn
   rw [hq] at hinv
   simp only [Option.map_none] at hinv
   refine W_sr [2, 3, 4] fun R hR => ?_
   simp only [go_sem, hx]
   refine hR _ _ ?_; clear hR R
   try simp only [go_sem, hx]
   rw [hpe, hinv]
   simp only [Option.map_none, parsePV]
   refine W_ret ?_
   simp only [go_sem, hx]
   refine ⟨.inr (by trivial), ?_⟩
   refine Fin_same hcl rfl (Wk.ro (by simp only [go_sem]) ?_)
   try simp only [go_sem]
   all_goals
    first | done | rfl
  try simp only [nrm] at c2
  obtain ⟨n, rfl⟩ : ∃ n, q = some n := by cases q with
   | none => simp at c2
   | some n => exact ⟨n, rfl⟩
  rw [hq] at hinv
  simp only at hinv
  refine W_skip (K10 _ _ ?_)
  refine W_region [5, 6, 7] fun R hR => ?_
  simp only [go_sem, hx]
  try simp (disch := (first | omega | (simp only [go_sem, List.length_append] <;> omega))) only [wrapI, wrapU, appX_exact, appX_tok, strAdd, slT, slTa, slTb]
  try simp only [go_sem, hx]
  refine hR _ _ (K8 _ _ ?_); clear hR R; try clear K8 Z8
  try simp only [go_sem, hx]
  refine W_region [5, 6, 7] fun R hR => ?_
  simp only [go_sem, hx]
  try simp (disch := (first | omega | (simp only [go_sem, List.length_append] <;> omega))) only [wrapI, wrapU, strAdd, slT, slTa, slTb]
  refine hR _ _ ?_; clear hR R
  try simp only [go_sem, hx]
  refine ⟨(i + 1, l ++ [(n : Int)]), ?_, by (try simp only []); omega, ?_⟩
  ·first | exact Weak.refl | exact Wqq
  try dsimp only
  exact ⟨by omega, hi', by simp; omega, by rw [hinv]; cases numsE 6 (ws.drop (i + 1)) <;> simp⟩
 try simp only [nrm] at c1
 have hdrop : ws.drop i = [] := List.drop_eq_nil_of_le (by omega)
 rw [hdrop] at hinv
 simp only [numsE, Option.map_some, List.append_nil] at hinv
 rw [hinv] at hpe
 refine W_exit ?_
 simp only [go_sem, hx0]
 refine K4 _ _ ?_
 refine W_sr [2, 3, 4] fun R hR => ?_
 simp only [go_sem, hx0, Int.toNat_zero, Int.le_refl]
 refine hR _ _ ?_; clear hR R
 try simp only [go_sem, hx0]
 rw [hpe]
 simp only [Option.map_some, parsePV]
 refine W_ret ?_
 simp only [go_sem, hx0]
 refine ⟨.inr (by trivial), ?_⟩
 refine Fin_same hcl rfl (Wk.ro (by simp only [go_sem]) ?_)
 try simp only [go_sem]
 all_goals
  first | done | rfl
def isJ (a b : Int) (x : Envl) : Bool := (x.matter == a) && (x.judge == b)
theorem isJ_iff {a b : Int} {x : Envl} : isJ a b x = true ↔ jdE x = (a, b) := by simp [isJ, jdE]
def isA (a b : Int) (x : Int × Int) : Bool := (x.1 == a) && (x.2 == b)
theorem isA_iff {a b : Int} {x : Int × Int} : isA a b x = true ↔ x = (a, b) := by
 obtain ⟨c, d⟩ := x
 simp [isA]
theorem fIdx_find {a b : Int} : ∀ {l : List Envl} {p : Nat}, (fIdx (isJ a b) p l = -1 ∧ findE l (a, b) = none) ∨ ∃ (i : Nat) (x : Envl), fIdx (isJ a b) p l = ((p + i : Nat) : Int) ∧ l[i]? = some x ∧ jdE x = (a, b) ∧ findE l (a, b) = some x.marks := by
 intro l
 induction l with
 | nil => intro p; exact .inl ⟨rfl, rfl⟩
 | cons x l ih =>
  intro p
  rw [findE_cons]
  by_cases h : isJ a b x = true
  ·have e : fIdx (isJ a b) p (x :: l) = (p : Int) := by simp only [fIdx]; rw [if_pos h]
   rw [e, if_pos (isJ_iff.1 h)]
   exact .inr ⟨0, x, rfl, rfl, isJ_iff.1 h, rfl⟩
  have e : fIdx (isJ a b) p (x :: l) = fIdx (isJ a b) (p + 1) l := by simp only [fIdx]; rw [if_neg h]
  rw [e, if_neg (fun k => h (isJ_iff.2 k))]
  rcases ih (p := p + 1) with k | ⟨i, y, h1, h2, h3⟩
  ·exact .inl k
  exact .inr ⟨i + 1, y, by rw [h1]; congr 1; omega, h2, h3⟩
theorem findE_app (l m : List Envl) (j : Int × Int) : findE (l ++ m) j = match findE l j with | some v => some v | none => findE m j := by
 induction l with
 | nil => rfl
 | cons x l ih =>
  rw [List.cons_append, findE_cons, findE_cons]
  by_cases h : jdE x = j
  ·rw [if_pos h, if_pos h]
  rw [if_neg h, if_neg h, ih]
theorem findE_at {l : List Envl} {i : Nat} {x : Envl} (hx : l[i]? = some x) : findE l (jdE x) = some ((findE (l.take i) (jdE x)).getD x.marks) := by
 have h1 : i < l.length := (List.getElem?_eq_some_iff.1 hx).1
 have e : l = l.take i ++ x :: l.drop (i + 1) := by
  conv => lhs; rw [← List.take_append_drop i l]
  rw [List.drop_eq_getElem_cons h1, (List.getElem?_eq_some_iff.1 hx).2]
 conv => lhs; rw [e]
 rw [findE_app, findE_cons, if_pos rfl]
 cases findE (l.take i) (jdE x) with
 | none => rfl
 | some v => rfl
theorem findE_snoc {l : List Envl} {i : Nat} {x : Envl} (hx : l[i]? = some x) (j : Int × Int) : findE (l.take (i + 1)) j = match findE (l.take i) j with | some v => some v | none => if jdE x = j then some x.marks else none := by
 rw [List.take_add_one, hx]
 show findE (l.take i ++ [x]) j = _
 rw [findE_app, findE_cons, findE_nil]
/-- What is known so far, envelope by envelope. -/
def KAs (kk : Kn) (l : List Envl) : Prop := ∀ j, aget j kk = findE l j
theorem KAs.next {kk : Kn} {l : List Envl} {i : Nat} {x : Envl} (h : KAs kk (l.take i)) (hx : l[i]? = some x) (he : (findE (l.take i) (jdE x)).getD x.marks = x.marks) : KAs (aput (jdE x) x.marks kk) (l.take (i + 1)) := fun j => by
 rw [aget_put, findE_snoc hx, h j]
 by_cases e : j = jdE x
 ·subst e
  rw [if_pos rfl, if_pos rfl]
  cases hf : findE (l.take i) (jdE x) with
  | none => rfl
  | some v => rw [hf] at he; simp at he; rw [he]
 rw [if_neg e, if_neg (fun k => e k.symm)]
 cases findE (l.take i) j <;> rfl
theorem openK_step {s : Scale} {kk : Kn} {l : List Envl} {i : Nat} {x : Envl} (h : KAs kk (l.take i)) (r : List Envl) : (openK s (x :: r) kk).1 = if rJudge s (jdE x) ≠ 0 then rJudge s (jdE x) else if rMarks s x.marks ≠ 0 then rMarks s x.marks else if x.sl ≠ sealOf (jdE x) x.marks then 14 else if (findE (l.take i) (jdE x)).getD x.marks ≠ x.marks then 10 else (openK s r (aput (jdE x) x.marks kk)).1 := by
 have hj : (x.matter, x.judge) = jdE x := rfl
 have hm := marked_r s (jdE x) x.marks
 have hk := h (jdE x)
 simp only [openK, hj, hm]
 by_cases h1 : rJudge s (jdE x) = 0
 ·by_cases h2 : rMarks s x.marks = 0
  ·by_cases h3 : x.sl = sealOf (jdE x) x.marks
   ·rw [hk]
    cases hf : findE (l.take i) (jdE x) with
    | none => simp [h1, h2, h3]
    | some v =>
     by_cases h4 : v = x.marks
     ·simp [h1, h2, h3, h4]
     simp [h1, h2, h3, h4]
   simp [h1, h2, h3]
  simp [h1, h2]
 simp [h1]
def rOpen (s : Scale) (l : List Envl) : Int := if 60 < (l.length : Int) then 5 else (openK s l []).1
set_option maxHeartbeats 2000000 in
theorem rFind_pc (Y : YEnv) (σ : Sg) (l : List Envl) (a b : Int) (hl : l.length < 2 ^ 62) :
 PC Tryz.prog Y 135 [evs l, I a, I b] σ (I (fIdx (isJ a b) 0 l)) (σ) := by
 refine PC_of_W Tryz.func135 rfl (by kernel_rfl) Tryz.ntmps135 (by simp) fun hcl hca => ?_
 refine W_sr [0, 1, 2] fun R hR => ?_
 simp only [go_sem]
 refine hR _ _ ?_; clear hR R
 try simp only [go_sem]
 refine W_seq fun Z2 K2 => ?_
 refine W_sr [0, 1, 2, 7] fun R hR => ?_
 simp only [go_sem]
 refine hR _ _ ?_; clear hR R
 try simp only [go_sem]
 refine W_block ?_
 refine W_loopS (α := Nat) (fun (i : Nat) => [(7, I i)]) (fun (i : Nat) => i ≤ l.length ∧ fIdx (isJ a b) i (l.drop i) = fIdx (isJ a b) 0 l) (fun (i : Nat) => l.length - i) (0) rfl (⟨Nat.zero_le _, rfl⟩) ?_
 rintro i ⟨hi, hinv⟩
 refine W_seq fun Z4 K4 => ?_
 refine W_sr [0, 1, 2, 7, 11] fun R hR => ?_
 simp only [go_sem]
 refine hR _ _ ?_; clear hR R
 try simp only [go_sem]
 refine W_cond rfl (fun c1 => ?_) (fun c1 => ?_)
 ·
  try simp only [nrm] at c1
  have hi' : i < l.length := by first | assumption | omega
  obtain ⟨x, hx⟩ : ∃ x, l[i]? = some x := ⟨l[i], by simp [hi']⟩
  have hdrop : l.drop i = x :: l.drop (i + 1) := by
   rw [List.drop_eq_getElem_cons hi']; congr 1; exact (List.getElem?_eq_some_iff.1 hx).2
  rw [hdrop] at hinv
  simp only [fIdx] at hinv
  refine W_skip (K4 _ _ ?_)
  refine W_seq fun Z6 K6 => ?_
  refine W_block ?_
  refine W_seq fun Z7 K7 => ?_
  refine W_regionJ [0, 1, 2, 7, 29] [(29, .bool (isJ a b x))] ?_ fun R hR => ?_
  ·refine K7 _ _ ?_
   simp only [go_sem, hx]
   refine W_cond rfl (fun c2 => ?_) (fun c2 => ?_)
   ·
    try simp only [nrm] at c2
    refine W_sr [6] fun R hR => ?_
    simp only [go_sem, hx]
    refine hR _ _ ?_; clear hR R
    try simp only [go_sem, hx]
    refine W_ret ?_
    simp only [go_sem, hx]
    refine ⟨.inr (by trivial), ?_⟩
    first | refine Fsa hcl rfl ?_ | refine Fse hcl rfl ?_
    try simp only [go_sem]
    all_goals
     first | rfl | (simp_all; done) | (simp_all; omega)
   try simp only [nrm] at c2
   refine W_skip (K6 _ _ ?_)
   refine W_region [0, 1, 2, 7] fun R hR => ?_
   simp only [go_sem, hx]
   try simp (disch := omega) only [wrapI, wrapU]
   refine hR _ _ ?_; clear hR R
   try simp only [go_sem, hx]
   refine ⟨i + 1, ?_, by (try simp only []); omega, ?_⟩
   ·first | exact Weak.refl | exact Wqq
   try dsimp only
   exact ⟨hi', by simp_all⟩
  simp only [go_sem, hx]
  refine GWant_split (fun g1 => ?_) (fun g1 => ?_)
  ·try simp only [Bool.not_eq_true', Bool.not_eq_false'] at g1
   have n1 := g1; try simp only [nrm] at n1
   simp only [go_sem, hx, g1]
   refine hR _ ?_
   all_goals try simp only [go_sem, hx]
   all_goals
    first | (simp [isJ, *]; done) | (simp_all [isJ]; done)
  try simp only [Bool.not_eq_true', Bool.not_eq_false'] at g1
  have n1 := g1; try simp only [nrm] at n1
  simp only [go_sem, hx, g1]
  refine hR _ ?_
  all_goals try simp only [go_sem, hx]
  all_goals
   first | (simp [isJ, *]; done) | (simp_all [isJ]; done)
 try simp only [nrm] at c1
 have hdrop : l.drop i = [] := List.drop_eq_nil_of_le (by omega)
 rw [hdrop] at hinv
 simp only [fIdx] at hinv
 refine W_exit ?_
 simp only [go_sem]
 refine K2 _ _ ?_
 refine W_sr [6] fun R hR => ?_
 simp only [go_sem]
 refine hR _ _ ?_; clear hR R
 try simp only [go_sem]
 refine W_ret ?_
 simp only [go_sem]
 refine ⟨.inr (by trivial), ?_⟩
 first | refine Fsa hcl rfl ?_ | refine Fse hcl rfl ?_
 try simp only [go_sem]
 all_goals
  first | rfl | (simp_all; done) | (simp_all; omega)
set_option maxHeartbeats 2000000 in
theorem rAbs_pc (Y : YEnv) (σ : Sg) (l : List (Int × Int)) (a b : Int) (hl : l.length < 2 ^ 62) :
 PC Tryz.prog Y 154 [sts l, I a, I b] σ (.bool (l.any (isA a b))) (σ) := by
 refine PC_of_W Tryz.func154 rfl (by kernel_rfl) Tryz.ntmps154 (by simp) fun hcl hca => ?_
 obtain ⟨res, hres⟩ : ∃ r, l.any (isA a b) = r := ⟨_, rfl⟩
 rw [hres]
 refine W_sr [0, 1, 2] fun R hR => ?_
 simp only [go_sem]
 refine hR _ _ ?_; clear hR R
 try simp only [go_sem]
 refine W_seq fun Z2 K2 => ?_
 refine W_sr [0, 1, 2, 7] fun R hR => ?_
 simp only [go_sem]
 refine hR _ _ ?_; clear hR R
 try simp only [go_sem]
 refine W_block ?_
 refine W_loopS (α := Nat) (fun (i : Nat) => [(7, I i)]) (fun (i : Nat) => i ≤ l.length ∧ res = (l.drop i).any (isA a b)) (fun (i : Nat) => l.length - i) (0) rfl (⟨Nat.zero_le _, hres.symm⟩) ?_
 rintro i ⟨hi, hinv⟩
 refine W_seq fun Z4 K4 => ?_
 refine W_sr [0, 1, 2, 7, 11] fun R hR => ?_
 simp only [go_sem]
 refine hR _ _ ?_; clear hR R
 try simp only [go_sem]
 refine W_cond rfl (fun c1 => ?_) (fun c1 => ?_)
 ·
  try simp only [nrm] at c1
  have hi' : i < l.length := by first | assumption | omega
  obtain ⟨x, hx⟩ : ∃ x, l[i]? = some x := ⟨l[i], by simp [hi']⟩
  have hdrop : l.drop i = x :: l.drop (i + 1) := by
   rw [List.drop_eq_getElem_cons hi']; congr 1; exact (List.getElem?_eq_some_iff.1 hx).2
  rw [hdrop, List.any_cons] at hinv
  refine W_skip (K4 _ _ ?_)
  refine W_seq fun Z6 K6 => ?_
  refine W_block ?_
  refine W_seq fun Z7 K7 => ?_
  refine W_regionJ [0, 1, 2, 7, 29] [(29, .bool (isA a b x))] ?_ fun R hR => ?_
  ·refine K7 _ _ ?_
   simp only [go_sem, hx]
   refine W_cond rfl (fun c2 => ?_) (fun c2 => ?_)
   ·
    try simp only [nrm] at c2
    refine W_sr [6] fun R hR => ?_
    simp only [go_sem, hx]
    refine hR _ _ ?_; clear hR R
    try simp only [go_sem, hx]
    refine W_ret ?_
    simp only [go_sem, hx]
    refine ⟨.inr (by trivial), ?_⟩
    first | refine Fsa hcl rfl ?_ | refine Fse hcl rfl ?_
    try simp only [go_sem]
    all_goals
     first | rfl | (simp_all; done) | (simp_all; omega)
   try simp only [nrm] at c2
   refine W_skip (K6 _ _ ?_)
   refine W_region [0, 1, 2, 7] fun R hR => ?_
   simp only [go_sem, hx]
   try simp (disch := omega) only [wrapI, wrapU]
   refine hR _ _ ?_; clear hR R
   try simp only [go_sem, hx]
   refine ⟨i + 1, ?_, by (try simp only []); omega, ?_⟩
   ·first | exact Weak.refl | exact Wqq
   try dsimp only
   exact ⟨hi', by simp_all⟩
  simp only [go_sem, hx]
  refine GWant_split (fun g1 => ?_) (fun g1 => ?_)
  ·try simp only [Bool.not_eq_true', Bool.not_eq_false'] at g1
   have n1 := g1; try simp only [nrm] at n1
   simp only [go_sem, hx, g1]
   refine hR _ ?_
   all_goals try simp only [go_sem, hx]
   all_goals
    first | (simp [isA, *]; done) | (simp_all [isA]; done)
  try simp only [Bool.not_eq_true', Bool.not_eq_false'] at g1
  have n1 := g1; try simp only [nrm] at n1
  simp only [go_sem, hx, g1]
  refine hR _ ?_
  all_goals try simp only [go_sem, hx]
  all_goals
   first | (simp [isA, *]; done) | (simp_all [isA]; done)
 try simp only [nrm] at c1
 have hdrop : l.drop i = [] := List.drop_eq_nil_of_le (by omega)
 rw [hdrop, List.any_nil] at hinv
 refine W_exit ?_
 simp only [go_sem]
 refine K2 _ _ ?_
 refine W_sr [6] fun R hR => ?_
 simp only [go_sem]
 refine hR _ _ ?_; clear hR R
 try simp only [go_sem]
 refine W_ret ?_
 simp only [go_sem]
 refine ⟨.inr (by trivial), ?_⟩
 first | refine Fsa hcl rfl ?_ | refine Fse hcl rfl ?_
 try simp only [go_sem]
 all_goals
  first | rfl | (simp_all; done) | (simp_all; omega)
set_option maxHeartbeats 2000000 in
theorem rEq_pc (Y : YEnv) (σ : Sg) (xs ys : List Int) (o o2 : Own) (hx : xs.length < 2 ^ 50) (hy : ys.length < 2 ^ 50) :
 PC Tryz.prog Y 136 [intsO o xs, intsO o2 ys] σ (.bool (decide (xs = ys))) (σ) := by
 refine PC_of_W Tryz.func136 rfl (by kernel_rfl) Tryz.ntmps136 (by simp) fun hcl hca => ?_
 obtain ⟨res, hres⟩ : ∃ r, decide (xs = ys) = r := ⟨_, rfl⟩
 rw [hres]
 refine W_sr [0, 1] fun R hR => ?_
 simp only [go_sem]
 refine hR _ _ ?_; clear hR R
 try simp only [go_sem]
 refine W_seq fun Z2 K2 => ?_
 refine W_sr [0, 1, 5] fun R hR => ?_
 simp only [go_sem]
 refine hR _ _ ?_; clear hR R
 try simp only [go_sem]
 refine W_block ?_
 refine W_loopS (α := Nat) (fun (i : Nat) => [(5, I i)]) (fun (i : Nat) => i ≤ xs.length ∧ i ≤ ys.length ∧ res = decide (xs.drop i = ys.drop i)) (fun (i : Nat) => xs.length - i) (0) rfl (⟨Nat.zero_le _, Nat.zero_le _, by rw [← hres]; rfl⟩) ?_
 rintro i ⟨hi, hi2, hinv⟩
 refine W_seq fun Z4 K4 => ?_
 refine W_seq fun Z5 K5 => ?_
 refine W_regionJ [0, 1, 5, 15] [(15, .bool (decide (i < xs.length) && decide (i < ys.length)))] ?_ fun R hR => ?_
 ·refine K5 _ _ ?_
  simp only [go_sem]
  refine W_cond rfl (fun c1 => ?_) (fun c1 => ?_)
  ·
   try simp only [nrm] at c1
   have hb' : i < xs.length ∧ i < ys.length := by simpa using c1
   have hi' := hb'.1
   obtain ⟨x, hx⟩ : ∃ x, xs[i]? = some x := ⟨xs[i], by simp [hi']⟩
   obtain ⟨y, hy⟩ : ∃ y, ys[i]? = some y := ⟨ys[i]'(by omega), by simp⟩
   have d1 : xs.drop i = x :: xs.drop (i + 1) := by
    rw [List.drop_eq_getElem_cons hi']; congr 1; exact (List.getElem?_eq_some_iff.1 hx).2
   have d2 : ys.drop i = y :: ys.drop (i + 1) := by
    rw [List.drop_eq_getElem_cons (by omega)]; congr 1; exact (List.getElem?_eq_some_iff.1 hy).2
   rw [d1, d2] at hinv
   refine W_skip (K4 _ _ ?_)
   refine W_seq fun Z6 K6 => ?_
   refine W_block ?_
   refine W_seq fun Z7 K7 => ?_
   refine W_draw [0, 1, 5, 26] [0, 1, 2, 3, 4, 5, 6, 7, 8] [] [[], [], [0, 1], [0, 1, 2], [], [], [4, 5], [4, 5, 6], [0, 1, 2, 3, 4, 5, 6, 7]] mixed (by kernel_rfl) fun R hR => ?_
   simp only [go_sem, hx, hy]
   try refine And.intro (by repeat' (first | refine And.intro ?_ ?_ | exact GOr_right (fun _ => by simp only [go_sem, hx, hy]))) ?_
   refine hR _ _ (K7 _ _ ?_); clear hR R; try clear K7 Z7
   try simp only [go_sem, hx, hy]
   refine W_cond rfl (fun c2 => ?_) (fun c2 => ?_)
   ·
    try simp only [nrm] at c2
    refine W_sr [4] fun R hR => ?_
    simp only [go_sem, hx, hy]
    refine hR _ _ ?_; clear hR R
    try simp only [go_sem, hx, hy]
    refine W_ret ?_
    simp only [go_sem, hx, hy]
    refine ⟨.inr (by trivial), ?_⟩
    first | refine Fsa hcl rfl ?_ | refine Fse hcl rfl ?_
    try simp only [go_sem]
    all_goals
     first | (rw [hinv]; simp_all; done) | (rw [hinv]; congr 1; rw [Bool.eq_iff_iff]; simp; done) | (rw [hinv]; congr 1; rw [Bool.eq_iff_iff]; simp; omega) | (simp_all; done)
   try simp only [nrm] at c2
   refine W_skip (K6 _ _ ?_)
   refine W_region [0, 1, 5] fun R hR => ?_
   simp only [go_sem, hx, hy]
   try simp (disch := omega) only [wrapI, wrapU]
   refine hR _ _ ?_; clear hR R
   try simp only [go_sem, hx, hy]
   refine ⟨i + 1, ?_, by (try simp only []); omega, ?_⟩
   ·first | exact Weak.refl | exact Wqq
   try dsimp only
   refine ⟨by omega, by omega, ?_⟩
   rw [hinv]; simp_all
  try simp only [nrm] at c1
  have hb' : ¬ (i < xs.length ∧ i < ys.length) := by simpa using c1
  have hll : decide (xs.drop i = ys.drop i) = decide (xs.length = ys.length) := by
   by_cases e : i = xs.length
   ·rw [List.drop_eq_nil_of_le (by omega)]
    by_cases e2 : i = ys.length
    ·rw [List.drop_eq_nil_of_le (by omega)]; simp; omega
    have : ys.drop i ≠ [] := fun h => by rw [List.drop_eq_nil_iff] at h; omega
    rw [decide_eq_false (fun h => this h.symm), decide_eq_false (by omega)]
   have : xs.drop i ≠ [] := fun h => by rw [List.drop_eq_nil_iff] at h; omega
   rw [show ys.drop i = [] from List.drop_eq_nil_of_le (by omega), decide_eq_false this, decide_eq_false (by omega)]
  rw [hll] at hinv
  refine W_exit ?_
  simp only [go_sem]
  refine K2 _ _ ?_
  refine W_sr [4] fun R hR => ?_
  simp only [go_sem]
  refine hR _ _ ?_; clear hR R
  try simp only [go_sem]
  refine W_ret ?_
  simp only [go_sem]
  refine ⟨.inr (by trivial), ?_⟩
  first | refine Fsa hcl rfl ?_ | refine Fse hcl rfl ?_
  try simp only [go_sem]
  all_goals
   first | (rw [hinv]; simp_all; done) | (rw [hinv]; congr 1; rw [Bool.eq_iff_iff]; simp; done) | (rw [hinv]; congr 1; rw [Bool.eq_iff_iff]; simp; omega) | (simp_all; done)
 simp only [go_sem]
 refine GWant_split (fun g1 => ?_) (fun g1 => ?_)
 ·try simp only [Bool.not_eq_true', Bool.not_eq_false'] at g1
  have n1 := g1; try simp only [nrm] at n1
  simp only [go_sem, g1]
  refine hR _ ?_
  all_goals try simp only [go_sem]
  all_goals
   first | (simp [*]; done) | (simp_all; done)
 try simp only [Bool.not_eq_true', Bool.not_eq_false'] at g1
 have n1 := g1; try simp only [nrm] at n1
 simp only [go_sem, g1]
 refine hR _ ?_
 all_goals try simp only [go_sem]
 all_goals
  first | (simp [*]; done) | (simp_all; done)
set_option maxHeartbeats 4000000 in
theorem rOpen_pc (Y : YEnv) (σ : Sg) (s : Scale) (l : List Envl) (hv : s.V) (hl : l.length < 2 ^ 40) (hm : ∀ x, x ∈ l → x.marks.length < 2 ^ 40) :
 PC Tryz.prog Y 116 [scPV s, evs l] σ (I (rOpen s l)) (σ) := by
 refine PC_of_W Tryz.func116 rfl (by kernel_rfl) Tryz.ntmps116 (by simp) fun hcl hca => ?_
 have q1 := hv.mt
 have q2 := hv.jd
 have q3 := hv.sc
 have q4 := hv.lo
 have q5 := hv.hi
 obtain ⟨res, hres⟩ : ∃ r, rOpen s l = r := ⟨_, rfl⟩
 rw [hres]
 unfold rOpen at hres
 refine W_sr [1, 2] fun R hR => ?_
 simp only [go_sem]
 refine hR _ _ ?_; clear hR R
 try simp only [go_sem]
 refine W_seq fun Z2 K2 => ?_
 refine W_sr [1, 2, 11] fun R hR => ?_
 simp only [go_sem]
 refine hR _ _ ?_; clear hR R
 try simp only [go_sem]
 refine W_cond rfl (fun c1 => ?_) (fun c1 => ?_)
 ·
  try simp only [nrm] at c1
  refine W_sr [4] fun R hR => ?_
  simp only [go_sem]
  refine hR _ _ ?_; clear hR R
  try simp only [go_sem]
  refine W_ret ?_
  simp only [go_sem]
  refine ⟨.inr (by trivial), ?_⟩
  first | refine Fsa hcl rfl ?_ | refine Fse hcl rfl ?_
  try simp only [go_sem]
  all_goals
   rw [← hres, if_pos (by omega)]
 try simp only [nrm] at c1
 rw [if_neg (by omega)] at hres
 refine W_skip (K2 _ _ ?_)
 refine W_seq fun Z5 K5 => ?_
 refine W_sr [1, 2, 5] fun R hR => ?_
 simp only [go_sem]
 refine hR _ _ ?_; clear hR R
 try simp only [go_sem]
 refine W_block ?_
 refine W_loopS (α := Nat × Kn) (fun ⟨i, kk⟩ => [(5, I i)]) (fun ⟨i, kk⟩ => i ≤ l.length ∧ KAs kk (l.take i) ∧ res = (openK s (l.drop i) kk).1) (fun ⟨i, kk⟩ => l.length - i) ((0, [])) rfl (⟨Nat.zero_le _, (fun j => rfl), hres.symm⟩) ?_
 rintro ⟨i, kk⟩ ⟨hi, hka, hinv⟩
 refine W_seq fun Z7 K7 => ?_
 refine W_sr [1, 2, 5, 15] fun R hR => ?_
 simp only [go_sem]
 refine hR _ _ ?_; clear hR R
 try simp only [go_sem]
 refine W_cond rfl (fun c2 => ?_) (fun c2 => ?_)
 ·
  try simp only [nrm] at c2
  have hi' : i < l.length := by first | assumption | omega
  obtain ⟨x, hx⟩ : ∃ x, l[i]? = some x := ⟨l[i], by simp [hi']⟩
  have hdrop : l.drop i = x :: l.drop (i + 1) := by
   rw [List.drop_eq_getElem_cons hi']; congr 1; exact (List.getElem?_eq_some_iff.1 hx).2
  have hxl : x ∈ l := List.mem_of_getElem? hx
  rw [hdrop, openK_step hka] at hinv
  refine W_skip (K7 _ _ ?_)
  refine W_seq fun Z9 K9 => ?_
  refine W_block ?_
  refine W_seq fun Z10 K10 => ?_
  refine W_seq fun Z11 K11 => ?_
  refine W_draw [1, 2, 5, 6] [0, 1, 2, 3, 4, 5, 6, 7, 8, 9, 10, 11, 12] [] [[], [], [], [1, 2], [1, 2, 3], [1, 2, 3, 4], [], [], [6, 7], [6, 7, 8], [6, 7, 8, 9], [0, 1, 2, 3, 4, 5, 6, 7, 8, 9, 10], [0, 1, 2, 3, 4, 5, 6, 7, 8, 9, 10, 11]] mixed (by kernel_rfl) fun R hR => ?_
  simp only [go_sem, hx]
  refine GCall_of (rJudge_pc Y _ s x.matter x.judge hv) ?_
  simp only [go_sem, hx]
  try refine And.intro (by repeat' (first | refine And.intro ?_ ?_ | exact GOr_right (fun _ => by simp only [go_sem, hx]))) ?_
  refine hR _ _ (K11 _ _ ?_); clear hR R; try clear K11 Z11
  try simp only [go_sem, hx]
  refine W_sr [1, 2, 5, 6, 31] fun R hR => ?_
  simp only [go_sem, hx]
  refine hR _ _ ?_; clear hR R
  try simp only [go_sem, hx]
  refine W_cond rfl (fun c3 => ?_) (fun c3 => ?_)
  ·
   try simp only [nrm] at c3
   refine W_sr [4] fun R hR => ?_
   simp only [go_sem, hx]
   refine hR _ _ ?_; clear hR R
   try simp only [go_sem, hx]
   refine W_ret ?_
   simp only [go_sem, hx]
   refine ⟨.inr (by trivial), ?_⟩
   first | refine Fsa hcl rfl ?_ | refine Fse hcl rfl ?_
   try simp only [go_sem]
   all_goals
    rw [hinv]; simp [jdE, c3]
  try simp only [nrm] at c3
  refine W_skip (K10 _ _ ?_)
  refine W_seq fun Z14 K14 => ?_
  refine W_seq fun Z15 K15 => ?_
  refine W_draw [1, 2, 5, 7] [0, 1, 2, 3, 4, 5, 6, 7] [] [[], [], [], [1, 2], [1, 2, 3], [1, 2, 3, 4], [0, 1, 2, 3, 4, 5], [0, 1, 2, 3, 4, 5, 6]] mixed (by kernel_rfl) fun R hR => ?_
  simp only [go_sem, hx]
  refine GCall_of (rMarks_pc Y _ s x.marks .ro (hm x hxl)) ?_
  simp only [go_sem, hx]
  try refine And.intro (by repeat' (first | refine And.intro ?_ ?_ | exact GOr_right (fun _ => by simp only [go_sem, hx]))) ?_
  refine hR _ _ (K15 _ _ ?_); clear hR R; try clear K15 Z15
  try simp only [go_sem, hx]
  refine W_sr [1, 2, 5, 7, 41] fun R hR => ?_
  simp only [go_sem, hx]
  refine hR _ _ ?_; clear hR R
  try simp only [go_sem, hx]
  refine W_cond rfl (fun c4 => ?_) (fun c4 => ?_)
  ·
   try simp only [nrm] at c4
   refine W_sr [4] fun R hR => ?_
   simp only [go_sem, hx]
   refine hR _ _ ?_; clear hR R
   try simp only [go_sem, hx]
   refine W_ret ?_
   simp only [go_sem, hx]
   refine ⟨.inr (by trivial), ?_⟩
   first | refine Fsa hcl rfl ?_ | refine Fse hcl rfl ?_
   try simp only [go_sem]
   all_goals
    rw [hinv]; simp [jdE, c3, c4]
  try simp only [nrm] at c4
  have hmk : marked s (jdE x) x.marks = 0 := by rw [marked_r]; simp [jdE, c3, c4]
  obtain ⟨k1, k2, k3⟩ := marked_ok hmk
  simp only [ofSc_true, jdE] at k1
  have hfa := findE_at hx
  obtain ⟨ki, yy, hki1, hki2, hkf⟩ : ∃ (ki : Nat) (yy : Envl), fIdx (isJ x.matter x.judge) 0 l = (ki : Int) ∧ l[ki]? = some yy ∧ findE l (jdE x) = some yy.marks := by
   rcases fIdx_find (a := x.matter) (b := x.judge) (l := l) (p := 0) with ⟨_, h⟩ | ⟨i2, y2, h1, h2, _, h3⟩
   ·have : findE l (jdE x) = none := h
    rw [hfa] at this; cases this
   exact ⟨i2, y2, by rw [h1, Nat.zero_add], h2, h3⟩
  have hyy : (findE (l.take i) (jdE x)).getD x.marks = yy.marks := by rw [hfa] at hkf; exact Option.some.inj hkf
  rw [hyy] at hinv
  simp only [jdE] at hinv
  refine W_skip (K14 _ _ ?_)
  refine W_seq fun Z18 K18 => ?_
  refine W_seq fun Z19 K19 => ?_
  refine W_draw [1, 2, 5, 64] [0, 1, 2, 3, 4, 5, 6, 7, 8, 9, 10, 11, 12, 13, 14, 15, 16, 17, 18, 19, 20, 21] [(0, 22), (1, 22), (2, 22), (3, 22), (4, 22)] [[], [], [0, 1], [0, 1, 2], [0, 1, 2, 3], [], [], [5, 6], [5, 6, 7], [5, 6, 7, 8], [], [], [10, 11], [10, 11, 12], [10, 11, 12, 13], [], [], [15, 16], [15, 16, 17], [15, 16, 17, 18], [5, 6, 7, 8, 9, 10, 11, 12, 13, 14, 15, 16, 17, 18, 19], [0, 1, 2, 3, 4, 5, 6, 7, 8, 9, 10, 11, 12, 13, 14, 15, 16, 17, 18, 19, 20]] mixed (by kernel_rfl) fun R hR => ?_
  simp only [go_sem, hx]
  refine GCall_of (rseal_pc Y _ x.matter x.judge x.marks .ro (by omega) (by omega) (by omega) (fun z hz => by have := k3 z hz; omega)) ?_
  simp only [go_sem, hx]
  try refine And.intro (by repeat' (first | refine And.intro ?_ ?_ | exact GOr_right (fun _ => by simp only [go_sem, hx]))) ?_
  refine hR _ _ (K19 _ _ ?_); clear hR R; try clear K19 Z19
  try simp only [go_sem, hx]
  refine W_cond rfl (fun c5 => ?_) (fun c5 => ?_)
  ·
   try simp only [nrm] at c5
   refine W_sr [4] fun R hR => ?_
   simp only [go_sem, hx]
   refine hR _ _ ?_; clear hR R
   try simp only [go_sem, hx]
   refine W_ret ?_
   simp only [go_sem, hx]
   refine ⟨.inr (by trivial), ?_⟩
   first | refine Fsa hcl rfl ?_ | refine Fse hcl rfl ?_
   try simp only [go_sem]
   all_goals
    rw [hinv]; simp [jdE, c3, c4, c5]
  try simp only [nrm] at c5
  refine W_skip (K18 _ _ ?_)
  refine W_seq fun Z21 K21 => ?_
  refine W_draw [1, 2, 5, 8] [0, 1, 2, 3, 4, 5, 6, 7, 8, 9, 10, 11, 12] [] [[], [], [], [1, 2], [1, 2, 3], [1, 2, 3, 4], [], [], [6, 7], [6, 7, 8], [6, 7, 8, 9], [0, 1, 2, 3, 4, 5, 6, 7, 8, 9, 10], [0, 1, 2, 3, 4, 5, 6, 7, 8, 9, 10, 11]] mixed (by kernel_rfl) fun R hR => ?_
  simp only [go_sem, hx]
  refine GCall_of (PC.val (v' := I (ki : Int)) (rFind_pc Y _ l x.matter x.judge (by omega)) (by rw [hki1])) ?_
  simp only [go_sem, hx]
  try refine And.intro (by repeat' (first | refine And.intro ?_ ?_ | exact GOr_right (fun _ => by simp only [go_sem, hx]))) ?_
  refine hR _ _ (K21 _ _ ?_); clear hR R; try clear K21 Z21
  try simp only [go_sem, hx]
  refine W_seq fun Z22 K22 => ?_
  refine W_draw [1, 2, 5, 88] [0, 1, 2, 3, 4, 5, 6, 7, 8, 9, 10, 11] [] [[], [], [0, 1], [0, 1, 2], [0, 1, 2, 3], [], [], [5, 6], [5, 6, 7], [5, 6, 7, 8], [0, 1, 2, 3, 4, 5, 6, 7, 8, 9], [0, 1, 2, 3, 4, 5, 6, 7, 8, 9, 10]] mixed (by kernel_rfl) fun R hR => ?_
  simp only [go_sem, hx, hki2]
  refine GCall_of (rEq_pc Y _ yy.marks x.marks .ro .ro (by have := hm yy (List.mem_of_getElem? hki2); omega) (by have := hm x hxl; omega)) ?_
  simp only [go_sem, hx, hki2]
  try refine And.intro (by repeat' (first | refine And.intro ?_ ?_ | exact GOr_right (fun _ => by simp only [go_sem, hx, hki2]))) ?_
  refine hR _ _ (K22 _ _ ?_); clear hR R; try clear K22 Z22
  try simp only [go_sem, hx]
  refine W_cond rfl (fun c6 => ?_) (fun c6 => ?_)
  ·
   try simp only [nrm] at c6
   refine W_sr [4] fun R hR => ?_
   simp only [go_sem, hx]
   refine hR _ _ ?_; clear hR R
   try simp only [go_sem, hx]
   refine W_ret ?_
   simp only [go_sem, hx]
   refine ⟨.inr (by trivial), ?_⟩
   first | refine Fsa hcl rfl ?_ | refine Fse hcl rfl ?_
   try simp only [go_sem]
   all_goals
    have hyx : yy.marks ≠ x.marks := by simpa using c6
    rw [hinv]; simp [jdE, c3, c4, c5, hyx]
  try simp only [nrm] at c6
  have hyx : yy.marks = x.marks := by simpa using c6
  refine W_skip (K9 _ _ ?_)
  refine W_region [1, 2, 5] fun R hR => ?_
  simp only [go_sem, hx]
  try simp (disch := omega) only [wrapI, wrapU]
  refine hR _ _ ?_; clear hR R
  try simp only [go_sem, hx]
  refine ⟨(i + 1, aput (jdE x) x.marks kk), ?_, by (try simp only []); omega, ?_⟩
  ·first | exact Weak.refl | exact Wqq
  try dsimp only
  refine ⟨hi', hka.next hx (by rw [hyy, hyx]), ?_⟩
  rw [hinv]; simp [jdE, c3, c4, c5, hyx]
 try simp only [nrm] at c2
 have hdrop : l.drop i = [] := List.drop_eq_nil_of_le (by omega)
 rw [hdrop] at hinv
 simp only [openK] at hinv
 refine W_exit ?_
 simp only [go_sem]
 refine K5 _ _ ?_
 refine W_sr [4] fun R hR => ?_
 simp only [go_sem]
 refine hR _ _ ?_; clear hR R
 try simp only [go_sem]
 refine W_ret ?_
 simp only [go_sem]
 refine ⟨.inr (by trivial), ?_⟩
 first | refine Fsa hcl rfl ?_ | refine Fse hcl rfl ?_
 try simp only [go_sem]
 all_goals
  rw [hinv]
/-- A stands ahead of b. -/
def Ahd (ord : List Int) (a b : Stand) : Prop := cmpSt ord a b < 0
instance (ord : List Int) (a b : Stand) : Decidable (Ahd ord a b) := inferInstanceAs (Decidable (cmpSt ord a b < 0))
section
variable {s : Scale} {k k' : Kn} {sc sc' m u v : Int}
end
theorem mem_toI {n x : Int} : x ∈ toI n ↔ 0 ≤ x ∧ x < n := by
 unfold toI
 rw [List.mem_map]
 constructor
 ·rintro ⟨i, hi, rfl⟩
  have := List.mem_range.1 hi
  omega
 rintro ⟨h1, h2⟩
 exact ⟨x.toNat, List.mem_range.2 (by omega), by omega⟩
/-- How many. -/
def cnt (N : Nat) (p : Nat → Bool) : Nat := ((List.range N).filter p).length
theorem cnt_succ (N : Nat) (p : Nat → Bool) : cnt (N + 1) p = cnt N p + (if p N = true then 1 else 0) := by
 unfold cnt
 rw [List.range_succ, List.filter_append, List.length_append]
 cases h : p N <;> simp [h]
theorem cnt_le (N : Nat) (p : Nat → Bool) : cnt N p ≤ N := by
 unfold cnt
 have := List.length_filter_le p (List.range N)
 simpa using this
section
variable {s : Scale} {k : Kn} {g : Night} {N : Nat}
end
theorem fIdx_neg {a b : Int} {l : List Envl} : (0 ≤ fIdx (isJ a b) 0 l) ↔ findE l (a, b) ≠ none := by
 rcases fIdx_find (a := a) (b := b) (l := l) (p := 0) with ⟨h1, h2⟩ | ⟨i, x, h1, _, _, h2⟩
 ·rw [h1, h2]; simp
 rw [h1, h2]; simp
theorem any_isA {l : List (Int × Int)} {a b : Int} : l.any (isA a b) = true ↔ (a, b) ∈ l := by
 rw [List.any_eq_true]
 constructor
 ·rintro ⟨x, h1, h2⟩; rw [isA_iff] at h2; rw [← h2]; exact h1
 intro h; exact ⟨_, h, isA_iff.2 rfl⟩
def absL (s : Scale) (op : List Envl) : List (Int × Int) → Int
 | [] => 0
 | j :: r => if rJudge s j ≠ 0 then rJudge s j else if findE op j ≠ none then 10 else absL s op r
theorem absL_missK {s : Scale} {op : List Envl} : ∀ {l : List (Int × Int)} {k : Kn}, (∀ j, (aget j k).getD [] ≠ [] ↔ findE op j ≠ none) → absL s op l = (missK s l k).1 := by
 intro l
 induction l with
 | nil => intro k _; rfl
 | cons j l ih =>
  intro k h
  simp only [absL, missK]
  have hr : rJudge s j = if ofSc s j then 0 else 7 := rfl
  by_cases h1 : ofSc s j = true
  ·rw [hr, h1]
   simp only [if_true, ne_eq, not_true_eq_false, if_false, Bool.not_true, Bool.false_eq_true]
   by_cases h2 : findE op j = none
   ·have h3 : (aget j k).getD [] = [] := Classical.not_not.1 fun e => (h j).1 e h2
    rw [if_neg (by simp [h2]), if_neg (by simp [h3])]
    refine ih fun j' => ?_
    rw [aget_put]
    by_cases e : j' = j
    ·subst e; rw [if_pos rfl]; simp [h2]
    rw [if_neg e]; exact h j'
   have h3 := (h j).2 h2
   rw [if_pos h2, if_pos h3]
  have e : ofSc s j = false := by simpa using h1
  rw [hr, e]
  simp
def presN (n : Night) (J : Nat) (m : Int) : Nat := cnt J fun q => !(n.absent.any (isA m q))
def shN (s : Scale) (n : Night) : Bool := (List.range s.matters.toNat).any fun m => decide (presN n s.judges.toNat m = 0)
def rAbsE (s : Scale) (n : Night) : Int := if 60 < (n.absent.length : Int) then 5 else if absL s n.opened n.absent ≠ 0 then absL s n.opened n.absent else if shN s n = true then 4 else 0
def rNightE (s : Scale) (n : Night) : Int := if rOpen s n.opened ≠ 0 then rOpen s n.opened else if rAbsE s n ≠ 0 then rAbsE s n else if 10 < (n.fines.length : Int) then 5 else finesR s n.fines
theorem presN_zero {n : Night} {J : Nat} {m : Int} : presN n J m = 0 ↔ ∀ q : Nat, q < J → (m, (q : Int)) ∈ n.absent := by
 unfold presN cnt
 rw [List.length_eq_zero_iff, List.filter_eq_nil_iff]
 constructor
 ·intro h q hq
  have := h q (List.mem_range.2 hq)
  exact any_isA.1 (by simpa using this)
 intro h q hq
 have := any_isA.2 (h q (List.mem_range.1 hq))
 simp [this]
theorem shN_shortK {s : Scale} {n : Night} {k : Kn} (hk : ∀ j, absentK k j = true ↔ j ∈ n.absent) : shN s n = shortK s k := by
 rw [Bool.eq_iff_iff]
 unfold shN shortK
 simp only [List.any_eq_true, List.all_eq_true, decide_eq_true_eq, presN_zero, hk, List.mem_range]
 constructor
 ·rintro ⟨m, h1, h2⟩
  refine ⟨m, mem_toI.2 (by omega), fun q hq => ?_⟩
  have := mem_toI.1 hq
  obtain ⟨p, rfl⟩ : ∃ p : Nat, q = p := ⟨q.toNat, by omega⟩
  exact h2 p (by omega)
 rintro ⟨m, h1, h2⟩
 have := mem_toI.1 h1
 obtain ⟨p, rfl⟩ : ∃ p : Nat, m = p := ⟨m.toNat, by omega⟩
 exact ⟨p, by omega, fun q hq => h2 q (mem_toI.2 (by omega))⟩
theorem rNight_known {s : Scale} {n : Night} (hc : chkSc s = 0) : rNightE s n = knownE s n := by
 have hv := Scale.v hc
 unfold rNightE knownE rOpen rAbsE finesE
 rw [if_neg (show ¬ chkSc s ≠ 0 by simp [hc])]
 by_cases c2 : 60 < (n.opened.length : Int)
 ·simp [c2]
 rw [if_neg c2, if_neg (show ¬ (n.opened.length : Int) > 60 from c2)]
 by_cases c3 : (openK s n.opened []).1 = 0
 ·simp only [c3, ne_eq, not_true_eq_false, if_false, gt_iff_lt]
  obtain ⟨o1, o2, _⟩ := openK_zero.1 c3
  have hg := openK_get c3
  by_cases c4 : 60 < (n.absent.length : Int)
  ·simp [c4]
  simp only [c4, if_false]
  have hab : absL s n.opened n.absent = (missK s n.absent (openK s n.opened []).2).1 := absL_missK fun j => by
   rw [hg j]
   cases hf : findE n.opened j with
   | none => simp [aget]
   | some v =>
    obtain ⟨x, h1, _, rfl⟩ := findE_some hf
    simp [(o1 x h1).ne hv]
  rw [hab]
  by_cases c5 : (missK s n.absent (openK s n.opened []).2).1 = 0
  ·simp only [c5, not_true_eq_false, if_false]
   have hk : ∀ j, absentK (knownK s n) j = true ↔ j ∈ n.absent := fun j => by
    rw [absentK_iff, pre_get c3 c5]
    refine kOf_nil hv o1 (fun j hj x hx e => ?_) j
    have := (missK_zero.1 c5 j hj).2
    rw [hg j, ← e, findE_mem o2 hx] at this
    simp at this
    exact (o1 x hx).ne hv this
   rw [shN_shortK hk]
   by_cases c6 : shortK s (knownK s n) = true
   ·simp [c6]
   simp [c6]
  simp [c5]
 simp [c3]
def rCkE (s : Scale) (n : Night) : Int := if chkSc s ≠ 0 then chkSc s else rNightE s n
theorem rCk_known (s : Scale) (n : Night) : rCkE s n = knownE s n := by
 unfold rCkE
 by_cases h : chkSc s = 0
 ·rw [if_neg (by simp [h])]; exact rNight_known h
 rw [if_pos h]; unfold knownE; rw [if_pos h]
set_option maxHeartbeats 2000000 in
theorem rPres_pc (Y : YEnv) (σ : Sg) (s : Scale) (n : Night) (m : Int) (J : Nat) (hJ : s.judges = J) (hJ8 : J < 2 ^ 40) (ha : n.absent.length < 2 ^ 40) :
 PC Tryz.prog Y 137 [scPV s, ngPV n, I m] σ (I (presN n J m)) (σ) := by
 refine PC_of_W Tryz.func137 rfl (by kernel_rfl) Tryz.ntmps137 (by simp) fun hcl hca => ?_
 have hJi : (s.judges : Int) = (J : Int) := hJ
 refine W_sr [2, 3, 4] fun R hR => ?_
 simp only [go_sem]
 refine hR _ _ ?_; clear hR R
 try simp only [go_sem]
 refine W_sr [2, 3, 4, 7] fun R hR => ?_
 simp only [go_sem]
 refine hR _ _ ?_; clear hR R
 try simp only [go_sem]
 refine W_seq fun Z3 K3 => ?_
 refine W_sr [2, 3, 4, 7, 8] fun R hR => ?_
 simp only [go_sem]
 refine hR _ _ ?_; clear hR R
 try simp only [go_sem]
 refine W_block ?_
 refine W_loopS (α := Nat × Nat) (fun ⟨i, c⟩ => [(7, I c), (8, I i)]) (fun ⟨i, c⟩ => i ≤ J ∧ c = presN n i m) (fun ⟨i, c⟩ => J - i) ((0, 0)) rfl (⟨Nat.zero_le _, rfl⟩) ?_
 rintro ⟨i, c⟩ ⟨hi, hc⟩
 refine W_seq fun Z5 K5 => ?_
 refine W_sr [2, 3, 4, 7, 8, 12] fun R hR => ?_
 simp only [go_sem]
 refine hR _ _ ?_; clear hR R
 try simp only [go_sem]
 refine W_cond rfl (fun c1 => ?_) (fun c1 => ?_)
 ·
  try simp only [nrm] at c1
  have hiJ : i < J := by first | omega | (simp at c1; omega)
  have hcs := cnt_succ i fun q => !(n.absent.any (isA m q))
  have hcl := cnt_le i fun q => !(n.absent.any (isA m q))
  have hcb : c ≤ i := by rw [hc]; exact hcl
  refine W_skip (K5 _ _ ?_)
  refine W_seq fun Z7 K7 => ?_
  refine W_block ?_
  refine W_sr [2, 3, 4, 7, 8, 20] fun R hR => ?_
  simp only [go_sem]
  refine GCall_of (rAbs_pc Y _ n.absent m i (by omega)) ?_
  simp only [go_sem]
  refine hR _ _ ?_; clear hR R
  try simp only [go_sem]
  refine W_cond rfl (fun c2 => ?_) (fun c2 => ?_)
  ·
   try simp only [nrm] at c2
   refine W_region [2, 3, 4, 7, 8] fun R hR => ?_
   simp only [go_sem]
   try simp (disch := omega) only [wrapI, wrapU]
   refine hR _ _ (K7 _ _ ?_); clear hR R; try clear K7 Z7
   try simp only [go_sem]
   refine W_region [2, 3, 4, 7, 8] fun R hR => ?_
   simp only [go_sem]
   try simp (disch := omega) only [wrapI, wrapU]
   refine hR _ _ ?_; clear hR R
   try simp only [go_sem]
   refine ⟨(i + 1, c + 1), ?_, by (try simp only []); omega, ?_⟩
   ·first | exact Weak.refl | exact Wqq
   try dsimp only
   refine ⟨by omega, ?_⟩
   unfold presN at hc ⊢
   rw [hcs, ← hc]; simp_all
  try simp only [nrm] at c2
  refine W_skip (K7 _ _ ?_)
  refine W_region [2, 3, 4, 7, 8] fun R hR => ?_
  simp only [go_sem]
  try simp (disch := omega) only [wrapI, wrapU]
  refine hR _ _ ?_; clear hR R
  try simp only [go_sem]
  refine ⟨(i + 1, c), ?_, by (try simp only []); omega, ?_⟩
  ·first | exact Weak.refl | exact Wqq
  try dsimp only
  refine ⟨by omega, ?_⟩
  unfold presN at hc ⊢
  rw [hcs, ← hc]; simp_all
 try simp only [nrm] at c1
 have hie : i = J := by first | omega | (simp at c1; omega)
 subst hie
 refine W_exit ?_
 simp only [go_sem]
 refine K3 _ _ ?_
 refine W_sr [6] fun R hR => ?_
 simp only [go_sem]
 refine hR _ _ ?_; clear hR R
 try simp only [go_sem]
 refine W_ret ?_
 simp only [go_sem]
 refine ⟨.inr (by trivial), ?_⟩
 first | refine Fsa hcl rfl ?_ | refine Fse hcl rfl ?_
 try simp only [go_sem]
 all_goals
  rw [hc]
set_option maxHeartbeats 4000000 in
theorem rAbsE_pc (Y : YEnv) (σ : Sg) (s : Scale) (n : Night) (hv : s.V) (ho : n.opened.length < 2 ^ 40) (ha : n.absent.length < 2 ^ 40) :
 PC Tryz.prog Y 117 [scPV s, ngPV n] σ (I (rAbsE s n)) (σ) := by
 refine PC_of_W Tryz.func117 rfl (by kernel_rfl) Tryz.ntmps117 (by simp) fun hcl hca => ?_
 have q1 := hv.mt
 have q2 := hv.jd
 obtain ⟨M, hM⟩ : ∃ z : Nat, s.matters = z := ⟨s.matters.toNat, by omega⟩
 obtain ⟨J, hJ⟩ : ∃ z : Nat, s.judges = z := ⟨s.judges.toNat, by omega⟩
 have hMi : (s.matters : Int) = (M : Int) := hM
 obtain ⟨res, hres⟩ : ∃ r, rAbsE s n = r := ⟨_, rfl⟩
 rw [hres]
 unfold rAbsE at hres
 refine W_sr [2, 3] fun R hR => ?_
 simp only [go_sem]
 refine hR _ _ ?_; clear hR R
 try simp only [go_sem]
 refine W_seq fun Z2 K2 => ?_
 refine W_sr [2, 3, 12] fun R hR => ?_
 simp only [go_sem]
 refine hR _ _ ?_; clear hR R
 try simp only [go_sem]
 refine W_cond rfl (fun c1 => ?_) (fun c1 => ?_)
 ·
  try simp only [nrm] at c1
  refine W_sr [4] fun R hR => ?_
  simp only [go_sem]
  refine hR _ _ ?_; clear hR R
  try simp only [go_sem]
  refine W_ret ?_
  simp only [go_sem]
  refine ⟨.inr (by trivial), ?_⟩
  first | refine Fsa hcl rfl ?_ | refine Fse hcl rfl ?_
  try simp only [go_sem]
  all_goals
   rw [← hres, if_pos (by omega)]
 try simp only [nrm] at c1
 rw [if_neg (by omega)] at hres
 refine W_skip (K2 _ _ ?_)
 refine W_seq fun Z5 K5 => ?_
 refine W_sr [2, 3, 5] fun R hR => ?_
 simp only [go_sem]
 refine hR _ _ ?_; clear hR R
 try simp only [go_sem]
 refine W_block ?_
 refine W_loopS (α := Nat) (fun (i : Nat) => [(5, I i)]) (fun (i : Nat) => i ≤ n.absent.length ∧ absL s n.opened n.absent = absL s n.opened (n.absent.drop i)) (fun (i : Nat) => n.absent.length - i) (0) rfl (⟨Nat.zero_le _, rfl⟩) ?_
 rintro i ⟨hi, hinv⟩
 refine W_seq fun Z7 K7 => ?_
 refine W_sr [2, 3, 5, 17] fun R hR => ?_
 simp only [go_sem]
 refine hR _ _ ?_; clear hR R
 try simp only [go_sem]
 refine W_cond rfl (fun c2 => ?_) (fun c2 => ?_)
 ·
  try simp only [nrm] at c2
  have hi' : i < n.absent.length := by first | assumption | omega
  obtain ⟨x, hx⟩ : ∃ x, n.absent[i]? = some x := ⟨n.absent[i], by simp [hi']⟩
  have hdrop : n.absent.drop i = x :: n.absent.drop (i + 1) := by
   rw [List.drop_eq_getElem_cons hi']; congr 1; exact (List.getElem?_eq_some_iff.1 hx).2
  rw [hdrop] at hinv
  simp only [absL] at hinv
  refine W_skip (K7 _ _ ?_)
  refine W_seq fun Z9 K9 => ?_
  refine W_block ?_
  refine W_sr [2, 3, 5, 6] fun R hR => ?_
  simp only [go_sem, hx]
  refine hR _ _ ?_; clear hR R
  try simp only [go_sem, hx]
  refine W_seq fun Z11 K11 => ?_
  refine W_sr [2, 3, 5, 6, 7] fun R hR => ?_
  simp only [go_sem, hx]
  refine GCall_of (rJudge_pc Y _ s x.1 x.2 hv) ?_
  simp only [go_sem, hx]
  refine hR _ _ ?_; clear hR R
  try simp only [go_sem, hx]
  refine W_sr [2, 3, 5, 6, 7, 32] fun R hR => ?_
  simp only [go_sem, hx]
  refine hR _ _ ?_; clear hR R
  try simp only [go_sem, hx]
  refine W_cond rfl (fun c3 => ?_) (fun c3 => ?_)
  ·
   try simp only [nrm] at c3
   refine W_sr [4] fun R hR => ?_
   simp only [go_sem, hx]
   refine hR _ _ ?_; clear hR R
   try simp only [go_sem, hx]
   refine W_ret ?_
   simp only [go_sem, hx]
   refine ⟨.inr (by trivial), ?_⟩
   first | refine Fsa hcl rfl ?_ | refine Fse hcl rfl ?_
   try simp only [go_sem]
   all_goals
    rw [← hres, hinv]; simp [c3]
  try simp only [nrm] at c3
  refine W_skip (K11 _ _ ?_)
  refine W_sr [2, 3, 5, 41] fun R hR => ?_
  simp only [go_sem, hx]
  refine GCall_of (rFind_pc Y _ n.opened x.1 x.2 (by omega)) ?_
  simp only [go_sem, hx]
  refine hR _ _ ?_; clear hR R
  try simp only [go_sem, hx]
  refine W_cond rfl (fun c4 => ?_) (fun c4 => ?_)
  ·
   try simp only [nrm] at c4
   have hfd := fIdx_neg.1 (by first | exact c4 | exact of_decide_eq_true c4)
   refine W_sr [4] fun R hR => ?_
   simp only [go_sem, hx]
   refine hR _ _ ?_; clear hR R
   try simp only [go_sem, hx]
   refine W_ret ?_
   simp only [go_sem, hx]
   refine ⟨.inr (by trivial), ?_⟩
   first | refine Fsa hcl rfl ?_ | refine Fse hcl rfl ?_
   try simp only [go_sem]
   all_goals
    rw [← hres, hinv]; simp [c3, hfd]
  try simp only [nrm] at c4
  have hfd : findE n.opened (x.1, x.2) = none := Classical.not_not.1 fun e => (by first | exact c4 | exact of_decide_eq_false c4 : ¬ (0 ≤ fIdx (isJ x.1 x.2) 0 n.opened)) (fIdx_neg.2 e)
  refine W_skip (K9 _ _ ?_)
  refine W_region [2, 3, 5] fun R hR => ?_
  simp only [go_sem, hx]
  try simp (disch := omega) only [wrapI, wrapU]
  refine hR _ _ ?_; clear hR R
  try simp only [go_sem, hx]
  refine ⟨i + 1, ?_, by (try simp only []); omega, ?_⟩
  ·refine Weak.trans (Weak.cutX 2 0 (by omega) (by omega) hcl (by simp only [go_sem] <;> omega) (by simp only [go_sem] <;> omega)) ?_
   simp only [go_sem]
   exact Weak.eq (by first | rfl | (simp only [go_sem]; done) | (simp only [go_sem]; rfl) | (simp [go_sem]; done) | (simp [go_sem]; omega)) (by first | rfl | (simp only [go_sem]; done) | (simp [go_sem]; done))
  try dsimp only
  exact ⟨hi', by rw [hinv]; simp [c3, hfd]⟩
 try simp only [nrm] at c2
 have hdrop : n.absent.drop i = [] := List.drop_eq_nil_of_le (by omega)
 rw [hdrop] at hinv
 simp only [absL] at hinv
 rw [if_neg (by simp [hinv])] at hres
 refine W_exit ?_
 simp only [go_sem]
 refine K5 _ _ ?_
 refine W_seq fun Z17 K17 => ?_
 refine W_sr [2, 3, 8] fun R hR => ?_
 simp only [go_sem]
 refine hR _ _ ?_; clear hR R
 try simp only [go_sem]
 refine W_block ?_
 refine W_loopS (α := Nat) (fun (i : Nat) => [(8, I i)]) (fun (i : Nat) => i ≤ M ∧ ∀ m, m < i → presN n J (m : Int) ≠ 0) (fun (i : Nat) => M - i) (0) rfl (⟨Nat.zero_le _, fun m h => by omega⟩) ?_
 rintro i ⟨hi, hall⟩
 refine W_seq fun Z19 K19 => ?_
 refine W_sr [2, 3, 8, 45] fun R hR => ?_
 simp only [go_sem]
 refine hR _ _ ?_; clear hR R
 try simp only [go_sem]
 refine W_cond rfl (fun c5 => ?_) (fun c5 => ?_)
 ·
  try simp only [nrm] at c5
  have hiM : i < M := by first | omega | (simp at c5; omega)
  refine W_skip (K19 _ _ ?_)
  refine W_seq fun Z21 K21 => ?_
  refine W_block ?_
  refine W_sr [2, 3, 8, 52] fun R hR => ?_
  simp only [go_sem]
  refine GCall_of (rPres_pc Y _ s n (i : Int) J hJ (by omega) ha) ?_
  simp only [go_sem]
  refine hR _ _ ?_; clear hR R
  try simp only [go_sem]
  refine W_cond rfl (fun c6 => ?_) (fun c6 => ?_)
  ·
   try simp only [nrm] at c6
   refine W_sr [4] fun R hR => ?_
   simp only [go_sem]
   refine hR _ _ ?_; clear hR R
   try simp only [go_sem]
   refine W_ret ?_
   simp only [go_sem]
   refine ⟨.inr (by trivial), ?_⟩
   first | refine Fsa hcl rfl ?_ | refine Fse hcl rfl ?_
   try simp only [go_sem]
   all_goals
    have hsh : shN s n = true := by
     unfold shN
     rw [List.any_eq_true]
     refine ⟨i, List.mem_range.2 (by omega), ?_⟩
     rw [hJ, Int.toNat_natCast]; simp; first | omega | (simp at c6; omega)
    rw [← hres, hsh, if_pos rfl]
  try simp only [nrm] at c6
  refine W_skip (K21 _ _ ?_)
  refine W_region [2, 3, 8] fun R hR => ?_
  simp only [go_sem]
  try simp (disch := omega) only [wrapI, wrapU]
  refine hR _ _ ?_; clear hR R
  try simp only [go_sem]
  refine ⟨i + 1, ?_, by (try simp only []); omega, ?_⟩
  ·first | exact Weak.refl | exact Wqq
  try dsimp only
  refine ⟨by omega, fun m hm => ?_⟩
  by_cases e : m = i
  ·subst e; first | omega | (simp at c6; omega)
  exact hall m (by omega)
 try simp only [nrm] at c5
 have hie : i = M := by first | omega | (simp at c5; omega)
 subst hie
 have hsh : shN s n = false := by
  unfold shN
  rw [List.any_eq_false]
  intro m hm
  have := hall m (by have := List.mem_range.1 hm; omega)
  rw [hJ, Int.toNat_natCast]; simpa using this
 rw [hsh, if_neg (by simp)] at hres
 refine W_exit ?_
 simp only [go_sem]
 refine K17 _ _ ?_
 refine W_sr [4] fun R hR => ?_
 simp only [go_sem]
 refine hR _ _ ?_; clear hR R
 try simp only [go_sem]
 refine W_ret ?_
 simp only [go_sem]
 refine ⟨.inr (by trivial), ?_⟩
 first | refine Fsa hcl rfl ?_ | refine Fse hcl rfl ?_
 try simp only [go_sem]
 all_goals
  rw [← hres]
set_option maxHeartbeats 2000000 in
theorem rNight_pc (Y : YEnv) (σ : Sg) (s : Scale) (n : Night) (hv : s.V) (hn : n.Ok) :
 PC Tryz.prog Y 90 [scPV s, ngPV n] σ (I (rNightE s n)) (σ) := by
 refine PC_of_W Tryz.func90 rfl (by kernel_rfl) Tryz.ntmps90 (by simp) fun hcl hca => ?_
 have q3 := hv.sc
 have ho := hn.ho
 have ha := hn.ha
 have hf := hn.hf
 obtain ⟨res, hres⟩ : ∃ r, rNightE s n = r := ⟨_, rfl⟩
 rw [hres]
 unfold rNightE at hres
 refine W_sr [2, 3] fun R hR => ?_
 simp only [go_sem]
 refine hR _ _ ?_; clear hR R
 try simp only [go_sem]
 refine W_seq fun Z2 K2 => ?_
 refine W_sr [2, 3, 5] fun R hR => ?_
 simp only [go_sem]
 refine GCall_of (rOpen_pc Y _ s n.opened hv ho hn.hm) ?_
 simp only [go_sem]
 refine hR _ _ ?_; clear hR R
 try simp only [go_sem]
 refine W_sr [2, 3, 5, 13] fun R hR => ?_
 simp only [go_sem]
 refine hR _ _ ?_; clear hR R
 try simp only [go_sem]
 refine W_cond rfl (fun c1 => ?_) (fun c1 => ?_)
 ·
  try simp only [nrm] at c1
  refine W_sr [4] fun R hR => ?_
  simp only [go_sem]
  refine hR _ _ ?_; clear hR R
  try simp only [go_sem]
  refine W_ret ?_
  simp only [go_sem]
  refine ⟨.inr (by trivial), ?_⟩
  first | refine Fsa hcl rfl ?_ | refine Fse hcl rfl ?_
  try simp only [go_sem]
  all_goals
   rw [← hres, if_pos (by simp [c1])]
 try simp only [nrm] at c1
 rw [if_neg (by simp [c1])] at hres
 refine W_skip (K2 _ _ ?_)
 refine W_seq fun Z6 K6 => ?_
 refine W_sr [2, 3, 6] fun R hR => ?_
 simp only [go_sem]
 refine GCall_of (rAbsE_pc Y _ s n hv ho ha) ?_
 simp only [go_sem]
 refine hR _ _ ?_; clear hR R
 try simp only [go_sem]
 refine W_sr [2, 3, 6, 19] fun R hR => ?_
 simp only [go_sem]
 refine hR _ _ ?_; clear hR R
 try simp only [go_sem]
 refine W_cond rfl (fun c2 => ?_) (fun c2 => ?_)
 ·
  try simp only [nrm] at c2
  refine W_sr [4] fun R hR => ?_
  simp only [go_sem]
  refine hR _ _ ?_; clear hR R
  try simp only [go_sem]
  refine W_ret ?_
  simp only [go_sem]
  refine ⟨.inr (by trivial), ?_⟩
  first | refine Fsa hcl rfl ?_ | refine Fse hcl rfl ?_
  try simp only [go_sem]
  all_goals
   rw [← hres, if_pos (by simp [c2])]
 try simp only [nrm] at c2
 rw [if_neg (by simp [c2])] at hres
 refine W_skip (K6 _ _ ?_)
 refine W_seq fun Z10 K10 => ?_
 refine W_sr [2, 3, 24] fun R hR => ?_
 simp only [go_sem]
 refine hR _ _ ?_; clear hR R
 try simp only [go_sem]
 refine W_cond rfl (fun c3 => ?_) (fun c3 => ?_)
 ·
  try simp only [nrm] at c3
  refine W_sr [4] fun R hR => ?_
  simp only [go_sem]
  refine hR _ _ ?_; clear hR R
  try simp only [go_sem]
  refine W_ret ?_
  simp only [go_sem]
  refine ⟨.inr (by trivial), ?_⟩
  first | refine Fsa hcl rfl ?_ | refine Fse hcl rfl ?_
  try simp only [go_sem]
  all_goals
   rw [← hres, if_pos (by omega)]
 try simp only [nrm] at c3
 rw [if_neg (by omega)] at hres
 refine W_skip (K10 _ _ ?_)
 refine W_seq fun Z13 K13 => ?_
 refine W_sr [2, 3, 7] fun R hR => ?_
 simp only [go_sem]
 refine hR _ _ ?_; clear hR R
 try simp only [go_sem]
 refine W_block ?_
 refine W_loopS (α := Nat) (fun (i : Nat) => [(7, I i)]) (fun (i : Nat) => i ≤ n.fines.length ∧ res = finesR s (n.fines.drop i)) (fun (i : Nat) => n.fines.length - i) (0) rfl (⟨Nat.zero_le _, hres.symm⟩) ?_
 rintro i ⟨hi, hinv⟩
 refine W_seq fun Z15 K15 => ?_
 refine W_sr [2, 3, 7, 29] fun R hR => ?_
 simp only [go_sem]
 refine hR _ _ ?_; clear hR R
 try simp only [go_sem]
 refine W_cond rfl (fun c4 => ?_) (fun c4 => ?_)
 ·
  try simp only [nrm] at c4
  have hi' : i < n.fines.length := by first | assumption | omega
  obtain ⟨x, hx⟩ : ∃ x, n.fines[i]? = some x := ⟨n.fines[i], by simp [hi']⟩
  have hdrop : n.fines.drop i = x :: n.fines.drop (i + 1) := by
   rw [List.drop_eq_getElem_cons hi']; congr 1; exact (List.getElem?_eq_some_iff.1 hx).2
  rw [hdrop] at hinv
  simp only [finesR] at hinv
  refine W_skip (K15 _ _ ?_)
  refine W_seq fun Z17 K17 => ?_
  refine W_block ?_
  refine W_seq fun Z18 K18 => ?_
  refine W_seq fun Z19 K19 => ?_
  refine W_draw [2, 3, 7, 42] [0, 1, 2, 3, 4, 5, 6, 7, 8, 9, 10] [] [[], [0], [], [0, 1, 2], [0, 1, 2, 3], [0, 1, 2, 3, 4], [], [6], [6, 7], [0, 1, 2, 3, 4, 5, 6, 7, 8], [0, 1, 2, 3, 4, 5, 6, 7, 8, 9]] mixed (by kernel_rfl) fun R hR => ?_
  simp only [go_sem, hx]
  try simp (disch := omega) only [wrapI, wrapU]
  refine GCall_of (rin_pc Y _ x.1 0 _) ?_
  simp only [go_sem, hx]
  try simp (disch := omega) only [wrapI, wrapU]
  try refine And.intro (by repeat' (first | refine And.intro ?_ ?_ | exact GOr_right (fun _ => by simp only [go_sem, hx]))) ?_
  refine hR _ _ (K19 _ _ ?_); clear hR R; try clear K19 Z19
  try simp only [go_sem, hx]
  refine W_cond rfl (fun c5 => ?_) (fun c5 => ?_)
  ·
   try simp only [nrm] at c5
   refine W_sr [4] fun R hR => ?_
   simp only [go_sem, hx]
   refine hR _ _ ?_; clear hR R
   try simp only [go_sem, hx]
   refine W_ret ?_
   simp only [go_sem, hx]
   refine ⟨.inr (by trivial), ?_⟩
   first | refine Fsa hcl rfl ?_ | refine Fse hcl rfl ?_
   try simp only [go_sem]
   all_goals
    first | rfl | (simp_all; done) | (simp_all; omega)
  try simp only [nrm] at c5
  refine W_skip (K18 _ _ ?_)
  refine W_sr [2, 3, 7, 50] fun R hR => ?_
  simp only [go_sem, hx]
  refine GCall_of (rin_pc Y _ x.2 0 1000) ?_
  simp only [go_sem, hx]
  refine hR _ _ ?_; clear hR R
  try simp only [go_sem, hx]
  refine W_cond rfl (fun c6 => ?_) (fun c6 => ?_)
  ·
   try simp only [nrm] at c6
   refine W_sr [4] fun R hR => ?_
   simp only [go_sem, hx]
   refine hR _ _ ?_; clear hR R
   try simp only [go_sem, hx]
   refine W_ret ?_
   simp only [go_sem, hx]
   refine ⟨.inr (by trivial), ?_⟩
   first | refine Fsa hcl rfl ?_ | refine Fse hcl rfl ?_
   try simp only [go_sem]
   all_goals
    first | rfl | (simp_all; done) | (simp_all; omega)
  try simp only [nrm] at c6
  refine W_skip (K17 _ _ ?_)
  refine W_region [2, 3, 7] fun R hR => ?_
  simp only [go_sem, hx]
  try simp (disch := omega) only [wrapI, wrapU]
  refine hR _ _ ?_; clear hR R
  try simp only [go_sem, hx]
  refine ⟨i + 1, ?_, by (try simp only []); omega, ?_⟩
  ·first | exact Weak.refl | exact Wqq
  try dsimp only
  exact ⟨hi', by simp_all⟩
 try simp only [nrm] at c4
 have hdrop : n.fines.drop i = [] := List.drop_eq_nil_of_le (by omega)
 rw [hdrop] at hinv
 simp only [finesR] at hinv
 refine W_exit ?_
 simp only [go_sem]
 refine K13 _ _ ?_
 refine W_sr [4] fun R hR => ?_
 simp only [go_sem]
 refine hR _ _ ?_; clear hR R
 try simp only [go_sem]
 refine W_ret ?_
 simp only [go_sem]
 refine ⟨.inr (by trivial), ?_⟩
 first | refine Fsa hcl rfl ?_ | refine Fse hcl rfl ?_
 try simp only [go_sem]
 all_goals
  first | rfl | (simp_all; done) | (simp_all; omega)
set_option maxHeartbeats 2000000 in
theorem rCk0_pc (Y : YEnv) (σ : Sg) (s : Scale) (n : Night) (hs : s.Ok) (hn : n.Ok) :
 PC Tryz.prog Y 59 [scPV s, ngPV n] σ (I (rCkE s n)) (σ) := by
 refine PC_of_W Tryz.func59 rfl (by kernel_rfl) Tryz.ntmps59 (by simp) fun hcl hca => ?_
 refine W_sr [2, 3] fun R hR => ?_
 simp only [go_sem]
 refine hR _ _ ?_; clear hR R
 try simp only [go_sem]
 refine W_seq fun Z2 K2 => ?_
 refine W_sr [2, 3, 5] fun R hR => ?_
 simp only [go_sem]
 refine GCall_of (rCheck_pc Y _ s hs) ?_
 simp only [go_sem]
 refine hR _ _ ?_; clear hR R
 try simp only [go_sem]
 refine W_sr [2, 3, 5, 9] fun R hR => ?_
 simp only [go_sem]
 refine hR _ _ ?_; clear hR R
 try simp only [go_sem]
 refine W_cond rfl (fun c1 => ?_) (fun c1 => ?_)
 ·
  try simp only [nrm] at c1
  refine W_sr [4] fun R hR => ?_
  simp only [go_sem]
  refine hR _ _ ?_; clear hR R
  try simp only [go_sem]
  refine W_ret ?_
  simp only [go_sem]
  refine ⟨.inr (by trivial), ?_⟩
  first | refine Fsa hcl rfl ?_ | refine Fse hcl rfl ?_
  try simp only [go_sem]
  all_goals
   simp [rCkE, *]
 try simp only [nrm] at c1
 refine W_skip (K2 _ _ ?_)
 refine W_sr [4] fun R hR => ?_
 simp only [go_sem]
 have hv := Scale.v c1
 refine GCall_of (rNight_pc Y _ s n hv hn) ?_
 simp only [go_sem]
 refine hR _ _ ?_; clear hR R
 try simp only [go_sem]
 refine W_ret ?_
 simp only [go_sem]
 refine ⟨.inr (by trivial), ?_⟩
 first | refine Fsa hcl rfl ?_ | refine Fse hcl rfl ?_
 try simp only [go_sem]
 all_goals
  simp [rCkE, *]
theorem rCheckNight_pc (Y : YEnv) (σ : Sg) (s : Scale) (n : Night) (hs : s.Ok) (hn : n.Ok) : PC Tryz.prog Y 59 [scPV s, ngPV n] σ (I (knownE s n)) σ := by
 rw [← rCk_known]; exact rCk0_pc Y σ s n hs hn
set_option maxHeartbeats 4000000 in
theorem rWrite_pc (Y : YEnv) (σ : Sg) (s : Scale) (g : Night) (hs : s.Ok) (hg : g.Ok) :
 PC Tryz.prog Y 26 [scPV s, ngPV g] σ (.tuple [txt (minA s g).1, I (minA s g).2]) (σ) := by
 refine PC_of_W Tryz.func26 rfl (by kernel_rfl) Tryz.ntmps26 (by simp) fun hcl hca => ?_
 refine W_sr [2, 3] fun R hR => ?_
 simp only [go_sem]
 refine hR _ _ ?_; clear hR R
 try simp only [go_sem]
 refine W_seq fun Z2 K2 => ?_
 refine W_sr [2, 3, 6] fun R hR => ?_
 simp only [go_sem]
 refine GCall_of (rCheckNight_pc Y _ s g hs hg) ?_
 simp only [go_sem]
 refine hR _ _ ?_; clear hR R
 try simp only [go_sem]
 refine W_sr [2, 3, 6, 16] fun R hR => ?_
 simp only [go_sem]
 refine hR _ _ ?_; clear hR R
 try simp only [go_sem]
 refine W_cond rfl (fun c1 => ?_) (fun c1 => ?_)
 ·
  try simp only [nrm] at c1
  have hwr : minA s g = ([], knownE s g) := by unfold minA; rw [if_pos (by simpa using c1)]
  refine W_sr [4, 5] fun R hR => ?_
  simp only [go_sem]
  refine hR _ _ ?_; clear hR R
  try simp only [go_sem]
  refine W_ret ?_
  simp only [go_sem]
  refine ⟨.inr (by trivial), ?_⟩
  first | refine Fsa hcl rfl ?_ | refine Fse hcl rfl ?_
  try simp only [go_sem]
  all_goals
   rw [hwr]
 try simp only [nrm] at c1
 have hck : knownE s g = 0 := by simpa using c1
 have hnk := night_k hck
 have hhl := headT_len hnk
 have hel := hnk.el
 have hal := hnk.al
 have hfl := hnk.fl
 have hab : ∀ a, a ∈ g.absent → Fits (prNums a) := fun a ha => (hnk.ab a ha).fits (by omega)
 have hfi : ∀ a, a ∈ g.fines → Fits (prNums a) := fun a ha => (hnk.fi a ha).fits (by omega)
 have hl1 := evT_len hnk.ev
 have hl2 := prT_len (w := absentW) (by decide) hab
 have hl3 := prT_len (w := fineW) (by decide) hfi
 have hl4 := endT_len (n := g.opened.length) (by omega)
 have hw1 := lineT_len (w := scaleW) (hnk.sc.fits (by omega))
 have hw2 := lineT_len (w := orderW) (hnk.od.fits (by omega))
 have hol := hnk.ol
 have e1 : (scNums s).length = 6 := rfl
 have e2 : scaleW.length = 5 := rfl
 have e3 : orderW.length = 5 := rfl
 refine W_skip (K2 _ _ ?_)
 refine W_seq fun Z6 K6 => ?_
 refine W_draw [3, 7] [0, 1, 2, 3, 4, 5, 6, 7, 8, 9, 10, 11, 12, 13, 14, 15, 16, 17, 18] [(14, 13), (15, 13)] [[], [0], [], [2], [], [4], [], [6], [], [8], [], [10], [0, 1, 2, 3, 4, 5, 6, 7, 8, 9, 10, 11], [0, 1, 2, 3, 4, 5, 6, 7, 8, 9, 10, 11, 12], [], [14], [0, 1, 2, 3, 4, 5, 6, 7, 8, 9, 10, 11, 12, 13, 14, 15], [0, 1, 2, 3, 4, 5, 6, 7, 8, 9, 10, 11, 12, 13, 14, 15, 16], [0, 1, 2, 3, 4, 5, 6, 7, 8, 9, 10, 11, 12, 13, 14, 15, 16, 17]] mixed (by kernel_rfl) fun R hR => ?_
 simp only [go_sem]
 refine GCall_of (PC.val (v' := txt (lineT scaleW (scNums s))) (rrow_pc Y _ scaleW (scNums s) _ (by decide) (by simp [scNums]) (hnk.sc.fits (by omega))) rfl) ?_
 simp only [go_sem]
 refine GCall_of (PC.val (v' := txt (lineT orderW s.order)) (rrow_pc Y _ orderW s.order _ (by decide) (by have := hnk.ol; omega) (hnk.od.fits (by omega))) rfl) ?_
 simp only [go_sem]
 try simp (disch := (first | omega | (simp only [go_sem, List.length_append] <;> omega))) only [wrapI, wrapU, appX_exact, appX_tok, strAdd, slT, slTa, slTb]
 try simp only [go_sem]
 try refine And.intro (by repeat' (first | refine And.intro ?_ ?_ | exact trivial | exact GOr_right (fun _ => by simp only [go_sem]))) ?_
 refine hR _ _ (K6 _ _ ?_); clear hR R; try clear K6 Z6
 try simp only [go_sem]
 refine W_seq fun Z7 K7 => ?_
 refine W_sr [3, 7, 8] fun R hR => ?_
 simp only [go_sem]
 refine hR _ _ ?_; clear hR R
 try simp only [go_sem]
 refine W_block ?_
 rw [show lineT scaleW (scNums s) ++ lineT orderW s.order = headT s ++ evT (List.take 0 g.opened) by simp [headT, evT]]
 refine W_loopS (α := Nat) (fun (i : Nat) => [(7, txt (headT s ++ evT (g.opened.take i))), (8, I i)]) (fun (i : Nat) => i ≤ g.opened.length) (fun (i : Nat) => g.opened.length - i) (0) rfl (Nat.zero_le _) ?_
 rintro i hi
 have hbt : (evT (g.opened.take i)).length ≤ 300 * 60 := by
  have := evT_len (l := g.opened.take i) (fun b hb => hnk.ev b (List.mem_of_mem_take hb))
  rw [List.length_take] at this
  omega
 refine W_seq fun Z9 K9 => ?_
 refine W_sr [3, 7, 8, 40] fun R hR => ?_
 simp only [go_sem]
 refine hR _ _ ?_; clear hR R
 try simp only [go_sem]
 refine W_cond rfl (fun c2 => ?_) (fun c2 => ?_)
 ·
  try simp only [nrm] at c2
  have hi' : i < g.opened.length := by first | assumption | omega
  obtain ⟨b, hx⟩ : ∃ b, g.opened[i]? = some b := ⟨g.opened[i], by simp [hi']⟩
  have hdrop : g.opened.drop i = b :: g.opened.drop (i + 1) := by
   rw [List.drop_eq_getElem_cons hi']; congr 1; exact (List.getElem?_eq_some_iff.1 hx).2
  have hbk := hnk.ev b (List.mem_of_getElem? hx)
  have hrl := lineT_len (w := marksW) (hbk.nums.fits (by omega))
  have hbl := hbk.l
  have hel1 : (evNums b).length = 3 + b.marks.length := by simp [evNums]; omega
  have hmw : marksW.length = 5 := rfl
  refine W_skip (K9 _ _ ?_)
  refine W_seq fun Z11 K11 => ?_
  refine W_block ?_
  refine W_sr [3, 7, 8, 9] fun R hR => ?_
  simp only [go_sem, hx]
  refine hR _ _ ?_; clear hR R
  try simp only [go_sem, hx]
  refine W_region [3, 7, 8] fun R hR => ?_
  simp only [go_sem, hx]
  try simp (disch := (first | omega | (simp only [go_sem, List.length_append] <;> omega))) only [wrapI, wrapU, appX_exact, appX_tok, strAdd, slT, slTa, slTb]
  try simp only [go_sem, hx]
  refine GCall_of (PC.val (v' := txt (lineT marksW (evNums b))) (rrow_pc Y _ marksW (evNums b) _ (by decide) (by have := hbk.l; simp [evNums]; omega) (hbk.nums.fits (by omega))) rfl) ?_
  simp only [go_sem, hx]
  try simp (disch := (first | omega | (simp only [go_sem, List.length_append] <;> omega))) only [wrapI, wrapU, appX_exact, appX_tok, strAdd, slT, slTa, slTb]
  try simp only [go_sem, hx]
  refine hR _ _ (K11 _ _ ?_); clear hR R; try clear K11 Z11
  try simp only [go_sem, hx]
  refine W_region [3, 7, 8] fun R hR => ?_
  simp only [go_sem, hx]
  try simp (disch := (first | omega | (simp only [go_sem, List.length_append] <;> omega))) only [wrapI, wrapU, strAdd, slT, slTa, slTb]
  refine hR _ _ ?_; clear hR R
  try simp only [go_sem, hx]
  refine ⟨i + 1, ?_, by (try simp only []); omega, ?_⟩
  ·refine Weak.trans (Weak.cutX 2 0 (by omega) (by omega) hcl (by simp only [go_sem] <;> omega) (by simp only [go_sem] <;> omega)) ?_
   simp only [go_sem]
   exact Weak.eq (by rw [evT_take hx, ← List.append_assoc]; rfl) rfl
  try dsimp only
  omega
 try simp only [nrm] at c2
 have hdrop : g.opened.drop i = [] := List.drop_eq_nil_of_le (by omega)
 have hie : i = g.opened.length := by omega
 subst hie
 rw [List.take_length] at hbt ⊢
 refine W_exit ?_
 simp only [go_sem]
 refine K7 _ _ ?_
 refine W_seq fun Z13 K13 => ?_
 refine W_sr [3, 7, 10] fun R hR => ?_
 simp only [go_sem]
 refine hR _ _ ?_; clear hR R
 try simp only [go_sem]
 refine W_block ?_
 rw [show headT s ++ evT g.opened = headT s ++ evT g.opened ++ prT absentW (List.take 0 g.absent) by simp [prT]]
 refine W_loopS (α := Nat) (fun (i : Nat) => [(7, txt (headT s ++ evT g.opened ++ prT absentW (g.absent.take i))), (10, I i)]) (fun (i : Nat) => i ≤ g.absent.length) (fun (i : Nat) => g.absent.length - i) (0) rfl (Nat.zero_le _) ?_
 rintro i hi
 have hbt2 : (prT absentW (g.absent.take i)).length ≤ 60 * 60 := by
  have := prT_len (w := absentW) (by decide) (l := g.absent.take i) (fun b hb => hab b (List.mem_of_mem_take hb))
  rw [List.length_take] at this
  omega
 refine W_seq fun Z15 K15 => ?_
 refine W_sr [3, 7, 10, 65] fun R hR => ?_
 simp only [go_sem]
 refine hR _ _ ?_; clear hR R
 try simp only [go_sem]
 refine W_cond rfl (fun c3 => ?_) (fun c3 => ?_)
 ·
  try simp only [nrm] at c3
  have hi' : i < g.absent.length := by first | assumption | omega
  obtain ⟨b, hx⟩ : ∃ b, g.absent[i]? = some b := ⟨g.absent[i], by simp [hi']⟩
  have hdrop : g.absent.drop i = b :: g.absent.drop (i + 1) := by
   rw [List.drop_eq_getElem_cons hi']; congr 1; exact (List.getElem?_eq_some_iff.1 hx).2
  have hbk := hnk.ab b (List.mem_of_getElem? hx)
  have hrl := lineT_len (w := absentW) (hbk.fits (by omega))
  have hel1 : (prNums b).length = 2 := rfl
  have hmw : absentW.length = 6 := rfl
  refine W_skip (K15 _ _ ?_)
  refine W_seq fun Z17 K17 => ?_
  refine W_block ?_
  refine W_draw [3, 7, 10] [0, 1, 2, 3, 4, 5, 6, 7, 8, 9, 10, 11, 12, 13, 14, 15, 16] [(0, 17)] [[], [], [1], [], [1, 2, 3], [1, 2, 3, 4], [1, 2, 3, 4, 5], [], [7], [], [7, 8, 9], [7, 8, 9, 10], [7, 8, 9, 10, 11], [1, 2, 3, 4, 5, 6, 7, 8, 9, 10, 11, 12], [1, 2, 3, 4, 5, 6, 7, 8, 9, 10, 11, 12, 13], [0, 1, 2, 3, 4, 5, 6, 7, 8, 9, 10, 11, 12, 13, 14], [0, 1, 2, 3, 4, 5, 6, 7, 8, 9, 10, 11, 12, 13, 14, 15]] mixed (by kernel_rfl) fun R hR => ?_
  simp only [go_sem, hx]
  refine GCall_of (PC.val (v' := txt (lineT absentW (prNums b))) (rrow_pc Y _ absentW (prNums b) _ (by decide) (by simp [prNums]) (hbk.fits (by omega))) rfl) ?_
  simp only [go_sem, hx]
  try simp (disch := (first | omega | (simp only [go_sem, List.length_append] <;> omega))) only [wrapI, wrapU, appX_exact, appX_tok, strAdd, slT, slTa, slTb]
  try simp only [go_sem, hx]
  try refine And.intro (by repeat' (first | refine And.intro ?_ ?_ | exact trivial | exact GOr_right (fun _ => by simp only [go_sem, hx]))) ?_
  refine hR _ _ (K17 _ _ ?_); clear hR R; try clear K17 Z17
  try simp only [go_sem, hx]
  refine W_region [3, 7, 10] fun R hR => ?_
  simp only [go_sem, hx]
  try simp (disch := (first | omega | (simp only [go_sem, List.length_append] <;> omega))) only [wrapI, wrapU, strAdd, slT, slTa, slTb]
  refine hR _ _ ?_; clear hR R
  try simp only [go_sem, hx]
  refine ⟨i + 1, ?_, by (try simp only []); omega, ?_⟩
  ·exact Weak.eq (by rw [prT_take hx, ← List.append_assoc]; rfl) rfl
  try dsimp only
  omega
 try simp only [nrm] at c3
 have hdrop : g.absent.drop i = [] := List.drop_eq_nil_of_le (by omega)
 have hie : i = g.absent.length := by omega
 subst hie
 rw [List.take_length] at hbt2 ⊢
 refine W_exit ?_
 simp only [go_sem]
 refine K13 _ _ ?_
 refine W_seq fun Z18 K18 => ?_
 refine W_sr [3, 7, 11] fun R hR => ?_
 simp only [go_sem]
 refine hR _ _ ?_; clear hR R
 try simp only [go_sem]
 refine W_block ?_
 rw [show headT s ++ evT g.opened ++ prT absentW g.absent = headT s ++ evT g.opened ++ prT absentW g.absent ++ prT fineW (List.take 0 g.fines) by simp [prT]]
 refine W_loopS (α := Nat) (fun (i : Nat) => [(7, txt (headT s ++ evT g.opened ++ prT absentW g.absent ++ prT fineW (g.fines.take i))), (11, I i)]) (fun (i : Nat) => i ≤ g.fines.length) (fun (i : Nat) => g.fines.length - i) (0) rfl (Nat.zero_le _) ?_
 rintro i hi
 have hbt3 : (prT fineW (g.fines.take i)).length ≤ 60 * 60 := by
  have := prT_len (w := fineW) (by decide) (l := g.fines.take i) (fun b hb => hfi b (List.mem_of_mem_take hb))
  rw [List.length_take] at this
  omega
 refine W_seq fun Z20 K20 => ?_
 refine W_sr [3, 7, 11, 88] fun R hR => ?_
 simp only [go_sem]
 refine hR _ _ ?_; clear hR R
 try simp only [go_sem]
 refine W_cond rfl (fun c4 => ?_) (fun c4 => ?_)
 ·
  try simp only [nrm] at c4
  have hi' : i < g.fines.length := by first | assumption | omega
  obtain ⟨b, hx⟩ : ∃ b, g.fines[i]? = some b := ⟨g.fines[i], by simp [hi']⟩
  have hdrop : g.fines.drop i = b :: g.fines.drop (i + 1) := by
   rw [List.drop_eq_getElem_cons hi']; congr 1; exact (List.getElem?_eq_some_iff.1 hx).2
  have hbk := hnk.fi b (List.mem_of_getElem? hx)
  have hrl := lineT_len (w := fineW) (hbk.fits (by omega))
  have hel1 : (prNums b).length = 2 := rfl
  have hmw : fineW.length = 4 := rfl
  refine W_skip (K20 _ _ ?_)
  refine W_seq fun Z22 K22 => ?_
  refine W_block ?_
  refine W_draw [3, 7, 11] [0, 1, 2, 3, 4, 5, 6, 7, 8, 9, 10, 11, 12, 13, 14, 15, 16] [(0, 17)] [[], [], [1], [], [1, 2, 3], [1, 2, 3, 4], [1, 2, 3, 4, 5], [], [7], [], [7, 8, 9], [7, 8, 9, 10], [7, 8, 9, 10, 11], [1, 2, 3, 4, 5, 6, 7, 8, 9, 10, 11, 12], [1, 2, 3, 4, 5, 6, 7, 8, 9, 10, 11, 12, 13], [0, 1, 2, 3, 4, 5, 6, 7, 8, 9, 10, 11, 12, 13, 14], [0, 1, 2, 3, 4, 5, 6, 7, 8, 9, 10, 11, 12, 13, 14, 15]] mixed (by kernel_rfl) fun R hR => ?_
  simp only [go_sem, hx]
  refine GCall_of (PC.val (v' := txt (lineT fineW (prNums b))) (rrow_pc Y _ fineW (prNums b) _ (by decide) (by simp [prNums]) (hbk.fits (by omega))) rfl) ?_
  simp only [go_sem, hx]
  try simp (disch := (first | omega | (simp only [go_sem, List.length_append] <;> omega))) only [wrapI, wrapU, appX_exact, appX_tok, strAdd, slT, slTa, slTb]
  try simp only [go_sem, hx]
  try refine And.intro (by repeat' (first | refine And.intro ?_ ?_ | exact trivial | exact GOr_right (fun _ => by simp only [go_sem, hx]))) ?_
  refine hR _ _ (K22 _ _ ?_); clear hR R; try clear K22 Z22
  try simp only [go_sem, hx]
  refine W_region [3, 7, 11] fun R hR => ?_
  simp only [go_sem, hx]
  try simp (disch := (first | omega | (simp only [go_sem, List.length_append] <;> omega))) only [wrapI, wrapU, strAdd, slT, slTa, slTb]
  refine hR _ _ ?_; clear hR R
  try simp only [go_sem, hx]
  refine ⟨i + 1, ?_, by (try simp only []); omega, ?_⟩
  ·exact Weak.eq (by rw [prT_take hx, ← List.append_assoc]; rfl) rfl
  try dsimp only
  omega
 try simp only [nrm] at c4
 have hdrop : g.fines.drop i = [] := List.drop_eq_nil_of_le (by omega)
 have hie : i = g.fines.length := by omega
 subst hie
 rw [List.take_length] at hbt3 ⊢
 refine W_exit ?_
 simp only [go_sem]
 refine K18 _ _ ?_
 refine W_sr [7] fun R hR => ?_
 simp only [go_sem]
 refine GCall_of (PC.val (v' := txt (lineT endW [(g.opened.length : Int)])) (rrow_pc Y _ endW [(g.opened.length : Int)] _ (by decide) (by simp) (Fits.one (by omega))) rfl) ?_
 simp only [go_sem]
 try simp (disch := (first | omega | (simp only [go_sem, List.length_append] <;> omega))) only [wrapI, wrapU, appX_exact, appX_tok, strAdd, slT, slTa, slTb]
 try simp only [go_sem]
 refine hR _ _ ?_; clear hR R
 try simp only [go_sem]
 refine W_seq fun Z24 K24 => ?_
 refine W_sr [7, 116] fun R hR => ?_
 simp only [go_sem]
 refine hR _ _ ?_; clear hR R
 try simp only [go_sem]
 refine W_cond rfl (fun c5 => ?_) (fun c5 => ?_)
 ·
  try simp only [nrm] at c5
  have hwr : minA s g = ([], 6) := by
   unfold minA
   rw [if_neg (by omega), if_pos (by simp only [minT, List.length_append] at *; omega)]
  refine W_sr [4, 5] fun R hR => ?_
  simp only [go_sem]
  refine hR _ _ ?_; clear hR R
  try simp only [go_sem]
  refine W_ret ?_
  simp only [go_sem]
  refine ⟨.inr (by trivial), ?_⟩
  first | refine Fsa hcl rfl ?_ | refine Fse hcl rfl ?_
  try simp only [go_sem]
  all_goals
   rw [hwr]
 try simp only [nrm] at c5
 have hwr : minA s g = (minT s g, 0) := by
  unfold minA
  rw [if_neg (by omega), if_neg (by simp only [minT, List.length_append] at *; omega)]
 refine W_skip (K24 _ _ ?_)
 refine W_sr [4, 5] fun R hR => ?_
 simp only [go_sem]
 refine hR _ _ ?_; clear hR R
 try simp only [go_sem]
 refine W_ret ?_
 simp only [go_sem]
 refine ⟨.inr (by trivial), ?_⟩
 first | refine Fsa hcl rfl ?_ | refine Fse hcl rfl ?_
 try simp only [go_sem]
 all_goals
  rw [hwr]; rfl
/-- A builder's cells. -/
def bldC (id r : Nat) (b : List UInt8) : List PV := [.bself id 116, .bbuf (strPV ⟨b.toArray⟩) r 5]
theorem app_txt (a b : List UInt8) : (⟨a.toArray⟩ : ByteArray) ++ ⟨b.toArray⟩ = ⟨(a ++ b).toArray⟩ := by
 try (apply ByteArray.ext)
 simp [ByteArray.data_append]
theorem zeroB : zeroPV Tryz.prog 116 = some [.nilptr, .isl [] .exact] := by kernel_rfl
section
variable {σ : Sg} {L : List (Option (List PV))} {rm : List Nat} {ys : List LState} {j k : Nat} {b s : List UInt8}
theorem rooms_at (k : Nat) : (σ.ext L rm ys).rooms[σ.rooms.length + k]? = rm[k]? := by
 show (σ.rooms ++ rm)[σ.rooms.length + k]? = _
 rw [List.getElem?_append_right (by omega)]
 congr 1; omega
theorem StringT_pc (Y : YEnv) (h : L[j]? = some (some (bldC (σ.store.length + j) (σ.rooms.length + k) b))) (hr : rm[k]? = some b.length) (h0 : 0 < b.length) (hl : b.length ≤ 2 ^ 46) :
 PC Tryz.prog Y 58 [.ptr (σ.store.length + j) 0] (σ.ext L rm ys) (txt b) (σ.ext L (rm.set k (b.length + 1)) ys) := by
 have h1 := String_pc Y (σ.ext L rm ys) (id := σ.store.length + j) (r := σ.rooms.length + k) ⟨b.toArray⟩ (by rw [Sg.get_ext]; exact h) (by rw [rooms_at, hr, size_txt]) (by rw [size_txt]; exact h0) (by rw [size_txt]; exact hl)
 rw [size_txt, Sg.setRoom_ext] at h1
 exact h1
end
theorem Cl_bself {a b c id t : Nat} : Clean a b c (.bself id t) = (id < a) := propext ⟨fun h => by cases h; assumption, fun h => .bself _ _ h⟩
theorem Cl_bbufS {a b c r t : Nat} {s : ByteArray} : Clean a b c (.bbuf (strPV s) r t) = (r < b) := propext ⟨fun h => by
 cases h with
 | bbuf _ _ _ hh =>
 cases hh with
 | isl _ _ _ hlt => exact hlt r _ 1 rfl, fun h => .bbuf _ _ _ (.isl _ _ (fun e he => strPV_clean e he) fun r' n es e => by injection e with e _ _; omega)⟩
attribute [go_sem] Cl_bself Cl_bbufS
/-- A state in which a builder holds some text. -/
def bldS (σ : Sg) (id r : Nat) (b : List UInt8) : Sg := (σ.setRoom r b.length).setVar id (bldC id r b)
theorem bldS_len {σ : Sg} {id r : Nat} {b : List UInt8} : (bldS σ id r b).store.length = σ.store.length := by simp [bldS, Sg.setVar, Sg.setRoom]
theorem bldS_rooms {σ : Sg} {id r : Nat} {b : List UInt8} : (bldS σ id r b).rooms.length = σ.rooms.length := by simp [bldS, Sg.setVar, Sg.setRoom]
theorem bldS_ys {σ : Sg} {id r : Nat} {b : List UInt8} : (bldS σ id r b).ys = σ.ys := rfl
theorem bldS_set {σ : Sg} {id r : Nat} {a b : List UInt8} : bldS (bldS σ id r a) id r b = bldS σ id r b := by simp [bldS, Sg.setVar, Sg.setRoom, List.set_set]
theorem bldS_get {σ : Sg} {id r : Nat} {b : List UInt8} (h : id < σ.store.length) : (bldS σ id r b).store[id]? = some (some (bldC id r b)) := by simp [bldS, Sg.setVar, Sg.setRoom, h]
theorem bldS_room {σ : Sg} {id r : Nat} {b : List UInt8} (h : r < σ.rooms.length) : (bldS σ id r b).rooms[r]? = some b.length := by simp [bldS, Sg.setVar, Sg.setRoom, h]
theorem bldS_self {σ : Sg} {id r : Nat} {b : List UInt8} (h : σ.store[id]? = some (some (bldC id r b))) (hr : σ.rooms[r]? = some b.length) : bldS σ id r b = σ := by
 obtain ⟨h1, h2⟩ := List.getElem?_eq_some_iff.1 h
 obtain ⟨h3, h4⟩ := List.getElem?_eq_some_iff.1 hr
 have e1 : σ.store.set id (some (bldC id r b)) = σ.store := by rw [← h2]; exact List.set_getElem_self _
 have e2 : σ.rooms.set r b.length = σ.rooms := by rw [← h4]; exact List.set_getElem_self _
 show (⟨σ.store.set id (some (bldC id r b)), σ.rooms.set r b.length, σ.ys⟩ : Sg) = σ
 rw [e1, e2]
theorem bldS_clean {σ : Sg} {id r : Nat} {a b : List UInt8} (hcl : CleanSg (bldS σ id r a)) (h : id < σ.store.length) (hr : r < σ.rooms.length) : CleanSg (bldS σ id r b) := by
 have hcl' : CleanCut (bldS σ id r a) σ.store.length σ.rooms.length σ.ys.length := by
  have := hcl
  unfold CleanSg at this
  rw [bldS_len, bldS_rooms] at this
  exact this
 show CleanCut (bldS σ id r b) _ _ _
 rw [bldS_len, bldS_rooms]
 intro i cs hi hcs p hp
 have h0 : (σ.store.set id (some (bldC id r b)))[i]? = some (some cs) := hcs
 rw [List.getElem?_set] at h0
 by_cases e : id = i
 ·subst e
  rw [if_pos rfl, if_pos h] at h0
  injection h0 with h0
  injection h0 with h0
  subst h0
  simp only [bldC, List.mem_cons, List.not_mem_nil, or_false] at hp
  rcases hp with rfl | rfl
  ·exact .bself _ _ h
  exact .bbuf _ _ _ (.isl _ _ (fun e he => strPV_clean e he) fun r' n es e => by injection e with e _ _; omega)
 rw [if_neg e] at h0
 refine hcl' i cs hi ?_ p hp
 show (σ.store.set id _)[i]? = _
 rw [List.getElem?_set, if_neg e]
 exact h0
theorem WriteB_pc (Y : YEnv) (σ : Sg) {id r : Nat} (h : id < σ.store.length) (hr : r < σ.rooms.length) (b s : List UInt8) (hl : b.length + s.length ≤ 2 ^ 46) :
 PC Tryz.prog Y 55 [.ptr id 0, txt s] (bldS σ id r b) (.tuple [I s.length, .niliface]) (bldS σ id r (b ++ s)) := by
 have h1 := WriteString_pc Y (bldS σ id r b) (id := id) (r := r) ⟨b.toArray⟩ ⟨s.toArray⟩ (bldS_get h) (by rw [bldS_room hr, size_txt]) (by rw [size_txt, size_txt]; exact hl)
 rw [size_txt, size_txt, app_txt] at h1
 have e : (((bldS σ id r b).setRoom r (b.length + s.length)).setVar id [.bself id 116, .bbuf (strPV ⟨(b ++ s).toArray⟩) r 5]) = bldS σ id r (b ++ s) := by
  rw [← List.length_append]
  exact bldS_set
 rw [e] at h1
 exact h1
theorem Fin_bld {P : Program} {fn : Func} {σ : Sg} {id r : Nat} {a b : List UInt8} {E : Env} {rs : List PV} {v : PV} (hcl : CleanSg (bldS σ id r a)) (h : id < σ.store.length) (hr : r < σ.rooms.length)
 (hres : resPV P (bldS σ id r b) E fn.results.toList = some rs) (hv : Wk σ.store.length σ.rooms.length σ.ys.length (oneOr rs) v) : Fin P fn (bldS σ id r a) v (bldS σ id r b) E (bldS σ id r b) := by
 have hc := bldS_clean (b := b) hcl h hr
 have := Fin_self (fn := fn) hc hres (v := v) (by rw [bldS_len, bldS_rooms]; exact hv)
 obtain ⟨l0, n1, n2, k1, k2, k3, k4, k5, k6, k7⟩ := this
 rw [bldS_len] at k2
 rw [bldS_rooms] at k3
 exact ⟨l0, n1, n2, k1, by rw [bldS_len]; exact k2, by rw [bldS_rooms]; exact k3, k4, k5, k6, k7⟩
attribute [go_sem] bldS_len bldS_rooms bldS_ys
set_option maxHeartbeats 2000000 in
theorem Wrow_pc (Y : YEnv) (σ : Sg) (w : List UInt8) (l : List Int) (o : Own) (b : List UInt8) (id r : Nat) (hid : id < σ.store.length) (hr : r < σ.rooms.length) (hv : Fits l) (hw : w.length ≤ 2 ^ 20) (hl : l.length ≤ 2 ^ 20) (hb : b.length ≤ 2 ^ 40) :
 PC Tryz.prog Y 54 [txt w, .isl (l.map I) o, .ptr id 0] (bldS σ id r b) (.tuple []) (bldS σ id r (b ++ lineT w l)) := by
 refine PC_of_W Tryz.func54 rfl (by kernel_rfl) Tryz.ntmps54 (by simp) fun hcl hca => ?_
 refine W_sr [1, 2] fun R hR => ?_
 simp only [go_sem]
 refine GCall_of (WriteB_pc Y σ hid hr b w (by omega)) ?_
 simp only [go_sem]
 refine hR _ _ ?_; clear hR R
 try simp only [go_sem]
 refine W_seq fun Z2 K2 => ?_
 refine W_sr [2, 9, 10, 11] fun R hR => ?_
 simp only [go_sem]
 refine hR _ _ ?_; clear hR R
 try simp only [go_sem]
 refine W_block ?_
 refine W_loopT (α := Nat) (fun (i : Nat) => [(11, I i)]) (fun (i : Nat) => bldS σ id r (b ++ rowT w (l.take i))) (fun (i : Nat) => i ≤ l.length) (fun (i : Nat) => l.length - i) (0) rfl (by simp [rowT_nil]) (Nat.zero_le _) ?_
 rintro i hi
 have hrt : (rowT w (l.take i)).length ≤ w.length + 22 * l.length := by
  have h1 := rowT_len (l.take i) w (fun n hn => hv n (List.mem_of_mem_take hn))
  rw [List.length_take] at h1
  omega
 refine W_sr [2, 9, 10, 11, 12] fun R hR => ?_
 simp only [go_sem]
 refine hR _ _ ?_; clear hR R
 try simp only [go_sem]
 refine W_seq fun Z5 K5 => ?_
 refine W_cond rfl (fun c1 => ?_) (fun c1 => ?_)
 ·
  try simp only [nrm] at c1
  have hi' : i < l.length := by first | assumption | omega
  obtain ⟨x, hx⟩ : ∃ x, l[i]? = some x := ⟨l[i], by simp [hi']⟩
  have hdrop : l.drop i = x :: l.drop (i + 1) := by
   rw [List.drop_eq_getElem_cons hi']; congr 1; exact (List.getElem?_eq_some_iff.1 hx).2
  have hxv := hv x (List.mem_of_getElem? hx)
  have hxl := Lib.itoa_length_le x hxv.1 hxv.2
  refine W_skip (K5 _ _ ?_)
  refine W_seq fun Z6 K6 => ?_
  refine W_block ?_
  refine W_sr [2, 6, 9, 10, 11] fun R hR => ?_
  simp only [go_sem, hx]
  refine hR _ _ ?_; clear hR R
  try simp only [go_sem, hx]
  refine W_region [2, 9, 10, 11] fun R hR => ?_
  simp only [go_sem, hx]
  refine GCall_of (Itoa_pc Y _ x hxv.1 hxv.2) ?_
  simp only [go_sem, hx]
  try simp (disch := (first | omega | (simp only [go_sem, List.length_append] <;> omega))) only [wrapI, wrapU, appX_exact, appX_tok, strAdd, slT, slTa, slTb]
  try simp only [go_sem, hx]
  try simp (disch := (first | omega | (simp only [go_sem, List.length_append] <;> omega))) only [wrapI, wrapU, strAdd, slT, slTa, slTb]
  refine GCall_of (WriteB_pc Y σ hid hr (b ++ rowT w (l.take i)) (32 :: Lib.itoa x) (by simp only [List.length_append, List.length_cons]; omega)) ?_
  simp only [go_sem, hx]
  try simp (disch := (first | omega | (simp only [go_sem, List.length_append] <;> omega))) only [wrapI, wrapU, strAdd, slT, slTa, slTb]
  refine hR _ _ (K6 _ _ ?_); clear hR R; try clear K6 Z6
  try simp only [go_sem, hx]
  refine W_region [2, 9, 10, 11] fun R hR => ?_
  simp only [go_sem, hx]
  try simp (disch := (first | omega | (simp only [go_sem, List.length_append] <;> omega))) only [wrapI, wrapU, strAdd, slT, slTa, slTb]
  refine hR _ _ ?_; clear hR R
  try simp only [go_sem, hx]
  refine ⟨i + 1, ?_, by (try simp only []); omega, ?_⟩
  ·exact Weak.eq rfl (by rw [rowT_take hx, ← List.append_assoc])
  try dsimp only
  omega
 try simp only [nrm] at c1
 have hie : i = l.length := by first | omega | (simp at c1; omega)
 subst hie
 rw [List.take_length] at hrt ⊢
 refine W_exit ?_
 simp only [go_sem]
 refine K2 _ _ ?_
 refine W_region [] fun R hR => ?_
 simp only [go_sem]
 refine GCall_of (WriteB_pc Y σ hid hr (b ++ rowT w l) [10] (by simp only [List.length_append, List.length_cons, List.length_nil]; omega)) ?_
 simp only [go_sem]
 refine hR _ _ ?_; clear hR R
 try simp only [go_sem]
 try simp only [go_sem]
 refine ⟨.inl (by trivial), ?_⟩
 rw [show b ++ lineT w l = b ++ rowT w l ++ [10] by simp [lineT]]
 refine Fin_bld hcl hid hr rfl (Wk_eq ?_ (by simp only [go_sem]))
 try simp only [go_sem]
 all_goals
  first | rfl | (simp_all; done) | (simp_all; omega)
end Go.Proofs.YtpiepcplalkfiaaGreatDoor
namespace Go.Proofs.YtpiepcplalkfiaaGreatDoor
open Go Go.RowKit
set_option maxRecDepth 100000
set_option maxHeartbeats 2000000 in
theorem Len_pc (Y : YEnv) (σ : Sg) {id r : Nat} (b : List UInt8) (hst : σ.store[id]? = some (some (bldC id r b))) :
 PC Tryz.prog Y 57 [.ptr id 0] σ (I b.length) (σ) := by
 refine PC_of_W Tryz.func57 rfl (by kernel_rfl) Tryz.ntmps57 (by simp) fun hcl hca => ?_
 have hld : ldS σ id 1 = some (.bbuf (strPV ⟨b.toArray⟩) r 5) := by simp [ldS, hst, bldC]
 have hlb : lenPV Tryz.prog 114 (.bbuf (strPV ⟨b.toArray⟩) r 5) = some (I b.length) := by
  rw [lenB_of Tryz.underlying114, strPV_len, size_txt]
 refine W_sr [0] fun R hR => ?_
 simp only [go_sem, hld, hlb]
 refine hR _ _ ?_; clear hR R
 try simp only [go_sem, hld, hlb]
 refine W_sr [2] fun R hR => ?_
 simp only [go_sem, hld, hlb]
 refine hR _ _ ?_; clear hR R
 try simp only [go_sem, hld, hlb]
 refine W_ret ?_
 simp only [go_sem, hld, hlb]
 refine ⟨.inr (by trivial), ?_⟩
 first | refine Fsa hcl rfl ?_ | refine Fse hcl rfl ?_
 try simp only [go_sem]
 all_goals
  first | rfl | (simp_all; done) | (simp_all; omega)
section
variable {σ : Sg} {L : List (Option (List PV))} {rm : List Nat} {ys : List LState} {j k : Nat} {b w : List UInt8} {l : List Int} {o : Own}
theorem RowT_pc (Y : YEnv) (h : L[j]? = some (some (bldC (σ.store.length + j) (σ.rooms.length + k) b))) (hr : rm[k]? = some b.length) (hv : Fits l) (hw : w.length ≤ 2 ^ 20) (hl : l.length ≤ 2 ^ 20) (hb : b.length ≤ 2 ^ 40) :
 PC Tryz.prog Y 54 [txt w, .isl (l.map I) o, .ptr (σ.store.length + j) 0] (σ.ext L rm ys) (.tuple []) (σ.ext (L.set j (some (bldC (σ.store.length + j) (σ.rooms.length + k) (b ++ lineT w l)))) (rm.set k (b ++ lineT w l).length) ys) := by
 have h1 : (σ.ext L rm ys).store[σ.store.length + j]? = some (some (bldC (σ.store.length + j) (σ.rooms.length + k) b)) := by rw [Sg.get_ext]; exact h
 have h2 : (σ.ext L rm ys).rooms[σ.rooms.length + k]? = some b.length := by rw [rooms_at]; exact hr
 have h3 := Wrow_pc Y (σ.ext L rm ys) w l o b (σ.store.length + j) (σ.rooms.length + k) (List.getElem?_eq_some_iff.1 h1).1 (List.getElem?_eq_some_iff.1 h2).1 hv hw hl hb
 rw [bldS_self h1 h2] at h3
 unfold bldS at h3
 rw [Sg.setRoom_ext, setVar_ext] at h3
 exact h3
theorem LenT_pc (Y : YEnv) (h : L[j]? = some (some (bldC (σ.store.length + j) (σ.rooms.length + k) b))) :
 PC Tryz.prog Y 57 [.ptr (σ.store.length + j) 0] (σ.ext L rm ys) (I b.length) (σ.ext L rm ys) :=
 Len_pc Y _ (r := σ.rooms.length + k) b (by rw [Sg.get_ext]; exact h)
end
attribute [go_sem] bldC
set_option maxHeartbeats 8000000 in
theorem Write_pc (Y : YEnv) (σ : Sg) (s : Scale) (g : Night) (hs : s.Ok) (hg : g.Ok) :
 PC Tryz.prog Y 25 [scPV s, ngPV g] σ (.tuple [txt (minA s g).1, I (minA s g).2]) (σ) := by
 refine PC_of_W Tryz.func25 rfl (by kernel_rfl) Tryz.ntmps25 (by simp) fun hcl hca => ?_
 refine W_sr [2, 3] fun R hR => ?_
 simp only [go_sem]
 refine hR _ _ ?_; clear hR R
 try simp only [go_sem]
 refine W_seq fun Z2 K2 => ?_
 refine W_sr [2, 3, 6] fun R hR => ?_
 simp only [go_sem]
 refine GCall_of (CheckNight_pc Y _ s g hs hg) ?_
 simp only [go_sem]
 refine hR _ _ ?_; clear hR R
 try simp only [go_sem]
 refine W_sr [2, 3, 6, 19] fun R hR => ?_
 simp only [go_sem]
 refine hR _ _ ?_; clear hR R
 try simp only [go_sem]
 refine W_cond rfl (fun c1 => ?_) (fun c1 => ?_)
 ·
  try simp only [nrm] at c1
  have hwr : minA s g = ([], knownE s g) := by unfold minA; rw [if_pos (by simpa using c1)]
  refine W_sr [4, 5] fun R hR => ?_
  simp only [go_sem]
  refine hR _ _ ?_; clear hR R
  try simp only [go_sem]
  refine W_ret ?_
  simp only [go_sem]
  refine ⟨.inr (by trivial), ?_⟩
  first | refine Fsa hcl rfl ?_ | refine Fse hcl rfl ?_
  try simp only [go_sem]
  all_goals
   rw [hwr]
 try simp only [nrm] at c1
 have hck : knownE s g = 0 := by simpa using c1
 have hnk := night_k hck
 have hhl := headT_len hnk
 have hel := hnk.el
 have hal := hnk.al
 have hfl := hnk.fl
 have hab : ∀ a, a ∈ g.absent → Fits (prNums a) := fun a ha => (hnk.ab a ha).fits (by omega)
 have hfi : ∀ a, a ∈ g.fines → Fits (prNums a) := fun a ha => (hnk.fi a ha).fits (by omega)
 have hl1 := evT_len hnk.ev
 have hl2 := prT_len (w := absentW) (by decide) hab
 have hl3 := prT_len (w := fineW) (by decide) hfi
 have hl4 := endT_len (n := g.opened.length) (by omega)
 have hw1 := lineT_len (w := scaleW) (hnk.sc.fits (by omega))
 have hw2 := lineT_len (w := orderW) (hnk.od.fits (by omega))
 have hol := hnk.ol
 have e1 : (scNums s).length = 6 := rfl
 have e2 : scaleW.length = 5 := rfl
 have e3 : orderW.length = 5 := rfl
 refine W_skip (K2 _ _ ?_)
 refine W_seq fun Z6 K6 => ?_
 refine W_newB [2, 3, 7] (T := 116) 5 rfl rfl rfl rfl (by decide) zeroB ?_
 refine K6 _ _ ?_
 try simp only [go_sem]
 refine W_sr [2, 3, 7, 8] fun R hR => ?_
 simp only [go_sem]
 refine hR _ _ ?_; clear hR R
 try simp only [go_sem]
 refine W_sr [2, 3, 7, 8] fun R hR => ?_
 simp only [go_sem]
 refine GCall_of (RowT_pc (j := 2) (k := 0) (b := []) (w := scaleW) (l := scNums s) Y rfl (by simp [Nat.add_assoc]) (hnk.sc.fits (by omega)) (by decide) (by simp [scNums]) (by first | omega | (simp only [List.length_append, List.length_nil]; omega))) ?_
 simp only [go_sem]
 refine hR _ _ ?_; clear hR R
 try simp only [go_sem]
 refine W_sr [3, 7, 8] fun R hR => ?_
 simp only [go_sem]
 refine GCall_of (RowT_pc (j := 2) (k := 0) (b := lineT scaleW (scNums s)) (w := orderW) (l := s.order) Y rfl (by simp [Nat.add_assoc]) (hnk.od.fits (by omega)) (by decide) (by have := hnk.ol; omega) (by first | omega | (simp only [List.length_append, List.length_nil]; omega))) ?_
 simp only [go_sem]
 refine hR _ _ ?_; clear hR R
 try simp only [go_sem]
 refine W_seq fun Z10 K10 => ?_
 refine W_sr [3, 7, 8, 42, 43, 44] fun R hR => ?_
 simp only [go_sem]
 refine hR _ _ ?_; clear hR R
 try simp only [go_sem]
 refine W_block ?_
 refine W_loopT (α := Nat) (fun (i : Nat) => [(44, I i)]) (fun (i : Nat) => σ.ext [some (scCells s), some (ngCells g), some (bldC (σ.store.length + 2) σ.rooms.length (headT s ++ evT (g.opened.take i)))] [(headT s ++ evT (g.opened.take i)).length]) (fun (i : Nat) => i ≤ g.opened.length) (fun (i : Nat) => g.opened.length - i) (0) rfl (by rw [show headT s ++ evT (List.take 0 g.opened) = lineT scaleW (scNums s) ++ lineT orderW s.order by simp [headT, evT]]; first | rfl | (simp only [go_sem, List.length_append]; done) | (simp only [go_sem, List.length_append]; rfl) | (simp [go_sem, List.length_append, Nat.add_assoc]; done)) (Nat.zero_le _) ?_
 rintro i hi
 have hbt : (evT (g.opened.take i)).length ≤ 300 * 60 := by
  have := evT_len (l := g.opened.take i) (fun b hb => hnk.ev b (List.mem_of_mem_take hb))
  rw [List.length_take] at this
  omega
 refine W_sr [3, 7, 8, 42, 43, 44, 45] fun R hR => ?_
 simp only [go_sem]
 refine hR _ _ ?_; clear hR R
 try simp only [go_sem]
 refine W_seq fun Z13 K13 => ?_
 refine W_cond rfl (fun c2 => ?_) (fun c2 => ?_)
 ·
  try simp only [nrm] at c2
  have hi' : i < g.opened.length := by first | assumption | omega
  obtain ⟨b, hx⟩ : ∃ b, g.opened[i]? = some b := ⟨g.opened[i], by simp [hi']⟩
  have hdrop : g.opened.drop i = b :: g.opened.drop (i + 1) := by
   rw [List.drop_eq_getElem_cons hi']; congr 1; exact (List.getElem?_eq_some_iff.1 hx).2
  have hbk := hnk.ev b (List.mem_of_getElem? hx)
  have hbl := hbk.l
  refine W_skip (K13 _ _ ?_)
  refine W_seq fun Z14 K14 => ?_
  refine W_block ?_
  refine W_sr [3, 7, 8, 10, 42, 43, 44] fun R hR => ?_
  simp only [go_sem, hx]
  refine hR _ _ ?_; clear hR R
  try simp only [go_sem, hx]
  refine W_region [3, 7, 8, 42, 43, 44] fun R hR => ?_
  simp only [go_sem, hx]
  try simp (disch := (first | omega | (simp only [go_sem, List.length_append] <;> omega))) only [wrapI, wrapU, appX_exact, appX_tok, strAdd, slT, slTa, slTb]
  try simp only [go_sem, hx]
  refine GCall_of (RowT_pc (j := 2) (k := 0) (b := headT s ++ evT (g.opened.take i)) (w := marksW) (l := evNums b) Y rfl (by simp [Nat.add_assoc]) (hbk.nums.fits (by omega)) (by decide) (by have := hbk.l; simp [evNums]; omega) (by first | omega | (simp only [List.length_append, List.length_nil]; omega))) ?_
  simp only [go_sem, hx]
  refine hR _ _ (K14 _ _ ?_); clear hR R; try clear K14 Z14
  try simp only [go_sem, hx]
  refine W_region [3, 7, 8, 42, 43, 44] fun R hR => ?_
  simp only [go_sem, hx]
  try simp (disch := (first | omega | (simp only [go_sem, List.length_append] <;> omega))) only [wrapI, wrapU, strAdd, slT, slTa, slTb]
  refine hR _ _ ?_; clear hR R
  try simp only [go_sem, hx]
  refine ⟨i + 1, ?_, by (try simp only []); omega, ?_⟩
  ·refine Weak.trans (Weak.cutX 3 1 (by omega) (by omega) hcl (by simp only [go_sem] <;> omega) (by simp only [go_sem] <;> omega)) ?_
   simp only [go_sem]
   refine Weak.eq (by first | rfl | (simp only [go_sem]; done) | (simp only [go_sem]; rfl)) ?_
   rw [evT_take hx]
   simp only [go_sem, List.append_assoc, List.length_append, Nat.add_assoc]
  try dsimp only
  omega
 try simp only [nrm] at c2
 have hdrop : g.opened.drop i = [] := List.drop_eq_nil_of_le (by omega)
 have hie : i = g.opened.length := by omega
 subst hie
 rw [List.take_length] at hbt ⊢
 refine W_exit ?_
 simp only [go_sem]
 refine K10 _ _ ?_
 refine W_seq fun Z16 K16 => ?_
 refine W_sr [3, 7, 8, 62, 63, 64] fun R hR => ?_
 simp only [go_sem]
 refine hR _ _ ?_; clear hR R
 try simp only [go_sem]
 refine W_block ?_
 refine W_loopT (α := Nat) (fun (i : Nat) => [(64, I i)]) (fun (i : Nat) => σ.ext [some (scCells s), some (ngCells g), some (bldC (σ.store.length + 2) σ.rooms.length (headT s ++ evT g.opened ++ prT absentW (g.absent.take i)))] [(headT s ++ evT g.opened ++ prT absentW (g.absent.take i)).length]) (fun (i : Nat) => i ≤ g.absent.length) (fun (i : Nat) => g.absent.length - i) (0) rfl (by rw [show headT s ++ evT g.opened ++ prT absentW (List.take 0 g.absent) = headT s ++ evT g.opened by simp [prT]]; first | rfl | (simp only [go_sem, List.length_append]; done) | (simp only [go_sem, List.length_append]; rfl) | (simp [go_sem, List.length_append, Nat.add_assoc]; done)) (Nat.zero_le _) ?_
 rintro i hi
 have hbt2 : (prT absentW (g.absent.take i)).length ≤ 60 * 60 := by
  have := prT_len (w := absentW) (by decide) (l := g.absent.take i) (fun b hb => hab b (List.mem_of_mem_take hb))
  rw [List.length_take] at this
  omega
 refine W_sr [3, 7, 8, 62, 63, 64, 65] fun R hR => ?_
 simp only [go_sem]
 refine hR _ _ ?_; clear hR R
 try simp only [go_sem]
 refine W_seq fun Z19 K19 => ?_
 refine W_cond rfl (fun c3 => ?_) (fun c3 => ?_)
 ·
  try simp only [nrm] at c3
  have hi' : i < g.absent.length := by first | assumption | omega
  obtain ⟨b, hx⟩ : ∃ b, g.absent[i]? = some b := ⟨g.absent[i], by simp [hi']⟩
  have hdrop : g.absent.drop i = b :: g.absent.drop (i + 1) := by
   rw [List.drop_eq_getElem_cons hi']; congr 1; exact (List.getElem?_eq_some_iff.1 hx).2
  have hbk := hnk.ab b (List.mem_of_getElem? hx)
  refine W_skip (K19 _ _ ?_)
  refine W_seq fun Z20 K20 => ?_
  refine W_block ?_
  refine W_sr [3, 7, 8, 12, 62, 63, 64] fun R hR => ?_
  simp only [go_sem, hx]
  refine hR _ _ ?_; clear hR R
  try simp only [go_sem, hx]
  refine W_region [3, 7, 8, 62, 63, 64] fun R hR => ?_
  simp only [go_sem, hx]
  refine GCall_of (RowT_pc (j := 2) (k := 0) (b := headT s ++ evT g.opened ++ prT absentW (g.absent.take i)) (w := absentW) (l := prNums b) Y rfl (by simp [Nat.add_assoc]) (hbk.fits (by omega)) (by decide) (by simp [prNums]) (by first | omega | (simp only [List.length_append, List.length_nil]; omega))) ?_
  simp only [go_sem, hx]
  refine hR _ _ (K20 _ _ ?_); clear hR R; try clear K20 Z20
  try simp only [go_sem, hx]
  refine W_region [3, 7, 8, 62, 63, 64] fun R hR => ?_
  simp only [go_sem, hx]
  try simp (disch := (first | omega | (simp only [go_sem, List.length_append] <;> omega))) only [wrapI, wrapU, strAdd, slT, slTa, slTb]
  refine hR _ _ ?_; clear hR R
  try simp only [go_sem, hx]
  refine ⟨i + 1, ?_, by (try simp only []); omega, ?_⟩
  ·refine Weak.trans (Weak.cutX 3 1 (by omega) (by omega) hcl (by simp only [go_sem] <;> omega) (by simp only [go_sem] <;> omega)) ?_
   simp only [go_sem]
   refine Weak.eq (by first | rfl | (simp only [go_sem]; done) | (simp only [go_sem]; rfl)) ?_
   rw [prT_take hx]
   simp only [go_sem, List.append_assoc, List.length_append, Nat.add_assoc]
  try dsimp only
  omega
 try simp only [nrm] at c3
 have hdrop : g.absent.drop i = [] := List.drop_eq_nil_of_le (by omega)
 have hie : i = g.absent.length := by omega
 subst hie
 rw [List.take_length] at hbt2 ⊢
 refine W_exit ?_
 simp only [go_sem]
 refine K16 _ _ ?_
 refine W_seq fun Z22 K22 => ?_
 refine W_sr [3, 7, 8, 77, 78, 79] fun R hR => ?_
 simp only [go_sem]
 refine hR _ _ ?_; clear hR R
 try simp only [go_sem]
 refine W_block ?_
 refine W_loopT (α := Nat) (fun (i : Nat) => [(79, I i)]) (fun (i : Nat) => σ.ext [some (scCells s), some (ngCells g), some (bldC (σ.store.length + 2) σ.rooms.length (headT s ++ evT g.opened ++ prT absentW g.absent ++ prT fineW (g.fines.take i)))] [(headT s ++ evT g.opened ++ prT absentW g.absent ++ prT fineW (g.fines.take i)).length]) (fun (i : Nat) => i ≤ g.fines.length) (fun (i : Nat) => g.fines.length - i) (0) rfl (by rw [show headT s ++ evT g.opened ++ prT absentW g.absent ++ prT fineW (List.take 0 g.fines) = headT s ++ evT g.opened ++ prT absentW g.absent by simp [prT]]; first | rfl | (simp only [go_sem, List.length_append]; done) | (simp only [go_sem, List.length_append]; rfl) | (simp [go_sem, List.length_append, Nat.add_assoc]; done)) (Nat.zero_le _) ?_
 rintro i hi
 have hbt3 : (prT fineW (g.fines.take i)).length ≤ 60 * 60 := by
  have := prT_len (w := fineW) (by decide) (l := g.fines.take i) (fun b hb => hfi b (List.mem_of_mem_take hb))
  rw [List.length_take] at this
  omega
 refine W_sr [3, 7, 8, 77, 78, 79, 80] fun R hR => ?_
 simp only [go_sem]
 refine hR _ _ ?_; clear hR R
 try simp only [go_sem]
 refine W_seq fun Z25 K25 => ?_
 refine W_cond rfl (fun c4 => ?_) (fun c4 => ?_)
 ·
  try simp only [nrm] at c4
  have hi' : i < g.fines.length := by first | assumption | omega
  obtain ⟨b, hx⟩ : ∃ b, g.fines[i]? = some b := ⟨g.fines[i], by simp [hi']⟩
  have hdrop : g.fines.drop i = b :: g.fines.drop (i + 1) := by
   rw [List.drop_eq_getElem_cons hi']; congr 1; exact (List.getElem?_eq_some_iff.1 hx).2
  have hbk := hnk.fi b (List.mem_of_getElem? hx)
  refine W_skip (K25 _ _ ?_)
  refine W_seq fun Z26 K26 => ?_
  refine W_block ?_
  refine W_sr [3, 7, 8, 14, 77, 78, 79] fun R hR => ?_
  simp only [go_sem, hx]
  refine hR _ _ ?_; clear hR R
  try simp only [go_sem, hx]
  refine W_region [3, 7, 8, 77, 78, 79] fun R hR => ?_
  simp only [go_sem, hx]
  refine GCall_of (RowT_pc (j := 2) (k := 0) (b := headT s ++ evT g.opened ++ prT absentW g.absent ++ prT fineW (g.fines.take i)) (w := fineW) (l := prNums b) Y rfl (by simp [Nat.add_assoc]) (hbk.fits (by omega)) (by decide) (by simp [prNums]) (by first | omega | (simp only [List.length_append, List.length_nil]; omega))) ?_
  simp only [go_sem, hx]
  refine hR _ _ (K26 _ _ ?_); clear hR R; try clear K26 Z26
  try simp only [go_sem, hx]
  refine W_region [3, 7, 8, 77, 78, 79] fun R hR => ?_
  simp only [go_sem, hx]
  try simp (disch := (first | omega | (simp only [go_sem, List.length_append] <;> omega))) only [wrapI, wrapU, strAdd, slT, slTa, slTb]
  refine hR _ _ ?_; clear hR R
  try simp only [go_sem, hx]
  refine ⟨i + 1, ?_, by (try simp only []); omega, ?_⟩
  ·refine Weak.trans (Weak.cutX 3 1 (by omega) (by omega) hcl (by simp only [go_sem] <;> omega) (by simp only [go_sem] <;> omega)) ?_
   simp only [go_sem]
   refine Weak.eq (by first | rfl | (simp only [go_sem]; done) | (simp only [go_sem]; rfl)) ?_
   rw [prT_take hx]
   simp only [go_sem, List.append_assoc, List.length_append, Nat.add_assoc]
  try dsimp only
  omega
 try simp only [nrm] at c4
 have hdrop : g.fines.drop i = [] := List.drop_eq_nil_of_le (by omega)
 have hie : i = g.fines.length := by omega
 subst hie
 rw [List.take_length] at hbt3 ⊢
 refine W_exit ?_
 simp only [go_sem]
 refine K22 _ _ ?_
 refine W_sr [7] fun R hR => ?_
 simp only [go_sem]
 refine GCall_of (RowT_pc (j := 2) (k := 0) (b := headT s ++ evT g.opened ++ prT absentW g.absent ++ prT fineW g.fines) (w := endW) (l := [(g.opened.length : Int)]) Y rfl (by simp [Nat.add_assoc]) (Fits.one (by omega)) (by decide) (by simp) (by first | omega | (simp only [List.length_append, List.length_nil]; omega))) ?_
 simp only [go_sem]
 refine hR _ _ ?_; clear hR R
 try simp only [go_sem]
 refine W_seq fun Z29 K29 => ?_
 refine W_sr [7, 98] fun R hR => ?_
 simp only [go_sem]
 refine GCall_of (LenT_pc (j := 2) (k := 0) (b := minT s g) Y rfl) ?_
 simp only [go_sem]
 refine hR _ _ ?_; clear hR R
 try simp only [go_sem]
 refine W_cond rfl (fun c5 => ?_) (fun c5 => ?_)
 ·
  try simp only [nrm] at c5
  have hwr : minA s g = ([], 6) := by
   unfold minA
   rw [if_neg (by omega), if_pos (by omega)]
  refine W_sr [4, 5] fun R hR => ?_
  simp only [go_sem]
  refine hR _ _ ?_; clear hR R
  try simp only [go_sem]
  refine W_ret ?_
  simp only [go_sem]
  refine ⟨.inr (by trivial), ?_⟩
  first | refine Fsa hcl rfl ?_ | refine Fse hcl rfl ?_
  try simp only [go_sem]
  all_goals
   rw [hwr]
 try simp only [nrm] at c5
 have hwr : minA s g = (minT s g, 0) := by
  unfold minA
  rw [if_neg (by omega), if_neg (by omega)]
 refine W_skip (K29 _ _ ?_)
 refine W_sr [4, 5] fun R hR => ?_
 simp only [go_sem]
 refine GCall_of (StringT_pc (j := 2) (k := 0) (b := minT s g) Y rfl (by simp [minT]; try omega) (by simp only [minT, List.length_append, lineT, List.length_cons]; omega) (by simp only [minT, List.length_append]; omega)) ?_
 simp only [go_sem]
 refine hR _ _ ?_; clear hR R
 try simp only [go_sem]
 refine W_ret ?_
 simp only [go_sem]
 refine ⟨.inr (by trivial), ?_⟩
 first | refine Fsa hcl rfl ?_ | refine Fse hcl rfl ?_
 try simp only [go_sem]
 all_goals
  rw [hwr]
theorem tmod_bd {x n : Int} (hn : 2 ≤ n) : -n < x.tmod n ∧ x.tmod n < n := by
 have h1 := Int.tmod_lt_of_pos x (show 0 < n by omega)
 have h2 := Int.lt_tmod_of_pos x (show 0 < n by omega)
 exact ⟨h2, h1⟩
/-- A text in which a byte is another one, missing, or more. -/
def blotT (s : List UInt8) (at' how by' : Int) : List UInt8 :=
 if s = [] then s else
 let a := (fit at' s.length).toNat
 if fit how 3 = 0 then s.take a ++ [UInt8.ofNat by'.toNat] ++ s.drop (a + 1) else if fit how 3 = 1 then s.take a ++ s.drop (a + 1) else s.take a ++ [UInt8.ofNat by'.toNat] ++ s.drop a
theorem bytes_one {n : Int} : bytesStr [n] = ⟨([UInt8.ofNat n.toNat] : List UInt8).toArray⟩ := by
 unfold bytesStr
 simp only [List.foldl_cons, List.foldl_nil]
 rfl
set_option maxHeartbeats 2000000 in
theorem Fit2_pc (Y : YEnv) (σ : Sg) (x n : Int) (hn : n < 2 ^ 60) (h1 : -9223372036854775808 ≤ x) (h2 : x ≤ 9223372036854775807) :
 PC Tryz.prog Y 61 [I x, I n] σ (I (fit x n)) (σ) := by
 refine PC_of_W Tryz.func61 rfl (by kernel_rfl) Tryz.ntmps61 (by simp) fun hcl hca => ?_
 refine W_sr [0, 1] fun R hR => ?_
 simp only [go_sem]
 refine hR _ _ ?_; clear hR R
 try simp only [go_sem]
 refine W_seq fun Z2 K2 => ?_
 refine W_sr [0, 1, 6] fun R hR => ?_
 simp only [go_sem]
 refine hR _ _ ?_; clear hR R
 try simp only [go_sem]
 refine W_cond rfl (fun c1 => ?_) (fun c1 => ?_)
 ·
  try simp only [nrm] at c1
  have hf : fit x n = 0 := by unfold fit; rw [if_pos (by omega)]
  refine W_sr [4] fun R hR => ?_
  simp only [go_sem]
  refine hR _ _ ?_; clear hR R
  try simp only [go_sem]
  refine W_ret ?_
  simp only [go_sem]
  refine ⟨.inr (by trivial), ?_⟩
  first | refine Fsa hcl rfl ?_ | refine Fse hcl rfl ?_
  try simp only [go_sem]
  all_goals
   rw [hf]
 try simp only [nrm] at c1
 have hn2 : 2 ≤ n := by omega
 obtain ⟨hb1, hb2⟩ := tmod_bd (x := x) hn2
 have hf : fit x n = if x.tmod n < 0 then x.tmod n + n else x.tmod n := by unfold fit; rw [if_neg (by omega)]
 have hnz : ¬ n = 0 := by omega
 have hnz2 : (n == 0) = false := by simp; omega
 have hw : IntKind.i64.wrap (x.tmod n) = x.tmod n := wrapI (by omega) (by omega)
 refine W_skip (K2 _ _ ?_)
 refine W_sr [0, 1] fun R hR => ?_
 simp only [go_sem, hnz, hnz2, hw]
 try simp (disch := (first | omega | (simp only [go_sem, List.length_append] <;> omega))) only [wrapI, wrapU, strAdd, slT, slTa, slTb]
 refine hR _ _ ?_; clear hR R
 try simp only [go_sem, hnz, hnz2, hw]
 refine W_seq fun Z6 K6 => ?_
 refine W_sr [0, 1, 11] fun R hR => ?_
 simp only [go_sem, hnz, hnz2, hw]
 refine hR _ _ ?_; clear hR R
 try simp only [go_sem, hnz, hnz2, hw]
 refine W_cond rfl (fun c2 => ?_) (fun c2 => ?_)
 ·
  try simp only [nrm] at c2
  rw [if_pos (by omega)] at hf
  refine W_region [0] fun R hR => ?_
  simp only [go_sem, hnz, hnz2, hw]
  try simp (disch := (first | omega | (simp only [go_sem, List.length_append] <;> omega))) only [wrapI, wrapU, strAdd, slT, slTa, slTb]
  refine hR _ _ (K6 _ _ ?_); clear hR R; try clear K6 Z6
  try simp only [go_sem, hnz, hnz2, hw]
  refine W_sr [4] fun R hR => ?_
  simp only [go_sem, hnz, hnz2, hw]
  refine hR _ _ ?_; clear hR R
  try simp only [go_sem, hnz, hnz2, hw]
  refine W_ret ?_
  simp only [go_sem, hnz, hnz2, hw]
  refine ⟨.inr (by trivial), ?_⟩
  first | refine Fsa hcl rfl ?_ | refine Fse hcl rfl ?_
  try simp only [go_sem]
  all_goals
   rw [hf]
 try simp only [nrm] at c2
 rw [if_neg (by omega)] at hf
 refine W_skip (K6 _ _ ?_)
 refine W_sr [4] fun R hR => ?_
 simp only [go_sem, hnz, hnz2, hw]
 refine hR _ _ ?_; clear hR R
 try simp only [go_sem, hnz, hnz2, hw]
 refine W_ret ?_
 simp only [go_sem, hnz, hnz2, hw]
 refine ⟨.inr (by trivial), ?_⟩
 first | refine Fsa hcl rfl ?_ | refine Fse hcl rfl ?_
 try simp only [go_sem]
 all_goals
  rw [hf]
set_option maxHeartbeats 2000000 in
theorem Blot_pc (Y : YEnv) (σ : Sg) (s : List UInt8) (at' how by' : Int) (hs : s.length ≤ 2 ^ 40) (h1 : -9223372036854775808 ≤ at') (h2 : at' ≤ 9223372036854775807) (h3 : -9223372036854775808 ≤ how) (h4 : how ≤ 9223372036854775807) :
 PC Tryz.prog Y 27 [txt s, I at', I how, .int .u8 by'] σ (txt (blotT s at' how by')) (σ) := by
 refine PC_of_W Tryz.func27 rfl (by kernel_rfl) Tryz.ntmps27 (by simp) fun hcl hca => ?_
 obtain ⟨a, ha⟩ : ∃ z : Nat, fit at' s.length = z := ⟨(fit at' s.length).toNat, by have := fit_bd at' s.length; omega⟩
 obtain ⟨q, hq⟩ : ∃ z, fit how 3 = z := ⟨_, rfl⟩
 have hab := fit_bd at' s.length
 rw [ha] at hab
 refine W_sr [0, 1, 2, 3] fun R hR => ?_
 simp only [go_sem]
 refine hR _ _ ?_; clear hR R
 try simp only [go_sem]
 refine W_seq fun Z2 K2 => ?_
 refine W_sr [0, 1, 2, 3, 11] fun R hR => ?_
 simp only [go_sem]
 refine hR _ _ ?_; clear hR R
 try simp only [go_sem]
 refine W_cond rfl (fun c1 => ?_) (fun c1 => ?_)
 ·
  try simp only [nrm] at c1
  have hs0 : s = [] := by simpa using c1
  subst hs0
  have hb : blotT [] at' how by' = [] := by unfold blotT; rw [if_pos rfl]
  refine W_sr [8] fun R hR => ?_
  simp only [go_sem]
  refine hR _ _ ?_; clear hR R
  try simp only [go_sem]
  refine W_ret ?_
  simp only [go_sem]
  refine ⟨.inr (by trivial), ?_⟩
  first | refine Fsa hcl rfl ?_ | refine Fse hcl rfl ?_
  try simp only [go_sem]
  all_goals
   rw [hb]
 try simp only [nrm] at c1
 have hs0 : s ≠ [] := by simpa using c1
 have hsl : 0 < s.length := List.length_pos_iff.2 hs0
 have hal : a < s.length := by omega
 have hb : blotT s at' how by' = if q = 0 then s.take a ++ [UInt8.ofNat by'.toNat] ++ s.drop (a + 1) else if q = 1 then s.take a ++ s.drop (a + 1) else s.take a ++ [UInt8.ofNat by'.toNat] ++ s.drop a := by
  unfold blotT
  rw [if_neg hs0, ha, hq]
  simp only [Int.toNat_natCast]
 have htk : (s.take a).length = a := by rw [List.length_take]; omega
 have hdr : (s.drop (a + 1)).length ≤ s.length := by rw [List.length_drop]; omega
 have hdr2 : (s.drop a).length ≤ s.length := by rw [List.length_drop]; omega
 have hsa : slicePV Tryz.prog 9 (txt s) (some (.int .i64 ((a : Int) + 1))) none none = some (txt (s.drop (a + 1))) := slTa (a := a + 1) (by omega)
 refine W_skip (K2 _ _ ?_)
 refine W_sr [0, 1, 2, 3] fun R hR => ?_
 simp only [go_sem]
 refine GCall_of (PC.val (v' := I (a : Int)) (Fit2_pc Y _ at' (s.length : Int) (by omega) h1 h2) (by rw [ha])) ?_
 simp only [go_sem]
 refine hR _ _ ?_; clear hR R
 try simp only [go_sem]
 refine W_sr [0, 1, 2, 9] fun R hR => ?_
 simp only [go_sem, bytesOfPV, bytes_one]
 try simp (disch := (first | omega | (simp only [go_sem, List.length_append] <;> omega))) only [wrapI, wrapU, strAdd, slT, slTa, slTb]
 refine hR _ _ ?_; clear hR R
 try simp only [go_sem]
 refine W_seq fun Z7 K7 => ?_
 refine W_sr [0, 1, 9, 21] fun R hR => ?_
 simp only [go_sem]
 refine GCall_of (PC.val (v' := I q) (Fit2_pc Y _ how 3 (by omega) h3 h4) (by rw [hq])) ?_
 simp only [go_sem]
 refine hR _ _ ?_; clear hR R
 try simp only [go_sem]
 refine W_block ?_
 refine W_sr [0, 1, 9, 21, 22] fun R hR => ?_
 simp only [go_sem]
 refine hR _ _ ?_; clear hR R
 try simp only [go_sem]
 refine W_cond rfl (fun c2 => ?_) (fun c2 => ?_)
 ·
  try simp only [nrm] at c2
  rw [if_pos (by omega)] at hb
  refine W_seq fun Z10 K10 => ?_
  refine W_draw [8] [0, 1, 2, 3, 4, 5, 6, 7, 8, 9, 10] [] [[], [], [0, 1], [], [0, 1, 2, 3], [], [], [6], [5, 6, 7], [0, 1, 2, 3, 4, 5, 6, 7, 8], [0, 1, 2, 3, 4, 5, 6, 7, 8, 9]] mixed (by kernel_rfl) fun R hR => ?_
  simp only [go_sem, hsa]
  try simp (disch := (first | omega | (simp only [go_sem, List.length_append] <;> omega))) only [wrapI, wrapU, appX_exact, appX_tok, strAdd, slT, slTa, slTb]
  try simp only [go_sem, hsa]
  try simp (disch := (first | omega | (simp only [go_sem, List.length_append] <;> omega))) only [wrapI, wrapU, appX_exact, appX_tok, strAdd, slT, slTa, slTb]
  try simp only [go_sem, hsa]
  try simp (disch := (first | omega | (simp only [go_sem, List.length_append] <;> omega))) only [wrapI, wrapU, appX_exact, appX_tok, strAdd, slT, slTa, slTb]
  try simp only [go_sem, hsa]
  try simp (disch := (first | omega | (simp only [go_sem, List.length_append] <;> omega))) only [wrapI, wrapU, appX_exact, appX_tok, strAdd, slT, slTa, slTb]
  try simp only [go_sem, hsa]
  try refine And.intro (by repeat' (first | refine And.intro ?_ ?_ | exact trivial | exact GOr_right (fun _ => by simp only [go_sem, hsa]))) ?_
  refine hR _ _ (K10 _ _ ?_); clear hR R; try clear K10 Z10
  try simp only [go_sem]
  refine W_ret ?_
  simp only [go_sem]
  refine ⟨.inr (by trivial), ?_⟩
  first | refine Fsa hcl rfl ?_ | refine Fse hcl rfl ?_
  try simp only [go_sem]
  all_goals
   rw [hb]
 try simp only [nrm] at c2
 rw [if_neg (by omega)] at hb
 refine W_sr [0, 1, 9, 34] fun R hR => ?_
 simp only [go_sem]
 refine hR _ _ ?_; clear hR R
 try simp only [go_sem]
 refine W_cond rfl (fun c3 => ?_) (fun c3 => ?_)
 ·
  try simp only [nrm] at c3
  rw [if_pos (by omega)] at hb
  refine W_seq fun Z12 K12 => ?_
  refine W_draw [8] [0, 1, 2, 3, 4, 5, 6, 7, 8] [] [[], [], [0, 1], [], [], [4], [3, 4, 5], [0, 1, 2, 3, 4, 5, 6], [0, 1, 2, 3, 4, 5, 6, 7]] mixed (by kernel_rfl) fun R hR => ?_
  simp only [go_sem, hsa]
  try simp (disch := (first | omega | (simp only [go_sem, List.length_append] <;> omega))) only [wrapI, wrapU, appX_exact, appX_tok, strAdd, slT, slTa, slTb]
  try simp only [go_sem, hsa]
  try simp (disch := (first | omega | (simp only [go_sem, List.length_append] <;> omega))) only [wrapI, wrapU, appX_exact, appX_tok, strAdd, slT, slTa, slTb]
  try simp only [go_sem, hsa]
  try simp (disch := (first | omega | (simp only [go_sem, List.length_append] <;> omega))) only [wrapI, wrapU, appX_exact, appX_tok, strAdd, slT, slTa, slTb]
  try simp only [go_sem, hsa]
  try refine And.intro (by repeat' (first | refine And.intro ?_ ?_ | exact trivial | exact GOr_right (fun _ => by simp only [go_sem, hsa]))) ?_
  refine hR _ _ (K12 _ _ ?_); clear hR R; try clear K12 Z12
  try simp only [go_sem]
  refine W_ret ?_
  simp only [go_sem]
  refine ⟨.inr (by trivial), ?_⟩
  first | refine Fsa hcl rfl ?_ | refine Fse hcl rfl ?_
  try simp only [go_sem]
  all_goals
   rw [hb]
 try simp only [nrm] at c3
 rw [if_neg (by omega)] at hb
 refine W_skip (K7 _ _ ?_)
 refine W_seq fun Z13 K13 => ?_
 refine W_draw [8] [0, 1, 2, 3, 4, 5, 6, 7, 8, 9] [] [[], [], [0, 1], [], [0, 1, 2, 3], [], [], [5, 6], [0, 1, 2, 3, 4, 5, 6, 7], [0, 1, 2, 3, 4, 5, 6, 7, 8]] mixed (by kernel_rfl) fun R hR => ?_
 simp only [go_sem]
 try simp (disch := (first | omega | (simp only [go_sem, List.length_append] <;> omega))) only [wrapI, wrapU, appX_exact, appX_tok, strAdd, slT, slTa, slTb]
 try simp only [go_sem]
 try simp (disch := (first | omega | (simp only [go_sem, List.length_append] <;> omega))) only [wrapI, wrapU, appX_exact, appX_tok, strAdd, slT, slTa, slTb]
 try simp only [go_sem]
 try simp (disch := (first | omega | (simp only [go_sem, List.length_append] <;> omega))) only [wrapI, wrapU, appX_exact, appX_tok, strAdd, slT, slTa, slTb]
 try simp only [go_sem]
 try simp (disch := (first | omega | (simp only [go_sem, List.length_append] <;> omega))) only [wrapI, wrapU, appX_exact, appX_tok, strAdd, slT, slTa, slTb]
 try simp only [go_sem]
 try refine And.intro (by repeat' (first | refine And.intro ?_ ?_ | exact trivial | exact GOr_right (fun _ => by simp only [go_sem]))) ?_
 refine hR _ _ (K13 _ _ ?_); clear hR R; try clear K13 Z13
 try simp only [go_sem]
 refine W_ret ?_
 simp only [go_sem]
 refine ⟨.inr (by trivial), ?_⟩
 first | refine Fsa hcl rfl ?_ | refine Fse hcl rfl ?_
 try simp only [go_sem]
 all_goals
  rw [hb]
abbrev RSt := Scale × Night × Int
def sc0 : Scale := ⟨0, 0, 0, 0, 0, 0, []⟩
def ng0 : Night := ⟨[], [], []⟩
def mkSc (s : Scale) (l : List Int) : Scale := { s with schools := l.getD 0 0, matters := l.getD 1 0, judges := l.getD 2 0, drop := l.getD 3 0, low := l.getD 4 0, high := l.getD 5 0 }
def mkEv (l : List Int) : Envl := ⟨l.getD 0 0, l.getD 1 0, l.drop 3, l.getD 2 0⟩
def mkPr (l : List Int) : Int × Int := (l.getD 0 0, l.getD 1 0)
/-- One row more; none: it is not as said. -/
def takeM (st : RSt) (w : List UInt8) (l : List Int) : Option RSt :=
 if st.2.2 = -1 ∧ w = scaleW ∧ l.length = 6 then some (mkSc st.1 l, st.2.1, 0)
 else if st.2.2 = 0 ∧ w = orderW then some ({ st.1 with order := l }, st.2.1, 1)
 else if 1 ≤ st.2.2 ∧ st.2.2 ≤ 2 ∧ w = marksW ∧ 3 ≤ l.length then some (st.1, { st.2.1 with opened := st.2.1.opened ++ [mkEv l] }, 2)
 else if 1 ≤ st.2.2 ∧ st.2.2 ≤ 3 ∧ w = absentW ∧ l.length = 2 then some (st.1, { st.2.1 with absent := st.2.1.absent ++ [mkPr l] }, 3)
 else if 1 ≤ st.2.2 ∧ st.2.2 ≤ 4 ∧ w = fineW ∧ l.length = 2 then some (st.1, { st.2.1 with fines := st.2.1.fines ++ [mkPr l] }, 4)
 else if 1 ≤ st.2.2 ∧ st.2.2 ≤ 4 ∧ w = endW ∧ l.length = 1 ∧ l.getD 0 0 = (st.2.1.opened.length : Int) then some (st.1, st.2.1, 5)
 else none
def stepM (st : RSt) (row : List UInt8) : Option RSt := match parseE 6 row with
 | none => none
 | some (w, l) => takeM st w l
def rowsM : Nat → RSt → List (List UInt8) → RSt × Int
 | _, st, [] => (st, 0)
 | i, st, r :: q => match stepM st r with
  | none => (st, (i : Int) + 1)
  | some st' => rowsM (i + 1) st' q
abbrev RAns := Scale × Night × Int × Int
def readR (rows : List (List UInt8)) : RAns :=
 if (rowsM 0 (sc0, ng0, -1) (rows.take (rows.length - 1))).2 ≠ 0 then (sc0, ng0, (rowsM 0 (sc0, ng0, -1) (rows.take (rows.length - 1))).2, 1)
 else if (rowsM 0 (sc0, ng0, -1) (rows.take (rows.length - 1))).1.2.2 ≠ 5 ∨ rows[rows.length - 1]? ≠ some [] then (sc0, ng0, (rows.length : Int), 1)
 else if knownE (rowsM 0 (sc0, ng0, -1) (rows.take (rows.length - 1))).1.1 (rowsM 0 (sc0, ng0, -1) (rows.take (rows.length - 1))).1.2.1 ≠ 0 then (sc0, ng0, 0, knownE (rowsM 0 (sc0, ng0, -1) (rows.take (rows.length - 1))).1.1 (rowsM 0 (sc0, ng0, -1) (rows.take (rows.length - 1))).1.2.1)
 else ((rowsM 0 (sc0, ng0, -1) (rows.take (rows.length - 1))).1.1, (rowsM 0 (sc0, ng0, -1) (rows.take (rows.length - 1))).1.2.1, 0, 0)
def readM (s : List UInt8) : RAns := if 3000 < s.length then (sc0, ng0, 0, 6) else readR (splitL 10 s)
theorem rowsM_cons {i : Nat} {st : RSt} {r : List UInt8} {q : List (List UInt8)} : rowsM i st (r :: q) = match stepM st r with
 | none => (st, (i : Int) + 1)
 | some st' => rowsM (i + 1) st' q := rfl
theorem rowsM_none {i : Nat} {st : RSt} {r : List UInt8} {q : List (List UInt8)} (h : stepM st r = none) : rowsM i st (r :: q) = (st, (i : Int) + 1) := by rw [rowsM_cons, h]
theorem rowsM_some {i : Nat} {st st' : RSt} {r : List UInt8} {q : List (List UInt8)} (h : stepM st r = some st') : rowsM i st (r :: q) = rowsM (i + 1) st' q := by rw [rowsM_cons, h]
theorem readR_bad {rows : List (List UInt8)} {st : RSt} {e : Int} (h : rowsM 0 (sc0, ng0, -1) (rows.take (rows.length - 1)) = (st, e)) (he : e ≠ 0) : readR rows = (sc0, ng0, e, 1) := by
 unfold readR
 rw [h, if_pos he]
theorem readR_open {rows : List (List UInt8)} {st : RSt} (h : rowsM 0 (sc0, ng0, -1) (rows.take (rows.length - 1)) = (st, 0)) (he : st.2.2 ≠ 5 ∨ rows[rows.length - 1]? ≠ some []) : readR rows = (sc0, ng0, (rows.length : Int), 1) := by
 unfold readR
 rw [h, if_neg (by simp), if_pos he]
theorem readR_end {rows : List (List UInt8)} {st : RSt} (h : rowsM 0 (sc0, ng0, -1) (rows.take (rows.length - 1)) = (st, 0)) (he : ¬ (st.2.2 ≠ 5 ∨ rows[rows.length - 1]? ≠ some [])) :
 readR rows = if knownE st.1 st.2.1 ≠ 0 then (sc0, ng0, 0, knownE st.1 st.2.1) else (st.1, st.2.1, 0, 0) := by
 unfold readR
 rw [h, if_neg (by simp), if_neg he]
/-- A scale and a night that nothing was put into. -/
def zsC : List PV := [I 0, I 0, I 0, I 0, I 0, I 0, .isl [] .exact]
def znC : List PV := [.isl [] .exact, .isl [] .exact, .isl [] .exact]
/-- A night that grows. -/
def nsC (σ : Sg) (g : Night) : List PV := [.isl (g.opened.map evPV) (.tok σ.rooms.length g.opened.length 4), .isl (g.absent.map stPV) (.tok (σ.rooms.length + 1) g.absent.length 2), .isl (g.fines.map stPV) (.tok (σ.rooms.length + 2) g.fines.length 2)]
abbrev rdS (σ : Sg) (s : Scale) (g : Night) : Sg := σ.ext [some zsC, some znC, some (scCells s), some (nsC σ g)] [g.opened.length, g.absent.length, g.fines.length]
attribute [go_sem] zsC znC nsC
theorem Fin_setX {P : Program} {fn : Func} {σ : Sg} {L L' : List (Option (List PV))} {rm rm' : List Nat} {E : Env} {rs : List PV} {v : PV} {σ'' : Sg} (hcl : CleanSg (σ.ext L rm)) (hσ : σ'' = σ.ext L' rm') (h1 : L'.length = L.length) (h2 : rm'.length = rm.length)
 (hcc : CleanLs (σ.store.length + L.length) (σ.rooms.length + rm.length) σ.ys.length L') (hres : resPV P (σ.ext L' rm') E fn.results.toList = some rs) (hv : Wk (σ.store.length + L.length) (σ.rooms.length + rm.length) σ.ys.length (oneOr rs) v) :
 Fin P fn (σ.ext L rm) v σ'' E (σ.ext L' rm') := by
 subst hσ
 have e1 : ∀ (l : List (Option (List PV))) (r : List Nat), (σ.ext l r).store.length = σ.store.length + l.length := fun l r => by simp [Sg.ext]
 have e2 : ∀ (l : List (Option (List PV))) (r : List Nat), (σ.ext l r).rooms.length = σ.rooms.length + r.length := fun l r => by simp [Sg.ext]
 have e3 : ∀ (l : List (Option (List PV))) (r : List Nat), (σ.ext l r).ys = σ.ys := fun l r => by simp [Sg.ext]
 have hcl' : CleanCut (σ.ext L rm) (σ.store.length + L.length) (σ.rooms.length + rm.length) σ.ys.length := by
  have := hcl
  unfold CleanSg at this
  rw [e1, e2, e3] at this
  exact this
 have hc : CleanSg (σ.ext L' rm') := by
  unfold CleanSg
  rw [e1, e2, e3, h1, h2]
  intro id cs hid hcs p hp
  have hcs' : (σ.store ++ L')[id]? = some (some cs) := hcs
  by_cases h : id < σ.store.length
  ·rw [List.getElem?_append_left h] at hcs'
   refine hcl' id cs hid ?_ p hp
   show (σ.store ++ L)[id]? = _
   rw [List.getElem?_append_left h]
   exact hcs'
  rw [List.getElem?_append_right (by omega)] at hcs'
  exact hcc cs (List.mem_of_getElem? hcs') p hp
 have := Fin_self (fn := fn) hc hres (v := v) (by rw [e1, e2, e3, h1, h2]; exact hv)
 obtain ⟨l0, n1, n2, k1, k2, k3, k4, k5, k6, k7⟩ := this
 rw [e1, h1] at k2
 rw [e2, h2] at k3
 exact ⟨l0, n1, n2, k1, by rw [e1]; exact k2, by rw [e2]; exact k3, k4, k5, k6, by rw [e3, e3]⟩
theorem takeM_eq (s : Scale) (g : Night) (k : Int) (w : List UInt8) (l : List Int) : takeM (s, g, k) w l =
 if k = -1 ∧ w = [115, 99, 97, 108, 101] ∧ l.length = 6 then some (mkSc s l, g, 0)
 else if k = 0 ∧ w = [111, 114, 100, 101, 114] then some ({ s with order := l }, g, 1)
 else if 1 ≤ k ∧ k ≤ 2 ∧ w = [109, 97, 114, 107, 115] ∧ 3 ≤ l.length then some (s, { g with opened := g.opened ++ [mkEv l] }, 2)
 else if 1 ≤ k ∧ k ≤ 3 ∧ w = [97, 98, 115, 101, 110, 116] ∧ l.length = 2 then some (s, { g with absent := g.absent ++ [mkPr l] }, 3)
 else if 1 ≤ k ∧ k ≤ 4 ∧ w = [102, 105, 110, 101] ∧ l.length = 2 then some (s, { g with fines := g.fines ++ [mkPr l] }, 4)
 else if 1 ≤ k ∧ k ≤ 4 ∧ w = [101, 110, 100] ∧ l.length = 1 ∧ l.getD 0 0 = (g.opened.length : Int) then some (s, g, 5)
 else none := rfl
set_option maxHeartbeats 8000000 in
theorem take_pc (Y : YEnv) (σ : Sg) (s : Scale) (g : Night) (k : Int) (w : List UInt8) (l : List Int) (hl : l.length < 2 ^ 40) (ho : g.opened.length < 2 ^ 40) (ha : g.absent.length < 2 ^ 40) (hf : g.fines.length < 2 ^ 40) :
 PC Tryz.prog Y 66 [.ptr (σ.store.length + 2) 0, .ptr (σ.store.length + 3) 0, I k, txt w, ints l] (rdS σ s g) (.tuple [I ((takeM (s, g, k) w l).getD (s, g, k)).2.2, .bool (takeM (s, g, k) w l).isSome]) (rdS σ ((takeM (s, g, k) w l).getD (s, g, k)).1 ((takeM (s, g, k) w l).getD (s, g, k)).2.1) := by
 refine PC_of_W Tryz.func66 rfl (by kernel_rfl) Tryz.ntmps66 (by simp) fun hcl hca => ?_
 refine W_sr [0, 1, 2, 3, 4] fun R hR => ?_
 simp only [go_sem]
 refine hR _ _ ?_; clear hR R
 try simp only [go_sem]
 refine W_seq fun Z2 K2 => ?_
 refine W_block ?_
 refine W_seq fun Z3 K3 => ?_
 refine W_regionJ [0, 1, 2, 3, 4, 12] [(12, .bool (decide (k = -1 ∧ w = [115, 99, 97, 108, 101] ∧ l.length = 6)))] ?_ fun R hR => ?_
 ·refine K3 _ _ ?_
  simp only [go_sem]
  refine W_cond rfl (fun c1 => ?_) (fun c1 => ?_)
  ·
   try simp only [nrm] at c1
   have y1 : k = -1 ∧ w = [115, 99, 97, 108, 101] ∧ l.length = 6 := by simpa using c1
   have hgk : ∀ k, k < l.length → l[k]? = some (l.getD k 0) := fun k h => by simp [h]
   have hg0 : l[0]? = some (l.getD 0 0) := hgk 0 (by omega)
   have hg1 : l[1]? = some (l.getD 1 0) := hgk 1 (by omega)
   have hg2 : l[2]? = some (l.getD 2 0) := hgk 2 (by omega)
   have hg3 : l[3]? = some (l.getD 3 0) := hgk 3 (by omega)
   have hg4 : l[4]? = some (l.getD 4 0) := hgk 4 (by omega)
   have hg5 : l[5]? = some (l.getD 5 0) := hgk 5 (by omega)
   have hst : takeM (s, g, k) w l = some (mkSc s l, g, 0) := by
    rw [takeM_eq, if_pos y1]
   refine W_seq fun Z4 K4 => ?_
   refine W_draw [] [0, 1, 2, 3, 4, 5, 6, 7, 8, 9, 10, 11, 12, 13, 14, 15, 16, 17, 18, 19, 20, 21, 22, 23, 24, 25, 26, 27, 28, 29, 30, 31, 32, 33, 34, 35, 36, 37, 38, 39, 40, 41] [(1, 29), (2, 29), (2, 32), (3, 29), (3, 32), (3, 35), (4, 29), (4, 32), (4, 35), (4, 38), (5, 29), (5, 32), (5, 35), (5, 38), (5, 41)] [[], [], [], [], [], [], [], [6], [6, 7], [], [9], [9, 10], [], [12], [12, 13], [], [15], [15, 16], [], [18], [18, 19], [], [21], [21, 22], [0, 6, 7, 8, 9, 10, 11, 12, 13, 14, 15, 16, 17, 18, 19, 20, 21, 22, 23], [0, 6, 7, 8, 9, 10, 11, 12, 13, 14, 15, 16, 17, 18, 19, 20, 21, 22, 23, 24], [0, 6, 7, 8, 9, 10, 11, 12, 13, 14, 15, 16, 17, 18, 19, 20, 21, 22, 23, 24, 25], [0, 1, 6, 7, 8, 9, 10, 11, 12, 13, 14, 15, 16, 17, 18, 19, 20, 21, 22, 23, 24, 25, 26], [0, 1, 6, 7, 8, 9, 10, 11, 12, 13, 14, 15, 16, 17, 18, 19, 20, 21, 22, 23, 24, 25, 26, 27], [0, 1, 6, 7, 8, 9, 10, 11, 12, 13, 14, 15, 16, 17, 18, 19, 20, 21, 22, 23, 24, 25, 26, 27, 28], [0, 1, 2, 6, 7, 8, 9, 10, 11, 12, 13, 14, 15, 16, 17, 18, 19, 20, 21, 22, 23, 24, 25, 26, 27, 28, 29], [0, 1, 2, 6, 7, 8, 9, 10, 11, 12, 13, 14, 15, 16, 17, 18, 19, 20, 21, 22, 23, 24, 25, 26, 27, 28, 29, 30], [0, 1, 2, 6, 7, 8, 9, 10, 11, 12, 13, 14, 15, 16, 17, 18, 19, 20, 21, 22, 23, 24, 25, 26, 27, 28, 29, 30, 31], [0, 1, 2, 3, 6, 7, 8, 9, 10, 11, 12, 13, 14, 15, 16, 17, 18, 19, 20, 21, 22, 23, 24, 25, 26, 27, 28, 29, 30, 31, 32], [0, 1, 2, 3, 6, 7, 8, 9, 10, 11, 12, 13, 14, 15, 16, 17, 18, 19, 20, 21, 22, 23, 24, 25, 26, 27, 28, 29, 30, 31, 32, 33], [0, 1, 2, 3, 6, 7, 8, 9, 10, 11, 12, 13, 14, 15, 16, 17, 18, 19, 20, 21, 22, 23, 24, 25, 26, 27, 28, 29, 30, 31, 32, 33, 34], [0, 1, 2, 3, 4, 6, 7, 8, 9, 10, 11, 12, 13, 14, 15, 16, 17, 18, 19, 20, 21, 22, 23, 24, 25, 26, 27, 28, 29, 30, 31, 32, 33, 34, 35], [0, 1, 2, 3, 4, 6, 7, 8, 9, 10, 11, 12, 13, 14, 15, 16, 17, 18, 19, 20, 21, 22, 23, 24, 25, 26, 27, 28, 29, 30, 31, 32, 33, 34, 35, 36], [0, 1, 2, 3, 4, 6, 7, 8, 9, 10, 11, 12, 13, 14, 15, 16, 17, 18, 19, 20, 21, 22, 23, 24, 25, 26, 27, 28, 29, 30, 31, 32, 33, 34, 35, 36, 37], [0, 1, 2, 3, 4, 5, 6, 7, 8, 9, 10, 11, 12, 13, 14, 15, 16, 17, 18, 19, 20, 21, 22, 23, 24, 25, 26, 27, 28, 29, 30, 31, 32, 33, 34, 35, 36, 37, 38], [0, 1, 2, 3, 4, 5, 6, 7, 8, 9, 10, 11, 12, 13, 14, 15, 16, 17, 18, 19, 20, 21, 22, 23, 24, 25, 26, 27, 28, 29, 30, 31, 32, 33, 34, 35, 36, 37, 38, 39], [0, 1, 2, 3, 4, 5, 6, 7, 8, 9, 10, 11, 12, 13, 14, 15, 16, 17, 18, 19, 20, 21, 22, 23, 24, 25, 26, 27, 28, 29, 30, 31, 32, 33, 34, 35, 36, 37, 38, 39, 40]] mixed (by kernel_rfl) fun R hR => ?_
   simp only [go_sem, hg0, hg1, hg2, hg3, hg4, hg5, Int.reduceToNat, Int.reduceLE, Int.le_refl]
   try refine And.intro (by repeat' (first | refine And.intro ?_ ?_ | exact trivial | exact GOr_right (fun _ => by simp only [go_sem, hg0, hg1, hg2, hg3, hg4, hg5, Int.reduceToNat, Int.reduceLE, Int.le_refl]))) ?_
   refine hR _ _ (K4 _ _ ?_); clear hR R; try clear K4 Z4
   try simp only [go_sem, hg0, hg1, hg2, hg3, hg4, hg5, Int.reduceToNat, Int.reduceLE, Int.le_refl]
   refine W_sr [10, 11] fun R hR => ?_
   simp only [go_sem, hg0, hg1, hg2, hg3, hg4, hg5, Int.reduceToNat, Int.reduceLE, Int.le_refl]
   refine hR _ _ ?_; clear hR R
   try simp only [go_sem, hg0, hg1, hg2, hg3, hg4, hg5, Int.reduceToNat, Int.reduceLE, Int.le_refl]
   refine W_ret ?_
   simp only [go_sem, hg0, hg1, hg2, hg3, hg4, hg5, Int.reduceToNat, Int.reduceLE, Int.le_refl]
   refine ⟨.inr (by trivial), ?_⟩
   rw [hst]
   simp only [Option.getD_some, Option.getD_none, Option.isSome_some, Option.isSome_none]
   refine Fin_setX hcl (by first | rfl | (simp only [rdS, go_sem, mkEv, mkPr, mkSc, List.map_append, List.map_cons, List.map_nil, List.length_append, List.length_cons, List.length_nil]; done) | (simp only [rdS, go_sem, mkEv, mkPr, mkSc, List.map_append, List.map_cons, List.map_nil, List.length_append, List.length_cons, List.length_nil]; rfl)) rfl rfl (by simp only [go_sem]) rfl (Wk_eq ?_ (by simp only [go_sem]))
   try simp only [go_sem]
   all_goals
    first | rfl | (simp_all; done) | (simp_all; omega)
  try simp only [nrm] at c1
  have n1 : ¬ (k = -1 ∧ w = [115, 99, 97, 108, 101] ∧ l.length = 6) := by simpa using c1
  refine W_seq fun Z6 K6 => ?_
  refine W_regionJ [0, 1, 2, 3, 4, 60] [(60, .bool (decide (k = 0 ∧ w = [111, 114, 100, 101, 114])))] ?_ fun R hR => ?_
  ·refine K6 _ _ ?_
   simp only [go_sem]
   refine W_cond rfl (fun c2 => ?_) (fun c2 => ?_)
   ·
    try simp only [nrm] at c2
    have y2 : k = 0 ∧ w = [111, 114, 100, 101, 114] := by simpa using c2
    have hst : takeM (s, g, k) w l = some ({ s with order := l }, g, 1) := by
     rw [takeM_eq, if_neg n1, if_pos y2]
    refine W_sr [] fun R hR => ?_
    simp only [go_sem, Int.reduceToNat, Int.reduceLE, Int.le_refl]
    refine hR _ _ ?_; clear hR R
    try simp only [go_sem, Int.reduceToNat, Int.reduceLE, Int.le_refl]
    refine W_sr [10, 11] fun R hR => ?_
    simp only [go_sem, Int.reduceToNat, Int.reduceLE, Int.le_refl]
    refine hR _ _ ?_; clear hR R
    try simp only [go_sem, Int.reduceToNat, Int.reduceLE, Int.le_refl]
    refine W_ret ?_
    simp only [go_sem, Int.reduceToNat, Int.reduceLE, Int.le_refl]
    refine ⟨.inr (by trivial), ?_⟩
    rw [hst]
    simp only [Option.getD_some, Option.getD_none, Option.isSome_some, Option.isSome_none]
    refine Fin_setX hcl (by first | rfl | (simp only [rdS, go_sem, mkEv, mkPr, mkSc, List.map_append, List.map_cons, List.map_nil, List.length_append, List.length_cons, List.length_nil]; done) | (simp only [rdS, go_sem, mkEv, mkPr, mkSc, List.map_append, List.map_cons, List.map_nil, List.length_append, List.length_cons, List.length_nil]; rfl)) rfl rfl (by simp only [go_sem]) rfl (Wk_eq ?_ (by simp only [go_sem]))
    try simp only [go_sem]
    all_goals
     first | rfl | (simp_all; done) | (simp_all; omega)
   try simp only [nrm] at c2
   have n2 : ¬ (k = 0 ∧ w = [111, 114, 100, 101, 114]) := by simpa using c2
   refine W_seq fun Z9 K9 => ?_
   refine W_regionJ [1, 2, 3, 4, 71] [(71, .bool (decide (1 ≤ k ∧ k ≤ 2 ∧ w = [109, 97, 114, 107, 115] ∧ 3 ≤ l.length)))] ?_ fun R hR => ?_
   ·refine K9 _ _ ?_
    simp only [go_sem]
    refine W_cond rfl (fun c3 => ?_) (fun c3 => ?_)
    ·
     try simp only [nrm] at c3
     have y3 : 1 ≤ k ∧ k ≤ 2 ∧ w = [109, 97, 114, 107, 115] ∧ 3 ≤ l.length := by simpa using c3
     have hgk : ∀ k, k < l.length → l[k]? = some (l.getD k 0) := fun k h => by simp [h]
     have hg0 : l[0]? = some (l.getD 0 0) := hgk 0 (by omega)
     have hg1 : l[1]? = some (l.getD 1 0) := hgk 1 (by omega)
     have hg2 : l[2]? = some (l.getD 2 0) := hgk 2 (by omega)
     have h3 : 3 ≤ l.length := y3.2.2.2
     have hst : takeM (s, g, k) w l = some (s, { g with opened := g.opened ++ [mkEv l] }, 2) := by
      rw [takeM_eq, if_neg n1, if_neg n2, if_pos y3]
     refine W_seq fun Z10 K10 => ?_
     refine W_draw [] [0, 1, 2, 3, 4, 5, 6, 7, 8, 9, 10, 11, 12, 13, 14, 15, 16, 17, 18, 19, 20, 21] [(0, 21)] [[], [], [1], [1, 2], [1, 2, 3], [], [5], [5, 6], [], [8], [8, 9], [], [11], [11, 12], [], [14], [5, 6, 7, 8, 9, 10, 11, 12, 13, 14, 15], [5, 6, 7, 8, 9, 10, 11, 12, 13, 14, 15, 16], [1, 2, 3, 4, 5, 6, 7, 8, 9, 10, 11, 12, 13, 14, 15, 16, 17], [0, 1, 2, 3, 4, 5, 6, 7, 8, 9, 10, 11, 12, 13, 14, 15, 16, 17, 18], [0, 1, 2, 3, 4, 5, 6, 7, 8, 9, 10, 11, 12, 13, 14, 15, 16, 17, 18, 19], [0, 1, 2, 3, 4, 5, 6, 7, 8, 9, 10, 11, 12, 13, 14, 15, 16, 17, 18, 19, 20]] mixed (by kernel_rfl) fun R hR => ?_
     simp only [go_sem, hg0, hg1, hg2, Int.reduceToNat, Int.reduceLE, Int.le_refl, h3]
     try simp (disch := (first | omega | (simp only [go_sem, List.length_append] <;> omega))) only [wrapI, wrapU, appX_exact, appX_tok, strAdd, slT, slTa, slTb]
     try simp only [go_sem, hg0, hg1, hg2, Int.reduceToNat, Int.reduceLE, Int.le_refl, h3]
     try refine And.intro (by repeat' (first | refine And.intro ?_ ?_ | exact trivial | exact GOr_right (fun _ => by simp only [go_sem, hg0, hg1, hg2, Int.reduceToNat, Int.reduceLE, Int.le_refl, h3]))) ?_
     refine hR _ _ (K10 _ _ ?_); clear hR R; try clear K10 Z10
     try simp only [go_sem, hg0, hg1, hg2, Int.reduceToNat, Int.reduceLE, Int.le_refl, h3]
     refine W_sr [10, 11] fun R hR => ?_
     simp only [go_sem, hg0, hg1, hg2, Int.reduceToNat, Int.reduceLE, Int.le_refl, h3]
     refine hR _ _ ?_; clear hR R
     try simp only [go_sem, hg0, hg1, hg2, Int.reduceToNat, Int.reduceLE, Int.le_refl, h3]
     refine W_ret ?_
     simp only [go_sem, hg0, hg1, hg2, Int.reduceToNat, Int.reduceLE, Int.le_refl, h3]
     refine ⟨.inr (by trivial), ?_⟩
     rw [hst]
     simp only [Option.getD_some, Option.getD_none, Option.isSome_some, Option.isSome_none]
     refine Fin_setX hcl (by first | rfl | (simp only [rdS, go_sem, mkEv, mkPr, mkSc, List.map_append, List.map_cons, List.map_nil, List.length_append, List.length_cons, List.length_nil]; done) | (simp only [rdS, go_sem, mkEv, mkPr, mkSc, List.map_append, List.map_cons, List.map_nil, List.length_append, List.length_cons, List.length_nil]; rfl)) rfl rfl (by simp only [go_sem]) rfl (Wk_eq ?_ (by simp only [go_sem]))
     try simp only [go_sem]
     all_goals
      first | rfl | (simp_all; done) | (simp_all; omega)
    try simp only [nrm] at c3
    have n3 : ¬ (1 ≤ k ∧ k ≤ 2 ∧ w = [109, 97, 114, 107, 115] ∧ 3 ≤ l.length) := by simpa using c3
    refine W_seq fun Z12 K12 => ?_
    refine W_regionJ [1, 2, 3, 4, 108] [(108, .bool (decide (1 ≤ k ∧ k ≤ 3 ∧ w = [97, 98, 115, 101, 110, 116] ∧ l.length = 2)))] ?_ fun R hR => ?_
    ·refine K12 _ _ ?_
     simp only [go_sem]
     refine W_cond rfl (fun c4 => ?_) (fun c4 => ?_)
     ·
      try simp only [nrm] at c4
      have y4 : 1 ≤ k ∧ k ≤ 3 ∧ w = [97, 98, 115, 101, 110, 116] ∧ l.length = 2 := by simpa using c4
      have hgk : ∀ k, k < l.length → l[k]? = some (l.getD k 0) := fun k h => by simp [h]
      have hg0 : l[0]? = some (l.getD 0 0) := hgk 0 (by omega)
      have hg1 : l[1]? = some (l.getD 1 0) := hgk 1 (by omega)
      have hst : takeM (s, g, k) w l = some (s, { g with absent := g.absent ++ [mkPr l] }, 3) := by
       rw [takeM_eq, if_neg n1, if_neg n2, if_neg n3, if_pos y4]
      refine W_seq fun Z13 K13 => ?_
      refine W_draw [] [0, 1, 2, 3, 4, 5, 6, 7, 8, 9, 10, 11, 12, 13, 14, 15, 16] [(0, 16)] [[], [], [1], [1, 2], [1, 2, 3], [], [5], [5, 6], [], [8], [8, 9], [5, 6, 7, 8, 9, 10], [5, 6, 7, 8, 9, 10, 11], [1, 2, 3, 4, 5, 6, 7, 8, 9, 10, 11, 12], [0, 1, 2, 3, 4, 5, 6, 7, 8, 9, 10, 11, 12, 13], [0, 1, 2, 3, 4, 5, 6, 7, 8, 9, 10, 11, 12, 13, 14], [0, 1, 2, 3, 4, 5, 6, 7, 8, 9, 10, 11, 12, 13, 14, 15]] mixed (by kernel_rfl) fun R hR => ?_
      simp only [go_sem, hg0, hg1, Int.reduceToNat, Int.reduceLE, Int.le_refl]
      try simp (disch := (first | omega | (simp only [go_sem, List.length_append] <;> omega))) only [wrapI, wrapU, appX_exact, appX_tok, strAdd, slT, slTa, slTb]
      try simp only [go_sem, hg0, hg1, Int.reduceToNat, Int.reduceLE, Int.le_refl]
      try refine And.intro (by repeat' (first | refine And.intro ?_ ?_ | exact trivial | exact GOr_right (fun _ => by simp only [go_sem, hg0, hg1, Int.reduceToNat, Int.reduceLE, Int.le_refl]))) ?_
      refine hR _ _ (K13 _ _ ?_); clear hR R; try clear K13 Z13
      try simp only [go_sem, hg0, hg1, Int.reduceToNat, Int.reduceLE, Int.le_refl]
      refine W_sr [10, 11] fun R hR => ?_
      simp only [go_sem, hg0, hg1, Int.reduceToNat, Int.reduceLE, Int.le_refl]
      refine hR _ _ ?_; clear hR R
      try simp only [go_sem, hg0, hg1, Int.reduceToNat, Int.reduceLE, Int.le_refl]
      refine W_ret ?_
      simp only [go_sem, hg0, hg1, Int.reduceToNat, Int.reduceLE, Int.le_refl]
      refine ⟨.inr (by trivial), ?_⟩
      rw [hst]
      simp only [Option.getD_some, Option.getD_none, Option.isSome_some, Option.isSome_none]
      refine Fin_setX hcl (by first | rfl | (simp only [rdS, go_sem, mkEv, mkPr, mkSc, List.map_append, List.map_cons, List.map_nil, List.length_append, List.length_cons, List.length_nil]; done) | (simp only [rdS, go_sem, mkEv, mkPr, mkSc, List.map_append, List.map_cons, List.map_nil, List.length_append, List.length_cons, List.length_nil]; rfl)) rfl rfl (by simp only [go_sem]) rfl (Wk_eq ?_ (by simp only [go_sem]))
      try simp only [go_sem]
      all_goals
       first | rfl | (simp_all; done) | (simp_all; omega)
     try simp only [nrm] at c4
     have n4 : ¬ (1 ≤ k ∧ k ≤ 3 ∧ w = [97, 98, 115, 101, 110, 116] ∧ l.length = 2) := by simpa using c4
     refine W_seq fun Z15 K15 => ?_
     refine W_regionJ [1, 2, 3, 4, 140] [(140, .bool (decide (1 ≤ k ∧ k ≤ 4 ∧ w = [102, 105, 110, 101] ∧ l.length = 2)))] ?_ fun R hR => ?_
     ·refine K15 _ _ ?_
      simp only [go_sem]
      refine W_cond rfl (fun c5 => ?_) (fun c5 => ?_)
      ·
       try simp only [nrm] at c5
       have y5 : 1 ≤ k ∧ k ≤ 4 ∧ w = [102, 105, 110, 101] ∧ l.length = 2 := by simpa using c5
       have hgk : ∀ k, k < l.length → l[k]? = some (l.getD k 0) := fun k h => by simp [h]
       have hg0 : l[0]? = some (l.getD 0 0) := hgk 0 (by omega)
       have hg1 : l[1]? = some (l.getD 1 0) := hgk 1 (by omega)
       have hst : takeM (s, g, k) w l = some (s, { g with fines := g.fines ++ [mkPr l] }, 4) := by
        rw [takeM_eq, if_neg n1, if_neg n2, if_neg n3, if_neg n4, if_pos y5]
       refine W_seq fun Z16 K16 => ?_
       refine W_draw [] [0, 1, 2, 3, 4, 5, 6, 7, 8, 9, 10, 11, 12, 13, 14, 15, 16] [(0, 16)] [[], [], [1], [1, 2], [1, 2, 3], [], [5], [5, 6], [], [8], [8, 9], [5, 6, 7, 8, 9, 10], [5, 6, 7, 8, 9, 10, 11], [1, 2, 3, 4, 5, 6, 7, 8, 9, 10, 11, 12], [0, 1, 2, 3, 4, 5, 6, 7, 8, 9, 10, 11, 12, 13], [0, 1, 2, 3, 4, 5, 6, 7, 8, 9, 10, 11, 12, 13, 14], [0, 1, 2, 3, 4, 5, 6, 7, 8, 9, 10, 11, 12, 13, 14, 15]] mixed (by kernel_rfl) fun R hR => ?_
       simp only [go_sem, hg0, hg1, Int.reduceToNat, Int.reduceLE, Int.le_refl]
       try simp (disch := (first | omega | (simp only [go_sem, List.length_append] <;> omega))) only [wrapI, wrapU, appX_exact, appX_tok, strAdd, slT, slTa, slTb]
       try simp only [go_sem, hg0, hg1, Int.reduceToNat, Int.reduceLE, Int.le_refl]
       try refine And.intro (by repeat' (first | refine And.intro ?_ ?_ | exact trivial | exact GOr_right (fun _ => by simp only [go_sem, hg0, hg1, Int.reduceToNat, Int.reduceLE, Int.le_refl]))) ?_
       refine hR _ _ (K16 _ _ ?_); clear hR R; try clear K16 Z16
       try simp only [go_sem, hg0, hg1, Int.reduceToNat, Int.reduceLE, Int.le_refl]
       refine W_sr [10, 11] fun R hR => ?_
       simp only [go_sem, hg0, hg1, Int.reduceToNat, Int.reduceLE, Int.le_refl]
       refine hR _ _ ?_; clear hR R
       try simp only [go_sem, hg0, hg1, Int.reduceToNat, Int.reduceLE, Int.le_refl]
       refine W_ret ?_
       simp only [go_sem, hg0, hg1, Int.reduceToNat, Int.reduceLE, Int.le_refl]
       refine ⟨.inr (by trivial), ?_⟩
       rw [hst]
       simp only [Option.getD_some, Option.getD_none, Option.isSome_some, Option.isSome_none]
       refine Fin_setX hcl (by first | rfl | (simp only [rdS, go_sem, mkEv, mkPr, mkSc, List.map_append, List.map_cons, List.map_nil, List.length_append, List.length_cons, List.length_nil]; done) | (simp only [rdS, go_sem, mkEv, mkPr, mkSc, List.map_append, List.map_cons, List.map_nil, List.length_append, List.length_cons, List.length_nil]; rfl)) rfl rfl (by simp only [go_sem]) rfl (Wk_eq ?_ (by simp only [go_sem]))
       try simp only [go_sem]
       all_goals
        first | rfl | (simp_all; done) | (simp_all; omega)
      try simp only [nrm] at c5
      have n5 : ¬ (1 ≤ k ∧ k ≤ 4 ∧ w = [102, 105, 110, 101] ∧ l.length = 2) := by simpa using c5
      refine W_seq fun Z18 K18 => ?_
      refine W_drawJ [2, 172] [(172, .bool (decide (1 ≤ k ∧ k ≤ 4 ∧ w = [101, 110, 100] ∧ l.length = 1 ∧ l.getD 0 0 = (g.opened.length : Int))))] [0, 1, 2, 3, 4, 5, 6, 7, 8, 9, 10, 11, 12, 13, 14, 15, 16, 17, 18, 19, 20, 21, 22, 23, 24, 25, 26] [] [[], [0], [0, 1], [0, 1, 2], [0, 1, 2, 3], [0, 1, 2, 3, 4], [0, 1, 2, 3, 4, 5], [0, 1, 2, 3, 4, 5, 6], [0, 1, 2, 3, 4, 5, 6, 7], [0, 1, 2, 3, 4, 5, 6, 7, 8], [0, 1, 2, 3, 4, 5, 6, 7, 8, 9], [0, 1, 2, 3, 4, 5, 6, 7, 8, 9, 10], [0, 1, 2, 3, 4, 5, 6, 7, 8, 9, 10, 11], [0, 1, 2, 3, 4, 5, 6, 7, 8, 9, 10, 11, 12], [0, 1, 2, 3, 4, 5, 6, 7, 8, 9, 10, 11, 12, 13], [0, 1, 2, 3, 4, 5, 6, 7, 8, 9, 10, 11, 12, 13, 14], [0, 1, 2, 3, 4, 5, 6, 7, 8, 9, 10, 11, 12, 13, 14, 15], [0, 1, 2, 3, 4, 5, 6, 7, 8, 9, 10, 11, 12, 13, 14, 15, 16], [0, 1, 2, 3, 4, 5, 6, 7, 8, 9, 10, 11, 12, 13, 14, 15, 16, 17], [0, 1, 2, 3, 4, 5, 6, 7, 8, 9, 10, 11, 12, 13, 14, 15], [0, 1, 2, 3, 4, 5, 6, 7, 8, 9, 10, 11, 12, 13, 14, 15, 19], [0, 1, 2, 3, 4, 5, 6, 7, 8, 9, 10, 11, 12, 13, 14, 15, 19, 20], [0, 1, 2, 3, 4, 5, 6, 7, 8, 9, 10, 11, 12, 13, 14, 15, 19, 20, 21], [0, 1, 2, 3, 4, 5, 6, 7, 8, 9, 10, 11, 12, 13, 14, 15, 19, 20, 21, 22], [0, 1, 2, 3, 4, 5, 6, 7, 8, 9, 10, 11, 12, 13, 14, 15, 16, 17, 18, 19, 20, 21, 22, 23], [0, 1, 2, 3, 4, 5, 6, 7, 8, 9, 10, 11, 12, 13, 14, 15, 16, 17, 18, 19, 20, 21, 22, 23, 24], [0, 1, 2, 3, 4, 5, 6, 7, 8, 9, 10, 11, 12, 13, 14, 15, 16, 17, 18, 19, 20, 21, 22, 23, 24, 25]] mixed (by kernel_rfl) ?_ fun R hR => ?_
      ·refine K18 _ _ ?_
       simp only [go_sem]
       refine W_cond rfl (fun c6 => ?_) (fun c6 => ?_)
       ·
        try simp only [nrm] at c6
        have y6 : 1 ≤ k ∧ k ≤ 4 ∧ w = [101, 110, 100] ∧ l.length = 1 ∧ l.getD 0 0 = (g.opened.length : Int) := by simpa using c6
        have hst : takeM (s, g, k) w l = some (s, g, 5) := by
         rw [takeM_eq, if_neg n1, if_neg n2, if_neg n3, if_neg n4, if_neg n5, if_pos y6]
        refine W_sr [10, 11] fun R hR => ?_
        simp only [go_sem, Int.reduceToNat, Int.reduceLE, Int.le_refl]
        refine hR _ _ ?_; clear hR R
        try simp only [go_sem, Int.reduceToNat, Int.reduceLE, Int.le_refl]
        refine W_ret ?_
        simp only [go_sem, Int.reduceToNat, Int.reduceLE, Int.le_refl]
        refine ⟨.inr (by trivial), ?_⟩
        rw [hst]
        simp only [Option.getD_some, Option.getD_none, Option.isSome_some, Option.isSome_none]
        refine Fin_setX hcl (by first | rfl | (simp only [rdS, go_sem, mkEv, mkPr, mkSc, List.map_append, List.map_cons, List.map_nil, List.length_append, List.length_cons, List.length_nil]; done) | (simp only [rdS, go_sem, mkEv, mkPr, mkSc, List.map_append, List.map_cons, List.map_nil, List.length_append, List.length_cons, List.length_nil]; rfl)) rfl rfl (by simp only [go_sem]) rfl (Wk_eq ?_ (by simp only [go_sem]))
        try simp only [go_sem]
        all_goals
         first | rfl | (simp_all; done) | (simp_all; omega)
       try simp only [nrm] at c6
       have n6 : ¬ (1 ≤ k ∧ k ≤ 4 ∧ w = [101, 110, 100] ∧ l.length = 1 ∧ l.getD 0 0 = (g.opened.length : Int)) := by simpa using c6
       have hst : takeM (s, g, k) w l = none := by
        rw [takeM_eq, if_neg n1, if_neg n2, if_neg n3, if_neg n4, if_neg n5, if_neg n6]
       refine W_skip (K2 _ _ ?_)
       refine W_sr [10, 11] fun R hR => ?_
       simp only [go_sem]
       refine hR _ _ ?_; clear hR R
       try simp only [go_sem]
       refine W_ret ?_
       simp only [go_sem]
       refine ⟨.inr (by trivial), ?_⟩
       rw [hst]
       simp only [Option.getD_some, Option.getD_none, Option.isSome_some, Option.isSome_none]
       refine Fin_setX hcl (by first | rfl | (simp only [rdS, go_sem, mkEv, mkPr, mkSc, List.map_append, List.map_cons, List.map_nil, List.length_append, List.length_cons, List.length_nil]; done) | (simp only [rdS, go_sem, mkEv, mkPr, mkSc, List.map_append, List.map_cons, List.map_nil, List.length_append, List.length_cons, List.length_nil]; rfl)) rfl rfl (by simp only [go_sem]) rfl (Wk_eq ?_ (by simp only [go_sem]))
       try simp only [go_sem]
       all_goals
        first | rfl | (simp_all; done) | (simp_all; omega)
      simp only [go_sem, Int.reduceToNat, Int.le_refl]
      refine GWant_split (fun g1 => ?_) (fun g1 => ?_)
      ·try simp only [Bool.not_eq_true', Bool.not_eq_false'] at g1
       have n1 := g1; try simp only [nrm] at n1
       simp only [go_sem, Int.reduceToNat, Int.le_refl, g1]
       refine GWant_split (fun g2 => ?_) (fun g2 => ?_)
       ·try simp only [Bool.not_eq_true', Bool.not_eq_false'] at g2
        have n2 := g2; try simp only [nrm] at n2
        simp only [go_sem, Int.reduceToNat, Int.le_refl, g1, g2]
        refine GWant_split (fun g3 => ?_) (fun g3 => ?_)
        ·try simp only [Bool.not_eq_true', Bool.not_eq_false'] at g3
         have n3 := g3; try simp only [nrm] at n3
         simp only [go_sem, Int.reduceToNat, Int.le_refl, g1, g2, g3]
         refine GWant_split (fun g4 => ?_) (fun g4 => ?_)
         ·try simp only [Bool.not_eq_true', Bool.not_eq_false'] at g4
          have n4 := g4; try simp only [nrm] at n4
          have hl1' : l.length = 1 := by first | omega | (simp at g3; omega) | (simp at g4; omega) | (simp_all; done)
          have hg0 : l[0]? = some (l.getD 0 0) := by simp [hl1']
          simp only [go_sem, hg0, Int.reduceToNat, Int.le_refl, g1, g2, g3, g4]
          try refine And.intro (by repeat' (first | refine And.intro ?_ ?_ | exact trivial | exact GOr_right (fun _ => by simp only [go_sem, hg0, Int.reduceToNat, Int.le_refl]))) ?_
          refine hR _ ?_
          all_goals try simp only [go_sem, hg0, Int.reduceToNat, Int.le_refl]
          all_goals
           first | rfl | (simp only [List.cons.injEq, Prod.mk.injEq, PV.bool.injEq, true_and, and_true]; first | (simp [*]; done) | (simp_all; done) | (rw [Bool.eq_iff_iff]; simp only [Bool.not_eq_true', decide_eq_false_iff_not, decide_eq_true_eq, Bool.or_eq_true, Bool.and_eq_true]; first | omega | (simp_all; done) | (simp_all; omega)))
         try simp only [Bool.not_eq_true', Bool.not_eq_false'] at g4
         have n4 := g4; try simp only [nrm] at n4
         simp only [go_sem, Int.reduceToNat, Int.le_refl, g1, g2, g3, g4]
         try refine And.intro (by repeat' (first | refine And.intro ?_ ?_ | exact trivial | exact GOr_right (fun _ => by simp only [go_sem, Int.reduceToNat, Int.le_refl]))) ?_
         refine hR _ ?_
         all_goals try simp only [go_sem, Int.reduceToNat, Int.le_refl]
         all_goals
          first | rfl | (simp only [List.cons.injEq, Prod.mk.injEq, PV.bool.injEq, true_and, and_true]; first | (simp [*]; done) | (simp_all; done) | (rw [Bool.eq_iff_iff]; simp only [Bool.not_eq_true', decide_eq_false_iff_not, decide_eq_true_eq, Bool.or_eq_true, Bool.and_eq_true]; first | omega | (simp_all; done) | (simp_all; omega)))
        try simp only [Bool.not_eq_true', Bool.not_eq_false'] at g3
        have n3 := g3; try simp only [nrm] at n3
        simp only [go_sem, Int.reduceToNat, Int.le_refl, g1, g2, g3]
        try refine And.intro (by repeat' (first | refine And.intro ?_ ?_ | exact trivial | exact GOr_right (fun _ => by simp only [go_sem, Int.reduceToNat, Int.le_refl]))) ?_
        refine hR _ ?_
        all_goals try simp only [go_sem, Int.reduceToNat, Int.le_refl]
        all_goals
         first | rfl | (simp only [List.cons.injEq, Prod.mk.injEq, PV.bool.injEq, true_and, and_true]; first | (simp [*]; done) | (simp_all; done) | (rw [Bool.eq_iff_iff]; simp only [Bool.not_eq_true', decide_eq_false_iff_not, decide_eq_true_eq, Bool.or_eq_true, Bool.and_eq_true]; first | omega | (simp_all; done) | (simp_all; omega)))
       try simp only [Bool.not_eq_true', Bool.not_eq_false'] at g2
       have n2 := g2; try simp only [nrm] at n2
       simp only [go_sem, Int.reduceToNat, Int.le_refl, g1, g2]
       try refine And.intro (by repeat' (first | refine And.intro ?_ ?_ | exact trivial | exact GOr_right (fun _ => by simp only [go_sem, Int.reduceToNat, Int.le_refl]))) ?_
       refine hR _ ?_
       all_goals try simp only [go_sem, Int.reduceToNat, Int.le_refl]
       all_goals
        first | rfl | (simp only [List.cons.injEq, Prod.mk.injEq, PV.bool.injEq, true_and, and_true]; first | (simp [*]; done) | (simp_all; done) | (rw [Bool.eq_iff_iff]; simp only [Bool.not_eq_true', decide_eq_false_iff_not, decide_eq_true_eq, Bool.or_eq_true, Bool.and_eq_true]; first | omega | (simp_all; done) | (simp_all; omega)))
      try simp only [Bool.not_eq_true', Bool.not_eq_false'] at g1
      have n1 := g1; try simp only [nrm] at n1
      simp only [go_sem, Int.reduceToNat, Int.le_refl, g1]
      try refine And.intro (by repeat' (first | refine And.intro ?_ ?_ | exact trivial | exact GOr_right (fun _ => by simp only [go_sem, Int.reduceToNat, Int.le_refl]))) ?_
      refine hR _ ?_
      all_goals try simp only [go_sem, Int.reduceToNat, Int.le_refl]
      all_goals
       first | rfl | (simp only [List.cons.injEq, Prod.mk.injEq, PV.bool.injEq, true_and, and_true]; first | (simp [*]; done) | (simp_all; done) | (rw [Bool.eq_iff_iff]; simp only [Bool.not_eq_true', decide_eq_false_iff_not, decide_eq_true_eq, Bool.or_eq_true, Bool.and_eq_true]; first | omega | (simp_all; done) | (simp_all; omega)))
     simp only [go_sem]
     refine GWant_split (fun g5 => ?_) (fun g5 => ?_)
     ·try simp only [Bool.not_eq_true', Bool.not_eq_false'] at g5
      have n5 := g5; try simp only [nrm] at n5
      simp only [go_sem, g5]
      refine GWant_split (fun g6 => ?_) (fun g6 => ?_)
      ·try simp only [Bool.not_eq_true', Bool.not_eq_false'] at g6
       have n6 := g6; try simp only [nrm] at n6
       simp only [go_sem, g5, g6]
       refine GWant_split (fun g7 => ?_) (fun g7 => ?_)
       ·try simp only [Bool.not_eq_true', Bool.not_eq_false'] at g7
        have n7 := g7; try simp only [nrm] at n7
        simp only [go_sem, g5, g6, g7]
        refine hR _ ?_
        all_goals try simp only [go_sem]
        all_goals
         first | rfl | (simp only [List.cons.injEq, Prod.mk.injEq, PV.bool.injEq, true_and, and_true]; first | (simp [*]; done) | (simp_all; done) | (rw [Bool.eq_iff_iff]; simp only [Bool.not_eq_true', decide_eq_false_iff_not, decide_eq_true_eq, Bool.or_eq_true, Bool.and_eq_true]; first | omega | (simp_all; done) | (simp_all; omega)))
       try simp only [Bool.not_eq_true', Bool.not_eq_false'] at g7
       have n7 := g7; try simp only [nrm] at n7
       simp only [go_sem, g5, g6, g7]
       refine hR _ ?_
       all_goals try simp only [go_sem]
       all_goals
        first | rfl | (simp only [List.cons.injEq, Prod.mk.injEq, PV.bool.injEq, true_and, and_true]; first | (simp [*]; done) | (simp_all; done) | (rw [Bool.eq_iff_iff]; simp only [Bool.not_eq_true', decide_eq_false_iff_not, decide_eq_true_eq, Bool.or_eq_true, Bool.and_eq_true]; first | omega | (simp_all; done) | (simp_all; omega)))
      try simp only [Bool.not_eq_true', Bool.not_eq_false'] at g6
      have n6 := g6; try simp only [nrm] at n6
      simp only [go_sem, g5, g6]
      refine hR _ ?_
      all_goals try simp only [go_sem]
      all_goals
       first | rfl | (simp only [List.cons.injEq, Prod.mk.injEq, PV.bool.injEq, true_and, and_true]; first | (simp [*]; done) | (simp_all; done) | (rw [Bool.eq_iff_iff]; simp only [Bool.not_eq_true', decide_eq_false_iff_not, decide_eq_true_eq, Bool.or_eq_true, Bool.and_eq_true]; first | omega | (simp_all; done) | (simp_all; omega)))
     try simp only [Bool.not_eq_true', Bool.not_eq_false'] at g5
     have n5 := g5; try simp only [nrm] at n5
     simp only [go_sem, g5]
     refine hR _ ?_
     all_goals try simp only [go_sem]
     all_goals
      first | rfl | (simp only [List.cons.injEq, Prod.mk.injEq, PV.bool.injEq, true_and, and_true]; first | (simp [*]; done) | (simp_all; done) | (rw [Bool.eq_iff_iff]; simp only [Bool.not_eq_true', decide_eq_false_iff_not, decide_eq_true_eq, Bool.or_eq_true, Bool.and_eq_true]; first | omega | (simp_all; done) | (simp_all; omega)))
    simp only [go_sem]
    refine GWant_split (fun g8 => ?_) (fun g8 => ?_)
    ·try simp only [Bool.not_eq_true', Bool.not_eq_false'] at g8
     have n8 := g8; try simp only [nrm] at n8
     simp only [go_sem, g8]
     refine GWant_split (fun g9 => ?_) (fun g9 => ?_)
     ·try simp only [Bool.not_eq_true', Bool.not_eq_false'] at g9
      have n9 := g9; try simp only [nrm] at n9
      simp only [go_sem, g8, g9]
      refine GWant_split (fun g10 => ?_) (fun g10 => ?_)
      ·try simp only [Bool.not_eq_true', Bool.not_eq_false'] at g10
       have n10 := g10; try simp only [nrm] at n10
       simp only [go_sem, g8, g9, g10]
       refine hR _ ?_
       all_goals try simp only [go_sem]
       all_goals
        first | rfl | (simp only [List.cons.injEq, Prod.mk.injEq, PV.bool.injEq, true_and, and_true]; first | (simp [*]; done) | (simp_all; done) | (rw [Bool.eq_iff_iff]; simp only [Bool.not_eq_true', decide_eq_false_iff_not, decide_eq_true_eq, Bool.or_eq_true, Bool.and_eq_true]; first | omega | (simp_all; done) | (simp_all; omega)))
      try simp only [Bool.not_eq_true', Bool.not_eq_false'] at g10
      have n10 := g10; try simp only [nrm] at n10
      simp only [go_sem, g8, g9, g10]
      refine hR _ ?_
      all_goals try simp only [go_sem]
      all_goals
       first | rfl | (simp only [List.cons.injEq, Prod.mk.injEq, PV.bool.injEq, true_and, and_true]; first | (simp [*]; done) | (simp_all; done) | (rw [Bool.eq_iff_iff]; simp only [Bool.not_eq_true', decide_eq_false_iff_not, decide_eq_true_eq, Bool.or_eq_true, Bool.and_eq_true]; first | omega | (simp_all; done) | (simp_all; omega)))
     try simp only [Bool.not_eq_true', Bool.not_eq_false'] at g9
     have n9 := g9; try simp only [nrm] at n9
     simp only [go_sem, g8, g9]
     refine hR _ ?_
     all_goals try simp only [go_sem]
     all_goals
      first | rfl | (simp only [List.cons.injEq, Prod.mk.injEq, PV.bool.injEq, true_and, and_true]; first | (simp [*]; done) | (simp_all; done) | (rw [Bool.eq_iff_iff]; simp only [Bool.not_eq_true', decide_eq_false_iff_not, decide_eq_true_eq, Bool.or_eq_true, Bool.and_eq_true]; first | omega | (simp_all; done) | (simp_all; omega)))
    try simp only [Bool.not_eq_true', Bool.not_eq_false'] at g8
    have n8 := g8; try simp only [nrm] at n8
    simp only [go_sem, g8]
    refine hR _ ?_
    all_goals try simp only [go_sem]
    all_goals
     first | rfl | (simp only [List.cons.injEq, Prod.mk.injEq, PV.bool.injEq, true_and, and_true]; first | (simp [*]; done) | (simp_all; done) | (rw [Bool.eq_iff_iff]; simp only [Bool.not_eq_true', decide_eq_false_iff_not, decide_eq_true_eq, Bool.or_eq_true, Bool.and_eq_true]; first | omega | (simp_all; done) | (simp_all; omega)))
   simp only [go_sem]
   refine GWant_split (fun g11 => ?_) (fun g11 => ?_)
   ·try simp only [Bool.not_eq_true', Bool.not_eq_false'] at g11
    have n11 := g11; try simp only [nrm] at n11
    simp only [go_sem, g11]
    refine GWant_split (fun g12 => ?_) (fun g12 => ?_)
    ·try simp only [Bool.not_eq_true', Bool.not_eq_false'] at g12
     have n12 := g12; try simp only [nrm] at n12
     simp only [go_sem, g11, g12]
     refine GWant_split (fun g13 => ?_) (fun g13 => ?_)
     ·try simp only [Bool.not_eq_true', Bool.not_eq_false'] at g13
      have n13 := g13; try simp only [nrm] at n13
      simp only [go_sem, g11, g12, g13]
      refine hR _ ?_
      all_goals try simp only [go_sem]
      all_goals
       first | rfl | (simp only [List.cons.injEq, Prod.mk.injEq, PV.bool.injEq, true_and, and_true]; first | (simp [*]; done) | (simp_all; done) | (rw [Bool.eq_iff_iff]; simp only [Bool.not_eq_true', decide_eq_false_iff_not, decide_eq_true_eq, Bool.or_eq_true, Bool.and_eq_true]; first | omega | (simp_all; done) | (simp_all; omega)))
     try simp only [Bool.not_eq_true', Bool.not_eq_false'] at g13
     have n13 := g13; try simp only [nrm] at n13
     simp only [go_sem, g11, g12, g13]
     refine hR _ ?_
     all_goals try simp only [go_sem]
     all_goals
      first | rfl | (simp only [List.cons.injEq, Prod.mk.injEq, PV.bool.injEq, true_and, and_true]; first | (simp [*]; done) | (simp_all; done) | (rw [Bool.eq_iff_iff]; simp only [Bool.not_eq_true', decide_eq_false_iff_not, decide_eq_true_eq, Bool.or_eq_true, Bool.and_eq_true]; first | omega | (simp_all; done) | (simp_all; omega)))
    try simp only [Bool.not_eq_true', Bool.not_eq_false'] at g12
    have n12 := g12; try simp only [nrm] at n12
    simp only [go_sem, g11, g12]
    refine hR _ ?_
    all_goals try simp only [go_sem]
    all_goals
     first | rfl | (simp only [List.cons.injEq, Prod.mk.injEq, PV.bool.injEq, true_and, and_true]; first | (simp [*]; done) | (simp_all; done) | (rw [Bool.eq_iff_iff]; simp only [Bool.not_eq_true', decide_eq_false_iff_not, decide_eq_true_eq, Bool.or_eq_true, Bool.and_eq_true]; first | omega | (simp_all; done) | (simp_all; omega)))
   try simp only [Bool.not_eq_true', Bool.not_eq_false'] at g11
   have n11 := g11; try simp only [nrm] at n11
   simp only [go_sem, g11]
   refine hR _ ?_
   all_goals try simp only [go_sem]
   all_goals
    first | rfl | (simp only [List.cons.injEq, Prod.mk.injEq, PV.bool.injEq, true_and, and_true]; first | (simp [*]; done) | (simp_all; done) | (rw [Bool.eq_iff_iff]; simp only [Bool.not_eq_true', decide_eq_false_iff_not, decide_eq_true_eq, Bool.or_eq_true, Bool.and_eq_true]; first | omega | (simp_all; done) | (simp_all; omega)))
  simp only [go_sem]
  refine GWant_split (fun g14 => ?_) (fun g14 => ?_)
  ·try simp only [Bool.not_eq_true', Bool.not_eq_false'] at g14
   have n14 := g14; try simp only [nrm] at n14
   simp only [go_sem, g14]
   refine hR _ ?_
   all_goals try simp only [go_sem]
   all_goals
    first | rfl | (simp only [List.cons.injEq, Prod.mk.injEq, PV.bool.injEq, true_and, and_true]; first | (simp [*]; done) | (simp_all; done) | (rw [Bool.eq_iff_iff]; simp only [Bool.not_eq_true', decide_eq_false_iff_not, decide_eq_true_eq, Bool.or_eq_true, Bool.and_eq_true]; first | omega | (simp_all; done) | (simp_all; omega)))
  try simp only [Bool.not_eq_true', Bool.not_eq_false'] at g14
  have n14 := g14; try simp only [nrm] at n14
  simp only [go_sem, g14]
  refine hR _ ?_
  all_goals try simp only [go_sem]
  all_goals
   first | rfl | (simp only [List.cons.injEq, Prod.mk.injEq, PV.bool.injEq, true_and, and_true]; first | (simp [*]; done) | (simp_all; done) | (rw [Bool.eq_iff_iff]; simp only [Bool.not_eq_true', decide_eq_false_iff_not, decide_eq_true_eq, Bool.or_eq_true, Bool.and_eq_true]; first | omega | (simp_all; done) | (simp_all; omega)))
 simp only [go_sem]
 refine GWant_split (fun g15 => ?_) (fun g15 => ?_)
 ·try simp only [Bool.not_eq_true', Bool.not_eq_false'] at g15
  have n15 := g15; try simp only [nrm] at n15
  simp only [go_sem, g15]
  refine GWant_split (fun g16 => ?_) (fun g16 => ?_)
  ·try simp only [Bool.not_eq_true', Bool.not_eq_false'] at g16
   have n16 := g16; try simp only [nrm] at n16
   simp only [go_sem, g15, g16]
   refine hR _ ?_
   all_goals try simp only [go_sem]
   all_goals
    first | rfl | (simp only [List.cons.injEq, Prod.mk.injEq, PV.bool.injEq, true_and, and_true]; first | (simp [*]; done) | (simp_all; done) | (rw [Bool.eq_iff_iff]; simp only [Bool.not_eq_true', decide_eq_false_iff_not, decide_eq_true_eq, Bool.or_eq_true, Bool.and_eq_true]; first | omega | (simp_all; done) | (simp_all; omega)))
  try simp only [Bool.not_eq_true', Bool.not_eq_false'] at g16
  have n16 := g16; try simp only [nrm] at n16
  simp only [go_sem, g15, g16]
  refine hR _ ?_
  all_goals try simp only [go_sem]
  all_goals
   first | rfl | (simp only [List.cons.injEq, Prod.mk.injEq, PV.bool.injEq, true_and, and_true]; first | (simp [*]; done) | (simp_all; done) | (rw [Bool.eq_iff_iff]; simp only [Bool.not_eq_true', decide_eq_false_iff_not, decide_eq_true_eq, Bool.or_eq_true, Bool.and_eq_true]; first | omega | (simp_all; done) | (simp_all; omega)))
 try simp only [Bool.not_eq_true', Bool.not_eq_false'] at g15
 have n15 := g15; try simp only [nrm] at n15
 simp only [go_sem, g15]
 refine hR _ ?_
 all_goals try simp only [go_sem]
 all_goals
  first | rfl | (simp only [List.cons.injEq, Prod.mk.injEq, PV.bool.injEq, true_and, and_true]; first | (simp [*]; done) | (simp_all; done) | (rw [Bool.eq_iff_iff]; simp only [Bool.not_eq_true', decide_eq_false_iff_not, decide_eq_true_eq, Bool.or_eq_true, Bool.and_eq_true]; first | omega | (simp_all; done) | (simp_all; omega)))
abbrev ansPV (a : RAns) : PV := .tuple [scPV a.1, ngPV a.2.1, I a.2.2.1, I a.2.2.2]
theorem parse_is {k : Nat} (x : List UInt8) : ∃ w n is, parsePV (parseE k x) = .tuple [txt w, ints n, .bool is] ∧ (is = true → parseE k x = some (w, n)) ∧ (is = false → parseE k x = none) ∧ n.length ≤ x.length := by
 cases h : parseE k x with
 | none => exact ⟨[], [], false, rfl, fun h => by (cases h), fun _ => rfl, by simp⟩
 | some p =>
  refine ⟨p.1, p.2, true, rfl, fun _ => rfl, (fun h => by cases h), ?_⟩
  unfold parseE at h
  split at h
  ·cases h
  rename_i w r hs
  simp only [Option.map_eq_some_iff] at h
  obtain ⟨l, hl, rfl⟩ := h
  have h1 := numsE_len hl
  have h2 := splitL_le (b := 32) (s := x)
  rw [hs] at h2
  simp at h2 ⊢
  omega
/-- How long what was read is. -/
structure RdK (i : Nat) (s : Scale) (g : Night) : Prop where
 so : s.order.length ≤ 2 ^ 30
 op : g.opened.length ≤ i
 mks : ∀ e, e ∈ g.opened → e.marks.length ≤ 2 ^ 30
 ab : g.absent.length ≤ i
 fi : g.fines.length ≤ i
theorem RdK.take {i : Nat} {s s' : Scale} {g g' : Night} {k k' : Int} {w : List UInt8} {l : List Int} (h : RdK i s g) (hl : l.length ≤ 2 ^ 30) (ht : takeM (s, g, k) w l = some (s', g', k')) : RdK (i + 1) s' g' := by
 rw [takeM_eq] at ht
 have h1 := h.so; have h2 := h.op; have h3 := h.mks; have h4 := h.ab; have h5 := h.fi
 repeat' split at ht
 all_goals first | (cases ht; done) | skip
 all_goals
  injection ht with ht
  injection ht with e1 ht
  injection ht with e2 e3
  subst e1 e2 e3
 ·exact ⟨h1, by omega, h3, by omega, by omega⟩
 ·exact ⟨hl, by omega, h3, by omega, by omega⟩
 ·refine ⟨h1, by simp; omega, fun e he => ?_, by simp; omega, by simp; omega⟩
  rcases List.mem_append.1 he with he | he
  ·exact h3 e he
  simp only [List.mem_singleton] at he
  subst he
  simp only [mkEv, List.length_drop]
  omega
 ·exact ⟨h1, by simp; omega, h3, by simp; omega, by simp; omega⟩
 ·exact ⟨h1, by simp; omega, h3, by simp; omega, by simp; omega⟩
 exact ⟨h1, by omega, h3, by omega, by omega⟩
set_option maxHeartbeats 8000000 in
theorem rRead_pc (Y : YEnv) (σ : Sg) (s : List UInt8) (hs : s.length ≤ 2 ^ 30) :
 PC Tryz.prog Y 29 [txt s] σ (ansPV (readM s)) (σ) := by
 refine PC_of_W Tryz.func29 rfl (by kernel_rfl) Tryz.ntmps29 (by simp) fun hcl hca => ?_
 obtain ⟨rows, hrw⟩ : ∃ z, splitL 10 s = z := ⟨_, rfl⟩
 have hwm : ∀ p, p ∈ rows → p.length ≤ 2 ^ 30 := fun p hp => by rw [← hrw] at hp; have := splitL_mem hp; omega
 have hwn : rows ≠ [] := by rw [← hrw]; exact splitL_ne 10 s
 have hwl : 0 < rows.length := List.length_pos_iff.2 hwn
 have hw40 : rows.length ≤ 2 ^ 30 + 1 := by rw [← hrw]; have := splitL_le (b := 10) (s := s); omega
 obtain ⟨xl, hxl⟩ : ∃ w, rows[rows.length - 1]? = some w := ⟨rows[rows.length - 1], by simp [hwl]⟩
 obtain ⟨R, hR0⟩ : ∃ z, rows.take (rows.length - 1) = z := ⟨_, rfl⟩
 have hRl : R.length = rows.length - 1 := by rw [← hR0]; simp
 have hlast : rows[((rows.length : Int) - 1).toNat]? = some xl := by rw [show ((rows.length : Int) - 1).toNat = rows.length - 1 by omega]; exact hxl
 have hposl : (0 ≤ (rows.length : Int) - 1) = True := by simp; omega
 have hRr : ∀ (k : Nat) (x : List UInt8), R[k]? = some x → rows[k]? = some x := fun k x h => by rw [← hR0] at h; rw [List.getElem?_take] at h; split at h <;> first | exact h | cases h
 refine W_sr [0, 2, 3] fun R hR => ?_
 simp only [go_sem]
 refine hR _ _ ?_; clear hR R
 try simp only [go_sem]
 refine W_seq fun Z2 K2 => ?_
 refine W_sr [0, 2, 3, 17] fun R hR => ?_
 simp only [go_sem]
 refine hR _ _ ?_; clear hR R
 try simp only [go_sem]
 refine W_cond rfl (fun c1 => ?_) (fun c1 => ?_)
 ·
  try simp only [nrm] at c1
  have hres : readM s = (sc0, ng0, 0, 6) := by unfold readM; rw [if_pos (by omega)]
  refine W_sr [2, 3, 4, 5] fun R hR => ?_
  simp only [go_sem]
  refine hR _ _ ?_; clear hR R
  try simp only [go_sem]
  refine W_ret ?_
  simp only [go_sem]
  refine ⟨.inr (by trivial), ?_⟩
  refine Fin_same hcl (by show resPV Tryz.prog _ _ [.cell 2 24, .cell 3 35, .tmp 4, .tmp 5] = some _; simp only [resPV, go_sem]; rfl) (Wk.ro (by simp only [go_sem]) ?_)
  try simp only [go_sem]
  all_goals
   first | (rw [hres2]; done) | (rw [hres]; done) | (rw [hres2]; rfl) | (rw [hres]; rfl)
 try simp only [nrm] at c1
 have hres : readM s = readR rows := by unfold readM; rw [if_neg (by omega), hrw]
 refine W_skip (K2 _ _ ?_)
 refine W_sr [2, 3, 6] fun R hR => ?_
 simp only [go_sem]
 refine GCall_of (PC.val (v' := .isl (rows.map txt) .ro) (rsplit_10 Y _ s (by omega)) (by rw [hrw])) ?_
 simp only [go_sem]
 refine hR _ _ ?_; clear hR R
 try simp only [go_sem]
 refine W_sr [2, 3, 6, 7] fun R hR => ?_
 simp only [go_sem]
 refine hR _ _ ?_; clear hR R
 try simp only [go_sem]
 refine W_sr [2, 3, 6, 7, 8] fun R hR => ?_
 simp only [go_sem]
 refine hR _ _ ?_; clear hR R
 try simp only [go_sem]
 refine W_sr [2, 3, 6, 7, 8, 9] fun R hR => ?_
 simp only [go_sem]
 refine hR _ _ ?_; clear hR R
 try simp only [go_sem]
 refine W_seq fun Z9 K9 => ?_
 refine W_sr [2, 3, 6, 7, 8, 9, 10] fun R hR => ?_
 simp only [go_sem]
 refine hR _ _ ?_; clear hR R
 try simp only [go_sem]
 refine W_block ?_
 refine W_weak (Weak.roX (j := 2) (off := 6) rfl rfl) ?_
 simp only [go_sem]
 refine W_weak (Weak.roomX (j := 3) (off := 0) (es := 4) rfl rfl (by simp)) ?_
 simp only [go_sem]
 refine W_weak (Weak.roomX (j := 3) (off := 1) (es := 2) rfl rfl (by simp)) ?_
 simp only [go_sem]
 refine W_weak (Weak.roomX (j := 3) (off := 2) (es := 2) rfl rfl (by simp)) ?_
 simp only [go_sem]
 refine W_loopT (α := Nat × Scale × Night × Int) (fun ⟨i, sc, g, k⟩ => [(9, I k), (10, I i)]) (fun ⟨i, sc, g, k⟩ => rdS σ sc g) (fun ⟨i, sc, g, k⟩ => i ≤ R.length ∧ RdK i sc g ∧ rowsM i (sc, g, k) (R.drop i) = rowsM 0 (sc0, ng0, -1) R) (fun ⟨i, sc, g, k⟩ => R.length - i) ((0, sc0, ng0, -1)) rfl (by first | rfl | (simp only [go_sem]; done) | (simp only [go_sem]; rfl)) (⟨Nat.zero_le _, ⟨by simp [sc0], Nat.le_refl _, fun e h => by (cases h), Nat.le_refl _, Nat.le_refl _⟩, rfl⟩) ?_
 rintro ⟨i, sc, g, k⟩ ⟨hi, hk, hinv⟩
 refine W_seq fun Z11 K11 => ?_
 refine W_sr [2, 3, 6, 7, 8, 9, 10, 26] fun R hR => ?_
 simp only [go_sem]
 try simp (disch := (first | omega | (simp only [go_sem, List.length_append] <;> omega))) only [wrapI, wrapU, strAdd, slT, slTa, slTb]
 refine hR _ _ ?_; clear hR R
 try simp only [go_sem]
 refine W_cond rfl (fun c2 => ?_) (fun c2 => ?_)
 ·
  try simp only [nrm] at c2
  have hi' : i < R.length := by first | omega | (simp at c2; omega)
  obtain ⟨x, hx⟩ : ∃ x, R[i]? = some x := ⟨R[i], by simp [hi']⟩
  have hdrop : R.drop i = x :: R.drop (i + 1) := by
   rw [List.drop_eq_getElem_cons hi']; congr 1; exact (List.getElem?_eq_some_iff.1 hx).2
  have hxr := hRr i x hx
  have hxm := hwm x (List.mem_of_getElem? hxr)
  rw [hdrop] at hinv
  obtain ⟨w, n, is, hpv, hpt, hpf, hpl⟩ := parse_is (k := 6) x
  refine W_skip (K11 _ _ ?_)
  refine W_seq fun Z13 K13 => ?_
  refine W_block ?_
  refine W_sr [2, 3, 6, 7, 8, 9, 10, 11, 12, 13] fun R hR => ?_
  simp only [go_sem, hxr]
  refine GCall_of (PC.val (v' := .tuple [txt w, ints n, .bool is]) (rparse_pc Y _ x (by have := hwm x (List.mem_of_getElem? hxr); omega)) hpv) ?_
  simp only [go_sem, hxr]
  refine hR _ _ ?_; clear hR R
  try simp only [go_sem, hxr]
  refine W_seq fun Z15 K15 => ?_
  refine W_sr [2, 3, 6, 7, 8, 9, 10, 11, 12, 13, 38] fun R hR => ?_
  simp only [go_sem, hxr]
  refine hR _ _ ?_; clear hR R
  try simp only [go_sem, hxr]
  refine W_cond rfl (fun c3 => ?_) (fun c3 => ?_)
  ·
   try simp only [nrm] at c3
   have hp := hpt (by simpa using c3)
   obtain ⟨r, hr⟩ : ∃ z, takeM (sc, g, k) w n = z := ⟨_, rfl⟩
   have htk := take_pc Y σ sc g k w n (by omega) (by have := hk.op; omega) (by have := hk.ab; omega) (by have := hk.fi; omega)
   rw [hr] at htk
   refine W_region [2, 3, 6, 7, 8, 9, 10, 13] fun R hR => ?_
   simp only [go_sem, hxr]
   refine GCall_of (htk) ?_
   simp only [go_sem, hxr]
   refine hR _ _ (K15 _ _ ?_); clear hR R; try clear K15 Z15
   try simp only [go_sem, hxr]
   refine W_sr [2, 3, 6, 7, 8, 9, 10, 47] fun R hR => ?_
   simp only [go_sem, hxr]
   refine hR _ _ ?_; clear hR R
   try simp only [go_sem, hxr]
   refine W_cond rfl (fun c4 => ?_) (fun c4 => ?_)
   ·
    try simp only [nrm] at c4
    obtain rfl : r = none := by cases r with
     | none => rfl
     | some z => simp at c4
    have hst : stepM (sc, g, k) x = none := by unfold stepM; rw [hp]; exact hr
    rw [rowsM_none hst] at hinv
    have hres2 : readM s = (sc0, ng0, (i : Int) + 1, 1) := by rw [hres]; exact readR_bad (by rw [hR0]; exact hinv.symm) (by omega)
    refine W_sr [2, 3, 4, 5] fun R hR => ?_
    simp only [go_sem, hxr]
    try simp (disch := (first | omega | (simp only [go_sem, List.length_append] <;> omega))) only [wrapI, wrapU, strAdd, slT, slTa, slTb]
    refine hR _ _ ?_; clear hR R
    try simp only [go_sem, hxr]
    refine W_ret ?_
    simp only [go_sem, hxr]
    refine ⟨.inr (by trivial), ?_⟩
    refine Fin_same hcl (by show resPV Tryz.prog _ _ [.cell 2 24, .cell 3 35, .tmp 4, .tmp 5] = some _; simp only [resPV, go_sem]; rfl) (Wk.ro (by simp only [go_sem]) ?_)
    try simp only [go_sem]
    all_goals
     first | (rw [hres2]; done) | (rw [hres]; done) | (rw [hres2]; rfl) | (rw [hres]; rfl)
   try simp only [nrm] at c4
   obtain ⟨sc', g', k', rfl⟩ : ∃ a b c, r = some (a, b, c) := by cases r with
    | none => simp at c4
    | some z => exact ⟨z.1, z.2.1, z.2.2, rfl⟩
   have hst : stepM (sc, g, k) x = some (sc', g', k') := by unfold stepM; rw [hp]; exact hr
   rw [rowsM_some hst] at hinv
   have hk' := hk.take (by omega) hr
   simp only [Option.getD_some]
   refine W_skip (K13 _ _ ?_)
   refine W_region [2, 3, 6, 7, 8, 9, 10] fun R hR => ?_
   simp only [go_sem, hxr]
   try simp (disch := (first | omega | (simp only [go_sem, List.length_append] <;> omega))) only [wrapI, wrapU, strAdd, slT, slTa, slTb]
   refine hR _ _ ?_; clear hR R
   try simp only [go_sem, hxr]
   refine ⟨(i + 1, sc', g', k'), ?_, by (try simp only []); omega, ?_⟩
   ·first | exact Weak.refl | exact Wqq
   try dsimp only
   exact ⟨by omega, hk', hinv⟩
  try simp only [nrm] at c3
  refine W_skip (K15 _ _ ?_)
  refine W_sr [2, 3, 6, 7, 8, 9, 10, 47] fun R hR => ?_
  simp only [go_sem, hxr]
  refine hR _ _ ?_; clear hR R
  try simp only [go_sem, hxr]
  refine W_cond rfl (fun c5 => ?_) (fun c5 => ?_)
  ·
   try simp only [nrm] at c5
   have hst : stepM (sc, g, k) x = none := by unfold stepM; rw [hpf (by simpa using c3)]
   rw [rowsM_none hst] at hinv
   have hres2 : readM s = (sc0, ng0, (i : Int) + 1, 1) := by rw [hres]; exact readR_bad (by rw [hR0]; exact hinv.symm) (by omega)
   refine W_sr [2, 3, 4, 5] fun R hR => ?_
   simp only [go_sem, hxr]
   try simp (disch := (first | omega | (simp only [go_sem, List.length_append] <;> omega))) only [wrapI, wrapU, strAdd, slT, slTa, slTb]
   refine hR _ _ ?_; clear hR R
   try simp only [go_sem, hxr]
   refine W_ret ?_
   simp only [go_sem, hxr]
   refine ⟨.inr (by trivial), ?_⟩
   refine Fin_same hcl (by show resPV Tryz.prog _ _ [.cell 2 24, .cell 3 35, .tmp 4, .tmp 5] = some _; simp only [resPV, go_sem]; rfl) (Wk.ro (by simp only [go_sem]) ?_)
   try simp only [go_sem]
   all_goals
    first | (rw [hres2]; done) | (rw [hres]; done) | (rw [hres2]; rfl) | (rw [hres]; rfl)
  try simp only [nrm] at c5
  exfalso
  first | (simp at c5; done) | (simp_all; done) | contradiction
 try simp only [nrm] at c2
 have hie : i = R.length := by first | omega | (simp at c2; omega)
 have hdrop : R.drop i = [] := List.drop_eq_nil_of_le (by omega)
 rw [hdrop] at hinv
 simp only [rowsM] at hinv
 have hfin := hinv.symm
 have hsok : sc.Ok := ⟨by have := hk.so; omega⟩
 have hgok : g.Ok := ⟨by have := hk.op; omega, by have := hk.ab; omega, by have := hk.fi; omega, fun e he => by have := hk.mks e he; omega⟩
 refine W_exit ?_
 simp only [go_sem]
 refine K9 _ _ ?_
 refine W_seq fun Z21 K21 => ?_
 refine W_seq fun Z22 K22 => ?_
 refine W_regionJ [2, 3, 6, 7, 8, 62] [(62, .bool (!decide (k = 5) || !decide (xl = [])))] ?_ fun R hR => ?_
 ·refine K22 _ _ ?_
  simp only [go_sem]
  refine W_cond rfl (fun c6 => ?_) (fun c6 => ?_)
  ·
   try simp only [nrm] at c6
   have hres2 : readM s = (sc0, ng0, (rows.length : Int), 1) := by
    rw [hres]
    refine readR_open (by rw [hR0]; exact hfin) ?_
    rw [hxl]
    by_cases h5 : k = 5
    ·right; simp [h5] at c6; simpa using c6
    left; exact h5
   refine W_sr [2, 3, 4, 5] fun R hR => ?_
   simp only [go_sem]
   refine hR _ _ ?_; clear hR R
   try simp only [go_sem]
   refine W_ret ?_
   simp only [go_sem]
   refine ⟨.inr (by trivial), ?_⟩
   refine Fin_same hcl (by show resPV Tryz.prog _ _ [.cell 2 24, .cell 3 35, .tmp 4, .tmp 5] = some _; simp only [resPV, go_sem]; rfl) (Wk.ro (by simp only [go_sem]) ?_)
   try simp only [go_sem]
   all_goals
    first | (rw [hres2]; done) | (rw [hres]; done) | (rw [hres2]; rfl) | (rw [hres]; rfl)
  try simp only [nrm] at c6
  obtain ⟨rfl, rfl⟩ : k = 5 ∧ xl = [] := by simpa using c6
  have hres2 : readM s = if knownE sc g ≠ 0 then (sc0, ng0, 0, knownE sc g) else (sc, g, 0, 0) := by
   rw [hres]
   exact readR_end (st := (sc, g, 5)) (by rw [hR0]; exact hfin) (by rw [hxl]; simp)
  refine W_skip (K21 _ _ ?_)
  refine W_seq fun Z24 K24 => ?_
  refine W_sr [2, 3, 7, 8, 14] fun R hR => ?_
  simp only [go_sem]
  refine GCall_of (PC.ofRo (rCheckNight_pc Y _ sc g hsok hgok) (by simp only [go_sem] <;> rfl)) ?_
  simp only [go_sem]
  refine hR _ _ ?_; clear hR R
  try simp only [go_sem]
  refine W_sr [2, 3, 7, 8, 14, 71] fun R hR => ?_
  simp only [go_sem]
  refine hR _ _ ?_; clear hR R
  try simp only [go_sem]
  refine W_cond rfl (fun c7 => ?_) (fun c7 => ?_)
  ·
   try simp only [nrm] at c7
   rw [if_pos (by simpa using c7)] at hres2
   refine W_sr [2, 3, 4, 5] fun R hR => ?_
   simp only [go_sem]
   refine hR _ _ ?_; clear hR R
   try simp only [go_sem]
   refine W_ret ?_
   simp only [go_sem]
   refine ⟨.inr (by trivial), ?_⟩
   refine Fin_same hcl (by show resPV Tryz.prog _ _ [.cell 2 24, .cell 3 35, .tmp 4, .tmp 5] = some _; simp only [resPV, go_sem]; rfl) (Wk.ro (by simp only [go_sem]) ?_)
   try simp only [go_sem]
   all_goals
    first | (rw [hres2]; done) | (rw [hres]; done) | (rw [hres2]; rfl) | (rw [hres]; rfl)
  try simp only [nrm] at c7
  rw [if_neg (by simpa using c7)] at hres2
  refine W_skip (K24 _ _ ?_)
  refine W_seq fun Z28 K28 => ?_
  refine W_draw [2, 3, 4, 5] [0, 1, 2, 3, 4, 5] [(1, 3)] [[], [], [0], [0, 1, 2], [0, 1, 2, 3], [0, 1, 2, 3, 4]] mixed (by kernel_rfl) fun R hR => ?_
  simp only [go_sem]
  try refine And.intro (by repeat' (first | refine And.intro ?_ ?_ | exact trivial | exact GOr_right (fun _ => by simp only [go_sem]))) ?_
  refine hR _ _ (K28 _ _ ?_); clear hR R; try clear K28 Z28
  try simp only [go_sem]
  refine W_ret ?_
  simp only [go_sem]
  refine ⟨.inr (by trivial), ?_⟩
  refine Fin_same hcl (by show resPV Tryz.prog _ _ [.cell 2 24, .cell 3 35, .tmp 4, .tmp 5] = some _; simp only [resPV, go_sem]; rfl) (Wk.ro (by simp only [go_sem]) ?_)
  try simp only [go_sem]
  all_goals
   first | (rw [hres2]; done) | (rw [hres]; done) | (rw [hres2]; rfl) | (rw [hres]; rfl)
 simp only [go_sem, hlast, hposl]
 refine GWant_split (fun g1 => ?_) (fun g1 => ?_)
 ·try simp only [Bool.not_eq_true', Bool.not_eq_false'] at g1
  have n1 := g1; try simp only [nrm] at n1
  simp only [go_sem, hlast, hposl, g1]
  try simp (disch := (first | omega | (simp only [go_sem, List.length_append] <;> omega))) only [wrapI, wrapU, strAdd, slT, slTa, slTb]
  try simp only [go_sem, hlast, hposl, g1]
  refine hR _ ?_
  all_goals try simp only [go_sem, hlast, hposl]
  all_goals
   first | rfl | (simp only [List.cons.injEq, Prod.mk.injEq, PV.bool.injEq, true_and, and_true]; first | (simp [*]; done) | (simp_all; done) | (rw [Bool.eq_iff_iff]; simp only [Bool.not_eq_true', decide_eq_false_iff_not, decide_eq_true_eq, Bool.or_eq_true, Bool.and_eq_true]; first | omega | (simp_all; done) | (simp_all; omega)))
 try simp only [Bool.not_eq_true', Bool.not_eq_false'] at g1
 have n1 := g1; try simp only [nrm] at n1
 simp only [go_sem, hlast, hposl, g1]
 try simp (disch := (first | omega | (simp only [go_sem, List.length_append] <;> omega))) only [wrapI, wrapU, strAdd, slT, slTa, slTb]
 try simp only [go_sem, hlast, hposl, g1]
 refine hR _ ?_
 all_goals try simp only [go_sem, hlast, hposl]
 all_goals
  first | rfl | (simp only [List.cons.injEq, Prod.mk.injEq, PV.bool.injEq, true_and, and_true]; first | (simp [*]; done) | (simp_all; done) | (rw [Bool.eq_iff_iff]; simp only [Bool.not_eq_true', decide_eq_false_iff_not, decide_eq_true_eq, Bool.or_eq_true, Bool.and_eq_true]; first | omega | (simp_all; done) | (simp_all; omega)))
end Go.Proofs.YtpiepcplalkfiaaGreatDoor
