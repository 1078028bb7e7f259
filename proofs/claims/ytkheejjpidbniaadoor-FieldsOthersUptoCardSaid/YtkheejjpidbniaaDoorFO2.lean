/- What the cards of this seat rest on: the walks and plain laws, part 2. -/
import Derived.Shelf.Strings.Trim
import Derived.Shelf.Small.Utf8
import Derived.Shelf.Small.Strs
import Derived.Shelf.Utf8.RuneCount
import Derived.Shelf.Strconv.Atoi
import Derived.Shelf.Strconv.Itoa0
import Derived.Shelf.Strconv.Itoa1
import Derived.Shelf.LaysM
import Derived.Shelf.Strconv.Itoa2
import Derived.Shelf.Strconv.Itoa3
import Derived.Shelf.Strconv.AtoiErrFast
import Derived.Shelf.Strconv.ParseIntEmpty
import Derived.Shelf.Strconv.AtoiFail
import Derived.Shelf.Strconv.Clone
import Derived.Shelf.Strconv.SyntaxError
import Derived.Shelf.LaysC
import Derived.Shelf.Strconv.ToError
import Derived.Shelf.Strconv.AtoiErr
import Derived.Shelf.Strconv.ErrVar
import Derived.Shelf.Strconv.Lower
import Derived.Shelf.Strconv.ParseUint10
import Derived.Shelf.Strconv.ParseUint10Empty
import Derived.Shelf.Strconv.ParseUint10Any
import Derived.Shelf.Strconv.ParseInt10
import Derived.Shelf.Strconv.AtoiLong
import Derived.Shelf.Strconv.AtoiInnerAll
import Derived.Shelf.Strconv.RangeError
import Derived.Shelf.Strconv.ToErrorRange
import Derived.Shelf.Strconv.AtoiAll
import Derived.Shelf.Strconv.ErrVarAll
import Derived.Shelf.Strconv.ParseUintEmpty
import Derived.Shelf.Strconv.ParseUint10b64
import Derived.Shelf.Strconv.ParseUint10b32
import Derived.Shelf.Strconv.ParseUint10b16
import Derived.Shelf.Strconv.ParseUint10b8
import Derived.Shelf.Strconv.ParseUint10At
import Derived.Shelf.Strconv.ParseInt10At64
import Derived.Shelf.Strconv.ParseInt10At32
import Derived.Shelf.Strconv.ParseInt10At16
import Derived.Shelf.Strconv.ParseInt10At8
import Derived.Shelf.Strconv.ParseInt10All
import Derived.Shelf.Strings.Search1
import Derived.Shelf.Strings.Search2
import Derived.Shelf.Strings.Search3
import Derived.Shelf.Strings.Cut
import Derived.Shelf.Strings.Count
import Derived.Shelf.Strings.Shaped
import Derived.Shelf.Strings.Split
import Derived.Shelf.Strings.SplitShaped
import Derived.Shelf.Unicode.Decode
import Derived.Shelf.Strings.Runes
import Derived.Shelf.Strings.RuneCount
import Derived.Shelf.Strings.AsciiSet
import Derived.Shelf.Strings.Explode
import Derived.Shelf.Unicode.DecodeSlow
import Derived.Shelf.Unicode.DecodeAny
import Derived.Shelf.Unicode.DecodeLast
import Derived.Ground.SlgfProg
import Derived.Shelf.SlicesE.IndexFunc
import Derived.Shelf.SlicesE.DeleteFunc
import Derived.Test.YtkheejjpidbniaaDoorProg
import Derived.Lib.LaidTab
import Derived.WalkSmall
import Derived.Sort.Grow
import Derived.Below
import Derived.Lib.Hide
import Derived.WalkKit
import Derived.Outline
import Derived.Lib.ItoaNum
import Derived.Lib.AtoiAll
import Derived.Test.YtkheejjpidbniaaDoorFO1
import Derived.Lib.Case
import Derived.Lib.ConvBytes
import Derived.Lib.SlBytesRow
import Derived.Lib.SplitLaws
import Derived.Lib.CutLaws
import Derived.Lib.SlTrimSet
import Derived.Shelf.Strings.SlTrimAscii
import Derived.Lib.OwnBridge
import Derived.Deep.Draws
import Derived.Deep.AppendLies
import Derived.Maps.AppendAt
import Derived.OwnWalk
import Derived.Laws.BytesArg
import Derived.Laws.MakeOwn
import Derived.Laws.OwnMore
import Derived.Deep.OwnRows
import Derived.Tactics
import Derived.Laws.Slices
import Derived.KernelRfl
import Derived.RowKit3
import Derived.Deep.LoopGhost
import Derived.Deep.QuietTactic
import Derived.BigQuiet
import Derived.WideLaws
import Derived.Deep.DeepCutAuto
import Derived.Deep.CutBlock
import Derived.Deep.RegionHeld3
import Derived.Laws.Rows
import Derived.Lib.AppendStr
import Derived.ArgAppend
import Derived.Laws.IdiomCopy
import Derived.OrdersHeld
import Derived.Laws.BitsLemmas
import Derived.RowKit
import Derived.Maps.Own
import Derived.Maps.Views


namespace Go.Proofs
open Go.Shelf
def Tryd.lays160_ren : Go.Shelf.Ren := ⟨fun | 160 => 31 | 232 => 41 | 231 => 40 | 227 => 42 | 234 => 44 | 233 => 43 | 236 => 46 | 235 => 45 | 228 => 61 | 271 => 64 | 151 => 63 | 197 => 62 | 120 => 79 | 152 => 78 | 260 => 77 | 137 => 74 | 119 => 87 | 224 => 49 | 225 => 48 | 217 => 47 | 266 => 65 | n => n, fun | 9 => 9 | 4 => 4 | 3 => 3 | 5 => 5 | 117 => 69 | 116 => 68 | 0 => 0 | 124 => 72 | 21 => 21 | 105 => 85 | 46 => 75 | 119 => 113 | 139 => 116 | 138 => 115 | n => n, fun | 3 => 4 | 4 => 5 | n => n⟩
theorem Tryd.lays160 : Go.Proofs.Lays.n160 Tryd.prog Tryd.lays160_ren := {
  mixed := by kernel_rfl
  f119 := Tryd.func87.trans (congrArg some (by kernel_rfl))
  f120 := Tryd.func79.trans (congrArg some (by kernel_rfl))
  f137 := Tryd.func74.trans (congrArg some (by kernel_rfl))
  f151 := Tryd.func63.trans (congrArg some (by kernel_rfl))
  f152 := Tryd.func78.trans (congrArg some (by kernel_rfl))
  f160 := Tryd.func31.trans (congrArg some (by kernel_rfl))
  f197 := Tryd.func62.trans (congrArg some (by kernel_rfl))
  f217 := Tryd.func47.trans (congrArg some (by kernel_rfl))
  f224 := Tryd.func49.trans (congrArg some (by kernel_rfl))
  f225 := Tryd.func48.trans (congrArg some (by kernel_rfl))
  f227 := Tryd.func42.trans (congrArg some (by kernel_rfl))
  f228 := Tryd.func61.trans (congrArg some (by kernel_rfl))
  f231 := Tryd.func40.trans (congrArg some (by kernel_rfl))
  f232 := Tryd.func41.trans (congrArg some (by kernel_rfl))
  f233 := Tryd.func43.trans (congrArg some (by kernel_rfl))
  f234 := Tryd.func44.trans (congrArg some (by kernel_rfl))
  f235 := Tryd.func45.trans (congrArg some (by kernel_rfl))
  f236 := Tryd.func46.trans (congrArg some (by kernel_rfl))
  f260 := Tryd.func77.trans (congrArg some (by kernel_rfl))
  f266 := Tryd.func65.trans (congrArg some (by kernel_rfl))
  f271 := Tryd.func64.trans (congrArg some (by kernel_rfl))
  t0 := Tryd.underlying0
  a0 := Tryd.isAgg0
  z0 := Tryd.sizeOf0
  v0 := Tryd.zeroValue0
  t3 := Tryd.underlying3
  a3 := Tryd.isAgg3
  z3 := Tryd.sizeOf3
  v3 := Tryd.zeroValue3
  t4 := Tryd.underlying4
  a4 := Tryd.isAgg4
  z4 := Tryd.sizeOf4
  v4 := Tryd.zeroValue4
  t5 := Tryd.underlying5
  a5 := Tryd.isAgg5
  z5 := Tryd.sizeOf5
  v5 := Tryd.zeroValue5
  t9 := Tryd.underlying9
  a9 := Tryd.isAgg9
  z9 := Tryd.sizeOf9
  v9 := Tryd.zeroValue9
  t21 := Tryd.underlying21
  a21 := Tryd.isAgg21
  z21 := Tryd.sizeOf21
  v21 := Tryd.zeroValue21
  t46 := Tryd.underlying75
  a46 := Tryd.isAgg75
  z46 := Tryd.sizeOf75
  v46 := Tryd.zeroValue75
  t105 := Tryd.underlying85
  a105 := Tryd.isAgg85
  z105 := Tryd.sizeOf85
  v105 := Tryd.zeroValue85
  t116 := Tryd.underlying68
  a116 := Tryd.isAgg68
  z116 := Tryd.sizeOf68
  t117 := Tryd.underlying69
  a117 := Tryd.isAgg69
  z117 := Tryd.sizeOf69
  v117 := Tryd.zeroValue69
  t119 := Tryd.underlying113
  a119 := Tryd.isAgg113
  z119 := Tryd.sizeOf113
  t124 := Tryd.underlying72
  a124 := Tryd.isAgg72
  z124 := Tryd.sizeOf72
  v124 := Tryd.zeroValue72
  t138 := Tryd.underlying115
  a138 := Tryd.isAgg115
  z138 := Tryd.sizeOf115
  v138 := Tryd.zeroValue115
  t139 := Tryd.underlying116
  a139 := Tryd.isAgg116
  z139 := Tryd.sizeOf116
  v139 := Tryd.zeroValue116
  g3 := by kernel_rfl
  g4 := by kernel_rfl }
def Tryd.lays137_ren : Go.Shelf.Ren := ⟨fun | 137 => 74 | 217 => 47 | 266 => 65 | n => n, fun | 9 => 9 | 5 => 5 | 3 => 3 | n => n, fun | n => n⟩
theorem Tryd.lays137 : Go.Proofs.Lays.n137 Tryd.prog Tryd.lays137_ren := {
  mixed := by kernel_rfl
  f137 := Tryd.func74.trans (congrArg some (by kernel_rfl))
  f217 := Tryd.func47.trans (congrArg some (by kernel_rfl))
  f266 := Tryd.func65.trans (congrArg some (by kernel_rfl))
  t3 := Tryd.underlying3
  a3 := Tryd.isAgg3
  z3 := Tryd.sizeOf3
  v3 := Tryd.zeroValue3
  t5 := Tryd.underlying5
  a5 := Tryd.isAgg5
  z5 := Tryd.sizeOf5
  v5 := Tryd.zeroValue5
  t9 := Tryd.underlying9
  a9 := Tryd.isAgg9
  z9 := Tryd.sizeOf9
  v9 := Tryd.zeroValue9 }
open Go.RowKit in

theorem Tryd.strings_IndexByte (s : ByteArray) (c : Int) (w : World) :
    Calls Tryd.prog 74 #[.string s, .int .u8 c] w fun e w' => e = .returned (.int .i64 (Lib.indexByte s.data.toList c.toNat.toUInt8)) ∧ w' = w := Any.strings_IndexByte Tryd.lays137 s c w
def Tryd.laysM171_ren : Go.Shelf.Ren := ⟨fun | 171 => 26 | 243 => 36 | 246 => 56 | 283 => 70 | 284 => 71 | 285 => 72 | 286 => 73 | 129 => 83 | 317 => 82 | 318 => 84 | 319 => 85 | 320 => 86 | 337 => 88 | 338 => 89 | n => n, fun | 3 => 3 | 9 => 9 | 2 => 2 | 4 => 4 | 171 => 96 | 0 => 0 | 53 => 38 | 37 => 37 | 5 => 5 | 173 => 99 | 212 => 109 | 51 => 88 | 20 => 20 | 213 => 110 | 46 => 75 | 232 => 119 | 233 => 120 | n => n, fun | 17 => 3 | 18 => 6 | 19 => 7 | n => n⟩
theorem Tryd.laysM171 : Go.Proofs.LaysM.n171 Tryd.prog Tryd.laysM171_ren := {
  mixed := by kernel_rfl
  f129 := Tryd.func83.trans (congrArg some (by kernel_rfl))
  f171 := Tryd.func26.trans (congrArg some (by kernel_rfl))
  f243 := Tryd.func36.trans (congrArg some (by kernel_rfl))
  f246 := Tryd.func56.trans (congrArg some (by kernel_rfl))
  f283 := Tryd.func70.trans (congrArg some (by kernel_rfl))
  f284 := Tryd.func71.trans (congrArg some (by kernel_rfl))
  f285 := Tryd.func72.trans (congrArg some (by kernel_rfl))
  f286 := Tryd.func73.trans (congrArg some (by kernel_rfl))
  f317 := Tryd.func82.trans (congrArg some (by kernel_rfl))
  f318 := Tryd.func84.trans (congrArg some (by kernel_rfl))
  f319 := Tryd.func85.trans (congrArg some (by kernel_rfl))
  f320 := Tryd.func86.trans (congrArg some (by kernel_rfl))
  f337 := Tryd.func88.trans (congrArg some (by kernel_rfl))
  f338 := Tryd.func89.trans (congrArg some (by kernel_rfl))
  t0 := Tryd.underlying0
  a0 := Tryd.isAgg0
  z0 := Tryd.sizeOf0
  v0 := Tryd.zeroValue0
  t2 := Tryd.underlying2
  a2 := Tryd.isAgg2
  z2 := Tryd.sizeOf2
  v2 := Tryd.zeroValue2
  t3 := Tryd.underlying3
  a3 := Tryd.isAgg3
  z3 := Tryd.sizeOf3
  v3 := Tryd.zeroValue3
  t4 := Tryd.underlying4
  a4 := Tryd.isAgg4
  z4 := Tryd.sizeOf4
  v4 := Tryd.zeroValue4
  t5 := Tryd.underlying5
  a5 := Tryd.isAgg5
  z5 := Tryd.sizeOf5
  v5 := Tryd.zeroValue5
  t9 := Tryd.underlying9
  a9 := Tryd.isAgg9
  z9 := Tryd.sizeOf9
  v9 := Tryd.zeroValue9
  t20 := Tryd.underlying20
  a20 := Tryd.isAgg20
  z20 := Tryd.sizeOf20
  v20 := Tryd.zeroValue20
  t37 := Tryd.underlying37
  a37 := Tryd.isAgg37
  z37 := Tryd.sizeOf37
  v37 := Tryd.zeroValue37
  t46 := Tryd.underlying75
  a46 := Tryd.isAgg75
  z46 := Tryd.sizeOf75
  v46 := Tryd.zeroValue75
  t51 := Tryd.underlying88
  a51 := Tryd.isAgg88
  z51 := Tryd.sizeOf88
  v51 := Tryd.zeroValue88
  t53 := Tryd.underlying38
  a53 := Tryd.isAgg38
  z53 := Tryd.sizeOf38
  v53 := Tryd.zeroValue38
  t171 := Tryd.underlying96
  a171 := Tryd.isAgg96
  z171 := Tryd.sizeOf96
  v171 := Tryd.zeroValue96
  t173 := Tryd.underlying99
  a173 := Tryd.isAgg99
  z173 := Tryd.sizeOf99
  v173 := Tryd.zeroValue99
  t212 := Tryd.underlying109
  a212 := Tryd.isAgg109
  z212 := Tryd.sizeOf109
  v212 := Tryd.zeroValue109
  t213 := Tryd.underlying110
  a213 := Tryd.isAgg110
  z213 := Tryd.sizeOf110
  t232 := Tryd.underlying119
  a232 := Tryd.isAgg119
  z232 := Tryd.sizeOf119
  v232 := Tryd.zeroValue119
  t233 := Tryd.underlying120
  a233 := Tryd.isAgg120
  z233 := Tryd.sizeOf120
  v233 := Tryd.zeroValue120
  g17 := by kernel_rfl
  g18 := by kernel_rfl
  g19 := by kernel_rfl
  i0 := by kernel_rfl
  i2 := by kernel_rfl
  i3 := by kernel_rfl
  i4 := by kernel_rfl
  i5 := by kernel_rfl
  i9 := by kernel_rfl
  i20 := by kernel_rfl
  i37 := by kernel_rfl
  i46 := by kernel_rfl
  i51 := by kernel_rfl
  i53 := by kernel_rfl
  i171 := by kernel_rfl
  i173 := by kernel_rfl
  i212 := by kernel_rfl
  i232 := by kernel_rfl
  i233 := by kernel_rfl
  m17 := by kernel_rfl
  m18 := by kernel_rfl
  m19 := by kernel_rfl }
open Go.RowKit Go.Sort Go.Lib in

theorem Tryd.strconv_Itoa (n : Int) (h0 : -9223372036854775808 ≤ n) (h1 : n ≤ 9223372036854775807) (w : World) (htab : Lib.TabIs Tryd.prog w "internal/strconv.uint64pow10" .u64 Lib.pow10Tab) :
    Calls Tryd.prog 26 #[.int .i64 n] w fun e w' => e = .returned (.string ⟨(Lib.itoa n).toArray⟩) ∧ ∃ k os, w' = grow (w.drewN k) os := Any.strconv_Itoa Tryd.laysM171 n h0 h1 w htab
def Tryd.laysC172_ren : Go.Shelf.Ren := ⟨fun | 172 => 25 | 244 => 34 | 245 => 35 | 247 => 51 | 279 => 52 | 280 => 53 | 281 => 54 | 282 => 55 | 287 => 67 | 316 => 68 | 171 => 26 | 205 => 69 | 321 => 80 | 322 => 81 | 243 => 36 | 246 => 56 | 283 => 70 | 284 => 71 | 285 => 72 | 286 => 73 | 129 => 83 | 317 => 82 | 318 => 84 | 319 => 85 | 320 => 86 | 337 => 88 | 338 => 89 | n => n, fun | 9 => 9 | 3 => 3 | 75 => 52 | 76 => 53 | 4 => 4 | 5 => 5 | 167 => 76 | 37 => 37 | 0 => 0 | 85 => 77 | 2 => 2 | 168 => 79 | 53 => 38 | 175 => 91 | 46 => 75 | 210 => 94 | 127 => 104 | 145 => 107 | 143 => 105 | 21 => 21 | 171 => 96 | 173 => 99 | 212 => 109 | 51 => 88 | 20 => 20 | 213 => 110 | 232 => 119 | 233 => 120 | 80 => 121 | n => n, fun | 15 => 1 | 16 => 2 | 17 => 3 | 18 => 6 | 19 => 7 | n => n⟩
theorem Tryd.laysC172 : Go.Proofs.LaysC.n172 Tryd.prog Tryd.laysC172_ren := {
  mixed := by kernel_rfl
  f129 := Tryd.func83.trans (congrArg some (by kernel_rfl))
  f171 := Tryd.func26.trans (congrArg some (by kernel_rfl))
  f172 := Tryd.func25.trans (congrArg some (by kernel_rfl))
  f205 := Tryd.func69.trans (congrArg some (by kernel_rfl))
  f243 := Tryd.func36.trans (congrArg some (by kernel_rfl))
  f244 := Tryd.func34.trans (congrArg some (by kernel_rfl))
  f245 := Tryd.func35.trans (congrArg some (by kernel_rfl))
  f246 := Tryd.func56.trans (congrArg some (by kernel_rfl))
  f247 := Tryd.func51.trans (congrArg some (by kernel_rfl))
  f279 := Tryd.func52.trans (congrArg some (by kernel_rfl))
  f280 := Tryd.func53.trans (congrArg some (by kernel_rfl))
  f281 := Tryd.func54.trans (congrArg some (by kernel_rfl))
  f282 := Tryd.func55.trans (congrArg some (by kernel_rfl))
  f283 := Tryd.func70.trans (congrArg some (by kernel_rfl))
  f284 := Tryd.func71.trans (congrArg some (by kernel_rfl))
  f285 := Tryd.func72.trans (congrArg some (by kernel_rfl))
  f286 := Tryd.func73.trans (congrArg some (by kernel_rfl))
  f287 := Tryd.func67.trans (congrArg some (by kernel_rfl))
  f316 := Tryd.func68.trans (congrArg some (by kernel_rfl))
  f317 := Tryd.func82.trans (congrArg some (by kernel_rfl))
  f318 := Tryd.func84.trans (congrArg some (by kernel_rfl))
  f319 := Tryd.func85.trans (congrArg some (by kernel_rfl))
  f320 := Tryd.func86.trans (congrArg some (by kernel_rfl))
  f321 := Tryd.func80.trans (congrArg some (by kernel_rfl))
  f322 := Tryd.func81.trans (congrArg some (by kernel_rfl))
  f337 := Tryd.func88.trans (congrArg some (by kernel_rfl))
  f338 := Tryd.func89.trans (congrArg some (by kernel_rfl))
  t0 := Tryd.underlying0
  a0 := Tryd.isAgg0
  z0 := Tryd.sizeOf0
  v0 := Tryd.zeroValue0
  t2 := Tryd.underlying2
  a2 := Tryd.isAgg2
  z2 := Tryd.sizeOf2
  v2 := Tryd.zeroValue2
  t3 := Tryd.underlying3
  a3 := Tryd.isAgg3
  z3 := Tryd.sizeOf3
  v3 := Tryd.zeroValue3
  t4 := Tryd.underlying4
  a4 := Tryd.isAgg4
  z4 := Tryd.sizeOf4
  v4 := Tryd.zeroValue4
  t5 := Tryd.underlying5
  a5 := Tryd.isAgg5
  z5 := Tryd.sizeOf5
  v5 := Tryd.zeroValue5
  t9 := Tryd.underlying9
  a9 := Tryd.isAgg9
  z9 := Tryd.sizeOf9
  v9 := Tryd.zeroValue9
  t20 := Tryd.underlying20
  a20 := Tryd.isAgg20
  z20 := Tryd.sizeOf20
  v20 := Tryd.zeroValue20
  t21 := Tryd.underlying21
  a21 := Tryd.isAgg21
  z21 := Tryd.sizeOf21
  v21 := Tryd.zeroValue21
  t37 := Tryd.underlying37
  a37 := Tryd.isAgg37
  z37 := Tryd.sizeOf37
  v37 := Tryd.zeroValue37
  t46 := Tryd.underlying75
  a46 := Tryd.isAgg75
  z46 := Tryd.sizeOf75
  v46 := Tryd.zeroValue75
  t51 := Tryd.underlying88
  a51 := Tryd.isAgg88
  z51 := Tryd.sizeOf88
  v51 := Tryd.zeroValue88
  t53 := Tryd.underlying38
  a53 := Tryd.isAgg38
  z53 := Tryd.sizeOf38
  v53 := Tryd.zeroValue38
  t75 := Tryd.underlying52
  a75 := Tryd.isAgg52
  z75 := Tryd.sizeOf52
  v75 := Tryd.zeroValue52
  t76 := Tryd.underlying53
  a76 := Tryd.isAgg53
  z76 := Tryd.sizeOf53
  v76 := Tryd.zeroValue53
  t85 := Tryd.underlying77
  a85 := Tryd.isAgg77
  z85 := Tryd.sizeOf77
  v85 := Tryd.zeroValue77
  t127 := Tryd.underlying104
  a127 := Tryd.isAgg104
  z127 := Tryd.sizeOf104
  v127 := Tryd.zeroValue104
  t143 := Tryd.underlying105
  a143 := Tryd.isAgg105
  z143 := Tryd.sizeOf105
  v143 := Tryd.zeroValue105
  t145 := Tryd.underlying107
  a145 := Tryd.isAgg107
  z145 := Tryd.sizeOf107
  v145 := Tryd.zeroValue107
  t167 := Tryd.underlying76
  a167 := Tryd.isAgg76
  z167 := Tryd.sizeOf76
  v167 := Tryd.zeroValue76
  t168 := Tryd.underlying79
  a168 := Tryd.isAgg79
  z168 := Tryd.sizeOf79
  v168 := Tryd.zeroValue79
  t171 := Tryd.underlying96
  a171 := Tryd.isAgg96
  z171 := Tryd.sizeOf96
  v171 := Tryd.zeroValue96
  t173 := Tryd.underlying99
  a173 := Tryd.isAgg99
  z173 := Tryd.sizeOf99
  v173 := Tryd.zeroValue99
  t175 := Tryd.underlying91
  a175 := Tryd.isAgg91
  z175 := Tryd.sizeOf91
  v175 := Tryd.zeroValue91
  t210 := Tryd.underlying94
  a210 := Tryd.isAgg94
  z210 := Tryd.sizeOf94
  v210 := Tryd.zeroValue94
  t212 := Tryd.underlying109
  a212 := Tryd.isAgg109
  z212 := Tryd.sizeOf109
  v212 := Tryd.zeroValue109
  t213 := Tryd.underlying110
  a213 := Tryd.isAgg110
  z213 := Tryd.sizeOf110
  t232 := Tryd.underlying119
  a232 := Tryd.isAgg119
  z232 := Tryd.sizeOf119
  v232 := Tryd.zeroValue119
  t233 := Tryd.underlying120
  a233 := Tryd.isAgg120
  z233 := Tryd.sizeOf120
  v233 := Tryd.zeroValue120
  g15 := by kernel_rfl
  g16 := by kernel_rfl
  g17 := by kernel_rfl
  g18 := by kernel_rfl
  g19 := by kernel_rfl
  t80 := Tryd.underlying121
  a80 := Tryd.isAgg121
  z80 := Tryd.sizeOf121
  v80 := Tryd.zeroValue121
  i0 := by kernel_rfl
  i2 := by kernel_rfl
  i3 := by kernel_rfl
  i4 := by kernel_rfl
  i5 := by kernel_rfl
  i9 := by kernel_rfl
  i20 := by kernel_rfl
  i21 := by kernel_rfl
  i37 := by kernel_rfl
  i46 := by kernel_rfl
  i51 := by kernel_rfl
  i53 := by kernel_rfl
  i75 := by kernel_rfl
  i76 := by kernel_rfl
  i80 := by kernel_rfl
  i85 := by kernel_rfl
  i127 := by kernel_rfl
  i143 := by kernel_rfl
  i145 := by kernel_rfl
  i167 := by kernel_rfl
  i168 := by kernel_rfl
  i171 := by kernel_rfl
  i173 := by kernel_rfl
  i175 := by kernel_rfl
  i210 := by kernel_rfl
  i212 := by kernel_rfl
  i232 := by kernel_rfl
  i233 := by kernel_rfl
  m15 := by kernel_rfl
  m16 := by kernel_rfl
  m17 := by kernel_rfl
  m18 := by kernel_rfl
  m19 := by kernel_rfl
  c0 := by kernel_rfl
  c2 := by kernel_rfl
  c3 := by kernel_rfl
  c4 := by kernel_rfl
  c5 := by kernel_rfl
  c9 := by kernel_rfl
  c20 := by kernel_rfl
  c21 := by kernel_rfl
  c37 := by kernel_rfl
  c46 := by kernel_rfl
  c51 := by kernel_rfl
  c53 := by kernel_rfl
  c75 := by kernel_rfl
  c76 := by kernel_rfl
  c80 := by kernel_rfl
  c85 := by kernel_rfl
  c127 := by kernel_rfl
  c143 := by kernel_rfl
  c145 := by kernel_rfl
  c167 := by kernel_rfl
  c168 := by kernel_rfl
  c171 := by kernel_rfl
  c173 := by kernel_rfl
  c175 := by kernel_rfl
  c210 := by kernel_rfl
  c212 := by kernel_rfl
  c213 := by kernel_rfl
  c232 := by kernel_rfl
  c233 := by kernel_rfl }
open Go.RowKit in

theorem Tryd.strconv_Atoi_ok (s : ByteArray) (hmax : s.size ≤ 9223372036854775806) (v : Int) (h : Lib.atoiAll s.data.toList = .ok v) (w : World) :
    Calls Tryd.prog 25 #[.string s] w fun e w' => e = .returned (.tuple #[.int .i64 v, .nilIface]) ∧ (w' = w ∨ ∃ t, w' = Lib.bytesWorld w 5 t) := Any.strconv_Atoi_ok Tryd.laysC172 s hmax v h w
open Go.RowKit in

theorem Tryd.strconv_Atoi_syntax (s : ByteArray) (hlim : s.size ≤ 281474976710656) (h : Lib.atoiAll s.data.toList = Lib.atoiAll []) (ev : Value) (w : World) (hv : w.cell? ⟨1, 0, none⟩ = some ev) (hev : ev = .nilIface ∨ ∃ te pe, ev = .iface te pe) :
    Calls Tryd.prog 25 #[.string s] w fun e w' => ∃ N, e = .returned (.tuple #[.int .i64 (0), .iface 79 (.pointer (some ⟨N, 0, none⟩))]) ∧ w.heap.size ≤ N ∧ w'.heap[N]? = some (.cells #[.string ⟨#[65, 116, 111, 105]⟩, .string s, ev] 94 (0, 0)) ∧ Below w.heap.size w w' := Any.strconv_Atoi_syntax Tryd.laysC172 s hlim h ev w hv hev
open Go.RowKit in

theorem Tryd.strconv_Atoi_range (s : ByteArray) (hlim : s.size ≤ 281474976710656) (h : Lib.atoiAll s.data.toList = .range) (ev : Value) (w : World) (hv : w.cell? ⟨2, 0, none⟩ = some ev) (hev : ev = .nilIface ∨ ∃ te pe, ev = .iface te pe) :
    Calls Tryd.prog 25 #[.string s] w fun e w' => ∃ N, e = .returned (.tuple #[.int .i64 (Lib.atoiSat s.data.toList), .iface 79 (.pointer (some ⟨N, 0, none⟩))]) ∧ w.heap.size ≤ N ∧ w'.heap[N]? = some (.cells #[.string ⟨#[65, 116, 111, 105]⟩, .string s, ev] 94 (0, 0)) ∧ Below w.heap.size w w' := Any.strconv_Atoi_range Tryd.laysC172 s hlim h ev w hv hev
def Tryd.lays145_ren : Go.Shelf.Ren := ⟨fun | 145 => 14 | 220 => 24 | 219 => 33 | 217 => 47 | 225 => 48 | 224 => 49 | 267 => 50 | 266 => 65 | 314 => 66 | n => n, fun | 9 => 9 | 4 => 4 | 59 => 41 | 3 => 3 | 5 => 5 | 46 => 75 | 146 => 89 | 51 => 88 | n => n, fun | 1 => 0 | n => n⟩
theorem Tryd.lays145 : Go.Proofs.Lays.n145 Tryd.prog Tryd.lays145_ren := {
  mixed := by kernel_rfl
  f145 := Tryd.func14.trans (congrArg some (by kernel_rfl))
  f217 := Tryd.func47.trans (congrArg some (by kernel_rfl))
  f219 := Tryd.func33.trans (congrArg some (by kernel_rfl))
  f220 := Tryd.func24.trans (congrArg some (by kernel_rfl))
  f224 := Tryd.func49.trans (congrArg some (by kernel_rfl))
  f225 := Tryd.func48.trans (congrArg some (by kernel_rfl))
  f266 := Tryd.func65.trans (congrArg some (by kernel_rfl))
  f267 := Tryd.func50.trans (congrArg some (by kernel_rfl))
  f314 := Tryd.func66.trans (congrArg some (by kernel_rfl))
  t3 := Tryd.underlying3
  a3 := Tryd.isAgg3
  z3 := Tryd.sizeOf3
  v3 := Tryd.zeroValue3
  t4 := Tryd.underlying4
  a4 := Tryd.isAgg4
  z4 := Tryd.sizeOf4
  v4 := Tryd.zeroValue4
  t5 := Tryd.underlying5
  a5 := Tryd.isAgg5
  z5 := Tryd.sizeOf5
  v5 := Tryd.zeroValue5
  t9 := Tryd.underlying9
  a9 := Tryd.isAgg9
  z9 := Tryd.sizeOf9
  v9 := Tryd.zeroValue9
  t46 := Tryd.underlying75
  a46 := Tryd.isAgg75
  z46 := Tryd.sizeOf75
  v46 := Tryd.zeroValue75
  t51 := Tryd.underlying88
  a51 := Tryd.isAgg88
  z51 := Tryd.sizeOf88
  v51 := Tryd.zeroValue88
  t59 := Tryd.underlying41
  a59 := Tryd.isAgg41
  z59 := Tryd.sizeOf41
  v59 := Tryd.zeroValue41
  t146 := Tryd.underlying89
  a146 := Tryd.isAgg89
  z146 := Tryd.sizeOf89
  v146 := Tryd.zeroValue89
  g1 := by kernel_rfl }
open Go.RowKit Go.Lib in

theorem Tryd.strings_Cut (s sep : ByteArray) (m : Int) (w : World) (hs : s.size < 4294967281) (hm : w.cell? ⟨0, 0, none⟩ = some (.int .i64 m)) :
    Calls Tryd.prog 14 #[.string s, .string sep] w fun e w' => e = .returned (.tuple #[.string ⟨(Lib.cut s.data.toList sep.data.toList).1.toArray⟩, .string ⟨(Lib.cut s.data.toList sep.data.toList).2.1.toArray⟩, .bool (Lib.cut s.data.toList sep.data.toList).2.2]) ∧ ∃ n, w' = w.drewN n := Any.strings_Cut Tryd.lays145 s sep m w hs hm
def Tryd.lays146_ren : Go.Shelf.Ren := ⟨fun | 146 => 30 | 221 => 39 | 268 => 58 | 138 => 59 | 143 => 60 | 195 => 75 | 197 => 62 | 218 => 76 | 219 => 33 | 260 => 77 | 217 => 47 | 225 => 48 | 224 => 49 | 267 => 50 | 266 => 65 | 314 => 66 | n => n, fun | 9 => 9 | 31 => 39 | 3 => 3 | 4 => 4 | 0 => 0 | 105 => 85 | 21 => 21 | 5 => 5 | 46 => 75 | 119 => 113 | 139 => 116 | 138 => 115 | 146 => 89 | 51 => 88 | n => n, fun | 1 => 0 | 3 => 4 | 4 => 5 | n => n⟩
theorem Tryd.lays146 : Go.Proofs.Lays.n146 Tryd.prog Tryd.lays146_ren := {
  mixed := by kernel_rfl
  f138 := Tryd.func59.trans (congrArg some (by kernel_rfl))
  f143 := Tryd.func60.trans (congrArg some (by kernel_rfl))
  f146 := Tryd.func30.trans (congrArg some (by kernel_rfl))
  f195 := Tryd.func75.trans (congrArg some (by kernel_rfl))
  f197 := Tryd.func62.trans (congrArg some (by kernel_rfl))
  f217 := Tryd.func47.trans (congrArg some (by kernel_rfl))
  f218 := Tryd.func76.trans (congrArg some (by kernel_rfl))
  f219 := Tryd.func33.trans (congrArg some (by kernel_rfl))
  f221 := Tryd.func39.trans (congrArg some (by kernel_rfl))
  f224 := Tryd.func49.trans (congrArg some (by kernel_rfl))
  f225 := Tryd.func48.trans (congrArg some (by kernel_rfl))
  f260 := Tryd.func77.trans (congrArg some (by kernel_rfl))
  f266 := Tryd.func65.trans (congrArg some (by kernel_rfl))
  f267 := Tryd.func50.trans (congrArg some (by kernel_rfl))
  f268 := Tryd.func58.trans (congrArg some (by kernel_rfl))
  f314 := Tryd.func66.trans (congrArg some (by kernel_rfl))
  t0 := Tryd.underlying0
  a0 := Tryd.isAgg0
  z0 := Tryd.sizeOf0
  v0 := Tryd.zeroValue0
  t3 := Tryd.underlying3
  a3 := Tryd.isAgg3
  z3 := Tryd.sizeOf3
  v3 := Tryd.zeroValue3
  t4 := Tryd.underlying4
  a4 := Tryd.isAgg4
  z4 := Tryd.sizeOf4
  v4 := Tryd.zeroValue4
  t5 := Tryd.underlying5
  a5 := Tryd.isAgg5
  z5 := Tryd.sizeOf5
  v5 := Tryd.zeroValue5
  t9 := Tryd.underlying9
  a9 := Tryd.isAgg9
  z9 := Tryd.sizeOf9
  v9 := Tryd.zeroValue9
  t21 := Tryd.underlying21
  a21 := Tryd.isAgg21
  z21 := Tryd.sizeOf21
  v21 := Tryd.zeroValue21
  t31 := Tryd.underlying39
  a31 := Tryd.isAgg39
  z31 := Tryd.sizeOf39
  v31 := Tryd.zeroValue39
  t46 := Tryd.underlying75
  a46 := Tryd.isAgg75
  z46 := Tryd.sizeOf75
  v46 := Tryd.zeroValue75
  t51 := Tryd.underlying88
  a51 := Tryd.isAgg88
  z51 := Tryd.sizeOf88
  v51 := Tryd.zeroValue88
  t105 := Tryd.underlying85
  a105 := Tryd.isAgg85
  z105 := Tryd.sizeOf85
  v105 := Tryd.zeroValue85
  t119 := Tryd.underlying113
  a119 := Tryd.isAgg113
  z119 := Tryd.sizeOf113
  t138 := Tryd.underlying115
  a138 := Tryd.isAgg115
  z138 := Tryd.sizeOf115
  v138 := Tryd.zeroValue115
  t139 := Tryd.underlying116
  a139 := Tryd.isAgg116
  z139 := Tryd.sizeOf116
  v139 := Tryd.zeroValue116
  t146 := Tryd.underlying89
  a146 := Tryd.isAgg89
  z146 := Tryd.sizeOf89
  v146 := Tryd.zeroValue89
  g1 := by kernel_rfl
  g3 := by kernel_rfl
  g4 := by kernel_rfl }
open Go.RowKit Go.Lib in

theorem Tryd.strings_Split (s sep : ByteArray) (m : Int) (w : World) (hs : s.size < 4294967281) (hm : w.cell? ⟨0, 0, none⟩ = some (.int .i64 m)) (h1 : 1 ≤ sep.size) :
    Calls Tryd.prog 30 #[.string s, .string sep] w fun e w' =>
      e = .returned (.slice (some ⟨w.heap.size, 0, none⟩) (Lib.countB s sep + 1) (Lib.countB s sep + 1)) ∧ w' = w.alloc (.cells ((Lib.splitB sep 0 (Lib.countB s sep) s).map Value.string).toArray 9) := Any.strings_Split Tryd.lays146 (by kernel_rfl) s sep m w hs hm h1
def Tryd.laysSlH10_f22_ren : Go.Shelf.Ren := ⟨fun | 10 => 22 | 6 => 32 | n => n, fun | 22 => 39 | 23 => 9 | 25 => 49 | 3 => 3 | 4 => 4 | 0 => 0 | n => n, fun | n => n⟩
theorem Tryd.laysSlH10_f22 : Go.Proofs.SlLaysH.n10 Tryd.prog Tryd.laysSlH10_f22_ren := {
  mixed := by kernel_rfl
  f6 := ⟨Tryd.f32.name, by decide, Tryd.func32.trans (congrArg some (by kernel_rfl))⟩
  f10 := ⟨Tryd.f22.name, by decide, Tryd.func22.trans (congrArg some (by kernel_rfl))⟩
  t0 := Tryd.underlying0
  a0 := Tryd.isAgg0
  z0 := Tryd.sizeOf0
  v0 := Tryd.zeroValue0
  t3 := Tryd.underlying3
  a3 := Tryd.isAgg3
  z3 := Tryd.sizeOf3
  v3 := Tryd.zeroValue3
  t4 := Tryd.underlying4
  a4 := Tryd.isAgg4
  z4 := Tryd.sizeOf4
  v4 := Tryd.zeroValue4
  t22 := Tryd.underlying39
  a22 := Tryd.isAgg39
  z22 := Tryd.sizeOf39
  v22 := Tryd.zeroValue39
  a23 := Tryd.isAgg9
  z23 := Tryd.sizeOf9
  t25 := Tryd.underlying49
  a25 := Tryd.isAgg49
  z25 := Tryd.sizeOf49
  v25 := Tryd.zeroValue49 }
open Go.RowKit Go.Lib Go.Sort in
theorem Tryd.slices_DeleteFunc {α : Type} [Inhabited α] (enc : α → Value) (hO : OneCell enc) (p : α → Bool) (g : Nat) (lb : Array Value) (eg : ∀ args w, (callFunc g args).run Tryd.prog w = .ok (.enter g args) w) (zr : α) (v23 : ∀ w, (zeroValue 9).run Tryd.prog w = .ok (enc zr) w) (blk off cap : Nat) (d : Array α) (w : World) (hp : PredAt Tryd.prog g lb enc p w) (hpo : PredOver Tryd.prog g lb enc p blk off d.size w) (hH : Holds enc w blk off d) (hsz : d.size ≤ 9223372036854775807) (hcap : d.size ≤ cap) :
    Calls Tryd.prog 22 #[.slice (some ⟨blk, off, none⟩) d.size cap, .func (.func g) #[] lb] w fun e w' => e = .returned (.slice (some ⟨blk, off, none⟩) (d.toList.filter fun x => !p x).length cap) ∧ ∃ q, w' = putRow enc (Sort.ahead w q) blk off ((d.toList.filter fun x => !p x) ++ List.replicate (d.size - (d.toList.filter fun x => !p x).length) zr).toArray := AnyE.slices_DeleteFunc Tryd.laysSlH10_f22 enc hO p g lb eg zr v23 blk off cap d w hp hpo hH hsz hcap
end Go.Proofs


namespace Go.Proofs.YtkheejjpidbniaaDoor
open Go.RowKit
structure StdW (w : World) : Prop where
  max : ∃ m, w.cell? ⟨0, 0, none⟩ = some (.int .i64 m)
  tab : Lib.TabIs Tryd.prog w "internal/strconv.uint64pow10" .u64 Lib.pow10Tab
  syn : ∃ tp p, w.cell? ⟨1, 0, none⟩ = some (.iface tp p)
  rng : ∃ tp p, w.cell? ⟨2, 0, none⟩ = some (.iface tp p)
  size : 3 < w.heap.size
theorem gPow : Tryd.prog.globalNamed "internal/strconv.uint64pow10" = some 3 := by kernel_rfl
theorem StdW.below {w w' : World} (h : StdW w) (hb : Below w.heap.size w w') : StdW w' := by
  obtain ⟨⟨m, hm⟩, ht, ⟨a, b, hs⟩, ⟨c, d, hr⟩, hz⟩ := h
  exact ⟨⟨m, (hb.cell (World.block_lt_of_cell? _ _ hm)).trans hm⟩, var?_below hb gPow hz ht, ⟨a, b, (hb.cell (World.block_lt_of_cell? _ _ hs)).trans hs⟩,
    ⟨c, d, (hb.cell (World.block_lt_of_cell? _ _ hr)).trans hr⟩, Nat.lt_of_lt_of_le hz hb.size⟩
theorem below_drewN (w : World) (n : Nat) : Below w.heap.size w (w.drewN n) := ⟨rfl, rfl, rfl, Nat.le_refl _, fun _ _ => rfl⟩
theorem below_grow (w : World) (os : Array Obj) : Below w.heap.size w (Sort.grow w os) :=
  ⟨rfl, rfl, rfl, by simp [Sort.grow], fun k hk => by simp [Sort.grow, Array.getElem?_append, hk]⟩
end Go.Proofs.YtkheejjpidbniaaDoor


namespace Go.Proofs.YtkheejjpidbniaaDoor.Num
open Go.Lib
def val (l : List UInt8) : Nat := l.foldl (fun a c => a * 10 + (c.toNat - 48)) 0
theorem val_snoc (l : List UInt8) (c : UInt8) : val (l ++ [c]) = val l * 10 + (c.toNat - 48) := by simp [val]
def canon (l : List UInt8) : Bool := l == decDigits (val l)
def dig (c : UInt8) : Bool := decide (48 ≤ c.toNat) && decide (c.toNat ≤ 57)
theorem ofNat_toNat (k : Nat) (h : k < 10) : (UInt8.ofNat (48 + k)).toNat = 48 + k := by
  rw [UInt8.toNat_ofNat']; omega
theorem val_dec (n : Nat) : val (decDigits n) = n := by
  induction n using Nat.strongRecOn with
  | _ n ih =>
    by_cases h : n < 10
    · rw [decDigits, dif_pos h]
      simp only [val, List.foldl_cons, List.foldl_nil]
      rw [ofNat_toNat n h]; omega
    · rw [decDigits, dif_neg h, val_snoc, ih (n / 10) (by omega), ofNat_toNat _ (by omega)]; omega
theorem canon_dec (n : Nat) : canon (decDigits n) = true := by simp [canon, val_dec]
def whole (l : List UInt8) (d : Nat) : Option Nat :=
  if l = [] ∨ d < l.length ∨ (1 < l.length ∧ l.head?.map (·.toNat) = some 48) then none
  else if l.all dig then some (val l) else none
theorem atoi_itoa (l : List UInt8) (v : Int) (h : atoiAll l = .ok v) (h0 : 0 ≤ v) (hi : itoa v = l) : canon l = true ∧ v = (val l : Int) := by
  unfold itoa at hi
  rw [if_neg (by omega)] at hi
  subst hi
  exact ⟨canon_dec _, by rw [val_dec]; omega⟩
end Go.Proofs.YtkheejjpidbniaaDoor.Num


namespace Go.Proofs.YtkheejjpidbniaaDoor.E
open Go.RowKit Go.Proofs.YtkheejjpidbniaaDoorW.PrintWords Go.Proofs.YtkheejjpidbniaaDoorW.PrintLast
set_option linter.unusedVariables false
set_option linter.unusedSimpArgs false
theorem addAt (b o j : Nat) : (⟨b, o, none⟩ : Addr).add j = ⟨b, o + j, none⟩ := by unfold Addr.add; split <;> simp_all
def Itoa.f (a : Int) : Option ByteArray := if -9223372036854775808 ≤ a ∧ a ≤ 9223372036854775807 then some ⟨(Lib.itoa a).toArray⟩ else none
theorem Itoa.calls (a : Int) (r : ByteArray) (w : World) (hS_ : StdW w) (h : Itoa.f a = some r) :
    Calls Tryd.prog 26 #[.int .i64 a] w fun e w' => e = .returned (.string r) ∧ Below w.heap.size w w' := by
  unfold Itoa.f at h
  split at h
  · rename_i hc
    obtain rfl := Option.some.inj h
    refine (Tryd.strconv_Itoa a hc.1 hc.2 w hS_.tab).mono ?_
    rintro e w' ⟨rfl, k, os, rfl⟩
    exact ⟨rfl, below_then (below_drewN w k) (Nat.le_refl _) (below_grow (w.drewN k) os)⟩
  · cases h
def Cut.f (s sep : ByteArray) : Option (ByteArray × ByteArray × Bool) :=
  if s.size < 4294967281 then some (⟨(Lib.cut s.data.toList sep.data.toList).1.toArray⟩, ⟨(Lib.cut s.data.toList sep.data.toList).2.1.toArray⟩, (Lib.cut s.data.toList sep.data.toList).2.2) else none
theorem Cut.calls (s sep : ByteArray) (r1 r2 : ByteArray) (r3 : Bool) (w : World) (hS_ : StdW w) (h : Cut.f s sep = some (r1, r2, r3)) :
    Calls Tryd.prog 14 #[.string s, .string sep] w fun e w' => e = .returned (.tuple #[.string r1, .string r2, .bool r3]) ∧ Below w.heap.size w w' := by
  unfold Cut.f at h
  split at h
  · rename_i hc
    simp only [Option.some.injEq, Prod.mk.injEq] at h
    obtain ⟨rfl, rfl, rfl⟩ := h
    obtain ⟨m, hm⟩ := hS_.max
    refine (Tryd.strings_Cut s sep m w hc hm).mono ?_
    rintro e w' ⟨rfl, n, rfl⟩
    exact ⟨rfl, below_drewN w n⟩
  · cases h
end Go.Proofs.YtkheejjpidbniaaDoor.E


namespace Go.Proofs.YtkheejjpidbniaaDoor.E
open Go.RowKit Go.Proofs.YtkheejjpidbniaaDoorW.PrintWords Go.Proofs.YtkheejjpidbniaaDoorW.PrintLast
set_option linter.unusedVariables false
set_option linter.unusedSimpArgs false
def lowI (x : Int) : Int := if 65 ≤ x ∧ x ≤ 90 then x + 32 else x
def lowAt (s : ByteArray) (k j : Nat) : Int := if j < k then lowI (s.data.toList.getD j 0).toNat else (s.data.toList.getD j 0).toNat
theorem lowI_byte (b : UInt8) : lowI b.toNat = (Lib.lowerB b).toNat := by
  have h : ∀ n : Fin 256, lowI (UInt8.ofNat n.1).toNat = (Lib.lowerB (UInt8.ofNat n.1)).toNat := by decide +kernel
  have := h ⟨b.toNat, b.toNat_lt⟩
  simpa using this
def LowMem (s : ByteArray) (R k : Nat) (w : World) : Prop := ∀ j, j < s.size → w.cell? ⟨R, j, none⟩ = some (.int .u8 (lowAt s k j)) ∧ w.frozen? ⟨R, j, none⟩ = false
theorem LowMem.keep {s : ByteArray} {R k : Nat} {w : World} (h : LowMem s R k w) (hk : lowI (s.data.toList.getD k 0).toNat = (s.data.toList.getD k 0).toNat) : LowMem s R (k + 1) w := fun j hj => by
  have e : lowAt s (k + 1) j = lowAt s k j := by
    unfold lowAt
    by_cases h1 : j < k
    · rw [if_pos h1, if_pos (by omega)]
    · by_cases h2 : j = k
      · subst h2; rw [if_pos (by omega), if_neg h1, hk]
      · rw [if_neg (by omega), if_neg h1]
  rw [e]; exact h j hj
theorem LowMem.put {s : ByteArray} {R k : Nat} {w : World} (h : LowMem s R k w) (hk : k < s.size) : LowMem s R (k + 1) (w.setCell ⟨R, k, none⟩ (.int .u8 (lowI (s.data.toList.getD k 0).toNat))) := fun j hj => by
  obtain ⟨a, b⟩ := h j hj
  rw [World.frozen?_setCell]
  refine ⟨?_, b⟩
  by_cases e : j = k
  · subst e
    rw [World.cell?_setCell_same _ _ _ a]
    unfold lowAt
    rw [if_pos (by omega)]
  · rw [World.cell?_setCell_other _ _ _ _ (by intro e2; injection e2 with _ e2; omega), a]
    unfold lowAt
    by_cases h1 : j < k
    · rw [if_pos h1, if_pos (by omega)]
    · rw [if_neg h1, if_neg (by omega)]
set_option maxRecDepth 100000 in
set_option maxHeartbeats 4000000 in
theorem lower_any (s : ByteArray) (hs : s.size ≤ 281474976710656) (w : World) :
    Calls Tryd.prog 6 #[.string s] w fun e w' => e = .returned (.string ⟨(Lib.toLowerA s.data.toList).toArray⟩) ∧ Below w.heap.size w w' := by
  have hcv := Lib.run_convert_string_bytes (P := Tryd.prog) w 9 37 5 s Tryd.underlying9 Tryd.underlying37 Tryd.underlying5
  generalize hcap : grownCap w s.size 0 5 = cap at hcv
  generalize hW : Lib.bytesWorld w 5 s = W at hcv
  have HB0 : Hid (Below w.heap.size w W) := Lib.hid (hW ▸ Lib.bytesWorld_below _ _ _)
  have HM0 : Hid (LowMem s w.heap.size 0 W) := Lib.hid (fun j hj => by
    subst hW
    refine ⟨?_, ?_⟩
    · rw [Lib.bytesWorld_cell _ _ _ _ hj]
      unfold lowAt
      rw [if_neg (by omega)]
    · unfold World.frozen?
      rw [Lib.bytesWorld_at_new]
      have hc : s.size ≤ (Lib.bytesCells w 5 s).size := by
        unfold Lib.bytesCells
        rw [Array.size_append, Array.size_map]; exact Nat.le_add_right _ _
      simp
      omega)
  clear hW hcap
  have HS := Lib.hid hs
  clear hs
  go_enter Tryd.func6, Tryd.ntmps6
  go_wp2
  go_loopw [4] (fun i wr => ∃ k : Nat, k ≤ s.size ∧ i = .int .i64 k ∧ Hid (LowMem s w.heap.size k wr) ∧ Hid (Below w.heap.size w wr)) (fun i _ => s.size - (intOf i).toNat)
  case atStart => exact ⟨0, Nat.zero_le _, rfl, HM0, HB0⟩
  case round =>
    obtain ⟨k, hk, rfl, HM, HB⟩ := hrel
    clear HM0 HB0
    have hs1 : (s.size : Int) ≤ 281474976710656 := by have := HS.out; omega
    by_cases hlt : k < s.size
    · have hk0 : (0 : Int) ≤ (k : Int) := Int.natCast_nonneg _
      have hk1 : (k : Int) < (s.size : Int) := by omega
      obtain ⟨hc, hf⟩ := HM.out k hlt
      have hR := World.block_lt_of_cell? _ _ hc
      have hx : lowAt s k k = ((s.data.toList.getD k 0).toNat : Int) := by unfold lowAt; rw [if_neg (by omega)]
      rw [hx] at hc
      have HKP := Lib.hid (fun h => HM.out.keep (k := k) h)
      have HPT := Lib.hid (HM.out.put hlt)
      have hb := (s.data.toList.getD k 0).toNat_lt
      generalize (s.data.toList.getD k 0).toNat = x at hc HKP HPT hb
      have hb' : (x : Int) < 256 := by omega
      have hb0 : (0 : Int) ≤ (x : Int) := by omega
      by_cases h1 : (65 : Int) ≤ (x : Int)
      · by_cases h2 : (x : Int) ≤ 90
        · have he : lowI (x : Int) = (x : Int) + 32 := by unfold lowI; rw [if_pos ⟨h1, h2⟩]
          rw [he] at HPT
          go_wp2
          go_roundw
          case rel => exact ⟨k + 1, by omega, by go_num, HPT, Lib.hid (HB.out.setCell (Nat.le_refl _) _)⟩
          case measure => simp [intOf]; omega
        · have he : lowI (x : Int) = (x : Int) := by unfold lowI; rw [if_neg (fun h => h2 h.2)]
          have h2' : decide ((x : Int) ≤ 90) = false := decide_eq_false h2
          have hm := HKP.out he
          go_wp2
          go_roundw
          case rel => exact ⟨k + 1, by omega, by go_num, Lib.hid hm, HB⟩
          case measure => simp [intOf]; omega
      · have he : lowI (x : Int) = (x : Int) := by unfold lowI; rw [if_neg (fun h => h1 h.1)]
        have h1' : decide ((65 : Int) ≤ (x : Int)) = false := decide_eq_false h1
        have hm := HKP.out he
        go_wp2
        go_roundw
        case rel => exact ⟨k + 1, by omega, by go_num, Lib.hid hm, HB⟩
        case measure => simp [intOf]; omega
    · have hk1 : (k : Int) = (s.size : Int) := by omega
      have hkn : k = s.size := by omega
      subst hkn
      have hz : (⟨(Lib.toLowerA s.data.toList).toArray⟩ : ByteArray).size = s.size := by
        show (Lib.toLowerA s.data.toList).toArray.size = _
        rw [List.size_toArray, Lib.toLowerA, List.length_map, Array.length_toList]; rfl
      have hB : Lib.Bytes wr w.heap.size 0 ⟨(Lib.toLowerA s.data.toList).toArray⟩ := fun i hi => by
        have hi' : i < s.size := by rw [hz] at hi; exact hi
        rw [Nat.zero_add, (HM.out i hi').1]
        unfold lowAt
        rw [if_pos hi', lowI_byte]
        have hl : i < s.data.toList.length := by rw [Array.length_toList]; exact hi'
        have hg : s.data.toList.getD i 0 = s.data.toList[i] := by rw [List.getD_eq_getElem?_getD, List.getElem?_eq_getElem hl]; rfl
        have hm : (⟨(Lib.toLowerA s.data.toList).toArray⟩ : ByteArray)[i]'hi = Lib.lowerB s.data.toList[i] := by
          exact List.getElem_map (l := s.data.toList) Lib.lowerB (i := i) (h := by rw [List.length_map]; exact hl)
        rw [hm, hg]
      have hcv2 := Lib.run_convert_whole (P := Tryd.prog) wr 37 5 9 Tryd.underlying37 Tryd.underlying5 Tryd.underlying9 w.heap.size 0 _ hB cap
      rw [hz] at hcv2
      go_wp2
      go_ret
      exact ⟨rfl, HB.out⟩
def Lower.f (s : ByteArray) : Option ByteArray := if s.size ≤ 281474976710656 then some ⟨(Lib.toLowerA s.data.toList).toArray⟩ else none
theorem Lower.calls (s : ByteArray) (r : ByteArray) (w : World) (hS_ : StdW w) (h : Lower.f s = some r) :
    Calls Tryd.prog 6 #[.string s] w fun e w' => e = .returned (.string r) ∧ Below w.heap.size w w' := by
  unfold Lower.f at h
  split at h
  · rename_i hc
    obtain rfl := Option.some.inj h
    exact lower_any s hc w
  · cases h
end Go.Proofs.YtkheejjpidbniaaDoor.E


namespace Go.Proofs.YtkheejjpidbniaaDoor.E
open Go.RowKit Go.Proofs.YtkheejjpidbniaaDoorW.PrintWords Go.Proofs.YtkheejjpidbniaaDoorW.PrintLast
set_option linter.unusedVariables false
set_option linter.unusedSimpArgs false
set_option maxRecDepth 100000 in
set_option maxHeartbeats 4000000 in
theorem small_any (s : ByteArray) (hs : s.size ≤ 281474976710656) (w : World) :
    Calls Tryd.prog 21 #[.string s] w fun e w' => e = .returned (.string ⟨(Lib.toLowerA s.data.toList).toArray⟩) ∧ Below w.heap.size w w' := by
  have hcv := Lib.run_convert_string_bytes (P := Tryd.prog) w 9 37 5 s Tryd.underlying9 Tryd.underlying37 Tryd.underlying5
  generalize hcap : grownCap w s.size 0 5 = cap at hcv
  generalize hW : Lib.bytesWorld w 5 s = W at hcv
  have HB0 : Hid (Below w.heap.size w W) := Lib.hid (hW ▸ Lib.bytesWorld_below _ _ _)
  have HM0 : Hid (LowMem s w.heap.size 0 W) := Lib.hid (fun j hj => by
    subst hW
    refine ⟨?_, ?_⟩
    · rw [Lib.bytesWorld_cell _ _ _ _ hj]
      unfold lowAt
      rw [if_neg (by omega)]
    · unfold World.frozen?
      rw [Lib.bytesWorld_at_new]
      have hc : s.size ≤ (Lib.bytesCells w 5 s).size := by
        unfold Lib.bytesCells
        rw [Array.size_append, Array.size_map]; exact Nat.le_add_right _ _
      simp
      omega)
  clear hW hcap
  have HS := Lib.hid hs
  clear hs
  go_enter Tryd.func21, Tryd.ntmps21
  go_wp2
  go_loopw [10] (fun i wr => ∃ k : Nat, k ≤ s.size ∧ i = .int .i64 k ∧ Hid (LowMem s w.heap.size k wr) ∧ Hid (Below w.heap.size w wr)) (fun i _ => s.size - (intOf i).toNat)
  case atStart => exact ⟨0, Nat.zero_le _, rfl, HM0, HB0⟩
  case round =>
    obtain ⟨k, hk, rfl, HM, HB⟩ := hrel
    clear HM0 HB0
    have hs1 : (s.size : Int) ≤ 281474976710656 := by have := HS.out; omega
    by_cases hlt : k < s.size
    · have hk0 : (0 : Int) ≤ (k : Int) := Int.natCast_nonneg _
      have hk1 : (k : Int) < (s.size : Int) := by omega
      obtain ⟨hc, hf⟩ := HM.out k hlt
      have hR := World.block_lt_of_cell? _ _ hc
      have hx : lowAt s k k = ((s.data.toList.getD k 0).toNat : Int) := by unfold lowAt; rw [if_neg (by omega)]
      rw [hx] at hc
      have HKP := Lib.hid (fun h => HM.out.keep (k := k) h)
      have HPT := Lib.hid (HM.out.put hlt)
      have hb := (s.data.toList.getD k 0).toNat_lt
      generalize (s.data.toList.getD k 0).toNat = x at hc HKP HPT hb
      have hb' : (x : Int) < 256 := by omega
      have hb0 : (0 : Int) ≤ (x : Int) := by omega
      by_cases h1 : (65 : Int) ≤ (x : Int)
      · by_cases h2 : (x : Int) ≤ 90
        · have he : lowI (x : Int) = (x : Int) + 32 := by unfold lowI; rw [if_pos ⟨h1, h2⟩]
          rw [he] at HPT
          go_wp2
          go_roundw
          case rel => exact ⟨k + 1, by omega, by go_num, HPT, Lib.hid (HB.out.setCell (Nat.le_refl _) _)⟩
          case measure => simp [intOf]; omega
        · have he : lowI (x : Int) = (x : Int) := by unfold lowI; rw [if_neg (fun h => h2 h.2)]
          have h2' : decide ((x : Int) ≤ 90) = false := decide_eq_false h2
          have hm := HKP.out he
          go_wp2
          go_roundw
          case rel => exact ⟨k + 1, by omega, by go_num, Lib.hid hm, HB⟩
          case measure => simp [intOf]; omega
      · have he : lowI (x : Int) = (x : Int) := by unfold lowI; rw [if_neg (fun h => h1 h.1)]
        have h1' : decide ((65 : Int) ≤ (x : Int)) = false := decide_eq_false h1
        have hm := HKP.out he
        go_wp2
        go_roundw
        case rel => exact ⟨k + 1, by omega, by go_num, Lib.hid hm, HB⟩
        case measure => simp [intOf]; omega
    · have hk1 : (k : Int) = (s.size : Int) := by omega
      have hkn : k = s.size := by omega
      subst hkn
      have hz : (⟨(Lib.toLowerA s.data.toList).toArray⟩ : ByteArray).size = s.size := by
        show (Lib.toLowerA s.data.toList).toArray.size = _
        rw [List.size_toArray, Lib.toLowerA, List.length_map, Array.length_toList]; rfl
      have hB : Lib.Bytes wr w.heap.size 0 ⟨(Lib.toLowerA s.data.toList).toArray⟩ := fun i hi => by
        have hi' : i < s.size := by rw [hz] at hi; exact hi
        rw [Nat.zero_add, (HM.out i hi').1]
        unfold lowAt
        rw [if_pos hi', lowI_byte]
        have hl : i < s.data.toList.length := by rw [Array.length_toList]; exact hi'
        have hg : s.data.toList.getD i 0 = s.data.toList[i] := by rw [List.getD_eq_getElem?_getD, List.getElem?_eq_getElem hl]; rfl
        have hm : (⟨(Lib.toLowerA s.data.toList).toArray⟩ : ByteArray)[i]'hi = Lib.lowerB s.data.toList[i] := by
          exact List.getElem_map (l := s.data.toList) Lib.lowerB (i := i) (h := by rw [List.length_map]; exact hl)
        rw [hm, hg]
      have hcv2 := Lib.run_convert_whole (P := Tryd.prog) wr 37 5 9 Tryd.underlying37 Tryd.underlying5 Tryd.underlying9 w.heap.size 0 _ hB cap
      rw [hz] at hcv2
      go_wp2
      go_ret
      exact ⟨rfl, HB.out⟩
end Go.Proofs.YtkheejjpidbniaaDoor.E


namespace Go.Proofs.YtkheejjpidbniaaDoor.Pt
open Go.Lib
def cutOn (c : UInt8) : List UInt8 → List (List UInt8)
  | [] => [[]]
  | x :: l => if x = c then [] :: cutOn c l else match cutOn c l with
    | [] => [[x]]
    | p :: r => (x :: p) :: r
theorem cutOn_ne (c : UInt8) (l : List UInt8) : cutOn c l ≠ [] := by
  cases l with
  | nil => simp [cutOn]
  | cons x l => unfold cutOn; split; simp; split <;> simp
theorem cutOn_cons (c : UInt8) (l : List UInt8) : ∃ p r, cutOn c l = p :: r := by
  cases h : cutOn c l with
  | nil => exact absurd h (cutOn_ne c l)
  | cons p r => exact ⟨p, r, rfl⟩
theorem splitK_cutOn (c : UInt8) : ∀ s : List UInt8, splitK [c] 0 (count s [c]) s = cutOn c s
  | [] => by
    rw [count_miss (by simp [index])]; rfl
  | b :: l => by
    have ih := splitK_cutOn c l
    by_cases h : b = c
    · subst h
      have hix : index (b :: l) [b] = 0 := by rw [index]; simp [List.isPrefixOf]
      rw [count_cons_eq, Nat.add_comm, splitK, hix]
      simp only [cutOn, if_true]
      rw [← ih]; rfl
    · rw [count_cons_ne b c l h]
      simp only [cutOn, if_neg h]
      have hp : ([c] : List UInt8).isPrefixOf (b :: l) = false := by simp [List.isPrefixOf, Ne.symm h]
      have hix : index (b :: l) [c] = if index l [c] == -1 then -1 else index l [c] + 1 := by rw [index, hp]; simp
      cases hn : count l [c] with
      | zero =>
        rw [hn] at ih
        rw [← ih]; rfl
      | succ m =>
        rw [hn] at ih
        have hm : ¬ index l [c] = -1 := fun e => by rw [count_miss e] at hn; cases hn
        have hge := index_ge l [c]
        obtain ⟨j, hj⟩ : ∃ j : Nat, index l [c] = j := ⟨(index l [c]).toNat, by omega⟩
        have hb : (index l [c] == -1) = false := by rw [beq_eq_false_iff_ne]; exact hm
        rw [← ih]
        unfold splitK
        rw [hix, hb]
        have hb2 : ((index l [c] + 1 : Int) == -1) = false := by rw [beq_eq_false_iff_ne]; omega
        simp only [Bool.false_eq_true, if_false, hb2]
        rw [hj]
        have e1 : ((j : Int) + 1).toNat = j + 1 := by omega
        have e2 : ((j : Int)).toNat = j := by omega
        rw [e1, e2]
        simp
def tot (l : List (List UInt8)) : Nat := (l.map (fun p => p.length + 1)).sum
theorem tot_cutOn (c : UInt8) : ∀ s : List UInt8, tot (cutOn c s) = s.length + 1
  | [] => rfl
  | x :: l => by
    have ih := tot_cutOn c l
    obtain ⟨p, r, e⟩ := cutOn_cons c l
    unfold cutOn
    split
    · show _ + tot (cutOn c l) = _; rw [ih]; simp; omega
    · rw [e] at ih ⊢
      simp only [tot, List.map_cons, List.sum_cons, List.length_cons] at ih ⊢
      omega
end Go.Proofs.YtkheejjpidbniaaDoor.Pt


namespace Go.Proofs.YtkheejjpidbniaaDoor.Fd
open Go.Lib
def trimB (l : List UInt8) : List UInt8 := trimS l [32, 9]
theorem trimB_len (l : List UInt8) : (trimB l).length ≤ l.length := by
  unfold trimB trimS trimLeftS trimRightS
  refine Nat.le_trans (List.dropWhile_sublist _).length_le ?_
  rw [List.length_reverse]
  refine Nat.le_trans (List.dropWhile_sublist _).length_le ?_
  rw [List.length_reverse]
  exact Nat.le_refl _
def low (l : List UInt8) : List UInt8 := toLowerA l
def partsL (l : List UInt8) : List (List UInt8) := (Pt.cutOn 44 l).map trimB
abbrev F : Type := List UInt8 × List UInt8
def sConn : List UInt8 := [99, 111, 110, 110, 101, 99, 116, 105, 111, 110]
def sign (c : UInt8) : Bool := (97 ≤ c && c ≤ 122) || ((65 ≤ c && c ≤ 90) || ((48 ≤ c && c ≤ 57) || (32 < c && [33, 35, 36, 37, 38, 39, 42, 43, 45, 46, 94, 95, 96, 124, 126].contains c)))
def token (l : List UInt8) : Bool := l.all sign && (!l.isEmpty && decide (l.length ≤ 64))
def fixed : List (List UInt8) := [sConn, [107, 101, 101, 112, 45, 97, 108, 105, 118, 101], [112, 114, 111, 120, 121, 45, 97, 117, 116, 104, 101, 110, 116, 105, 99, 97, 116, 101], [112, 114, 111, 120, 121, 45, 97, 117, 116, 104, 111, 114, 105, 122, 97, 116, 105, 111, 110], [112, 114, 111, 120, 121, 45, 99, 111, 110, 110, 101, 99, 116, 105, 111, 110], [116, 101], [116, 114, 97, 105, 108, 101, 114], [116, 114, 97, 110, 115, 102, 101, 114, 45, 101, 110, 99, 111, 100, 105, 110, 103], [117, 112, 103, 114, 97, 100, 101]]
def conn1 (f : F) : List (List UInt8) := if low f.1 == sConn then partsL f.2 else []
def told (l : List F) : List (List UInt8) := ((l.flatMap conn1).filter token).map low
def hop (l : List F) (n : List UInt8) : Bool := fixed.contains n || (told l).contains n
end Go.Proofs.YtkheejjpidbniaaDoor.Fd


namespace Go.Proofs.YtkheejjpidbniaaDoor.E
open Go.RowKit Go.Proofs.YtkheejjpidbniaaDoorW.PrintWords Go.Proofs.YtkheejjpidbniaaDoorW.PrintLast
set_option linter.unusedVariables false
set_option linter.unusedSimpArgs false
def lowS (s : ByteArray) : ByteArray := ⟨(Lib.toLowerA s.data.toList).toArray⟩
theorem small_lowS (s : ByteArray) (hs : s.size ≤ 281474976710656) (w : World) : Calls Tryd.prog 21 #[.string s] w fun e w' => e = .returned (.string (lowS s)) ∧ Below w.heap.size w w' := small_any s hs w
def eqS (a b : ByteArray) : Bool := a.toList == b.toList
set_option maxHeartbeats 1000000 in
theorem named_any (nm va t : ByteArray) (hs : nm.size ≤ 281474976710656) (w : World) :
    Calls Tryd.prog 19 #[.agg #[.string nm, .string va], .string t] w fun e w' => e = .returned (.bool (eqS (lowS nm) t)) ∧ Below w.heap.size w w' := by
  have HS := Lib.hid (small_lowS nm hs)
  have HE := Lib.hid (show ∀ a, eqS a t = (a.toList == t.toList) from fun a => rfl)
  generalize lowS nm = a at HS
  go_enter Tryd.func19, Tryd.ntmps19
  go_wp2_with (go_at_call 21; refine (HS.out _).mono ?_; rintro e w1 ⟨rfl, hb1⟩)
  go_ret
  exact ⟨by rw [HE.out]; first | done | rfl, below_then (below_alloc (Below.refl _ _) _) (below_alloc (Below.refl _ _) _).size hb1⟩
def trimA (p : ByteArray) : ByteArray := ⟨(Lib.trimS p.data.toList [32, 9]).toArray⟩
theorem trim_any (s : ByteArray) (hs : s.size ≤ 281474976710656) (w : World) : Calls Tryd.prog 31 #[.string s, .string ⟨#[32, 9]⟩] w fun e w' => e = .returned (.string (trimA s)) ∧ Below w.heap.size w w' :=
  Any.strings_Trim_laid Tryd.lays160 (by kernel_rfl) s ⟨#[32, 9]⟩ w (by omega) (by decide) (ascii_of_all (by decide))
theorem trimA_size (p : ByteArray) : (trimA p).size ≤ p.size := by
  have := Fd.trimB_len p.data.toList
  rw [Lib.size_eq p]
  exact this
def commas (s : ByteArray) : List ByteArray := Lib.splitB ⟨#[44]⟩ 0 (Lib.countB s ⟨#[44]⟩) s
theorem commas_data (s : ByteArray) : (commas s).map (·.data.toList) = Pt.cutOn 44 s.data.toList := by
  unfold commas
  rw [Lib.splitB_data, ← Pt.splitK_cutOn]
  first | done | rfl
theorem commas_len (s : ByteArray) : (commas s).length ≤ s.size + 1 := by
  unfold commas; rw [Lib.splitB_all ⟨#[44]⟩ (Nat.le_refl _) 0 _ s rfl]
  have := Lib.countB_le ⟨#[44]⟩ (Nat.le_refl _) s.size s (Nat.le_refl _); omega
theorem tot_mem (L : List (List UInt8)) (p : List UInt8) (h : p ∈ L) : p.length + 1 ≤ Pt.tot L := by
  induction L with
  | nil => cases h
  | cons q r ih =>
    simp only [Pt.tot, List.map_cons, List.sum_cons] at ih ⊢
    rcases List.mem_cons.1 h with rfl | h
    · omega
    · have := ih h; omega
theorem commas_size (s p : ByteArray) (h : p ∈ commas s) : p.size ≤ s.size := by
  have h1 : p.data.toList ∈ Pt.cutOn 44 s.data.toList := by rw [← commas_data]; exact List.mem_map.2 ⟨p, h, rfl⟩
  have h2 := tot_mem _ _ h1
  rw [Pt.tot_cutOn] at h2
  rw [Lib.size_eq, Lib.size_eq]; omega
def RowS (l : List ByteArray) (b : Nat) (w : World) : Prop := (∀ j, (h : j < l.length) → w.cell? ⟨b, j, none⟩ = some (.string l[j]) ∧ w.frozen? ⟨b, j, none⟩ = false) ∧ b < w.heap.size
theorem RowS.below {l : List ByteArray} {b : Nat} {w w1 : World} (h : RowS l b w) (hb : Below w.heap.size w w1) : RowS l b w1 :=
  ⟨fun j hj => ⟨(hb.cell (p := ⟨b, j, none⟩) h.2).trans (h.1 j hj).1, (hb.frozen (p := ⟨b, j, none⟩) h.2).trans (h.1 j hj).2⟩, Nat.lt_of_lt_of_le h.2 hb.size⟩
theorem RowS.put {l : List ByteArray} {b : Nat} {w : World} (h : RowS l b w) (k : Nat) (x : ByteArray) : RowS (l.set k x) b (w.setCell ⟨b, k, none⟩ (.string x)) := by
  refine ⟨fun j hj => ?_, by simpa [World.setCell] using h.2⟩
  rw [List.length_set] at hj
  obtain ⟨a, f⟩ := h.1 j hj
  rw [World.frozen?_setCell]
  refine ⟨?_, f⟩
  by_cases e : k = j
  · subst e
    rw [World.cell?_setCell_same _ _ _ a, List.getElem_set_self]
  · rw [World.cell?_setCell_other _ _ _ _ (by intro e2; injection e2 with _ e2; exact e e2), a, List.getElem_set_ne e]
theorem split_commas (s : ByteArray) (hs : s.size < 4294967281) (w : World) (hS : StdW w) :
    Calls Tryd.prog 30 #[.string s, .string ⟨#[44]⟩] w fun e w' => e = .returned (.slice (some ⟨w.heap.size, 0, none⟩) (commas s).length (commas s).length) ∧ RowS (commas s) w.heap.size w' ∧ Below w.heap.size w w' := by
  obtain ⟨m, hm⟩ := hS.max
  refine (Tryd.strings_Split s ⟨#[44]⟩ m w hs hm (Nat.le_refl _)).mono ?_
  rintro e w' ⟨rfl, rfl⟩
  have hl := Lib.splitB_all ⟨#[44]⟩ (Nat.le_refl _) 0 _ s rfl
  refine ⟨by unfold commas; rw [hl], ⟨fun j hj => ⟨?_, ?_⟩, by simp⟩, (Below.refl _ _).alloc (Nat.le_refl _) _⟩
  · unfold commas at hj ⊢
    rw [World.cell?_alloc_new, List.getElem?_toArray, List.getElem?_map, List.getElem?_eq_getElem hj]
    rfl
  · exact World.frozen?_alloc_at _ _ _ _ rfl
def trK (l : List ByteArray) (k : Nat) : List ByteArray := (l.take k).map trimA ++ l.drop k
theorem trK_len (l : List ByteArray) (k : Nat) : (trK l k).length = l.length := by unfold trK; simp; omega
theorem trK_zero (l : List ByteArray) : trK l 0 = l := by simp [trK]
theorem trK_all (l : List ByteArray) : trK l l.length = l.map trimA := by simp [trK]
theorem trK_at (l : List ByteArray) (k : Nat) (h : k < l.length) : (trK l k)[k]'(by rw [trK_len]; exact h) = l[k] := by
  unfold trK
  rw [List.getElem_append_right (by simp; omega)]
  simp [Nat.min_eq_left (Nat.le_of_lt h)]
theorem trK_succ (l : List ByteArray) (k : Nat) (h : k < l.length) : (trK l k).set k (trimA l[k]) = trK l (k + 1) := by
  unfold trK
  have hz : k - ((l.take k).map trimA).length = 0 := by simp; omega
  rw [List.set_append_right _ _ (by simp; omega), hz, List.drop_eq_getElem_cons h, List.set_cons_zero, List.take_succ_eq_append_getElem h, List.map_append, List.append_assoc]
  rfl
set_option maxRecDepth 100000 in
set_option maxHeartbeats 2000000 in
theorem parts_any (s : ByteArray) (hs : s.size < 4294967281) (w : World) (hS : StdW w) :
    Calls Tryd.prog 20 #[.string s] w fun e w' => e = .returned (.slice (some ⟨w.heap.size, 0, none⟩) (commas s).length (commas s).length) ∧ RowS ((commas s).map trimA) w.heap.size w' ∧ Below w.heap.size w w' := by
  have HSP := Lib.hid (split_commas s hs w hS)
  have hn1 := commas_len s
  have HZ := Lib.hid (commas_size s)
  have HT := Lib.hid (fun p hp W => trim_any p hp W)
  have hlim : (commas s).length ≤ 4294967282 := by omega
  have HSS := Lib.hid hs
  clear hS hs hn1
  generalize commas s = l at HSP HZ hlim ⊢
  go_enter Tryd.func20, Tryd.ntmps20
  go_wp2_with (go_at_call 30; refine HSP.out.mono ?_; rintro e w1 ⟨rfl, hr, hb1⟩; have HR := Lib.hid hr; have HB1 := Lib.hid hb1; clear hr hb1)
  go_loopw [9] (fun i wr => ∃ k : Nat, k ≤ l.length ∧ i = .int .i64 k ∧ Hid (RowS (trK l k) w.heap.size wr) ∧ Hid (Below w.heap.size w wr)) (fun i _ => l.length - (intOf i).toNat)
  case atStart => exact ⟨0, Nat.zero_le _, rfl, Lib.hid (by rw [trK_zero]; exact HR.out), HB1⟩
  case round =>
    obtain ⟨k, hk, rfl, HM, HB⟩ := hrel
    clear HR HB1
    by_cases hlt : k < l.length
    · have hk0 : (0 : Int) ≤ (k : Int) := Int.natCast_nonneg _
      have hk1 : (k : Int) < (l.length : Int) := by omega
      obtain ⟨hc, hf⟩ := HM.out.1 k (by rw [trK_len]; exact hlt)
      rw [trK_at l k hlt] at hc
      have hpz : l[k].size ≤ 281474976710656 := by have := HZ.out l[k] (List.getElem_mem _); have := HSS.out; omega
      have HNX := Lib.hid (fun W (h : RowS (trK l k) w.heap.size W) => (trK_succ l k hlt) ▸ h.put k (trimA l[k]))
      have HTP := Lib.hid (fun W => HT.out l[k] hpz W)
      generalize l[k] = p at hc HNX HTP
      generalize trimA p = q at HNX HTP
      go_wp2_with (go_at_call 31; refine (HTP.out _).mono ?_; rintro e w2 ⟨rfl, hb2⟩; have hm2 := HM.out.below hb2; obtain ⟨hc2, hf2⟩ := hm2.1 k (by rw [trK_len]; exact hlt); have HM2 := Lib.hid hm2; have HB2 : Hid (Below w.heap.size w w2) := Lib.hid (below_then HB.out HB.out.size hb2); clear hm2)
      go_roundw
      case rel => exact ⟨k + 1, by omega, by go_num, Lib.hid (HNX.out _ HM2.out), Lib.hid (HB2.out.setCell (Nat.le_refl _) _)⟩
      case measure => simp [intOf]; omega
    · have hkl : k = l.length := by omega
      subst hkl
      have HF := Lib.hid HM.out
      rw [trK_all] at HF
      go_wp2
      go_ret
      exact ⟨rfl, HF.out, HB.out⟩
end Go.Proofs.YtkheejjpidbniaaDoor.E


namespace Go.Proofs.YtkheejjpidbniaaDoor.E
open Go.RowKit Go.Proofs.YtkheejjpidbniaaDoorW.PrintWords Go.Proofs.YtkheejjpidbniaaDoorW.PrintLast Go.Shelf Go.Sort
set_option linter.unusedVariables false
set_option linter.unusedSimpArgs false
theorem isE_any (p : ByteArray) (W : World) : Calls Tryd.prog 23 #[.string p] W fun e w' => e = .returned (.bool p.toList.isEmpty) ∧ ∃ q, w' = W.drewN q := by
  cases h : p.toList.isEmpty
  all_goals
    go_enter Tryd.func23, Tryd.ntmps23
    go_wp2
    go_ret
    exact ⟨rfl, 0, rfl⟩
def neE (p : ByteArray) : Bool := !p.toList.isEmpty
theorem del_any (l : List ByteArray) (b : Nat) (w : World) (hr : RowS l b w) (hn : l.length ≤ 4294967282) :
    Calls Tryd.prog 22 #[.slice (some ⟨b, 0, none⟩) l.length l.length, .func (.func 23) #[] #[]] w fun e w' =>
      e = .returned (.slice (some ⟨b, 0, none⟩) (l.filter neE).length l.length) ∧ (∀ j, (h : j < (l.filter neE).length) → w'.cell? ⟨b, j, none⟩ = some (.string (l.filter neE)[j])) ∧ Below b w w' := by
  have eg : ∀ args w, (callFunc 23 args).run Tryd.prog w = .ok (.enter 23 args) w := enters_of Tryd.func23 (by kernel_rfl) rfl
  have hp : PredAt Tryd.prog 23 #[] Value.string (fun p => p.toList.isEmpty) w := fun W x _ => isE_any x W
  have hpo : PredOver Tryd.prog 23 #[] Value.string (fun p => p.toList.isEmpty) b 0 l.toArray.size w := fun _ _ _ x _ => isE_any x _
  have hH : Holds Value.string w b 0 l.toArray := fun j hj => by
    obtain ⟨a, f⟩ := hr.1 j (by simpa using hj)
    rw [Nat.zero_add]
    refine ⟨?_, f⟩
    rw [a, getElem!_pos l.toArray j hj]; simp
  have key := Tryd.slices_DeleteFunc Value.string (fun _ => rfl) (fun p => p.toList.isEmpty) 23 #[] eg ⟨#[]⟩ (fun w => by kernel_rfl) b 0 l.length l.toArray w hp hpo hH (by simp; omega) (by simp)
  rw [List.size_toArray] at key
  refine key.mono ?_
  rintro e w' ⟨rfl, q, rfl⟩
  have hf : (l.toArray.toList.filter fun x => !(fun p : ByteArray => p.toList.isEmpty) x) = l.filter neE := rfl
  have hle : (l.filter neE).length ≤ l.length := List.length_filter_le _ _
  rw [hf]
  generalize hF : l.filter neE = F at hle
  refine ⟨rfl, fun j hj => ?_, Lib.below_putRow (Below.refl b w) (Nat.le_refl b)⟩
  have := cell?_putRow Value.string (Sort.ahead w q) b 0 l.toArray (F ++ List.replicate (l.length - F.length) (⟨#[]⟩ : ByteArray)).toArray hH (by simp; omega) j (by simp; omega)
  rw [Nat.zero_add] at this
  rw [this, getElem!_pos _ j (by simp; omega)]
  simp [List.getElem_append_left hj]
end Go.Proofs.YtkheejjpidbniaaDoor.E


namespace Go.Proofs.YtkheejjpidbniaaDoor.XK
open Go.RowKit Go.Proofs.YtkheejjpidbniaaDoorW.PrintWords Go.Proofs.YtkheejjpidbniaaDoorW.PrintLast Go.Proofs.YtkheejjpidbniaaDoorW.PrintMore
attribute [local go_sem] max2_int min2_int max_two min_two max_three min_three max_four min_four
set_option linter.unusedVariables false
set_option linter.unusedSimpArgs false
def errW : Option Int → Value
 | none => .nilIface
 | some c => .iface 0 (.int .i64 c)
theorem errW_none : errW none = .nilIface := rfl
theorem errW_some (c : Int) : errW (some c) = .iface 0 (.int .i64 c) := rfl
theorem info24 : (Tryd.prog.info? 24).map (fun i => (i.zero, i.size, i.bytes)) = some (some (.agg #[(.string ⟨#[]⟩), (.string ⟨#[]⟩)]), 2, 32) := by kernel_rfl
structure S24 where
 f0 : ByteArray
 f1 : ByteArray
def z24 : S24 := ⟨(⟨#[]⟩ : ByteArray), (⟨#[]⟩ : ByteArray)⟩
def k24 : Kd S24 := Kd.iso (Kd.pair Kd.string Kd.string) (fun x : S24 => (x.f0, x.f1))
theorem k24_open {w : World} {x : S24} {cs : List Value} (h : k24.K w x cs) : cs = [.string x.f0, .string x.f1] := by
 obtain ⟨_, _, rfl, rfl, rfl⟩ := h
 exact rfl
theorem k24_mk (w : World) (x : S24)  : k24.K w x [.string x.f0, .string x.f1] := ⟨[.string x.f0], [.string x.f1], rfl, rfl, rfl⟩
theorem k24_mkM (w : World) (base : Nat) (ok : Nat → Prop) (x : S24)  : k24.M w base ok x [.string x.f0, .string x.f1] := ⟨[.string x.f0], [.string x.f1], rfl, rfl, rfl⟩
def rd_T24 (xs : List S24) (i : Int) : S24 := xs.getD i.toNat z24
theorem at_T24 {w : World} {A : Option Addr} {n : Nat} {xs : List S24} (h : Kd.C k24 w A n xs) (i : Int) (h0 : 0 ≤ i) (h1 : i < n) : ∃ ad , A = some ad ∧ w.cell? (ad.add (i.toNat * 2)) = some (.string (rd_T24 xs i).f0) ∧ w.cell? ⟨(ad.add (i.toNat * 2)).block, (ad.add (i.toNat * 2)).off + 1, none⟩ = some (.string (rd_T24 xs i).f1) := by
 obtain ⟨ad, c, e, _, hK, hc0⟩ := Kd.C_get h z24 i h0 h1
 have hc : ∀ j u, c[j]? = some u → w.cell? (ad.add (i.toNat * 2 + j)) = some u := hc0
 obtain rfl := k24_open hK
 exact ⟨ad, e, hc 0 _ rfl, by rw [← add_field _ _ 1 (by omega)]; exact hc 1 _ rfl⟩
end Go.Proofs.YtkheejjpidbniaaDoor.XK


namespace Go.Proofs.YtkheejjpidbniaaDoor.XK
open Go.RowKit Go.Proofs.YtkheejjpidbniaaDoorW.PrintWords Go.Proofs.YtkheejjpidbniaaDoorW.PrintLast Go.Proofs.YtkheejjpidbniaaDoorW.PrintMore
attribute [local go_sem] max2_int min2_int max_two min_two max_three min_three max_four min_four
set_option linter.unusedVariables false
set_option linter.unusedSimpArgs false
theorem eqA24 (d : Nat) (w : World) (x0 y0 : ByteArray) (x1 y1 : ByteArray) :
  (Op.equalIn (d + 2) 24 (.agg #[.string x0, .string x1]) (.agg #[.string y0, .string y1])).run Tryd.prog w = .ok (x0.toList == y0.toList && (x1.toList == y1.toList)) w := by
 refine eqA_of Tryd.underlying24 (by kernel_rfl) ?_
 refine eqf_cons (by rfl) (by go_simp; rfl) (by go_simp; rfl) (by go_simp) ?_
 exact eqf_last (by rfl) (by go_simp; rfl) (by go_simp; rfl) (by go_simp)
end Go.Proofs.YtkheejjpidbniaaDoor.XK


namespace Go.Proofs.YtkheejjpidbniaaDoor.XK
open Go.RowKit Go.Proofs.YtkheejjpidbniaaDoorW.PrintWords Go.Proofs.YtkheejjpidbniaaDoorW.PrintLast Go.Proofs.YtkheejjpidbniaaDoorW.PrintMore
attribute [local go_sem] max2_int min2_int max_two min_two max_three min_three max_four min_four
set_option linter.unusedVariables false
set_option linter.unusedSimpArgs false
attribute [local go_sem high] eqA24
def sallyportbase_Fields.f (l0 : List (S24)) : Option ((List (S24))) := (some (([] : List (S24)) : List (S24))).bind fun y101 => (if y101.length + l0.length < 4398046511104 then (some (y101 ++ l0)) else (none))
set_option maxHeartbeats 8000000 in
set_option maxRecDepth 100000 in
theorem sallyportbase_Fields.calls (A0 : Option Addr) (c0 : Nat) (l0 : List (S24)) (r : List (S24)) (w : World) (hr0 : Kd.C k24 w A0 l0.length l0) (hc0 : l0.length ≤ c0) (h : sallyportbase_Fields.f l0 = some r) :
  Calls Tryd.prog 8 #[.slice A0 l0.length c0] w fun e w' => ∃ v0_ : Value, e = .returned (v0_) ∧ Kd.R k24 24 w' w.heap.size (fun _ => True) v0_ r ∧ Below w.heap.size w w' := by
 have HR0 := Aside0.mk hr0
 have HC0 := Aside0.mk hc0
 clear hr0 hc0
 have HB := Aside0.mk (Below.refl w.heap.size w)
 have H : ((some (([] : List (S24)) : List (S24))).bind fun y101 => (if y101.length + l0.length < 4398046511104 then (some (y101 ++ l0)) else (none))) = some r := h
 clear h
 obtain ⟨y101, hy101⟩ : ∃ y_ : List (S24), y_ = (([] : List (S24))) := ⟨_, rfl⟩
 replace H : (if y101.length + l0.length < 4398046511104 then (some (y101 ++ l0)) else (none)) = some r := by first | (rw [hy101]; with_reducible exact H) | (have H2_ := (Option.bind_some _ _).symm.trans H; rw [hy101]; with_reducible exact H2_) | (have H2_ := (Option.bind_some _ _).symm.trans H; with_reducible exact H2_) | with_reducible exact H | (rw [hy101]; exact H) | exact H
 have Ny101 := Aside0.mk hy101
 clear hy101
 by_cases c2 : y101.length + l0.length < 4398046511104
 ·rw [if_pos c2] at H
  have LMc2 := Aside0.mk c2
  clear c2
  obtain ⟨y104, hy104⟩ : ∃ y_ : List (S24), y_ = (y101 ++ l0) := ⟨_, rfl⟩
  replace H : (some y104) = some r := by first | (rw [hy104]; with_reducible exact H) | (have H2_ := (Option.bind_some _ _).symm.trans H; rw [hy104]; with_reducible exact H2_) | (have H2_ := (Option.bind_some _ _).symm.trans H; with_reducible exact H2_) | with_reducible exact H | (rw [hy104]; exact H) | exact H
  have Ny104 := Aside0.mk hy104
  clear hy104
  obtain rfl := Option.some.inj H
  go_enter Tryd.func8, Tryd.ntmps8
  go_wp2_with (first | ((with_reducible refine gate_dst (N := 3) rfl ?_); refine Kd.R_lit k24 _ 24 ?hg (N := 3) ?hd (xs := ([] : List (S24))) (inner := []) (ok := fun _ => True) (okp := fun _ => True) ?hr ?hp (fun _ hk => hk) trivial (Below.refl _ _) (Nat.le_refl _) (by simp) ?_; (case hd => rfl); (case hg => rfl); (case hr => first | (go_simp; done) | (go_simp; rfl)); (case hp => exact (Reps.none _ _)); intro v102 w3 ho4 hb hg_ hnew_; clear hg_ hnew_; (first | rw [← Ny101.out] at ho4 | (simp only [Int.reduceToNat] at ho4; rw [← Ny101.out] at ho4)); have n0_ := Aside0.mk (Kd.R_lower ho4 (below_size (by repeat (first | (with_reducible first | exact HB.out | apply below_alloc | apply pw_below_drewN | apply below_drew1) | exact HB.out)))); have n1_ := Aside0.mk (below_step (by repeat (first | (with_reducible first | exact HB.out | apply below_alloc | apply pw_below_drewN | apply below_drew1) | exact HB.out)) hb); clear HB; have HO103 := n0_; have HB := n1_; clear n0_ n1_; clear hb ho4) | ((with_reducible refine gate_builtin (b := .append) (xs := #[.tmp 3, .tmp 4]) rfl ?_); at_builtin; refine Kd.R_append_rows k24 (w0 := w) w.heap.size rfl (.tmp 3) (.tmp 4) 22 24 (.agg #[(.string ⟨#[]⟩), (.string ⟨#[]⟩)]) 32 rfl Tryd.underlying22 info24 rfl (by decide) (by omega) v102 y101 l0 _ _ _ (fun _ => True) (fun _ => False) rfl rfl ?aO ?aR (fun _ _ h => h) (fun _ h => h.elim) ?aF ?aB ?aS ?aL ?_; (case aR => repeat (first | exact (Kd.C_below HR0.out HB.out) | (with_reducible refine Kd.C_alloc ?_ _) | (with_reducible refine Kd.C_drewN ?_ _) | (with_reducible refine Kd.C_drew ?_))); (case aB => exact (by repeat (first | (with_reducible first | exact HB.out | apply below_alloc | apply pw_below_drewN | apply below_drew1) | exact HB.out))); (case aF => exact (fun _ _ => trivial)); (case aO => exact (by (with_reducible repeat (first | apply Kd.R_alloc | apply Kd.R_drewN | apply Kd.R_drew)); exact HO103.out)); (case aS => exact (below_size (by repeat (first | (with_reducible first | exact HB.out | apply below_alloc | apply pw_below_drewN | apply below_drew1) | exact HB.out)))); (case aL => have := LMc2.out; omega); intro v105 w5 ho hb hg hat; rw [← Ny104.out] at ho; have n0_ := Aside0.mk (hb); have n1_ := Aside0.mk (ho); clear HB; clear HO103; have HB := n0_; have HO106 := n1_; clear n0_ n1_; clear ho hb hg hat))
  go_ret
  exact ⟨_, by first | rfl | (simp [errW_none, errW_some] <;> rfl) | (simp [*, errW_none, errW_some] <;> rfl), by (with_reducible repeat (first | apply Kd.R_alloc | apply Kd.R_drewN | apply Kd.R_drew)); exact HO106.out, by repeat (first | (with_reducible first | exact HB.out | apply below_alloc | apply pw_below_drewN | apply below_drew1) | exact HB.out)⟩
 ·rw [if_neg c2] at H
  exact absurd H (by simp)
def sallyportbase_Among.f (a0 : Int) (a1 : Int) : Option (Int) := if (IntKind.u64.wrap (a1)) = 0 then (none) else (some (wrap64 (Int.tmod (IntKind.u64.wrap (a0)) (IntKind.u64.wrap (a1)))))
set_option maxHeartbeats 8000000 in
set_option maxRecDepth 100000 in
theorem sallyportbase_Among.calls (a0 : Int) (a1 : Int) (r : Int) (w : World) (h : sallyportbase_Among.f a0 a1 = some r) :
  Calls Tryd.prog 7 #[.int .i64 a0, .int .i64 a1] w fun e w' => e = .returned (.int .i64 r) ∧ Drawn0 w w' := by
 have H : (if (IntKind.u64.wrap (a1)) = 0 then (none) else (some (wrap64 (Int.tmod (IntKind.u64.wrap (a0)) (IntKind.u64.wrap (a1)))))) = some r := h
 clear h
 by_cases c3 : (IntKind.u64.wrap (a1)) = 0
 ·rw [if_pos c3] at H
  exact absurd H (by simp)
 ·rw [if_neg c3] at H
  have c3b0 : ((IntKind.u64.wrap (a1)) == 0) = false := beq_eq_false_iff_ne.mpr c3
  have c3b1 : ((IntKind.u64.wrap (a1)) != 0) = true := bne_iff_ne.mpr c3
  obtain rfl := Option.some.inj H
  go_enter Tryd.func7, Tryd.ntmps7
  go_wp2
  go_ret
  exact ⟨by first | rfl | (simp; done) | (simp [*]; done), by repeat (first | exact Drawn0.refl _ | apply Drawn0.step)⟩
end Go.Proofs.YtkheejjpidbniaaDoor.XK


namespace Go.Proofs.YtkheejjpidbniaaDoor.XK
open Go.RowKit Go.Proofs.YtkheejjpidbniaaDoorW.PrintWords Go.Proofs.YtkheejjpidbniaaDoorW.PrintLast Go.Proofs.YtkheejjpidbniaaDoorW.PrintMore
attribute [local go_sem] max2_int min2_int max_two min_two max_three min_three max_four min_four
set_option linter.unusedVariables false
set_option linter.unusedSimpArgs false
end Go.Proofs.YtkheejjpidbniaaDoor.XK


namespace Go.Proofs.YtkheejjpidbniaaDoor.E
open Go.RowKit Go.Proofs.YtkheejjpidbniaaDoorW.PrintWords Go.Proofs.YtkheejjpidbniaaDoorW.PrintLast Go.Proofs.YtkheejjpidbniaaDoor.XK
set_option linter.unusedVariables false
set_option linter.unusedSimpArgs false
theorem info_str : (Tryd.prog.info? 9).map (fun i => (i.zero, i.size, i.bytes)) = some (some (.string ⟨#[]⟩), 1, 16) := by kernel_rfl
theorem boxCell {w w1 : World} {C : Array Value} {T : TypeId} (hb : Below (w.alloc (.cells C T)).heap.size (w.alloc (.cells C T)) w1) (j : Nat) (v : Value) (h : C[j]? = some v) : w1.cell? ⟨w.heap.size, j, none⟩ = some v :=
  (hb.cell (p := ⟨w.heap.size, j, none⟩) (by simp)).trans ((World.cell?_alloc_new ..).trans h)
theorem C_row (l : List ByteArray) (b : Nat) (w : World) (hn : l.length ≤ 9223372036854775807) (h : ∀ j, (h : j < l.length) → w.cell? ⟨b, j, none⟩ = some (.string l[j])) : Kd.C Kd.string w (some ⟨b, 0, none⟩) l.length l := by
  refine ⟨rfl, hn, fun _ => ⟨_, rfl, fun j p hj => ⟨[.string p], rfl, rfl, fun i u hu => ?_⟩⟩⟩
  obtain ⟨hl, hp⟩ := List.getElem?_eq_some_iff.1 hj
  match i, hu with
  | 0, hu =>
    simp only [List.getElem?_cons_zero, Option.some.injEq] at hu
    subst hu
    rw [addAt]
    have e : 0 + (j * Kd.string.sz + 0) = j := by show 0 + (j * 1 + 0) = j; omega
    rw [e, ← hp]
    exact h j hl
def cacheS : ByteArray := ⟨#[99, 97, 99, 104, 101, 45, 99, 111, 110, 116, 114, 111, 108]⟩
def connS : ByteArray := ⟨#[99, 111, 110, 110, 101, 99, 116, 105, 111, 110]⟩
def dir1A (f : S24) : List ByteArray := if eqS (lowS f.f0) cacheS then ((commas (lowS f.f1)).map trimA).filter neE else []
def conn1A (f : S24) : List ByteArray := if eqS (lowS f.f0) connS then (commas f.f1).map trimA else []
theorem lowS_size (s : ByteArray) : (lowS s).size = s.size := by
  show (Lib.toLowerA s.data.toList).toArray.size = _
  rw [List.size_toArray, Lib.toLowerA, List.length_map, Array.length_toList]; rfl
def TellsS (q : List ByteArray) (W : World) (e : Ending) (w' : World) : Prop := ∃ A c, e = .returned (.slice A q.length c) ∧ Kd.C Kd.string w' A q.length q ∧ Below W.heap.size W w'
def okF (f : S24) : Prop := f.f0.size ≤ 4294967296 ∧ f.f1.size < 4294967281
set_option maxHeartbeats 2000000 in
theorem dirc_any (f : S24) (hf : okF f) (w : World) (hS : StdW w) :
    Calls Tryd.prog 18 #[.agg #[.string f.f0, .string f.f1]] w (TellsS (dir1A f) w) := by
  obtain ⟨nm, va⟩ := f
  have HN := Lib.hid (fun W => named_any nm va cacheS (Nat.le_trans hf.1 (by decide)) W)
  have HV := Lib.hid (small_lowS va (by have := hf.2; show va.size ≤ _; simp only at this; omega))
  have hz : (lowS va).size < 4294967281 := by rw [lowS_size]; exact hf.2
  have HP := Lib.hid (parts_any (lowS va) hz)
  have hcl : (commas (lowS va)).length ≤ 4294967282 := by have := commas_len (lowS va); omega
  have HS := Lib.hid hS
  obtain ⟨q, hq⟩ : ∃ q, dir1A ⟨nm, va⟩ = q := ⟨_, rfl⟩
  rw [hq]
  have HQ : Hid (q = if eqS (lowS nm) cacheS then ((commas (lowS va)).map trimA).filter neE else []) := Lib.hid hq.symm
  clear hq
  unfold cacheS at HN HQ
  clear hS hf hz
  cases hb : eqS (lowS nm) ⟨#[99, 97, 99, 104, 101, 45, 99, 111, 110, 116, 114, 111, 108]⟩
  · rw [hb] at HN HQ
    clear hb
    go_enter Tryd.func18, Tryd.ntmps18
    go_wp2_with (go_at_call 19; (with_reducible refine (HN.out _).mono ?_); rintro e w1 ⟨rfl, hb1⟩)
    go_ret
    refine ⟨none, 0, ?_, ?_, below_then (below_alloc (Below.refl _ _) _) (below_alloc (Below.refl _ _) _).size hb1⟩
    · rw [HQ.out]; rfl
    · rw [HQ.out]; exact Kd.C_nil _ _
  · rw [hb] at HN HQ
    clear hb
    generalize lowS va = v at HV HP HQ hcl
    have HD := Lib.hid (del_any ((commas v).map trimA))
    have hQ2 : Hid (q = ((commas v).map trimA).filter neE) := Lib.hid HQ.out
    clear HQ
    have hml : ((commas v).map trimA).length = (commas v).length := List.length_map ..
    rw [hml] at HD
    have HML := Lib.hid hml
    clear hml
    generalize (commas v).length = n at HP HD HML hcl
    go_enter Tryd.func18, Tryd.ntmps18
    go_wp2_with (go_at_call 19; (with_reducible refine (HN.out _).mono ?_); rintro e w1 ⟨rfl, hb1⟩; have HB1 : Hid (Below w.heap.size w w1) := Lib.hid (below_then (below_alloc (Below.refl _ _) _) (below_alloc (Below.refl _ _) _).size hb1); have c0 := boxCell hb1 0 _ rfl; have c1 := boxCell hb1 1 _ rfl; clear hb1)
    go_wp2_with (go_at_call 21; (with_reducible refine (HV.out _).mono ?_); rintro e w2 ⟨rfl, hb2⟩; have HB2 : Hid (Below w.heap.size w w2) := Lib.hid (below_then HB1.out HB1.out.size hb2); clear hb2)
    go_wp2_with (go_at_call 20; (with_reducible refine (HP.out _ (StdW.below HS.out HB2.out)).mono ?_); rintro e w3 ⟨rfl, hr3, hb3⟩; have HB3 : Hid (Below w.heap.size w w3) := Lib.hid (below_then HB2.out HB2.out.size hb3); have HR3 := Lib.hid hr3; clear hb3 hr3)
    go_wp2_with (go_at_call 22; (with_reducible refine (HD.out _ _ HR3.out (by omega)).mono ?_); rintro e w4 ⟨rfl, hr4, hb4⟩; have HR4 := Lib.hid hr4; have HB4 : Hid (Below w.heap.size w w4) := Lib.hid (HB3.out.trans (hb4.mono HB2.out.size)); clear hr4 hb4)
    go_ret
    refine ⟨some ⟨w2.heap.size, 0, none⟩, n, by rw [hQ2.out]; rfl, ?_, HB4.out⟩
    rw [hQ2.out]
    refine C_row _ _ _ ?_ HR4.out
    have := List.length_filter_le neE ((commas v).map trimA)
    have := HML.out
    omega
set_option maxHeartbeats 2000000 in
theorem connc_any (f : S24) (hf : okF f) (w : World) (hS : StdW w) :
    Calls Tryd.prog 37 #[.agg #[.string f.f0, .string f.f1]] w (TellsS (conn1A f) w) := by
  obtain ⟨nm, va⟩ := f
  have HN := Lib.hid (fun W => named_any nm va connS (Nat.le_trans hf.1 (by decide)) W)
  have HP := Lib.hid (parts_any va hf.2)
  have hcl : (commas va).length ≤ 4294967282 := by have := commas_len va; have := hf.2; simp only at this; omega
  have HS := Lib.hid hS
  obtain ⟨q, hq⟩ : ∃ q, conn1A ⟨nm, va⟩ = q := ⟨_, rfl⟩
  rw [hq]
  have HQ : Hid (q = if eqS (lowS nm) connS then (commas va).map trimA else []) := Lib.hid hq.symm
  clear hq
  unfold connS at HN HQ
  clear hS hf
  cases hb : eqS (lowS nm) ⟨#[99, 111, 110, 110, 101, 99, 116, 105, 111, 110]⟩
  · rw [hb] at HN HQ
    clear hb
    go_enter Tryd.func37, Tryd.ntmps37
    go_wp2_with (go_at_call 19; (with_reducible refine (HN.out _).mono ?_); rintro e w1 ⟨rfl, hb1⟩)
    go_ret
    refine ⟨none, 0, ?_, ?_, below_then (below_alloc (Below.refl _ _) _) (below_alloc (Below.refl _ _) _).size hb1⟩
    · rw [HQ.out]; rfl
    · rw [HQ.out]; exact Kd.C_nil _ _
  · rw [hb] at HN HQ
    clear hb
    have hQ2 : Hid (q = (commas va).map trimA) := Lib.hid HQ.out
    clear HQ
    have hml : ((commas va).map trimA).length = (commas va).length := List.length_map ..
    have HML := Lib.hid hml
    clear hml
    generalize (commas va).length = n at HP HML hcl
    go_enter Tryd.func37, Tryd.ntmps37
    go_wp2_with (go_at_call 19; (with_reducible refine (HN.out _).mono ?_); rintro e w1 ⟨rfl, hb1⟩; have HB1 : Hid (Below w.heap.size w w1) := Lib.hid (below_then (below_alloc (Below.refl _ _) _) (below_alloc (Below.refl _ _) _).size hb1); have c0 := boxCell hb1 0 _ rfl; have c1 := boxCell hb1 1 _ rfl; clear hb1)
    go_wp2_with (go_at_call 20; (with_reducible refine (HP.out _ (StdW.below HS.out HB1.out)).mono ?_); rintro e w3 ⟨rfl, hr3, hb3⟩; have HB3 : Hid (Below w.heap.size w w3) := Lib.hid (below_then HB1.out HB1.out.size hb3); have HR3 := Lib.hid hr3; clear hb3 hr3)
    go_ret
    refine ⟨some ⟨w1.heap.size, 0, none⟩, n, by rw [hQ2.out, HML.out]; rfl, ?_, HB3.out⟩
    rw [hQ2.out]
    exact C_row _ _ _ (by have := HML.out; omega) (fun j h => (HR3.out.1 j h).1)
theorem flat_take {α β : Type} (q : α → List β) (l : List α) (k : Nat) : ((l.take k).flatMap q).length ≤ (l.flatMap q).length := by
  conv => rhs; rw [← List.take_append_drop k l, List.flatMap_append, List.length_append]
  omega
theorem flat_succ {α β : Type} (q : α → List β) (l : List α) (k : Nat) (h : k < l.length) : (l.take (k + 1)).flatMap q = (l.take k).flatMap q ++ q l[k] := by
  rw [List.take_succ_eq_append_getElem h, List.flatMap_append]; simp
set_option maxRecDepth 100000 in
set_option maxHeartbeats 4000000 in
theorem each_dir (A0 : Option Addr) (c0 : Nat) (l : List S24) (w : World) (hS : StdW w) (hR : Kd.C k24 w A0 l.length l) (hok : ∀ f ∈ l, okF f) (htot : (l.flatMap dir1A).length ≤ 8796093022207) (hlen : l.length ≤ 4294967296) :
    Calls Tryd.prog 17 #[.slice A0 l.length c0, .func (.func 18) #[] #[]] w fun e w' => ∃ v, e = .returned v ∧ Kd.R Kd.string 9 w' w.heap.size (fun _ => True) v (l.flatMap dir1A) ∧ Below w.heap.size w w' := by
  have HS := Lib.hid hS
  have HR := Lib.hid hR
  have HC := Lib.hid (fun f hf W h => dirc_any f (hok f hf) W h)
  have HT := Lib.hid htot
  clear hS hR hok htot
  go_enter Tryd.func17, Tryd.ntmps17
  go_wp2
  go_loopw [5, 10] (fun v i wr => ∃ k : Nat, k ≤ l.length ∧ i = .int .i64 k ∧ Hid (Kd.R Kd.string 9 wr w.heap.size (fun _ => True) v ((l.take k).flatMap dir1A)) ∧ Hid (Below w.heap.size w wr)) (fun _ i _ => l.length - (intOf i).toNat)
  case atStart => exact ⟨0, Nat.zero_le _, rfl, Lib.hid (by simpa using Kd.R_nil _ _ _ _ _), Lib.hid (Below.refl _ _)⟩
  case round =>
    obtain ⟨k, hk, rfl, HM, HB⟩ := hrel
    by_cases hlt : k < l.length
    · have hk0 : (0 : Int) ≤ (k : Int) := Int.natCast_nonneg _
      have hk1 : (k : Int) < (l.length : Int) := by omega
      have hrd : rd_T24 l (k : Int) = l[k] := by
        unfold rd_T24
        rw [show ((k : Int)).toNat = k by omega, List.getD_eq_getElem?_getD, List.getElem?_eq_getElem hlt]; rfl
      obtain ⟨ad, ea, x0, x1⟩ := at_T24 HR.out (k : Int) hk0 hk1
      cases ea
      rw [hrd] at x0 x1
      have HCk := Lib.hid (HC.out l[k] (List.getElem_mem _))
      have HNX := Lib.hid (flat_succ dir1A l k hlt)
      have HL := Lib.hid (show ((l.take k).flatMap dir1A).length + (dir1A l[k]).length ≤ 8796093022207 by
        have := flat_take dir1A l (k + 1)
        rw [flat_succ dir1A l k hlt, List.length_append] at this
        exact Nat.le_trans this HT.out)
      generalize l[k] = r at x0 x1 HCk HNX HL hrd
      obtain ⟨nm, va⟩ := r
      simp only [Int.toNat_natCast] at x0 x1
      clear hrd
      replace x0 := (HB.out.cell (World.block_lt_of_cell? w _ x0)).trans x0
      replace x1 := (HB.out.cell (World.block_lt_of_cell? w _ x1)).trans x1
      generalize hqv : dir1A ⟨nm, va⟩ = qv at HCk HNX HL
      clear hqv
      generalize hpv : (l.take k).flatMap dir1A = pv at HM HNX HL
      clear hpv
      go_wp2_with (first | (go_at_call 18; (with_reducible refine (HCk.out _ (StdW.below HS.out (below_alloc HB.out _))).mono ?_); rintro e w2 ⟨A, c, rfl, hC, hb2⟩; have HC2 := Lib.hid hC; have HB2 : Hid (Below w.heap.size w w2) := Lib.hid (below_then (below_alloc HB.out _) (below_alloc HB.out _).size hb2); have HM2 := Lib.hid (Kd.R_below (Kd.R_below HM.out (below_alloc (Below.refl _ _) _)) hb2); clear hC hb2) | (at_builtin; refine Kd.R_append_row Value.string (⟨#[]⟩ : ByteArray) (w0 := w) w.heap.size rfl (.tmp 14) (.tmp 17) 39 9 (.string ⟨#[]⟩) 16 rfl Tryd.underlying39 info_str rfl (by decide) u5 pv qv A qv.length c (fun _ => True) rfl rfl (fun _ _ => trivial) HM2.out HC2.out HB2.out HB2.out.size (by have := HL.out; omega) ?_; intro v3 w3 ho hb3 hg3 hat3))
      go_roundw
      case rel => exact ⟨k + 1, by omega, by go_num, Lib.hid (by rw [HNX.out]; exact ho), Lib.hid hb3⟩
      case measure => simp [intOf]; omega
    · have hkl : k = l.length := by omega
      subst hkl
      have HF := Lib.hid HM.out
      rw [List.take_length] at HF
      go_wp2
      go_ret
      exact ⟨_, rfl, HF.out, HB.out⟩
set_option maxRecDepth 100000 in
set_option maxHeartbeats 4000000 in
theorem each_conn (A0 : Option Addr) (c0 : Nat) (l : List S24) (w : World) (hS : StdW w) (hR : Kd.C k24 w A0 l.length l) (hok : ∀ f ∈ l, okF f) (htot : (l.flatMap conn1A).length ≤ 8796093022207) (hlen : l.length ≤ 4294967296) :
    Calls Tryd.prog 17 #[.slice A0 l.length c0, .func (.func 37) #[] #[]] w fun e w' => ∃ v, e = .returned v ∧ Kd.R Kd.string 9 w' w.heap.size (fun _ => True) v (l.flatMap conn1A) ∧ Below w.heap.size w w' := by
  have HS := Lib.hid hS
  have HR := Lib.hid hR
  have HC := Lib.hid (fun f hf W h => connc_any f (hok f hf) W h)
  have HT := Lib.hid htot
  clear hS hR hok htot
  go_enter Tryd.func17, Tryd.ntmps17
  go_wp2
  go_loopw [5, 10] (fun v i wr => ∃ k : Nat, k ≤ l.length ∧ i = .int .i64 k ∧ Hid (Kd.R Kd.string 9 wr w.heap.size (fun _ => True) v ((l.take k).flatMap conn1A)) ∧ Hid (Below w.heap.size w wr)) (fun _ i _ => l.length - (intOf i).toNat)
  case atStart => exact ⟨0, Nat.zero_le _, rfl, Lib.hid (by simpa using Kd.R_nil _ _ _ _ _), Lib.hid (Below.refl _ _)⟩
  case round =>
    obtain ⟨k, hk, rfl, HM, HB⟩ := hrel
    by_cases hlt : k < l.length
    · have hk0 : (0 : Int) ≤ (k : Int) := Int.natCast_nonneg _
      have hk1 : (k : Int) < (l.length : Int) := by omega
      have hrd : rd_T24 l (k : Int) = l[k] := by
        unfold rd_T24
        rw [show ((k : Int)).toNat = k by omega, List.getD_eq_getElem?_getD, List.getElem?_eq_getElem hlt]; rfl
      obtain ⟨ad, ea, x0, x1⟩ := at_T24 HR.out (k : Int) hk0 hk1
      cases ea
      rw [hrd] at x0 x1
      have HCk := Lib.hid (HC.out l[k] (List.getElem_mem _))
      have HNX := Lib.hid (flat_succ conn1A l k hlt)
      have HL := Lib.hid (show ((l.take k).flatMap conn1A).length + (conn1A l[k]).length ≤ 8796093022207 by
        have := flat_take conn1A l (k + 1)
        rw [flat_succ conn1A l k hlt, List.length_append] at this
        exact Nat.le_trans this HT.out)
      generalize l[k] = r at x0 x1 HCk HNX HL hrd
      obtain ⟨nm, va⟩ := r
      simp only [Int.toNat_natCast] at x0 x1
      clear hrd
      replace x0 := (HB.out.cell (World.block_lt_of_cell? w _ x0)).trans x0
      replace x1 := (HB.out.cell (World.block_lt_of_cell? w _ x1)).trans x1
      generalize hqv : conn1A ⟨nm, va⟩ = qv at HCk HNX HL
      clear hqv
      generalize hpv : (l.take k).flatMap conn1A = pv at HM HNX HL
      clear hpv
      go_wp2_with (first | (go_at_call 37; (with_reducible refine (HCk.out _ (StdW.below HS.out (below_alloc HB.out _))).mono ?_); rintro e w2 ⟨A, c, rfl, hC, hb2⟩; have HC2 := Lib.hid hC; have HB2 : Hid (Below w.heap.size w w2) := Lib.hid (below_then (below_alloc HB.out _) (below_alloc HB.out _).size hb2); have HM2 := Lib.hid (Kd.R_below (Kd.R_below HM.out (below_alloc (Below.refl _ _) _)) hb2); clear hC hb2) | (at_builtin; refine Kd.R_append_row Value.string (⟨#[]⟩ : ByteArray) (w0 := w) w.heap.size rfl (.tmp 14) (.tmp 17) 39 9 (.string ⟨#[]⟩) 16 rfl Tryd.underlying39 info_str rfl (by decide) u5 pv qv A qv.length c (fun _ => True) rfl rfl (fun _ _ => trivial) HM2.out HC2.out HB2.out HB2.out.size (by have := HL.out; omega) ?_; intro v3 w3 ho hb3 hg3 hat3))
      go_roundw
      case rel => exact ⟨k + 1, by omega, by go_num, Lib.hid (by rw [HNX.out]; exact ho), Lib.hid hb3⟩
      case measure => simp [intOf]; omega
    · have hkl : k = l.length := by omega
      subst hkl
      have HF := Lib.hid HM.out
      rw [List.take_length] at HF
      go_wp2
      go_ret
      exact ⟨_, rfl, HF.out, HB.out⟩
end Go.Proofs.YtkheejjpidbniaaDoor.E


namespace Go.Proofs.YtkheejjpidbniaaDoor.E
open Go.RowKit Go.Proofs.YtkheejjpidbniaaDoorW.PrintWords Go.Proofs.YtkheejjpidbniaaDoorW.PrintLast
set_option linter.unusedVariables false
set_option linter.unusedSimpArgs false
def atoiV (l : List UInt8) : Int := match Lib.atoiAll l with | .ok v => v | .range => Lib.atoiSat l | _ => 0
def numOk (l : List UInt8) (most : Int) : Bool := match Lib.atoiAll l with | .ok v => decide (0 ≤ v) && (decide (v ≤ most) && (Lib.itoa v == l)) | _ => false
theorem atoi_any (s : ByteArray) (hs : s.size ≤ 281474976710656) (w : World) (hS : StdW w) :
    Calls Tryd.prog 25 #[.string s] w fun e w' => ∃ er : Value, e = .returned (.tuple #[.int .i64 (atoiV s.data.toList), er]) ∧ (match Lib.atoiAll s.data.toList with | .ok _ => er = .nilIface | _ => ∃ N, er = .iface 79 (.pointer (some ⟨N, 0, none⟩))) ∧ Below w.heap.size w w' := by
  unfold atoiV
  rcases h : Lib.atoiAll s.data.toList with v | _ | _
  ·
    refine (Tryd.strconv_Atoi_ok s (by omega) v h w).mono ?_
    rintro e w' ⟨rfl, hw⟩
    refine ⟨_, rfl, rfl, ?_⟩
    rcases hw with rfl | ⟨t, rfl⟩
    · exact Below.refl _ _
    · exact Lib.bytesWorld_below _ _ _
  ·
    obtain ⟨a, b, hs1⟩ := hS.syn
    refine (Tryd.strconv_Atoi_syntax s hs h _ w hs1 (.inr ⟨_, _, rfl⟩)).mono ?_
    rintro e w' ⟨N, rfl, -, -, hb⟩
    exact ⟨_, rfl, ⟨N, rfl⟩, hb⟩
  ·
    obtain ⟨a, b, hs1⟩ := hS.rng
    refine (Tryd.strconv_Atoi_range s hs h _ w hs1 (.inr ⟨_, _, rfl⟩)).mono ?_
    rintro e w' ⟨N, rfl, -, -, hb⟩
    exact ⟨_, rfl, ⟨N, rfl⟩, hb⟩
theorem atoiAll_bounds (l : List UInt8) (v : Int) (h : Lib.atoiAll l = .ok v) : -9223372036854775808 ≤ v ∧ v ≤ 9223372036854775807 := by
  unfold Lib.atoiAll at h
  cases l with
  | nil => cases h
  | cons c r =>
    simp only at h
    split at h
    · cases h
    · cases h
    · rename_i u hu
      have := Lib.parseMag_lt hu
      split at h
      · cases h
      · split at h
        · cases h
        · injection h with h
          split at h <;> omega
theorem numOk_bounds (l : List UInt8) (most : Int) (h : numOk l most = true) : 0 ≤ atoiV l ∧ atoiV l ≤ most ∧ Num.canon l = true ∧ atoiV l = (Num.val l : Int) := by
  unfold numOk at h
  unfold atoiV
  rcases ha : Lib.atoiAll l with v | _ | _
  ·
    rw [ha] at h
    simp only [Bool.and_eq_true, decide_eq_true_eq, beq_iff_eq] at h
    have := Num.atoi_itoa l v ha h.1 h.2.2
    exact ⟨h.1, h.2.1, this.1, this.2⟩
  · rw [ha] at h; cases h
  · rw [ha] at h; cases h
end Go.Proofs.YtkheejjpidbniaaDoor.E


namespace Go.Proofs.YtkheejjpidbniaaDoor.E
open Go.RowKit Go.Proofs.YtkheejjpidbniaaDoorW.PrintWords Go.Proofs.YtkheejjpidbniaaDoorW.PrintLast
set_option linter.unusedVariables false
set_option linter.unusedSimpArgs false
set_option maxHeartbeats 1000000 in
theorem fnumber_ok (s : ByteArray) (v : Int) (hv0 : -9223372036854775808 ≤ v) (hv1 : v ≤ 9223372036854775807) (w : World)
    (A : Calls Tryd.prog 25 #[.string s] w fun e w' => e = .returned (.tuple #[.int .i64 v, .nilIface]) ∧ Below w.heap.size w w') (hS : StdW w) :
    Calls Tryd.prog 15 #[.string s] w fun e w' => e = .returned (.tuple #[.int .i64 v, .bool (decide (0 ≤ v) && (decide (v ≤ 9999999) && (Lib.itoa v == s.toList)))]) ∧ Below w.heap.size w w' := by
  have HA := Lib.hid A
  have HS := Lib.hid hS
  clear A hS
  by_cases h0 : 0 ≤ v
  · by_cases h1 : v ≤ 9999999
    · rw [decide_eq_true h0, decide_eq_true h1, Bool.true_and, Bool.true_and]
      go_enter Tryd.func15, Tryd.ntmps15
      go_wp2_with (first | (go_at_call 25; refine HA.out.mono ?_; rintro e w1 ⟨rfl, hb1⟩) | (go_at_call 26; refine (Itoa.calls v ⟨(Lib.itoa v).toArray⟩ _ (StdW.below HS.out hb1) (by unfold Itoa.f; rw [if_pos ⟨hv0, hv1⟩])).mono ?_; rintro e w2 ⟨rfl, hb2⟩))
      go_ret2
      exact ⟨rfl, below_then hb1 hb1.size hb2⟩
    · rw [decide_eq_true h0, decide_eq_false h1, Bool.true_and, Bool.false_and]
      have h1' : decide (v ≤ 9999999) = false := decide_eq_false h1
      go_enter Tryd.func15, Tryd.ntmps15
      go_wp2_with (go_at_call 25; refine HA.out.mono ?_; rintro e w1 ⟨rfl, hb1⟩)
      go_ret2
      exact ⟨rfl, hb1⟩
  · rw [decide_eq_false h0, Bool.false_and]
    have h0' : decide (0 ≤ v) = false := decide_eq_false h0
    go_enter Tryd.func15, Tryd.ntmps15
    go_wp2_with (go_at_call 25; refine HA.out.mono ?_; rintro e w1 ⟨rfl, hb1⟩)
    go_ret2
    exact ⟨rfl, hb1⟩
set_option maxHeartbeats 1000000 in
theorem fnumber_no (s : ByteArray) (v : Int) (w : World)
    (A : Calls Tryd.prog 25 #[.string s] w fun e w' => (∃ N, e = .returned (.tuple #[.int .i64 v, .iface 79 (.pointer (some ⟨N, 0, none⟩))])) ∧ Below w.heap.size w w') :
    Calls Tryd.prog 15 #[.string s] w fun e w' => e = .returned (.tuple #[.int .i64 v, .bool false]) ∧ Below w.heap.size w w' := by
  have HA := Lib.hid A
  clear A
  go_enter Tryd.func15, Tryd.ntmps15
  go_wp2_with (go_at_call 25; refine HA.out.mono ?_; rintro e w1 ⟨⟨N, rfl⟩, hb1⟩)
  go_ret2
  exact ⟨rfl, hb1⟩
theorem fnumber_any (s : ByteArray) (hs : s.size ≤ 281474976710656) (w : World) (hS : StdW w) :
    Calls Tryd.prog 15 #[.string s] w fun e w' => e = .returned (.tuple #[.int .i64 (atoiV s.data.toList), .bool (numOk s.data.toList 9999999)]) ∧ Below w.heap.size w w' := by
  have A := atoi_any s hs w hS
  unfold numOk
  rcases h : Lib.atoiAll s.data.toList with v | _ | _
  ·
    have hv : atoiV s.data.toList = v := by unfold atoiV; rw [h]
    rw [hv] at A ⊢
    obtain ⟨b0, b1⟩ := atoiAll_bounds _ _ h
    have := fnumber_ok s v b0 b1 w (A.mono fun e w' hh => by
      obtain ⟨er, rfl, he, hb⟩ := hh
      rw [h] at he
      subst he
      exact ⟨rfl, hb⟩) hS
    rw [ByteArray.toList_eq] at this
    exact this
  ·
    exact fnumber_no s _ w (A.mono fun e w' hh => by
      obtain ⟨er, rfl, he, hb⟩ := hh
      rw [h] at he
      obtain ⟨N, rfl⟩ := he
      exact ⟨⟨N, rfl⟩, hb⟩)
  ·
    exact fnumber_no s _ w (A.mono fun e w' hh => by
      obtain ⟨er, rfl, he, hb⟩ := hh
      rw [h] at he
      obtain ⟨N, rfl⟩ := he
      exact ⟨⟨N, rfl⟩, hb⟩)
end Go.Proofs.YtkheejjpidbniaaDoor.E


namespace Go.Proofs.YtkheejjpidbniaaDoor.E
open Go.RowKit Go.Proofs.YtkheejjpidbniaaDoorW.PrintWords Go.Proofs.YtkheejjpidbniaaDoorW.PrintLast Go.Proofs.YtkheejjpidbniaaDoor.XK
set_option linter.unusedVariables false
set_option linter.unusedSimpArgs false
def okL (l : List S24) : Bool := l.all (fun f => decide (f.f0.size ≤ 4294967296) && decide (f.f1.size < 4294967281)) && decide (l.length ≤ 4294967296)
theorem okL_mem {l : List S24} (h : okL l = true) : (∀ f ∈ l, okF f) ∧ l.length ≤ 4294967296 := by
  unfold okL at h
  rw [Bool.and_eq_true, List.all_eq_true, decide_eq_true_eq] at h
  refine ⟨fun f hf => ?_, h.2⟩
  have := h.1 f hf
  rw [Bool.and_eq_true, decide_eq_true_eq, decide_eq_true_eq] at this
  exact this
def Directives.f (l : List S24) : Option (List ByteArray) := if okL l = true ∧ (l.flatMap dir1A).length ≤ 8796093022207 then some (l.flatMap dir1A) else none
set_option maxHeartbeats 1000000 in
theorem Directives.calls (A0 : Option Addr) (c0 : Nat) (l0 : List S24) (r : List ByteArray) (w : World) (hr0 : Kd.C k24 w A0 l0.length l0) (hc0 : l0.length ≤ c0) (hS_ : StdW w) (h : Directives.f l0 = some r) :
    Calls Tryd.prog 13 #[.slice A0 l0.length c0] w fun e w' => ∃ v0_ : Value, e = .returned (v0_) ∧ Kd.R Kd.string 9 w' w.heap.size (fun _ => True) v0_ r ∧ Below w.heap.size w w' := by
  unfold Directives.f at h
  split at h
  · rename_i hc
    obtain rfl := Option.some.inj h
    have HE := Lib.hid (each_dir A0 c0 l0 w hS_ hr0 (okL_mem hc.1).1 hc.2 (okL_mem hc.1).2)
    clear hr0 hc0 hS_ h hc
    generalize l0.flatMap dir1A = r at HE ⊢
    generalize l0.length = n at HE ⊢
    go_enter Tryd.func13, Tryd.ntmps13
    go_wp2_with (go_at_call 17; (with_reducible refine HE.out.mono ?_); rintro e w1 ⟨v, rfl, hr, hb⟩)
    go_ret
    exact ⟨v, rfl, hr, hb⟩
  · cases h
def fnumber.f (s : ByteArray) : Option (Int × Bool) := if s.size ≤ 281474976710656 then some (atoiV s.data.toList, numOk s.data.toList 9999999) else none
theorem fnumber.calls (s : ByteArray) (r1 : Int) (r2 : Bool) (w : World) (hS_ : StdW w) (h : fnumber.f s = some (r1, r2)) :
    Calls Tryd.prog 15 #[.string s] w fun e w' => e = .returned (.tuple #[.int .i64 r1, .bool r2]) ∧ Below w.heap.size w w' := by
  unfold fnumber.f at h
  split at h
  · rename_i hc
    simp only [Option.some.injEq, Prod.mk.injEq] at h
    obtain ⟨rfl, rfl⟩ := h
    exact fnumber_any s hc w hS_
  · cases h
def IndexByte.f (s : ByteArray) (c : Int) : Option Int := some (Lib.indexByte s.data.toList c.toNat.toUInt8)
theorem IndexByte.calls (s : ByteArray) (c : Int) (r : Int) (w : World) (hS_ : StdW w) (h : IndexByte.f s c = some r) :
    Calls Tryd.prog 74 #[.string s, .int .u8 c] w fun e w' => e = .returned (.int .i64 r) ∧ Below w.heap.size w w' := by
  obtain rfl := Option.some.inj h
  exact (Tryd.strings_IndexByte s c w).mono (fun e w' ⟨he, hw⟩ => ⟨he, hw ▸ Below.refl _ _⟩)
end Go.Proofs.YtkheejjpidbniaaDoor.E


namespace Go.Proofs.YtkheejjpidbniaaDoor.E
open Go.RowKit Go.Proofs.YtkheejjpidbniaaDoorW.PrintWords Go.Proofs.YtkheejjpidbniaaDoorW.PrintLast Go.Proofs.YtkheejjpidbniaaDoor.XK Go.Maps Go.ChangeMaps
set_option linter.unusedVariables false
set_option linter.unusedSimpArgs false
theorem keyLaw : Keyed Tryd.prog 9 := string_keyed Tryd.underlying9
def SetM (w : World) (b n : Nat) (S : List UInt8 → Bool) : Prop :=
  ∃ D : DataW Unit, w.ownsMap Tryd.prog 9 (plainElem Tryd.prog 4) b n D ∧ IsMap D ∧ ∀ s : List UInt8, D.atKey (.string s) (.lit (.bool false)) = .lit (.bool (S s))
theorem SetM.made (w : World) : SetM (w.alloc (.map #[] 0)) w.heap.size 0 (fun _ => false) :=
  ⟨.map [], World.ownsMap_made _ _ _ _, ⟨[], rfl⟩, fun s => rfl⟩
theorem SetM.lt {w : World} {b n : Nat} {S : List UInt8 → Bool} (h : SetM w b n S) : b < w.heap.size := by obtain ⟨D, h1, -⟩ := h; exact h1.lt
theorem SetM.isMap {w : World} {b n : Nat} {S : List UInt8 → Bool} (h : SetM w b n S) : ∃ es c, w.heap[b]? = some (.map es c) := by obtain ⟨D, ⟨es, c, hb, -⟩, -⟩ := h; exact ⟨es, c, hb⟩
theorem SetM.below {w w1 : World} {b n : Nat} {S : List UInt8 → Bool} (h : SetM w b n S) (hb : Below w.heap.size w w1) : SetM w1 b n S := by
  have hlt := h.lt
  obtain ⟨D, ⟨es, c, h1, h2⟩, h3⟩ := h
  exact ⟨D, ⟨es, c, (hb.block b hlt).trans h1, h2⟩, h3⟩
theorem SetM.to {w : World} {b n : Nat} {S T : List UInt8 → Bool} (h : SetM w b n S) (e : ∀ s, S s = T s) : SetM w b n T := by
  obtain ⟨D, h1, h2, h3⟩ := h
  exact ⟨D, h1, h2, fun s => (h3 s).trans (by rw [e])⟩
theorem zeroB (w : World) : (zeroValue 4).run Tryd.prog w = .ok (.bool false) w := by kernel_rfl
theorem elemB_inv {P : Program} {e : TypeId} (he : P.underlying e = some .bool) {v : Value} {x : Bool} {ps : List MemPlace} (h : plainElem (H := Unit) P e v = some (.lit (.bool x), ps)) : v = .bool x := by
  unfold plainElem at h
  rw [he] at h
  cases v <;> simp at h
  exact congrArg Value.bool h.1
theorem SetM.look {w : World} {b n : Nat} {S : List UInt8 → Bool} (h : SetM w b n S) (s : ByteArray) (hs : s.size ≤ maxLen) : (Instr.lookup 56 (.map (some b)) (.string s) false).run Tryd.prog w = .ok (.bool (S s.data.toList)) w := by
  obtain ⟨D, h1, h2, h3⟩ := h
  obtain ⟨v, ps, hrun, hv⟩ := h1.lookup keyLaw Tryd.underlying56 (zeroB w) (plainElem_bool Tryd.underlying4 false) (Go.WideMaps.keyOf_string_mk Tryd.underlying9 hs)
  rw [h3] at hv
  rw [hrun, elemB_inv Tryd.underlying4 hv]
theorem SetM.put {w : World} {b n : Nat} {S : List UInt8 → Bool} (h : SetM w b n S) (hn : n < maxLen) (s : ByteArray) (hs : s.size ≤ maxLen) :
    ∃ w', (Instr.mapUpdate 56 (.map (some b)) (.string s) (.bool true)).run Tryd.prog w = .ok () w' ∧ SetM w' b (n + 1) (fun k => k == s.data.toList || S k) ∧ w.grownBy w' (some b) := by
  obtain ⟨D, h1, h2, h3⟩ := h
  obtain ⟨w', hrun, r1, r2⟩ := h1.update keyLaw Tryd.underlying56 hn (Go.WideMaps.keyOf_string_mk Tryd.underlying9 hs) (plainElem_bool Tryd.underlying4 true)
  refine ⟨w', hrun, ⟨_, r1, h2.put _ _, fun k => ?_⟩, r2⟩
  by_cases e : k = s.data.toList
  · subst e
    show (D.put (Lit.string s.data.toList) (.lit (.bool true))).atKey (Lit.string s.data.toList) (.lit (.bool false)) = .lit (.bool (s.data.toList == s.data.toList || S s.data.toList))
    rw [atKey_put_same h2 (show WideAt.IsKeyLit (Lit.string s.data.toList) from True.intro), beq_self_eq_true, Bool.true_or]
  · show (D.put (Lit.string s.data.toList) (.lit (.bool true))).atKey (Lit.string k) (.lit (.bool false)) = .lit (.bool (k == s.data.toList || S k))
    rw [atKey_put_other (fun h => e (by injection h)), h3, beq_eq_false_iff_ne.2 e, Bool.false_or]
theorem wpList_set_put {w : World} {ops : Array Oper} {rest : List Oper} {o : Oper} {a : Act} {Q : Exit → Act → World → Prop} (hg : o.guard = none) (m x v : Operand)
    (hop : o.op = Op.mapUpdate 56 m x v ∨ o.op = Op.insert 56 m x v) {b n : Nat} {S : List UInt8 → Bool} (hm : a.eval m = .map (some b)) (h : SetM w b n S) (hn : n < maxLen) (s : ByteArray) (hx : a.eval x = .string s) (hs : s.size ≤ maxLen) (hv : a.eval v = .bool true)
    (hK : ∀ w', SetM w' b (n + 1) (fun k => k == s.data.toList || S k) → w.grownBy w' (some b) → wpList Tryd.prog ops Q rest (a.put o.dst undef) w') :
    wpList Tryd.prog ops Q (o :: rest) a w := by
  refine wpList_plain hg fun K' hK' => ?_
  obtain ⟨w', hrun, r1, r2⟩ := h.put hn s hs
  unfold Oper.wp
  rcases hop with hop | hop <;> (simp [execOp, hop, hm, hx, hv, hrun, Result.andThen]; exact hK' _ _ (hK w' r1 r2))
theorem cell_grown {w w1 : World} {b : Nat} (hm : ∃ es c, w.heap[b]? = some (.map es c)) (hg : w.grownBy w1 (some b)) {a : Addr} {v : Value} (hc : w.cell? a = some v) : w1.cell? a = some v := by
  have hlt := World.block_lt_of_cell? _ _ hc
  have hne : a.block ≠ b := by
    rintro rfl
    obtain ⟨es, c, h⟩ := hm
    unfold World.cell? at hc
    rw [h] at hc
    simp at hc
  have hh : w1.heap[a.block]? = w.heap[a.block]? := hg.block a.block hlt (by simpa using hne)
  unfold World.cell? at hc ⊢
  rw [hh]; exact hc
theorem C_grown {w w1 : World} {b : Nat} {A : Option Addr} {n : Nat} {xs : List ByteArray} (hm : ∃ es c, w.heap[b]? = some (.map es c)) (hg : w.grownBy w1 (some b)) (h : Kd.C Kd.string w A n xs) : Kd.C Kd.string w1 A n xs := by
  refine ⟨h.1, h.2.1, fun hn => ?_⟩
  obtain ⟨ad, e, hc⟩ := h.2.2 hn
  refine ⟨ad, e, fun j p hj => ?_⟩
  obtain ⟨c, h1, h2, h3⟩ := hc j p hj
  exact ⟨c, h1, h2, fun i u hu => cell_grown hm hg (h3 i u hu)⟩
theorem below_grown_map {w0 w w1 : World} {b B : Nat} (h : Below B w0 w) (hb : B ≤ b) (hg : w.grownBy w1 (some b)) (hB : B ≤ w.heap.size) : Below B w0 w1 :=
  h.grown hg hB (fun j hj => by cases hj; exact hb)
end Go.Proofs.YtkheejjpidbniaaDoor.E


namespace Go.Proofs.YtkheejjpidbniaaDoor.XA
open Go.Proofs.YtkheejjpidbniaaDoor.XK
open Go.RowKit Go.Proofs.YtkheejjpidbniaaDoorW.PrintWords Go.Proofs.YtkheejjpidbniaaDoorW.PrintLast Go.Proofs.YtkheejjpidbniaaDoorW.PrintMore
attribute [local go_sem] max2_int min2_int max_two min_two max_three min_three max_four min_four
set_option linter.unusedVariables false
set_option linter.unusedSimpArgs false
end Go.Proofs.YtkheejjpidbniaaDoor.XA


namespace Go.Proofs.YtkheejjpidbniaaDoor.XA
open Go.Proofs.YtkheejjpidbniaaDoor.XK
open Go.RowKit Go.Proofs.YtkheejjpidbniaaDoorW.PrintWords Go.Proofs.YtkheejjpidbniaaDoorW.PrintLast Go.Proofs.YtkheejjpidbniaaDoorW.PrintMore
attribute [local go_sem] max2_int min2_int max_two min_two max_three min_three max_four min_four
set_option linter.unusedVariables false
set_option linter.unusedSimpArgs false
mutual
def fields_Age.l0 : Nat → Int → List ByteArray → Int → Int → Option (Int × Bool)
 | 0, _, _, _, _ => none
 | k + 1, x4, x13, x14, x15 => if x15 < x14 then (if 0 ≤ x15 then (if x15 < (x13.length : Int) then ((E.Cut.f (rdOf ByteArray.empty x13 x15) (⟨#[61]⟩ : ByteArray)).bind fun bt105 => (if bt105.1.toList = ([110, 111, 45, 115, 116, 111, 114, 101] : List UInt8) then (fields_Age.j1 k x4 bt105.1 bt105.2.1 bt105.2.2 x13 x14 x15 (!bt105.2.2)) else (fields_Age.j1 k x4 bt105.1 bt105.2.1 bt105.2.2 x13 x14 x15 false))) else (none)) else (none)) else (some (x4, decide (x4 > 0)))
def fields_Age.j1 : Nat → Int → ByteArray → ByteArray → Bool → List ByteArray → Int → Int → Bool → Option (Int × Bool)
 | 0, _, _, _, _, _, _, _, _ => none
 | k + 1, x4, x7, x8, x9, x13, x14, x15, x25 => if x25 = true then (fields_Age.j2 k x4 x7 x8 x9 x13 x14 x15 x25) else (if x7.toList = ([110, 111, 45, 99, 97, 99, 104, 101] : List UInt8) then (fields_Age.j2 k x4 x7 x8 x9 x13 x14 x15 (x7.toList == ([110, 111, 45, 99, 97, 99, 104, 101] : List UInt8))) else (fields_Age.j2 k x4 x7 x8 x9 x13 x14 x15 (x7.toList == ([112, 114, 105, 118, 97, 116, 101] : List UInt8))))
def fields_Age.j2 : Nat → Int → ByteArray → ByteArray → Bool → List ByteArray → Int → Int → Bool → Option (Int × Bool)
 | 0, _, _, _, _, _, _, _, _ => none
 | k + 1, x4, x7, x8, x9, x13, x14, x15, x25 => if x25 = true then (some (0, false)) else (if x7.toList = ([109, 97, 120, 45, 97, 103, 101] : List UInt8) then (fields_Age.j3 k x4 x8 x13 x14 x15 x9) else (fields_Age.j3 k x4 x8 x13 x14 x15 false))
def fields_Age.j3 : Nat → Int → ByteArray → List ByteArray → Int → Int → Bool → Option (Int × Bool)
 | 0, _, _, _, _, _, _ => none
 | k + 1, x4, x8, x13, x14, x15, x36 => if x36 = true then ((E.fnumber.f x8).bind fun bt108 => (if bt108.2 = true then (if bt108.1 = 0 then (some (0, false)) else (if x4 > 0 then (some (0, false)) else (fields_Age.l0 k (mn bt108.1 1048576) x13 x14 (wrap64 (x15 + 1))))) else (some (0, false)))) else (fields_Age.l0 k x4 x13 x14 (wrap64 (x15 + 1)))
end
def fields_Age.f (k : Nat) (l0 : List (S24)) : Option (Int × Bool) := (E.Directives.f l0).bind fun t101 => (fields_Age.l0 k 0 t101 (t101.length : Int) 0)
theorem fields_Age.mono_l : ∀ k, (∀ y0 y1 y2 y3, LeO (fields_Age.l0 k y0 y1 y2 y3) (fields_Age.l0 (k + 1) y0 y1 y2 y3)) ∧ (∀ y0 y1 y2 y3 y4 y5 y6 y7, LeO (fields_Age.j1 k y0 y1 y2 y3 y4 y5 y6 y7) (fields_Age.j1 (k + 1) y0 y1 y2 y3 y4 y5 y6 y7)) ∧ (∀ y0 y1 y2 y3 y4 y5 y6 y7, LeO (fields_Age.j2 k y0 y1 y2 y3 y4 y5 y6 y7) (fields_Age.j2 (k + 1) y0 y1 y2 y3 y4 y5 y6 y7)) ∧ (∀ y0 y1 y2 y3 y4 y5, LeO (fields_Age.j3 k y0 y1 y2 y3 y4 y5) (fields_Age.j3 (k + 1) y0 y1 y2 y3 y4 y5))
 | 0 => ⟨fun _ _ _ _ r h => by simp [fields_Age.l0] at h, fun _ _ _ _ _ _ _ _ r h => by simp [fields_Age.j1] at h, fun _ _ _ _ _ _ _ _ r h => by simp [fields_Age.j2] at h, fun _ _ _ _ _ _ r h => by simp [fields_Age.j3] at h⟩
 | k + 1 => by
  obtain ⟨ih0, ih1, ih2, ih3⟩ := fields_Age.mono_l k
  refine ⟨?_, ?_, ?_, ?_⟩
  ·intro y0 y1 y2 y3
   unfold fields_Age.l0
   repeat' first
   | (with_reducible exact ih0 _ _ _ _)
   | (with_reducible exact ih1 _ _ _ _ _ _ _ _)
   | (with_reducible exact ih2 _ _ _ _ _ _ _ _)
   | (with_reducible exact ih3 _ _ _ _ _ _)
   | (with_reducible exact LeO.refl _)
   | (with_reducible exact LeO.none _)
   | (with_reducible refine LeO.ite ?_ ?_)
   | (with_reducible refine LeO.bind ?_ (fun _ => ?_))
   | exact ih0 _ _ _ _
   | exact ih1 _ _ _ _ _ _ _ _
   | exact ih2 _ _ _ _ _ _ _ _
   | exact ih3 _ _ _ _ _ _
   | exact LeO.none _
   | refine LeO.ite ?_ ?_
   | refine LeO.bind ?_ (fun _ => ?_)
  ·intro y0 y1 y2 y3 y4 y5 y6 y7
   unfold fields_Age.j1
   repeat' first
   | (with_reducible exact ih0 _ _ _ _)
   | (with_reducible exact ih1 _ _ _ _ _ _ _ _)
   | (with_reducible exact ih2 _ _ _ _ _ _ _ _)
   | (with_reducible exact ih3 _ _ _ _ _ _)
   | (with_reducible exact LeO.refl _)
   | (with_reducible exact LeO.none _)
   | (with_reducible refine LeO.ite ?_ ?_)
   | (with_reducible refine LeO.bind ?_ (fun _ => ?_))
   | exact ih0 _ _ _ _
   | exact ih1 _ _ _ _ _ _ _ _
   | exact ih2 _ _ _ _ _ _ _ _
   | exact ih3 _ _ _ _ _ _
   | exact LeO.none _
   | refine LeO.ite ?_ ?_
   | refine LeO.bind ?_ (fun _ => ?_)
  ·intro y0 y1 y2 y3 y4 y5 y6 y7
   unfold fields_Age.j2
   repeat' first
   | (with_reducible exact ih0 _ _ _ _)
   | (with_reducible exact ih1 _ _ _ _ _ _ _ _)
   | (with_reducible exact ih2 _ _ _ _ _ _ _ _)
   | (with_reducible exact ih3 _ _ _ _ _ _)
   | (with_reducible exact LeO.refl _)
   | (with_reducible exact LeO.none _)
   | (with_reducible refine LeO.ite ?_ ?_)
   | (with_reducible refine LeO.bind ?_ (fun _ => ?_))
   | exact ih0 _ _ _ _
   | exact ih1 _ _ _ _ _ _ _ _
   | exact ih2 _ _ _ _ _ _ _ _
   | exact ih3 _ _ _ _ _ _
   | exact LeO.none _
   | refine LeO.ite ?_ ?_
   | refine LeO.bind ?_ (fun _ => ?_)
  ·intro y0 y1 y2 y3 y4 y5
   unfold fields_Age.j3
   repeat' first
   | (with_reducible exact ih0 _ _ _ _)
   | (with_reducible exact ih1 _ _ _ _ _ _ _ _)
   | (with_reducible exact ih2 _ _ _ _ _ _ _ _)
   | (with_reducible exact ih3 _ _ _ _ _ _)
   | (with_reducible exact LeO.refl _)
   | (with_reducible exact LeO.none _)
   | (with_reducible refine LeO.ite ?_ ?_)
   | (with_reducible refine LeO.bind ?_ (fun _ => ?_))
   | exact ih0 _ _ _ _
   | exact ih1 _ _ _ _ _ _ _ _
   | exact ih2 _ _ _ _ _ _ _ _
   | exact ih3 _ _ _ _ _ _
   | exact LeO.none _
   | refine LeO.ite ?_ ?_
   | refine LeO.bind ?_ (fun _ => ?_)
theorem fields_Age.mono : ∀ a0 k, LeO (fields_Age.f k a0) (fields_Age.f (k + 1) a0) := by
 intro a0 k
 obtain ⟨ih0, ih1, ih2, ih3⟩ := fields_Age.mono_l k
 unfold fields_Age.f
 repeat' first
   | (with_reducible exact ih0 _ _ _ _)
   | (with_reducible exact ih1 _ _ _ _ _ _ _ _)
   | (with_reducible exact ih2 _ _ _ _ _ _ _ _)
   | (with_reducible exact ih3 _ _ _ _ _ _)
   | (with_reducible exact LeO.refl _)
   | (with_reducible exact LeO.none _)
   | (with_reducible refine LeO.ite ?_ ?_)
   | (with_reducible refine LeO.bind ?_ (fun _ => ?_))
   | exact ih0 _ _ _ _
   | exact ih1 _ _ _ _ _ _ _ _
   | exact ih2 _ _ _ _ _ _ _ _
   | exact ih3 _ _ _ _ _ _
   | exact LeO.none _
   | refine LeO.ite ?_ ?_
   | refine LeO.bind ?_ (fun _ => ?_)
set_option maxHeartbeats 8000000 in
set_option maxRecDepth 100000 in
theorem fields_Age.calls (k : Nat) (A0 : Option Addr) (c0 : Nat) (l0 : List (S24)) (r1 : Int) (r2 : Bool) (w : World) (hr0 : Kd.C k24 w A0 l0.length l0) (hc0 : l0.length ≤ c0) (hS_ : StdW w) (h : fields_Age.f k l0 = some (r1, r2)) :
  Calls Tryd.prog 9 #[.slice A0 l0.length c0] w fun e w' => e = .returned (.tuple #[.int .i64 r1, .bool r2]) ∧ Below w.heap.size w w' := by
 have HR0 := Aside0.mk hr0
 have HC0 := Aside0.mk hc0
 clear hr0 hc0
 have HS_ := Aside0.mk hS_
 clear hS_
 have HB := Aside0.mk (Below.refl w.heap.size w)
 have H : ((E.Directives.f l0).bind fun t101 => (fields_Age.l0 k 0 t101 (t101.length : Int) 0)) = some (r1, r2) := h
 clear h
 replace H := Option.bind_eq_some_iff.mp H
 obtain ⟨t101, A20, H⟩ := H
 replace H : (fields_Age.l0 k 0 t101 (t101.length : Int) 0) = some (r1, r2) := H
 have A2 := Aside0.mk A20
 clear A20
 have H' := Aside0.mk H
 clear H
 go_enter Tryd.func9, Tryd.ntmps9
 go_wp2_with (first | ((with_reducible refine gate_callee (f := 13) rfl ?_); refine goesL_ (some 13) rfl rfl Tryd.func13 (by kernel_rfl) rfl #[.slice A0 l0.length c0] rfl (by (try simp only [List.map_toArray, List.map_cons, List.map_nil]); first | done | rfl | (simp only [List.length_drop, List.length_take]; rfl)) ?_; (with_reducible refine (E.Directives.calls _ _ l0 t101 _ ?side1 ?side2 ?side3 A2.out).mono ?_); (case side1 => repeat (first | exact HR0.out | (with_reducible refine Kd.C_alloc ?_ _) | (with_reducible refine Kd.C_drewN ?_ _) | (with_reducible refine Kd.C_drew ?_))); (case side2 => exact HC0.out); (case side3 => exact StdW.below HS_.out (by repeat (first | (with_reducible first | exact HB.out | apply below_alloc | apply pw_below_drewN | apply below_drew1) | exact HB.out))); rintro e w3 ⟨v102, rfl, ho0, hb⟩; refine ⟨_, rfl, ?_⟩; have n0_ := Aside0.mk (Kd.R_lower ho0 (below_size (by repeat (first | (with_reducible first | exact HB.out | apply below_alloc | apply pw_below_drewN | apply below_drew1) | exact HB.out)))); have n1_ := Aside0.mk (below_step (by repeat (first | (with_reducible first | exact HB.out | apply below_alloc | apply pw_below_drewN | apply below_drew1) | exact HB.out)) hb); clear HB; have HO103 := n0_; have HB := n1_; clear n0_ n1_; (try clear hb); (try clear hb2); (try clear hk); (try clear hi); (try clear ho0); obtain ⟨Ao4, co4, eo4⟩ := Kd.R_slice HO103.out; subst eo4))
 go_loopg [4, 15] k (fun kq v4 v15 w' => ∃ (x4_1 : Int) (x15_1 : Int), v4 = .int .i64 x4_1 ∧ v15 = .int .i64 x15_1 ∧ Aside0 (fields_Age.l0 kq x4_1 t101 (t101.length : Int) x15_1 = some (r1, r2)) ∧ Aside0 (kq ≤ k) ∧ Aside0 (Kd.R Kd.string 9 w' w.heap.size (fun _ => True) (.slice Ao4 t101.length co4) t101) ∧ Aside0 (Below w.heap.size w w'))
 case atStart => exact ⟨(0), (0), (by first | rfl | (simp; done) | (simp [*]; done)), (by first | rfl | (simp; done) | (simp [*]; done)), H', ⟨Nat.le_refl _⟩, ⟨by (with_reducible repeat (first | apply Kd.R_alloc | apply Kd.R_drewN | apply Kd.R_drew)); exact HO103.out⟩, ⟨by repeat (first | (with_reducible first | exact HB.out | apply below_alloc | apply pw_below_drewN | apply below_drew1) | exact HB.out)⟩⟩
 case round =>
  clear H'
  try clear c1
  try clear p2
  obtain ⟨x4_1, x15_1, rfl, rfl, HA, HK1, HO_13, HB⟩ := hrel
  cases gk with
  | zero => exact absurd HA.out (by simp [fields_Age.l0])
  | succ k1 =>
   have H := HA.out
   clear HA
   simp only [fields_Age.l0] at H
   by_cases c5 : x15_1 < (t101.length : Int)
   ·rw [if_pos c5] at H
    have c5b0 : decide (x15_1 < (t101.length : Int)) = true := decide_eq_true c5
    clear c5
    by_cases c6 : 0 ≤ x15_1
    ·rw [if_pos c6] at H
     have c6b0 : decide (0 ≤ x15_1) = true := decide_eq_true c6
     clear c6
     by_cases c7 : x15_1 < (t101.length : Int)
     ·rw [if_pos c7] at H
      have c7b0 : decide (x15_1 < (t101.length : Int)) = true := decide_eq_true c7
      clear c7
      replace H := Option.bind_eq_some_iff.mp H
      obtain ⟨⟨t105, t106, t107⟩, A80, H⟩ := H
      replace H : (if t105.toList = ([110, 111, 45, 115, 116, 111, 114, 101] : List UInt8) then (fields_Age.j1 k1 x4_1 t105 t106 t107 t101 (t101.length : Int) x15_1 (!t107)) else (fields_Age.j1 k1 x4_1 t105 t106 t107 t101 (t101.length : Int) x15_1 false)) = some (r1, r2) := H
      have A8 := Aside0.mk A80
      clear A80
      have HC9 := Aside0.mk H
      clear H
      have p104 : 0 ≤ (x15_1 : Int) := of_decide_eq_true (by first | (with_reducible assumption) | assumption)
      have q104 : x15_1 < (t101.length : Int) := of_decide_eq_true (by first | (with_reducible assumption) | assumption)
      obtain ⟨ad104, e104, hx104_0⟩ := Kd.at_string (Kd.R_reads' HO_13.out).2.2 x15_1 p104 q104
      cases e104
      replace p104 := eq_true p104
      replace q104 := eq_true q104
      go_upto_region 6 with (first | ((with_reducible refine gate_callee (f := 14) rfl ?_); refine goesL_ (some 21) rfl rfl Tryd.func14 (by kernel_rfl) rfl #[.string (rdOf ByteArray.empty t101 x15_1), .string (⟨#[61]⟩ : ByteArray)] rfl (by (try simp only [List.map_toArray, List.map_cons, List.map_nil]); first | done | rfl | (simp only [List.length_drop, List.length_take]; rfl)) ?_; (with_reducible refine (E.Cut.calls (rdOf ByteArray.empty t101 x15_1) (⟨#[61]⟩ : ByteArray) t105 t106 t107 _ ?side1 A8.out).mono ?_); (case side1 => exact StdW.below HS_.out (by repeat (first | (with_reducible first | exact HB.out | apply below_alloc | apply pw_below_drewN | apply below_drew1) | exact HB.out))); rintro e w10 ⟨rfl, hb⟩; refine ⟨_, rfl, ?_⟩; have n0_ := Aside0.mk (Kd.R_below (by (with_reducible repeat (first | apply Kd.R_alloc | apply Kd.R_drewN | apply Kd.R_drew)); exact HO_13.out) hb); have n1_ := Aside0.mk (below_step (by repeat (first | (with_reducible first | exact HB.out | apply below_alloc | apply pw_below_drewN | apply below_drew1) | exact HB.out)) hb); clear HO_13; clear HB; have HO_13 := n0_; have HB := n1_; clear n0_ n1_; (try clear hb); (try clear hb2); (try clear hk); (try clear hi)))
      (try simp only [Act.put, List.setIfInBounds_toArray, List.set_cons_zero, List.set_cons_succ])
      go_cut [25] (fun v25 wc => ∃ (kq : Nat) (x25_8 : Bool), v25 = .bool x25_8 ∧ Aside0 (fields_Age.j1 kq x4_1 t105 t106 t107 t101 (t101.length : Int) x15_1 x25_8 = some (r1, r2)) ∧ Aside0 (kq ≤ k1) ∧ Aside0 (Kd.R Kd.string 9 wc w.heap.size (fun _ => True) (.slice (some ad104) t101.length co4) t101) ∧ Aside0 (Below w.heap.size w wc))
      case first =>
       have H := HC9.out
       clear HC9
       by_cases c11 : t105.toList = ([110, 111, 45, 115, 116, 111, 114, 101] : List UInt8)
       ·rw [if_pos c11] at H
        have c11b0 : (t105.toList == ([110, 111, 45, 115, 116, 111, 114, 101] : List UInt8)) = true := beq_iff_eq.mpr c11
        have c11b1 : (t105.toList != ([110, 111, 45, 115, 116, 111, 114, 101] : List UInt8)) = false := bne_eq_false_iff_eq.mpr c11
        clear c11
        (first | rw [c11b0] | (simp only [i64_w, i32_w]; rw [c11b0]) | skip)
        have H' := Aside0.mk H
        clear H
        go_wp2
        go_meet
        case rel => exact ⟨_, (!t107), (by first | rfl | (simp; done) | (simp [*]; done)), H', ⟨by have := HK1.out; first | omega | exact Nat.le_refl _⟩, ⟨by (with_reducible repeat (first | apply Kd.R_alloc | apply Kd.R_drewN | apply Kd.R_drew)); exact HO_13.out⟩, ⟨by repeat (first | (with_reducible first | exact HB.out | apply below_alloc | apply pw_below_drewN | apply below_drew1) | exact HB.out)⟩⟩
       ·rw [if_neg c11] at H
        have c11b0 : (t105.toList == ([110, 111, 45, 115, 116, 111, 114, 101] : List UInt8)) = false := beq_eq_false_iff_ne.mpr c11
        have c11b1 : (t105.toList != ([110, 111, 45, 115, 116, 111, 114, 101] : List UInt8)) = true := bne_iff_ne.mpr c11
        (first | rw [c11b0] | (simp only [i64_w, i32_w]; rw [c11b0]) | skip)
        have H' := Aside0.mk H
        clear H
        go_wp2
        go_meet
        case rel => exact ⟨_, (false), (by first | rfl | (simp; done) | (simp [*]; done)), H', ⟨by have := HK1.out; first | omega | exact Nat.le_refl _⟩, ⟨by (with_reducible repeat (first | apply Kd.R_alloc | apply Kd.R_drewN | apply Kd.R_drew)); exact HO_13.out⟩, ⟨by repeat (first | (with_reducible first | exact HB.out | apply below_alloc | apply pw_below_drewN | apply below_drew1) | exact HB.out)⟩⟩
      case rest =>
       clear HC9
       try clear c1
       try clear p1
       try clear q1
       try clear hx1
       try clear p2
       try clear c5
       try clear c5b0
       try clear c6
       try clear c6b0
       try clear c7
       try clear c7b0
       try clear c9
       try clear p10
       try clear q10
       try clear hx10
       try clear c11
       try clear c11b0
       try clear c11b1
       try clear hx104_0
       try clear p104
       try clear p2
       try clear q104
       obtain ⟨kq, x25_8, rfl, HA, HJ8, HO_13, HB⟩ := hcut
       cases kq with
       | zero => exact absurd HA.out (by simp [fields_Age.j1])
       | succ kj8 =>
        have H := HA.out
        clear HA
        simp only [fields_Age.j1] at H
        have HC12 := Aside0.mk H
        clear H
        go_upto_if 25 with (fail)
        go_cut [25] (fun v25 wc => ∃ (kq : Nat) (x25_11 : Bool), v25 = .bool x25_11 ∧ Aside0 (fields_Age.j2 kq x4_1 t105 t106 t107 t101 (t101.length : Int) x15_1 x25_11 = some (r1, r2)) ∧ Aside0 (kq ≤ kj8) ∧ Aside0 (Kd.R Kd.string 9 wc w.heap.size (fun _ => True) (.slice (some ad104) t101.length co4) t101) ∧ Aside0 (Below w.heap.size w wc))
        case first =>
         have H := HC12.out
         clear HC12
         by_cases c13 : x25_8 = true
         ·subst c13
          have H1 : (fields_Age.j2 kj8 x4_1 t105 t106 t107 t101 (t101.length : Int) x15_1 true) = some (r1, r2) := by rw [if_pos rfl] at H; exact H
          clear H
          have H := H1
          clear H1
          have H' := Aside0.mk H
          clear H
          go_wp2
          go_meet
          case rel => exact ⟨_, (true), (by first | rfl | (simp; done) | (simp [*]; done)), H', ⟨by have := HK1.out; have := HJ8.out; first | omega | exact Nat.le_refl _⟩, ⟨by (with_reducible repeat (first | apply Kd.R_alloc | apply Kd.R_drewN | apply Kd.R_drew)); exact HO_13.out⟩, ⟨by repeat (first | (with_reducible first | exact HB.out | apply below_alloc | apply pw_below_drewN | apply below_drew1) | exact HB.out)⟩⟩
         ·replace c13 := Bool.eq_false_iff.mpr c13
          subst c13
          have H1 : (if t105.toList = ([110, 111, 45, 99, 97, 99, 104, 101] : List UInt8) then (fields_Age.j2 kj8 x4_1 t105 t106 t107 t101 (t101.length : Int) x15_1 (t105.toList == ([110, 111, 45, 99, 97, 99, 104, 101] : List UInt8))) else (fields_Age.j2 kj8 x4_1 t105 t106 t107 t101 (t101.length : Int) x15_1 (t105.toList == ([112, 114, 105, 118, 97, 116, 101] : List UInt8)))) = some (r1, r2) := by rw [if_neg (show ¬ (false = true) by decide)] at H; exact H
          clear H
          have H := H1
          clear H1
          by_cases c14 : t105.toList = ([110, 111, 45, 99, 97, 99, 104, 101] : List UInt8)
          ·rw [if_pos c14] at H
           have c14b0 : (t105.toList == ([110, 111, 45, 99, 97, 99, 104, 101] : List UInt8)) = true := beq_iff_eq.mpr c14
           have c14b1 : (t105.toList != ([110, 111, 45, 99, 97, 99, 104, 101] : List UInt8)) = false := bne_eq_false_iff_eq.mpr c14
           clear c14
           (first | rw [c14b0] | (simp only [i64_w, i32_w]; rw [c14b0]) | skip)
           have H' := Aside0.mk H
           clear H
           go_wp2
           go_meet
           case rel => exact ⟨_, ((t105.toList == ([110, 111, 45, 99, 97, 99, 104, 101] : List UInt8))), (by first | rfl | (simp; done) | (simp [*]; done)), H', ⟨by have := HK1.out; have := HJ8.out; first | omega | exact Nat.le_refl _⟩, ⟨by (with_reducible repeat (first | apply Kd.R_alloc | apply Kd.R_drewN | apply Kd.R_drew)); exact HO_13.out⟩, ⟨by repeat (first | (with_reducible first | exact HB.out | apply below_alloc | apply pw_below_drewN | apply below_drew1) | exact HB.out)⟩⟩
          ·rw [if_neg c14] at H
           have c14b0 : (t105.toList == ([110, 111, 45, 99, 97, 99, 104, 101] : List UInt8)) = false := beq_eq_false_iff_ne.mpr c14
           have c14b1 : (t105.toList != ([110, 111, 45, 99, 97, 99, 104, 101] : List UInt8)) = true := bne_iff_ne.mpr c14
           (first | rw [c14b0] | (simp only [i64_w, i32_w]; rw [c14b0]) | skip)
           have H' := Aside0.mk H
           clear H
           go_wp2
           go_meet
           case rel => exact ⟨_, ((t105.toList == ([112, 114, 105, 118, 97, 116, 101] : List UInt8))), (by first | rfl | (simp; done) | (simp [*]; done)), H', ⟨by have := HK1.out; have := HJ8.out; first | omega | exact Nat.le_refl _⟩, ⟨by (with_reducible repeat (first | apply Kd.R_alloc | apply Kd.R_drewN | apply Kd.R_drew)); exact HO_13.out⟩, ⟨by repeat (first | (with_reducible first | exact HB.out | apply below_alloc | apply pw_below_drewN | apply below_drew1) | exact HB.out)⟩⟩
        case rest =>
         clear HC12
         try clear c1
         try clear p1
         try clear q1
         try clear hx1
         try clear p2
         try clear c5
         try clear c5b0
         try clear c6
         try clear c6b0
         try clear c7
         try clear c7b0
         try clear c9
         try clear p10
         try clear q10
         try clear hx10
         try clear c11
         try clear c11b0
         try clear c11b1
         try clear c13
         try clear c14
         try clear c14b0
         try clear c14b1
         try clear hx104_0
         try clear p1
         try clear p10
         try clear p104
         try clear p2
         try clear q1
         try clear q10
         try clear q104
         obtain ⟨kq, x25_11, rfl, HA, HJ11, HO_13, HB⟩ := hcut
         cases kq with
         | zero => exact absurd HA.out (by simp [fields_Age.j2])
         | succ kj11 =>
          have H := HA.out
          clear HA
          simp only [fields_Age.j2] at H
          by_cases c15 : x25_11 = true
          ·subst c15
           have H1 : (some (0, false)) = some (r1, r2) := by rw [if_pos rfl] at H; exact H
           clear H
           have H := H1
           clear H1
           simp only [Option.some.injEq, Prod.mk.injEq] at H
           obtain ⟨rfl, rfl⟩ := H
           go_wp2
           go_ret2
           exact ⟨by first | rfl | (simp [errW_none, errW_some] <;> rfl) | (simp [*, errW_none, errW_some] <;> rfl), by repeat (first | (with_reducible first | exact HB.out | apply below_alloc | apply pw_below_drewN | apply below_drew1) | exact HB.out)⟩
          ·replace c15 := Bool.eq_false_iff.mpr c15
           subst c15
           have H1 : (if t105.toList = ([109, 97, 120, 45, 97, 103, 101] : List UInt8) then (fields_Age.j3 kj11 x4_1 t106 t101 (t101.length : Int) x15_1 t107) else (fields_Age.j3 kj11 x4_1 t106 t101 (t101.length : Int) x15_1 false)) = some (r1, r2) := by rw [if_neg (show ¬ (false = true) by decide)] at H; exact H
           clear H
           have H := H1
           clear H1
           have HC16 := Aside0.mk H
           clear H
           go_upto_region 10 with (fail)
           go_cut [36] (fun v36 wc => ∃ (kq : Nat) (x36_15 : Bool), v36 = .bool x36_15 ∧ Aside0 (fields_Age.j3 kq x4_1 t106 t101 (t101.length : Int) x15_1 x36_15 = some (r1, r2)) ∧ Aside0 (kq ≤ kj11) ∧ Aside0 (Kd.R Kd.string 9 wc w.heap.size (fun _ => True) (.slice (some ad104) t101.length co4) t101) ∧ Aside0 (Below w.heap.size w wc))
           case first =>
            have H := HC16.out
            clear HC16
            by_cases c17 : t105.toList = ([109, 97, 120, 45, 97, 103, 101] : List UInt8)
            ·rw [if_pos c17] at H
             have c17b0 : (t105.toList == ([109, 97, 120, 45, 97, 103, 101] : List UInt8)) = true := beq_iff_eq.mpr c17
             have c17b1 : (t105.toList != ([109, 97, 120, 45, 97, 103, 101] : List UInt8)) = false := bne_eq_false_iff_eq.mpr c17
             clear c17
             (first | rw [c17b0] | (simp only [i64_w, i32_w]; rw [c17b0]) | skip)
             have H' := Aside0.mk H
             clear H
             go_wp2
             go_meet
             case rel => exact ⟨_, (t107), (by first | rfl | (simp; done) | (simp [*]; done)), H', ⟨by have := HK1.out; have := HJ8.out; have := HJ11.out; first | omega | exact Nat.le_refl _⟩, ⟨by (with_reducible repeat (first | apply Kd.R_alloc | apply Kd.R_drewN | apply Kd.R_drew)); exact HO_13.out⟩, ⟨by repeat (first | (with_reducible first | exact HB.out | apply below_alloc | apply pw_below_drewN | apply below_drew1) | exact HB.out)⟩⟩
            ·rw [if_neg c17] at H
             have c17b0 : (t105.toList == ([109, 97, 120, 45, 97, 103, 101] : List UInt8)) = false := beq_eq_false_iff_ne.mpr c17
             have c17b1 : (t105.toList != ([109, 97, 120, 45, 97, 103, 101] : List UInt8)) = true := bne_iff_ne.mpr c17
             (first | rw [c17b0] | (simp only [i64_w, i32_w]; rw [c17b0]) | skip)
             have H' := Aside0.mk H
             clear H
             go_wp2
             go_meet
             case rel => exact ⟨_, (false), (by first | rfl | (simp; done) | (simp [*]; done)), H', ⟨by have := HK1.out; have := HJ8.out; have := HJ11.out; first | omega | exact Nat.le_refl _⟩, ⟨by (with_reducible repeat (first | apply Kd.R_alloc | apply Kd.R_drewN | apply Kd.R_drew)); exact HO_13.out⟩, ⟨by repeat (first | (with_reducible first | exact HB.out | apply below_alloc | apply pw_below_drewN | apply below_drew1) | exact HB.out)⟩⟩
           case rest =>
            clear HC16
            try clear c1
            try clear p1
            try clear q1
            try clear hx1
            try clear p2
            try clear c5
            try clear c5b0
            try clear c6
            try clear c6b0
            try clear c7
            try clear c7b0
            try clear c9
            try clear p10
            try clear q10
            try clear hx10
            try clear c11
            try clear c11b0
            try clear c11b1
            try clear c13
            try clear c14
            try clear c14b0
            try clear c14b1
            try clear c15
            try clear c17
            try clear c17b0
            try clear c17b1
            try clear hx104_0
            try clear p1
            try clear p10
            try clear p104
            try clear p2
            try clear q1
            try clear q10
            try clear q104
            obtain ⟨kq, x36_15, rfl, HA, HJ15, HO_13, HB⟩ := hcut
            cases kq with
            | zero => exact absurd HA.out (by simp [fields_Age.j3])
            | succ kj15 =>
             have H := HA.out
             clear HA
             simp only [fields_Age.j3] at H
             by_cases c18 : x36_15 = true
             ·subst c18
              have H1 : ((E.fnumber.f t106).bind fun bt108 => (if bt108.2 = true then (if bt108.1 = 0 then (some (0, false)) else (if x4_1 > 0 then (some (0, false)) else (fields_Age.l0 kj15 (mn bt108.1 1048576) t101 (t101.length : Int) (wrap64 (x15_1 + 1))))) else (some (0, false)))) = some (r1, r2) := by rw [if_pos rfl] at H; exact H
              clear H
              have H := H1
              clear H1
              replace H := Option.bind_eq_some_iff.mp H
              obtain ⟨⟨t108, t109⟩, A190, H⟩ := H
              replace H : (if t109 = true then (if t108 = 0 then (some (0, false)) else (if x4_1 > 0 then (some (0, false)) else (fields_Age.l0 kj15 (mn t108 1048576) t101 (t101.length : Int) (wrap64 (x15_1 + 1))))) else (some (0, false))) = some (r1, r2) := H
              have A19 := Aside0.mk A190
              clear A190
              by_cases c20 : t109 = true
              ·subst c20
               have H1 : (if t108 = 0 then (some (0, false)) else (if x4_1 > 0 then (some (0, false)) else (fields_Age.l0 kj15 (mn t108 1048576) t101 (t101.length : Int) (wrap64 (x15_1 + 1))))) = some (r1, r2) := by rw [if_pos rfl] at H; exact H
               clear H
               have H := H1
               clear H1
               by_cases c21 : t108 = 0
               ·rw [if_pos c21] at H
                have c21b0 : (t108 == 0) = true := beq_iff_eq.mpr c21
                have c21b1 : (t108 != 0) = false := bne_eq_false_iff_eq.mpr c21
                clear c21
                simp only [Option.some.injEq, Prod.mk.injEq] at H
                obtain ⟨rfl, rfl⟩ := H
                go_wp2_with (first | ((with_reducible refine gate_callee (f := 15) rfl ?_); refine goesL_ (some 44) rfl rfl Tryd.func15 (by kernel_rfl) rfl #[.string t106] rfl (by (try simp only [List.map_toArray, List.map_cons, List.map_nil]); first | done | rfl | (simp only [List.length_drop, List.length_take]; rfl)) ?_; (with_reducible refine (E.fnumber.calls t106 t108 true _ ?side1 A19.out).mono ?_); (case side1 => exact StdW.below HS_.out (by repeat (first | (with_reducible first | exact HB.out | apply below_alloc | apply pw_below_drewN | apply below_drew1) | exact HB.out))); rintro e w22 ⟨rfl, hb⟩; refine ⟨_, rfl, ?_⟩; have n0_ := Aside0.mk (Kd.R_below (by (with_reducible repeat (first | apply Kd.R_alloc | apply Kd.R_drewN | apply Kd.R_drew)); exact HO_13.out) hb); have n1_ := Aside0.mk (below_step (by repeat (first | (with_reducible first | exact HB.out | apply below_alloc | apply pw_below_drewN | apply below_drew1) | exact HB.out)) hb); clear HO_13; clear HB; have HO_13 := n0_; have HB := n1_; clear n0_ n1_; (try clear hb); (try clear hb2); (try clear hk); (try clear hi)))
                go_ret2
                exact ⟨by first | rfl | (simp [errW_none, errW_some] <;> rfl) | (simp [*, errW_none, errW_some] <;> rfl), by repeat (first | (with_reducible first | exact HB.out | apply below_alloc | apply pw_below_drewN | apply below_drew1) | exact HB.out)⟩
               ·rw [if_neg c21] at H
                have c21b0 : (t108 == 0) = false := beq_eq_false_iff_ne.mpr c21
                have c21b1 : (t108 != 0) = true := bne_iff_ne.mpr c21
                by_cases c23 : x4_1 > 0
                ·rw [if_pos c23] at H
                 have c23b0 : decide (0 < x4_1) = true := decide_eq_true c23
                 clear c23
                 simp only [Option.some.injEq, Prod.mk.injEq] at H
                 obtain ⟨rfl, rfl⟩ := H
                 go_wp2_with (first | ((with_reducible refine gate_callee (f := 15) rfl ?_); refine goesL_ (some 44) rfl rfl Tryd.func15 (by kernel_rfl) rfl #[.string t106] rfl (by (try simp only [List.map_toArray, List.map_cons, List.map_nil]); first | done | rfl | (simp only [List.length_drop, List.length_take]; rfl)) ?_; (with_reducible refine (E.fnumber.calls t106 t108 true _ ?side1 A19.out).mono ?_); (case side1 => exact StdW.below HS_.out (by repeat (first | (with_reducible first | exact HB.out | apply below_alloc | apply pw_below_drewN | apply below_drew1) | exact HB.out))); rintro e w24 ⟨rfl, hb⟩; refine ⟨_, rfl, ?_⟩; have n0_ := Aside0.mk (Kd.R_below (by (with_reducible repeat (first | apply Kd.R_alloc | apply Kd.R_drewN | apply Kd.R_drew)); exact HO_13.out) hb); have n1_ := Aside0.mk (below_step (by repeat (first | (with_reducible first | exact HB.out | apply below_alloc | apply pw_below_drewN | apply below_drew1) | exact HB.out)) hb); clear HO_13; clear HB; have HO_13 := n0_; have HB := n1_; clear n0_ n1_; (try clear hb); (try clear hb2); (try clear hk); (try clear hi)))
                 go_ret2
                 exact ⟨by first | rfl | (simp [errW_none, errW_some] <;> rfl) | (simp [*, errW_none, errW_some] <;> rfl), by repeat (first | (with_reducible first | exact HB.out | apply below_alloc | apply pw_below_drewN | apply below_drew1) | exact HB.out)⟩
                ·rw [if_neg c23] at H
                 have c23b0 : decide (0 < x4_1) = false := decide_eq_false c23
                 clear c23
                 obtain ⟨ji25, hji25⟩ : ∃ j_ : Int, (mn t108 1048576) = j_ := ⟨_, rfl⟩
                 replace H : (fields_Age.l0 kj15 ji25 t101 (t101.length : Int) (wrap64 (x15_1 + 1))) = some (r1, r2) := by first | (rw [hji25] at H; exact H) | (simp only [hji25] at H ⊢; exact H)
                 (try rw [hji25] at A19)
                 (try (have hji25h : ji25 ≤ 1048576 := by (rw [← hji25]; unfold mn; (repeat' split) <;> omega)))
                 (try (have hji25g : ji25 ≤ 64 := by omega))
                 have hji25_ : (if 1048576 < t108 then 1048576 else t108) = ji25 := hji25
                 have H' := Aside0.mk H
                 clear H
                 go_wp2_with (first | ((with_reducible refine gate_callee (f := 15) rfl ?_); refine goesL_ (some 44) rfl rfl Tryd.func15 (by kernel_rfl) rfl #[.string t106] rfl (by (try simp only [List.map_toArray, List.map_cons, List.map_nil]); first | done | rfl | (simp only [List.length_drop, List.length_take]; rfl)) ?_; (with_reducible refine (E.fnumber.calls t106 t108 true _ ?side1 A19.out).mono ?_); (case side1 => exact StdW.below HS_.out (by repeat (first | (with_reducible first | exact HB.out | apply below_alloc | apply pw_below_drewN | apply below_drew1) | exact HB.out))); rintro e w26 ⟨rfl, hb⟩; refine ⟨_, rfl, ?_⟩; have n0_ := Aside0.mk (Kd.R_below (by (with_reducible repeat (first | apply Kd.R_alloc | apply Kd.R_drewN | apply Kd.R_drew)); exact HO_13.out) hb); have n1_ := Aside0.mk (below_step (by repeat (first | (with_reducible first | exact HB.out | apply below_alloc | apply pw_below_drewN | apply below_drew1) | exact HB.out)) hb); clear HO_13; clear HB; have HO_13 := n0_; have HB := n1_; clear n0_ n1_; (try clear hb); (try clear hb2); (try clear hk); (try clear hi)))
                 go_roundg kj15
                 case measure => have := HK1.out; have := HJ8.out; have := HJ11.out; have := HJ15.out; omega
                 case rel => exact ⟨(ji25), (wrap64 (x15_1 + 1)), (by first | rfl | (simp; done) | (simp only [← hji25] <;> (first | rfl | simp)) | (simp [*]; done)), (by first | rfl | (simp; done) | (simp [*]; done)), H', ⟨by have := HK1.out; have := HJ8.out; have := HJ11.out; have := HJ15.out; omega⟩, ⟨by (with_reducible repeat (first | apply Kd.R_alloc | apply Kd.R_drewN | apply Kd.R_drew)); exact HO_13.out⟩, ⟨by repeat (first | (with_reducible first | exact HB.out | apply below_alloc | apply pw_below_drewN | apply below_drew1) | exact HB.out)⟩⟩
              ·replace c20 := Bool.eq_false_iff.mpr c20
               subst c20
               have H1 : (some (0, false)) = some (r1, r2) := by rw [if_neg (show ¬ (false = true) by decide)] at H; exact H
               clear H
               have H := H1
               clear H1
               simp only [Option.some.injEq, Prod.mk.injEq] at H
               obtain ⟨rfl, rfl⟩ := H
               go_wp2_with (first | ((with_reducible refine gate_callee (f := 15) rfl ?_); refine goesL_ (some 44) rfl rfl Tryd.func15 (by kernel_rfl) rfl #[.string t106] rfl (by (try simp only [List.map_toArray, List.map_cons, List.map_nil]); first | done | rfl | (simp only [List.length_drop, List.length_take]; rfl)) ?_; (with_reducible refine (E.fnumber.calls t106 t108 false _ ?side1 A19.out).mono ?_); (case side1 => exact StdW.below HS_.out (by repeat (first | (with_reducible first | exact HB.out | apply below_alloc | apply pw_below_drewN | apply below_drew1) | exact HB.out))); rintro e w27 ⟨rfl, hb⟩; refine ⟨_, rfl, ?_⟩; have n0_ := Aside0.mk (Kd.R_below (by (with_reducible repeat (first | apply Kd.R_alloc | apply Kd.R_drewN | apply Kd.R_drew)); exact HO_13.out) hb); have n1_ := Aside0.mk (below_step (by repeat (first | (with_reducible first | exact HB.out | apply below_alloc | apply pw_below_drewN | apply below_drew1) | exact HB.out)) hb); clear HO_13; clear HB; have HO_13 := n0_; have HB := n1_; clear n0_ n1_; (try clear hb); (try clear hb2); (try clear hk); (try clear hi)))
               go_ret2
               exact ⟨by first | rfl | (simp [errW_none, errW_some] <;> rfl) | (simp [*, errW_none, errW_some] <;> rfl), by repeat (first | (with_reducible first | exact HB.out | apply below_alloc | apply pw_below_drewN | apply below_drew1) | exact HB.out)⟩
             ·replace c18 := Bool.eq_false_iff.mpr c18
              subst c18
              have H1 : (fields_Age.l0 kj15 x4_1 t101 (t101.length : Int) (wrap64 (x15_1 + 1))) = some (r1, r2) := by rw [if_neg (show ¬ (false = true) by decide)] at H; exact H
              clear H
              have H := H1
              clear H1
              have H' := Aside0.mk H
              clear H
              go_wp2
              go_roundg kj15
              case measure => have := HK1.out; have := HJ8.out; have := HJ11.out; have := HJ15.out; omega
              case rel => exact ⟨(x4_1), (wrap64 (x15_1 + 1)), (by first | rfl | (simp; done) | (simp [*]; done)), (by first | rfl | (simp; done) | (simp [*]; done)), H', ⟨by have := HK1.out; have := HJ8.out; have := HJ11.out; have := HJ15.out; omega⟩, ⟨by (with_reducible repeat (first | apply Kd.R_alloc | apply Kd.R_drewN | apply Kd.R_drew)); exact HO_13.out⟩, ⟨by repeat (first | (with_reducible first | exact HB.out | apply below_alloc | apply pw_below_drewN | apply below_drew1) | exact HB.out)⟩⟩
     ·rw [if_neg c7] at H
      exact absurd H (by simp)
    ·rw [if_neg c6] at H
     exact absurd H (by simp)
   ·rw [if_neg c5] at H
    have c5b0 : decide (x15_1 < (t101.length : Int)) = false := decide_eq_false c5
    clear c5
    simp only [Option.some.injEq, Prod.mk.injEq] at H
    obtain ⟨rfl, rfl⟩ := H
    go_wp2
    go_ret2
    exact ⟨by first | rfl | (simp [errW_none, errW_some] <;> rfl) | (simp [*, errW_none, errW_some] <;> rfl), by repeat (first | (with_reducible first | exact HB.out | apply below_alloc | apply pw_below_drewN | apply below_drew1) | exact HB.out)⟩
def head_sign.f (a0 : Int) : Option (Bool) := if a0 ≥ 97 then (if a0 ≤ 122 then (some true) else (if a0 ≥ 65 then (if a0 ≤ 90 then (some true) else (if a0 ≥ 48 then (if a0 ≤ 57 then (some true) else (if a0 > 32 then ((E.IndexByte.f (⟨#[33, 35, 36, 37, 38, 39, 42, 43, 45, 46, 94, 95, 96, 124, 126]⟩ : ByteArray) a0).bind fun t110 => (some (decide (t110 ≥ 0)))) else (some false))) else (if a0 > 32 then ((E.IndexByte.f (⟨#[33, 35, 36, 37, 38, 39, 42, 43, 45, 46, 94, 95, 96, 124, 126]⟩ : ByteArray) a0).bind fun t111 => (some (decide (t111 ≥ 0)))) else (some false)))) else (if a0 ≥ 48 then (if a0 ≤ 57 then (some true) else (if a0 > 32 then ((E.IndexByte.f (⟨#[33, 35, 36, 37, 38, 39, 42, 43, 45, 46, 94, 95, 96, 124, 126]⟩ : ByteArray) a0).bind fun t112 => (some (decide (t112 ≥ 0)))) else (some false))) else (if a0 > 32 then ((E.IndexByte.f (⟨#[33, 35, 36, 37, 38, 39, 42, 43, 45, 46, 94, 95, 96, 124, 126]⟩ : ByteArray) a0).bind fun t113 => (some (decide (t113 ≥ 0)))) else (some false))))) else (if a0 ≥ 65 then (if a0 ≤ 90 then (some true) else (if a0 ≥ 48 then (if a0 ≤ 57 then (some true) else (if a0 > 32 then ((E.IndexByte.f (⟨#[33, 35, 36, 37, 38, 39, 42, 43, 45, 46, 94, 95, 96, 124, 126]⟩ : ByteArray) a0).bind fun t114 => (some (decide (t114 ≥ 0)))) else (some false))) else (if a0 > 32 then ((E.IndexByte.f (⟨#[33, 35, 36, 37, 38, 39, 42, 43, 45, 46, 94, 95, 96, 124, 126]⟩ : ByteArray) a0).bind fun t115 => (some (decide (t115 ≥ 0)))) else (some false)))) else (if a0 ≥ 48 then (if a0 ≤ 57 then (some true) else (if a0 > 32 then ((E.IndexByte.f (⟨#[33, 35, 36, 37, 38, 39, 42, 43, 45, 46, 94, 95, 96, 124, 126]⟩ : ByteArray) a0).bind fun t116 => (some (decide (t116 ≥ 0)))) else (some false))) else (if a0 > 32 then ((E.IndexByte.f (⟨#[33, 35, 36, 37, 38, 39, 42, 43, 45, 46, 94, 95, 96, 124, 126]⟩ : ByteArray) a0).bind fun t117 => (some (decide (t117 ≥ 0)))) else (some false))))
set_option maxHeartbeats 8000000 in
set_option maxRecDepth 100000 in
theorem head_sign.calls (a0 : Int) (r : Bool) (w : World) (hS_ : StdW w) (h : head_sign.f a0 = some r) :
  Calls Tryd.prog 57 #[.int .u8 a0] w fun e w' => e = .returned (.bool r) ∧ Below w.heap.size w w' := by
 have HS_ := Aside0.mk hS_
 clear hS_
 have HB := Aside0.mk (Below.refl w.heap.size w)
 have H : (if a0 ≥ 97 then (if a0 ≤ 122 then (some true) else (if a0 ≥ 65 then (if a0 ≤ 90 then (some true) else (if a0 ≥ 48 then (if a0 ≤ 57 then (some true) else (if a0 > 32 then ((E.IndexByte.f (⟨#[33, 35, 36, 37, 38, 39, 42, 43, 45, 46, 94, 95, 96, 124, 126]⟩ : ByteArray) a0).bind fun t110 => (some (decide (t110 ≥ 0)))) else (some false))) else (if a0 > 32 then ((E.IndexByte.f (⟨#[33, 35, 36, 37, 38, 39, 42, 43, 45, 46, 94, 95, 96, 124, 126]⟩ : ByteArray) a0).bind fun t111 => (some (decide (t111 ≥ 0)))) else (some false)))) else (if a0 ≥ 48 then (if a0 ≤ 57 then (some true) else (if a0 > 32 then ((E.IndexByte.f (⟨#[33, 35, 36, 37, 38, 39, 42, 43, 45, 46, 94, 95, 96, 124, 126]⟩ : ByteArray) a0).bind fun t112 => (some (decide (t112 ≥ 0)))) else (some false))) else (if a0 > 32 then ((E.IndexByte.f (⟨#[33, 35, 36, 37, 38, 39, 42, 43, 45, 46, 94, 95, 96, 124, 126]⟩ : ByteArray) a0).bind fun t113 => (some (decide (t113 ≥ 0)))) else (some false))))) else (if a0 ≥ 65 then (if a0 ≤ 90 then (some true) else (if a0 ≥ 48 then (if a0 ≤ 57 then (some true) else (if a0 > 32 then ((E.IndexByte.f (⟨#[33, 35, 36, 37, 38, 39, 42, 43, 45, 46, 94, 95, 96, 124, 126]⟩ : ByteArray) a0).bind fun t114 => (some (decide (t114 ≥ 0)))) else (some false))) else (if a0 > 32 then ((E.IndexByte.f (⟨#[33, 35, 36, 37, 38, 39, 42, 43, 45, 46, 94, 95, 96, 124, 126]⟩ : ByteArray) a0).bind fun t115 => (some (decide (t115 ≥ 0)))) else (some false)))) else (if a0 ≥ 48 then (if a0 ≤ 57 then (some true) else (if a0 > 32 then ((E.IndexByte.f (⟨#[33, 35, 36, 37, 38, 39, 42, 43, 45, 46, 94, 95, 96, 124, 126]⟩ : ByteArray) a0).bind fun t116 => (some (decide (t116 ≥ 0)))) else (some false))) else (if a0 > 32 then ((E.IndexByte.f (⟨#[33, 35, 36, 37, 38, 39, 42, 43, 45, 46, 94, 95, 96, 124, 126]⟩ : ByteArray) a0).bind fun t117 => (some (decide (t117 ≥ 0)))) else (some false))))) = some r := h
 clear h
 by_cases c2 : a0 ≥ 97
 ·rw [if_pos c2] at H
  have c2b0 : decide (97 ≤ a0) = true := decide_eq_true c2
  clear c2
  by_cases c3 : a0 ≤ 122
  ·rw [if_pos c3] at H
   have c3b0 : decide (a0 ≤ 122) = true := decide_eq_true c3
   clear c3
   obtain rfl := Option.some.inj H
   go_enter Tryd.func57, Tryd.ntmps57
   go_wp2
   go_ret
   exact ⟨by first | rfl | (simp [errW_none, errW_some] <;> rfl) | (simp [*, errW_none, errW_some] <;> rfl), by repeat (first | (with_reducible first | exact HB.out | apply below_alloc | apply pw_below_drewN | apply below_drew1) | exact HB.out)⟩
  ·rw [if_neg c3] at H
   have c3b0 : decide (a0 ≤ 122) = false := decide_eq_false c3
   clear c3
   by_cases c4 : a0 ≥ 65
   ·rw [if_pos c4] at H
    have c4b0 : decide (65 ≤ a0) = true := decide_eq_true c4
    clear c4
    by_cases c5 : a0 ≤ 90
    ·rw [if_pos c5] at H
     have c5b0 : decide (a0 ≤ 90) = true := decide_eq_true c5
     clear c5
     obtain rfl := Option.some.inj H
     go_enter Tryd.func57, Tryd.ntmps57
     go_wp2
     go_ret
     exact ⟨by first | rfl | (simp [errW_none, errW_some] <;> rfl) | (simp [*, errW_none, errW_some] <;> rfl), by repeat (first | (with_reducible first | exact HB.out | apply below_alloc | apply pw_below_drewN | apply below_drew1) | exact HB.out)⟩
    ·rw [if_neg c5] at H
     have c5b0 : decide (a0 ≤ 90) = false := decide_eq_false c5
     clear c5
     by_cases c6 : a0 ≥ 48
     ·rw [if_pos c6] at H
      have c6b0 : decide (48 ≤ a0) = true := decide_eq_true c6
      clear c6
      by_cases c7 : a0 ≤ 57
      ·rw [if_pos c7] at H
       have c7b0 : decide (a0 ≤ 57) = true := decide_eq_true c7
       clear c7
       obtain rfl := Option.some.inj H
       go_enter Tryd.func57, Tryd.ntmps57
       go_wp2
       go_ret
       exact ⟨by first | rfl | (simp [errW_none, errW_some] <;> rfl) | (simp [*, errW_none, errW_some] <;> rfl), by repeat (first | (with_reducible first | exact HB.out | apply below_alloc | apply pw_below_drewN | apply below_drew1) | exact HB.out)⟩
      ·rw [if_neg c7] at H
       have c7b0 : decide (a0 ≤ 57) = false := decide_eq_false c7
       clear c7
       by_cases c8 : a0 > 32
       ·rw [if_pos c8] at H
        have c8b0 : decide (32 < a0) = true := decide_eq_true c8
        clear c8
        replace H := Option.bind_eq_some_iff.mp H
        obtain ⟨t110, A90, H⟩ := H
        replace H : (some (decide (t110 ≥ 0))) = some r := H
        have A9 := Aside0.mk A90
        clear A90
        obtain rfl := Option.some.inj H
        go_enter Tryd.func57, Tryd.ntmps57
        go_wp2_with (first | (go_at_call 74; (with_reducible refine (E.IndexByte.calls (⟨#[33, 35, 36, 37, 38, 39, 42, 43, 45, 46, 94, 95, 96, 124, 126]⟩ : ByteArray) a0 t110 _ ?side1 A9.out).mono ?_); (case side1 => exact StdW.below HS_.out (by repeat (first | (with_reducible first | exact HB.out | apply below_alloc | apply pw_below_drewN | apply below_drew1) | exact HB.out))); rintro e w10 ⟨rfl, hb⟩; have n0_ := Aside0.mk (below_step (by repeat (first | (with_reducible first | exact HB.out | apply below_alloc | apply pw_below_drewN | apply below_drew1) | exact HB.out)) hb); clear HB; have HB := n0_; clear n0_; (try clear hb); (try clear hb2); (try clear hk); (try clear hi)))
        go_ret
        exact ⟨by first | rfl | (simp [errW_none, errW_some] <;> rfl) | (simp [*, errW_none, errW_some] <;> rfl), by repeat (first | (with_reducible first | exact HB.out | apply below_alloc | apply pw_below_drewN | apply below_drew1) | exact HB.out)⟩
       ·rw [if_neg c8] at H
        have c8b0 : decide (32 < a0) = false := decide_eq_false c8
        clear c8
        obtain rfl := Option.some.inj H
        go_enter Tryd.func57, Tryd.ntmps57
        go_wp2
        go_ret
        exact ⟨by first | rfl | (simp [errW_none, errW_some] <;> rfl) | (simp [*, errW_none, errW_some] <;> rfl), by repeat (first | (with_reducible first | exact HB.out | apply below_alloc | apply pw_below_drewN | apply below_drew1) | exact HB.out)⟩
     ·rw [if_neg c6] at H
      have c6b0 : decide (48 ≤ a0) = false := decide_eq_false c6
      clear c6
      by_cases c11 : a0 > 32
      ·rw [if_pos c11] at H
       have c11b0 : decide (32 < a0) = true := decide_eq_true c11
       clear c11
       replace H := Option.bind_eq_some_iff.mp H
       obtain ⟨t111, A120, H⟩ := H
       replace H : (some (decide (t111 ≥ 0))) = some r := H
       have A12 := Aside0.mk A120
       clear A120
       obtain rfl := Option.some.inj H
       go_enter Tryd.func57, Tryd.ntmps57
       go_wp2_with (first | (go_at_call 74; (with_reducible refine (E.IndexByte.calls (⟨#[33, 35, 36, 37, 38, 39, 42, 43, 45, 46, 94, 95, 96, 124, 126]⟩ : ByteArray) a0 t111 _ ?side1 A12.out).mono ?_); (case side1 => exact StdW.below HS_.out (by repeat (first | (with_reducible first | exact HB.out | apply below_alloc | apply pw_below_drewN | apply below_drew1) | exact HB.out))); rintro e w13 ⟨rfl, hb⟩; have n0_ := Aside0.mk (below_step (by repeat (first | (with_reducible first | exact HB.out | apply below_alloc | apply pw_below_drewN | apply below_drew1) | exact HB.out)) hb); clear HB; have HB := n0_; clear n0_; (try clear hb); (try clear hb2); (try clear hk); (try clear hi)))
       go_ret
       exact ⟨by first | rfl | (simp [errW_none, errW_some] <;> rfl) | (simp [*, errW_none, errW_some] <;> rfl), by repeat (first | (with_reducible first | exact HB.out | apply below_alloc | apply pw_below_drewN | apply below_drew1) | exact HB.out)⟩
      ·rw [if_neg c11] at H
       have c11b0 : decide (32 < a0) = false := decide_eq_false c11
       clear c11
       obtain rfl := Option.some.inj H
       go_enter Tryd.func57, Tryd.ntmps57
       go_wp2
       go_ret
       exact ⟨by first | rfl | (simp [errW_none, errW_some] <;> rfl) | (simp [*, errW_none, errW_some] <;> rfl), by repeat (first | (with_reducible first | exact HB.out | apply below_alloc | apply pw_below_drewN | apply below_drew1) | exact HB.out)⟩
   ·rw [if_neg c4] at H
    have c4b0 : decide (65 ≤ a0) = false := decide_eq_false c4
    clear c4
    by_cases c14 : a0 ≥ 48
    ·rw [if_pos c14] at H
     have c14b0 : decide (48 ≤ a0) = true := decide_eq_true c14
     clear c14
     by_cases c15 : a0 ≤ 57
     ·rw [if_pos c15] at H
      have c15b0 : decide (a0 ≤ 57) = true := decide_eq_true c15
      clear c15
      obtain rfl := Option.some.inj H
      go_enter Tryd.func57, Tryd.ntmps57
      go_wp2
      go_ret
      exact ⟨by first | rfl | (simp [errW_none, errW_some] <;> rfl) | (simp [*, errW_none, errW_some] <;> rfl), by repeat (first | (with_reducible first | exact HB.out | apply below_alloc | apply pw_below_drewN | apply below_drew1) | exact HB.out)⟩
     ·rw [if_neg c15] at H
      have c15b0 : decide (a0 ≤ 57) = false := decide_eq_false c15
      clear c15
      by_cases c16 : a0 > 32
      ·rw [if_pos c16] at H
       have c16b0 : decide (32 < a0) = true := decide_eq_true c16
       clear c16
       replace H := Option.bind_eq_some_iff.mp H
       obtain ⟨t112, A170, H⟩ := H
       replace H : (some (decide (t112 ≥ 0))) = some r := H
       have A17 := Aside0.mk A170
       clear A170
       obtain rfl := Option.some.inj H
       go_enter Tryd.func57, Tryd.ntmps57
       go_wp2_with (first | (go_at_call 74; (with_reducible refine (E.IndexByte.calls (⟨#[33, 35, 36, 37, 38, 39, 42, 43, 45, 46, 94, 95, 96, 124, 126]⟩ : ByteArray) a0 t112 _ ?side1 A17.out).mono ?_); (case side1 => exact StdW.below HS_.out (by repeat (first | (with_reducible first | exact HB.out | apply below_alloc | apply pw_below_drewN | apply below_drew1) | exact HB.out))); rintro e w18 ⟨rfl, hb⟩; have n0_ := Aside0.mk (below_step (by repeat (first | (with_reducible first | exact HB.out | apply below_alloc | apply pw_below_drewN | apply below_drew1) | exact HB.out)) hb); clear HB; have HB := n0_; clear n0_; (try clear hb); (try clear hb2); (try clear hk); (try clear hi)))
       go_ret
       exact ⟨by first | rfl | (simp [errW_none, errW_some] <;> rfl) | (simp [*, errW_none, errW_some] <;> rfl), by repeat (first | (with_reducible first | exact HB.out | apply below_alloc | apply pw_below_drewN | apply below_drew1) | exact HB.out)⟩
      ·rw [if_neg c16] at H
       have c16b0 : decide (32 < a0) = false := decide_eq_false c16
       clear c16
       obtain rfl := Option.some.inj H
       go_enter Tryd.func57, Tryd.ntmps57
       go_wp2
       go_ret
       exact ⟨by first | rfl | (simp [errW_none, errW_some] <;> rfl) | (simp [*, errW_none, errW_some] <;> rfl), by repeat (first | (with_reducible first | exact HB.out | apply below_alloc | apply pw_below_drewN | apply below_drew1) | exact HB.out)⟩
    ·rw [if_neg c14] at H
     have c14b0 : decide (48 ≤ a0) = false := decide_eq_false c14
     clear c14
     by_cases c19 : a0 > 32
     ·rw [if_pos c19] at H
      have c19b0 : decide (32 < a0) = true := decide_eq_true c19
      clear c19
      replace H := Option.bind_eq_some_iff.mp H
      obtain ⟨t113, A200, H⟩ := H
      replace H : (some (decide (t113 ≥ 0))) = some r := H
      have A20 := Aside0.mk A200
      clear A200
      obtain rfl := Option.some.inj H
      go_enter Tryd.func57, Tryd.ntmps57
      go_wp2_with (first | (go_at_call 74; (with_reducible refine (E.IndexByte.calls (⟨#[33, 35, 36, 37, 38, 39, 42, 43, 45, 46, 94, 95, 96, 124, 126]⟩ : ByteArray) a0 t113 _ ?side1 A20.out).mono ?_); (case side1 => exact StdW.below HS_.out (by repeat (first | (with_reducible first | exact HB.out | apply below_alloc | apply pw_below_drewN | apply below_drew1) | exact HB.out))); rintro e w21 ⟨rfl, hb⟩; have n0_ := Aside0.mk (below_step (by repeat (first | (with_reducible first | exact HB.out | apply below_alloc | apply pw_below_drewN | apply below_drew1) | exact HB.out)) hb); clear HB; have HB := n0_; clear n0_; (try clear hb); (try clear hb2); (try clear hk); (try clear hi)))
      go_ret
      exact ⟨by first | rfl | (simp [errW_none, errW_some] <;> rfl) | (simp [*, errW_none, errW_some] <;> rfl), by repeat (first | (with_reducible first | exact HB.out | apply below_alloc | apply pw_below_drewN | apply below_drew1) | exact HB.out)⟩
     ·rw [if_neg c19] at H
      have c19b0 : decide (32 < a0) = false := decide_eq_false c19
      clear c19
      obtain rfl := Option.some.inj H
      go_enter Tryd.func57, Tryd.ntmps57
      go_wp2
      go_ret
      exact ⟨by first | rfl | (simp [errW_none, errW_some] <;> rfl) | (simp [*, errW_none, errW_some] <;> rfl), by repeat (first | (with_reducible first | exact HB.out | apply below_alloc | apply pw_below_drewN | apply below_drew1) | exact HB.out)⟩
 ·rw [if_neg c2] at H
  have c2b0 : decide (97 ≤ a0) = false := decide_eq_false c2
  clear c2
  by_cases c22 : a0 ≥ 65
  ·rw [if_pos c22] at H
   have c22b0 : decide (65 ≤ a0) = true := decide_eq_true c22
   clear c22
   by_cases c23 : a0 ≤ 90
   ·rw [if_pos c23] at H
    have c23b0 : decide (a0 ≤ 90) = true := decide_eq_true c23
    clear c23
    obtain rfl := Option.some.inj H
    go_enter Tryd.func57, Tryd.ntmps57
    go_wp2
    go_ret
    exact ⟨by first | rfl | (simp [errW_none, errW_some] <;> rfl) | (simp [*, errW_none, errW_some] <;> rfl), by repeat (first | (with_reducible first | exact HB.out | apply below_alloc | apply pw_below_drewN | apply below_drew1) | exact HB.out)⟩
   ·rw [if_neg c23] at H
    have c23b0 : decide (a0 ≤ 90) = false := decide_eq_false c23
    clear c23
    by_cases c24 : a0 ≥ 48
    ·rw [if_pos c24] at H
     have c24b0 : decide (48 ≤ a0) = true := decide_eq_true c24
     clear c24
     by_cases c25 : a0 ≤ 57
     ·rw [if_pos c25] at H
      have c25b0 : decide (a0 ≤ 57) = true := decide_eq_true c25
      clear c25
      obtain rfl := Option.some.inj H
      go_enter Tryd.func57, Tryd.ntmps57
      go_wp2
      go_ret
      exact ⟨by first | rfl | (simp [errW_none, errW_some] <;> rfl) | (simp [*, errW_none, errW_some] <;> rfl), by repeat (first | (with_reducible first | exact HB.out | apply below_alloc | apply pw_below_drewN | apply below_drew1) | exact HB.out)⟩
     ·rw [if_neg c25] at H
      have c25b0 : decide (a0 ≤ 57) = false := decide_eq_false c25
      clear c25
      by_cases c26 : a0 > 32
      ·rw [if_pos c26] at H
       have c26b0 : decide (32 < a0) = true := decide_eq_true c26
       clear c26
       replace H := Option.bind_eq_some_iff.mp H
       obtain ⟨t114, A270, H⟩ := H
       replace H : (some (decide (t114 ≥ 0))) = some r := H
       have A27 := Aside0.mk A270
       clear A270
       obtain rfl := Option.some.inj H
       go_enter Tryd.func57, Tryd.ntmps57
       go_wp2_with (first | (go_at_call 74; (with_reducible refine (E.IndexByte.calls (⟨#[33, 35, 36, 37, 38, 39, 42, 43, 45, 46, 94, 95, 96, 124, 126]⟩ : ByteArray) a0 t114 _ ?side1 A27.out).mono ?_); (case side1 => exact StdW.below HS_.out (by repeat (first | (with_reducible first | exact HB.out | apply below_alloc | apply pw_below_drewN | apply below_drew1) | exact HB.out))); rintro e w28 ⟨rfl, hb⟩; have n0_ := Aside0.mk (below_step (by repeat (first | (with_reducible first | exact HB.out | apply below_alloc | apply pw_below_drewN | apply below_drew1) | exact HB.out)) hb); clear HB; have HB := n0_; clear n0_; (try clear hb); (try clear hb2); (try clear hk); (try clear hi)))
       go_ret
       exact ⟨by first | rfl | (simp [errW_none, errW_some] <;> rfl) | (simp [*, errW_none, errW_some] <;> rfl), by repeat (first | (with_reducible first | exact HB.out | apply below_alloc | apply pw_below_drewN | apply below_drew1) | exact HB.out)⟩
      ·rw [if_neg c26] at H
       have c26b0 : decide (32 < a0) = false := decide_eq_false c26
       clear c26
       obtain rfl := Option.some.inj H
       go_enter Tryd.func57, Tryd.ntmps57
       go_wp2
       go_ret
       exact ⟨by first | rfl | (simp [errW_none, errW_some] <;> rfl) | (simp [*, errW_none, errW_some] <;> rfl), by repeat (first | (with_reducible first | exact HB.out | apply below_alloc | apply pw_below_drewN | apply below_drew1) | exact HB.out)⟩
    ·rw [if_neg c24] at H
     have c24b0 : decide (48 ≤ a0) = false := decide_eq_false c24
     clear c24
     by_cases c29 : a0 > 32
     ·rw [if_pos c29] at H
      have c29b0 : decide (32 < a0) = true := decide_eq_true c29
      clear c29
      replace H := Option.bind_eq_some_iff.mp H
      obtain ⟨t115, A300, H⟩ := H
      replace H : (some (decide (t115 ≥ 0))) = some r := H
      have A30 := Aside0.mk A300
      clear A300
      obtain rfl := Option.some.inj H
      go_enter Tryd.func57, Tryd.ntmps57
      go_wp2_with (first | (go_at_call 74; (with_reducible refine (E.IndexByte.calls (⟨#[33, 35, 36, 37, 38, 39, 42, 43, 45, 46, 94, 95, 96, 124, 126]⟩ : ByteArray) a0 t115 _ ?side1 A30.out).mono ?_); (case side1 => exact StdW.below HS_.out (by repeat (first | (with_reducible first | exact HB.out | apply below_alloc | apply pw_below_drewN | apply below_drew1) | exact HB.out))); rintro e w31 ⟨rfl, hb⟩; have n0_ := Aside0.mk (below_step (by repeat (first | (with_reducible first | exact HB.out | apply below_alloc | apply pw_below_drewN | apply below_drew1) | exact HB.out)) hb); clear HB; have HB := n0_; clear n0_; (try clear hb); (try clear hb2); (try clear hk); (try clear hi)))
      go_ret
      exact ⟨by first | rfl | (simp [errW_none, errW_some] <;> rfl) | (simp [*, errW_none, errW_some] <;> rfl), by repeat (first | (with_reducible first | exact HB.out | apply below_alloc | apply pw_below_drewN | apply below_drew1) | exact HB.out)⟩
     ·rw [if_neg c29] at H
      have c29b0 : decide (32 < a0) = false := decide_eq_false c29
      clear c29
      obtain rfl := Option.some.inj H
      go_enter Tryd.func57, Tryd.ntmps57
      go_wp2
      go_ret
      exact ⟨by first | rfl | (simp [errW_none, errW_some] <;> rfl) | (simp [*, errW_none, errW_some] <;> rfl), by repeat (first | (with_reducible first | exact HB.out | apply below_alloc | apply pw_below_drewN | apply below_drew1) | exact HB.out)⟩
  ·rw [if_neg c22] at H
   have c22b0 : decide (65 ≤ a0) = false := decide_eq_false c22
   clear c22
   by_cases c32 : a0 ≥ 48
   ·rw [if_pos c32] at H
    have c32b0 : decide (48 ≤ a0) = true := decide_eq_true c32
    clear c32
    by_cases c33 : a0 ≤ 57
    ·rw [if_pos c33] at H
     have c33b0 : decide (a0 ≤ 57) = true := decide_eq_true c33
     clear c33
     obtain rfl := Option.some.inj H
     go_enter Tryd.func57, Tryd.ntmps57
     go_wp2
     go_ret
     exact ⟨by first | rfl | (simp [errW_none, errW_some] <;> rfl) | (simp [*, errW_none, errW_some] <;> rfl), by repeat (first | (with_reducible first | exact HB.out | apply below_alloc | apply pw_below_drewN | apply below_drew1) | exact HB.out)⟩
    ·rw [if_neg c33] at H
     have c33b0 : decide (a0 ≤ 57) = false := decide_eq_false c33
     clear c33
     by_cases c34 : a0 > 32
     ·rw [if_pos c34] at H
      have c34b0 : decide (32 < a0) = true := decide_eq_true c34
      clear c34
      replace H := Option.bind_eq_some_iff.mp H
      obtain ⟨t116, A350, H⟩ := H
      replace H : (some (decide (t116 ≥ 0))) = some r := H
      have A35 := Aside0.mk A350
      clear A350
      obtain rfl := Option.some.inj H
      go_enter Tryd.func57, Tryd.ntmps57
      go_wp2_with (first | (go_at_call 74; (with_reducible refine (E.IndexByte.calls (⟨#[33, 35, 36, 37, 38, 39, 42, 43, 45, 46, 94, 95, 96, 124, 126]⟩ : ByteArray) a0 t116 _ ?side1 A35.out).mono ?_); (case side1 => exact StdW.below HS_.out (by repeat (first | (with_reducible first | exact HB.out | apply below_alloc | apply pw_below_drewN | apply below_drew1) | exact HB.out))); rintro e w36 ⟨rfl, hb⟩; have n0_ := Aside0.mk (below_step (by repeat (first | (with_reducible first | exact HB.out | apply below_alloc | apply pw_below_drewN | apply below_drew1) | exact HB.out)) hb); clear HB; have HB := n0_; clear n0_; (try clear hb); (try clear hb2); (try clear hk); (try clear hi)))
      go_ret
      exact ⟨by first | rfl | (simp [errW_none, errW_some] <;> rfl) | (simp [*, errW_none, errW_some] <;> rfl), by repeat (first | (with_reducible first | exact HB.out | apply below_alloc | apply pw_below_drewN | apply below_drew1) | exact HB.out)⟩
     ·rw [if_neg c34] at H
      have c34b0 : decide (32 < a0) = false := decide_eq_false c34
      clear c34
      obtain rfl := Option.some.inj H
      go_enter Tryd.func57, Tryd.ntmps57
      go_wp2
      go_ret
      exact ⟨by first | rfl | (simp [errW_none, errW_some] <;> rfl) | (simp [*, errW_none, errW_some] <;> rfl), by repeat (first | (with_reducible first | exact HB.out | apply below_alloc | apply pw_below_drewN | apply below_drew1) | exact HB.out)⟩
   ·rw [if_neg c32] at H
    have c32b0 : decide (48 ≤ a0) = false := decide_eq_false c32
    clear c32
    by_cases c37 : a0 > 32
    ·rw [if_pos c37] at H
     have c37b0 : decide (32 < a0) = true := decide_eq_true c37
     clear c37
     replace H := Option.bind_eq_some_iff.mp H
     obtain ⟨t117, A380, H⟩ := H
     replace H : (some (decide (t117 ≥ 0))) = some r := H
     have A38 := Aside0.mk A380
     clear A380
     obtain rfl := Option.some.inj H
     go_enter Tryd.func57, Tryd.ntmps57
     go_wp2_with (first | (go_at_call 74; (with_reducible refine (E.IndexByte.calls (⟨#[33, 35, 36, 37, 38, 39, 42, 43, 45, 46, 94, 95, 96, 124, 126]⟩ : ByteArray) a0 t117 _ ?side1 A38.out).mono ?_); (case side1 => exact StdW.below HS_.out (by repeat (first | (with_reducible first | exact HB.out | apply below_alloc | apply pw_below_drewN | apply below_drew1) | exact HB.out))); rintro e w39 ⟨rfl, hb⟩; have n0_ := Aside0.mk (below_step (by repeat (first | (with_reducible first | exact HB.out | apply below_alloc | apply pw_below_drewN | apply below_drew1) | exact HB.out)) hb); clear HB; have HB := n0_; clear n0_; (try clear hb); (try clear hb2); (try clear hk); (try clear hi)))
     go_ret
     exact ⟨by first | rfl | (simp [errW_none, errW_some] <;> rfl) | (simp [*, errW_none, errW_some] <;> rfl), by repeat (first | (with_reducible first | exact HB.out | apply below_alloc | apply pw_below_drewN | apply below_drew1) | exact HB.out)⟩
    ·rw [if_neg c37] at H
     have c37b0 : decide (32 < a0) = false := decide_eq_false c37
     clear c37
     obtain rfl := Option.some.inj H
     go_enter Tryd.func57, Tryd.ntmps57
     go_wp2
     go_ret
     exact ⟨by first | rfl | (simp [errW_none, errW_some] <;> rfl) | (simp [*, errW_none, errW_some] <;> rfl), by repeat (first | (with_reducible first | exact HB.out | apply below_alloc | apply pw_below_drewN | apply below_drew1) | exact HB.out)⟩
end Go.Proofs.YtkheejjpidbniaaDoor.XA


namespace Go.Proofs.YtkheejjpidbniaaDoor.XA
open Go.Proofs.YtkheejjpidbniaaDoor.XK
open Go.RowKit Go.Proofs.YtkheejjpidbniaaDoorW.PrintWords Go.Proofs.YtkheejjpidbniaaDoorW.PrintLast Go.Proofs.YtkheejjpidbniaaDoorW.PrintMore
attribute [local go_sem] max2_int min2_int max_two min_two max_three min_three max_four min_four
set_option linter.unusedVariables false
set_option linter.unusedSimpArgs false
def head_Token.l0 : Nat → ByteArray → Int → Int → Option (Bool)
 | 0, _, _, _ => none
 | k + 1, x0, x5, x6 => if x6 < x5 then (if 0 ≤ x6 then (if x6 < (x0.size : Int) then ((head_sign.f (bt x0 x6)).bind fun t118 => (if t118 = true then (head_Token.l0 k x0 x5 (wrap64 (x6 + 1))) else (some false))) else (none)) else (none)) else (if x0.toList = ([] : List UInt8) then (some false) else (some (decide ((x0.size : Int) ≤ 64))))
def head_Token.f (k : Nat) (a0 : ByteArray) : Option (Bool) := head_Token.l0 k a0 (a0.size : Int) 0
theorem head_Token.mono_l : ∀ k, (∀ y0 y1 y2, LeO (head_Token.l0 k y0 y1 y2) (head_Token.l0 (k + 1) y0 y1 y2))
 | 0 => fun _ _ _ r h => by simp [head_Token.l0] at h
 | k + 1 => by
  have ih0 := head_Token.mono_l k
  ·intro y0 y1 y2
   unfold head_Token.l0
   repeat' first
   | (with_reducible exact ih0 _ _ _)
   | (with_reducible exact LeO.refl _)
   | (with_reducible exact LeO.none _)
   | (with_reducible refine LeO.ite ?_ ?_)
   | (with_reducible refine LeO.bind ?_ (fun _ => ?_))
   | exact ih0 _ _ _
   | exact LeO.none _
   | refine LeO.ite ?_ ?_
   | refine LeO.bind ?_ (fun _ => ?_)
theorem head_Token.mono : ∀ a0 k, LeO (head_Token.f k a0) (head_Token.f (k + 1) a0) := by
 intro a0 k
 have ih0 := head_Token.mono_l k
 unfold head_Token.f
 repeat' first
   | (with_reducible exact ih0 _ _ _)
   | (with_reducible exact LeO.refl _)
   | (with_reducible exact LeO.none _)
   | (with_reducible refine LeO.ite ?_ ?_)
   | (with_reducible refine LeO.bind ?_ (fun _ => ?_))
   | exact ih0 _ _ _
   | exact LeO.none _
   | refine LeO.ite ?_ ?_
   | refine LeO.bind ?_ (fun _ => ?_)
set_option maxHeartbeats 8000000 in
set_option maxRecDepth 100000 in
theorem head_Token.calls (k : Nat) (a0 : ByteArray) (r : Bool) (w : World) (hS_ : StdW w) (h : head_Token.f k a0 = some r) :
  Calls Tryd.prog 38 #[.string a0] w fun e w' => e = .returned (.bool r) ∧ Below w.heap.size w w' := by
 have HS_ := Aside0.mk hS_
 clear hS_
 have HB := Aside0.mk (Below.refl w.heap.size w)
 have H : (head_Token.l0 k a0 (a0.size : Int) 0) = some r := h
 clear h
 have H' := Aside0.mk H
 clear H
 go_enter Tryd.func38, Tryd.ntmps38
 go_wp2
 go_loopg [6] k (fun kq v6 w' => ∃ (x6_1 : Int), v6 = .int .i64 x6_1 ∧ Aside0 (head_Token.l0 kq a0 (a0.size : Int) x6_1 = some r) ∧ Aside0 (kq ≤ k) ∧ Aside0 (Below w.heap.size w w'))
 case atStart => exact ⟨(0), (by first | rfl | (simp; done) | (simp [*]; done)), H', ⟨Nat.le_refl _⟩, ⟨by repeat (first | (with_reducible first | exact HB.out | apply below_alloc | apply pw_below_drewN | apply below_drew1) | exact HB.out)⟩⟩
 case round =>
  clear H'
  obtain ⟨x6_1, rfl, HA, HK1, HB⟩ := hrel
  cases gk with
  | zero => exact absurd HA.out (by simp [head_Token.l0])
  | succ k1 =>
   have H := HA.out
   clear HA
   simp only [head_Token.l0] at H
   by_cases c2 : x6_1 < (a0.size : Int)
   ·rw [if_pos c2] at H
    have c2b0 : decide (x6_1 < (a0.size : Int)) = true := decide_eq_true c2
    clear c2
    by_cases c3 : 0 ≤ x6_1
    ·rw [if_pos c3] at H
     have c3b0 : decide (0 ≤ x6_1) = true := decide_eq_true c3
     clear c3
     by_cases c4 : x6_1 < (a0.size : Int)
     ·rw [if_pos c4] at H
      have c4b0 : decide (x6_1 < (a0.size : Int)) = true := decide_eq_true c4
      clear c4
      replace H := Option.bind_eq_some_iff.mp H
      obtain ⟨t118, A60, H⟩ := H
      replace H : (if t118 = true then (head_Token.l0 k1 a0 (a0.size : Int) (wrap64 (x6_1 + 1))) else (some false)) = some r := H
      have A6 := Aside0.mk A60
      clear A60
      by_cases c7 : t118 = true
      ·subst c7
       have H1 : (head_Token.l0 k1 a0 (a0.size : Int) (wrap64 (x6_1 + 1))) = some r := by rw [if_pos rfl] at H; exact H
       clear H
       have H := H1
       clear H1
       have H' := Aside0.mk H
       clear H
       have p5 : 0 ≤ (x6_1 : Int) := of_decide_eq_true (by first | (with_reducible assumption) | assumption)
       have q5 : x6_1 < (a0.size : Int) := of_decide_eq_true (by first | (with_reducible assumption) | assumption)
       have hx5 := bt_at a0 x6_1
       replace p5 := eq_true p5
       replace q5 := eq_true q5
       go_wp2_with (first | ((with_reducible refine gate_callee (f := 57) rfl ?_); refine goesL_ (some 12) rfl rfl Tryd.func57 (by kernel_rfl) rfl #[.int .u8 (bt a0 x6_1)] rfl (by (try simp only [List.map_toArray, List.map_cons, List.map_nil]); first | done | rfl | (simp only [List.length_drop, List.length_take]; rfl)) ?_; (with_reducible refine (head_sign.calls (bt a0 x6_1) true _ ?side1 A6.out).mono ?_); (case side1 => exact StdW.below HS_.out (by repeat (first | (with_reducible first | exact HB.out | apply below_alloc | apply pw_below_drewN | apply below_drew1) | exact HB.out))); rintro e w8 ⟨rfl, hb⟩; refine ⟨_, rfl, ?_⟩; have n0_ := Aside0.mk (below_step (by repeat (first | (with_reducible first | exact HB.out | apply below_alloc | apply pw_below_drewN | apply below_drew1) | exact HB.out)) hb); clear HB; have HB := n0_; clear n0_; (try clear hb); (try clear hb2); (try clear hk); (try clear hi)))
       go_roundg k1
       case measure => have := HK1.out; omega
       case rel => exact ⟨(wrap64 (x6_1 + 1)), (by first | rfl | (simp; done) | (simp [*]; done)), H', ⟨by have := HK1.out; omega⟩, ⟨by repeat (first | (with_reducible first | exact HB.out | apply below_alloc | apply pw_below_drewN | apply below_drew1) | exact HB.out)⟩⟩
      ·replace c7 := Bool.eq_false_iff.mpr c7
       subst c7
       have H1 : (some false) = some r := by rw [if_neg (show ¬ (false = true) by decide)] at H; exact H
       clear H
       have H := H1
       clear H1
       obtain rfl := Option.some.inj H
       have p5 : 0 ≤ (x6_1 : Int) := of_decide_eq_true (by first | (with_reducible assumption) | assumption)
       have q5 : x6_1 < (a0.size : Int) := of_decide_eq_true (by first | (with_reducible assumption) | assumption)
       have hx5 := bt_at a0 x6_1
       replace p5 := eq_true p5
       replace q5 := eq_true q5
       go_wp2_with (first | ((with_reducible refine gate_callee (f := 57) rfl ?_); refine goesL_ (some 12) rfl rfl Tryd.func57 (by kernel_rfl) rfl #[.int .u8 (bt a0 x6_1)] rfl (by (try simp only [List.map_toArray, List.map_cons, List.map_nil]); first | done | rfl | (simp only [List.length_drop, List.length_take]; rfl)) ?_; (with_reducible refine (head_sign.calls (bt a0 x6_1) false _ ?side1 A6.out).mono ?_); (case side1 => exact StdW.below HS_.out (by repeat (first | (with_reducible first | exact HB.out | apply below_alloc | apply pw_below_drewN | apply below_drew1) | exact HB.out))); rintro e w9 ⟨rfl, hb⟩; refine ⟨_, rfl, ?_⟩; have n0_ := Aside0.mk (below_step (by repeat (first | (with_reducible first | exact HB.out | apply below_alloc | apply pw_below_drewN | apply below_drew1) | exact HB.out)) hb); clear HB; have HB := n0_; clear n0_; (try clear hb); (try clear hb2); (try clear hk); (try clear hi)))
       go_ret
       exact ⟨by first | rfl | (simp [errW_none, errW_some] <;> rfl) | (simp [*, errW_none, errW_some] <;> rfl), by repeat (first | (with_reducible first | exact HB.out | apply below_alloc | apply pw_below_drewN | apply below_drew1) | exact HB.out)⟩
     ·rw [if_neg c4] at H
      exact absurd H (by simp)
    ·rw [if_neg c3] at H
     exact absurd H (by simp)
   ·rw [if_neg c2] at H
    have c2b0 : decide (x6_1 < (a0.size : Int)) = false := decide_eq_false c2
    clear c2
    by_cases c10 : a0.toList = ([] : List UInt8)
    ·rw [if_pos c10] at H
     have c10b0 : (a0.toList == ([] : List UInt8)) = true := beq_iff_eq.mpr c10
     have c10b6 : a0.toList.isEmpty = true := by rw [List.isEmpty_iff]; exact c10
     have c10b1 : (a0.toList != ([] : List UInt8)) = false := bne_eq_false_iff_eq.mpr c10
     clear c10
     obtain rfl := Option.some.inj H
     go_wp2
     go_ret
     exact ⟨by first | rfl | (simp [errW_none, errW_some] <;> rfl) | (simp [*, errW_none, errW_some] <;> rfl), by repeat (first | (with_reducible first | exact HB.out | apply below_alloc | apply pw_below_drewN | apply below_drew1) | exact HB.out)⟩
    ·rw [if_neg c10] at H
     have c10b0 : (a0.toList == ([] : List UInt8)) = false := beq_eq_false_iff_ne.mpr c10
     have c10b6 : a0.toList.isEmpty = false := by rw [← Bool.not_eq_true, List.isEmpty_iff]; exact c10
     have c10b1 : (a0.toList != ([] : List UInt8)) = true := bne_iff_ne.mpr c10
     obtain rfl := Option.some.inj H
     go_wp2
     go_ret
     exact ⟨by first | rfl | (simp [errW_none, errW_some] <;> rfl) | (simp [*, errW_none, errW_some] <;> rfl), by repeat (first | (with_reducible first | exact HB.out | apply below_alloc | apply pw_below_drewN | apply below_drew1) | exact HB.out)⟩
end Go.Proofs.YtkheejjpidbniaaDoor.XA


namespace Go.Proofs.YtkheejjpidbniaaDoor.XA
open Go.Proofs.YtkheejjpidbniaaDoor.XK
open Go.RowKit Go.Proofs.YtkheejjpidbniaaDoorW.PrintWords Go.Proofs.YtkheejjpidbniaaDoorW.PrintLast Go.Proofs.YtkheejjpidbniaaDoorW.PrintMore
attribute [local go_sem] max2_int min2_int max_two min_two max_three min_three max_four min_four
set_option linter.unusedVariables false
set_option linter.unusedSimpArgs false
end Go.Proofs.YtkheejjpidbniaaDoor.XA
