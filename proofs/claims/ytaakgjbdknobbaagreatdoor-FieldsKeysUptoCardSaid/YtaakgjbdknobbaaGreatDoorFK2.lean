/- What the cards of this seat rest on: the walks and plain laws, part 2. -/
import Derived.Shelf.Strings.Builder1
import Derived.Shelf.Strings.Builder2
import Derived.Shelf.Strings.OnBuilder
import Derived.Shelf.Strings.Trim
import Derived.Shelf.Small.Utf8
import Derived.Shelf.Small.Strs
import Derived.Shelf.Small.Wraps
import Derived.Shelf.Strings.BuilderF
import Derived.Shelf.Strings.BuilderK
import Derived.Shelf.Strings.BuilderRune
import Derived.Shelf.Utf8.AppendRune
import Derived.Shelf.Utf8.RuneCount
import Derived.Shelf.Strconv.Atoi
import Derived.Shelf.Strconv.Itoa0
import Derived.Shelf.Strconv.Itoa1
import Derived.Shelf.LaysM
import Derived.Shelf.Strconv.Itoa2
import Derived.Shelf.Strconv.Itoa3
import Derived.Shelf.Bytes.Len
import Derived.Shelf.Bytes.TryGrow
import Derived.Shelf.Bytes.GrowSliceCatch
import Derived.Shelf.Bytes.GrowSlice
import Derived.Shelf.Bytes.Bytes
import Derived.Shelf.Strconv.AtoiErrFast
import Derived.Shelf.Strconv.ParseIntEmpty
import Derived.Shelf.Strconv.AtoiFail
import Derived.Shelf.Strconv.Clone
import Derived.Shelf.Strconv.SyntaxError
import Derived.Shelf.LaysC
import Derived.Shelf.Strconv.ToError
import Derived.Shelf.Strconv.AtoiErr
import Derived.Shelf.Strconv.ErrVar
import Derived.Shelf.Strconv.Lower
import Derived.Shelf.Strconv.ParseUint10
import Derived.Shelf.Strconv.ParseUint10Empty
import Derived.Shelf.Strconv.ParseUint10Any
import Derived.Shelf.Strconv.ParseInt10
import Derived.Shelf.Strconv.AtoiLong
import Derived.Shelf.Strconv.AtoiInnerAll
import Derived.Shelf.Strconv.RangeError
import Derived.Shelf.Strconv.ToErrorRange
import Derived.Shelf.Strconv.AtoiAll
import Derived.Shelf.Strconv.ErrVarAll
import Derived.Shelf.Strconv.ParseUintEmpty
import Derived.Shelf.Strconv.ParseUint10b64
import Derived.Shelf.Strconv.ParseUint10b32
import Derived.Shelf.Strconv.ParseUint10b16
import Derived.Shelf.Strconv.ParseUint10b8
import Derived.Shelf.Strconv.ParseUint10At
import Derived.Shelf.Strconv.ParseInt10At64
import Derived.Shelf.Strconv.ParseInt10At32
import Derived.Shelf.Strconv.ParseInt10At16
import Derived.Shelf.Strconv.ParseInt10At8
import Derived.Shelf.Strconv.ParseInt10All
import Derived.Shelf.Strings.Search1
import Derived.Shelf.Bytes.GrowRow0Kept
import Derived.Shelf.Strings.Search2
import Derived.Shelf.Bytes.GrowRowKept
import Derived.Shelf.Strings.Search3
import Derived.Shelf.Bytes.GrowNilKept
import Derived.Shelf.Strings.Cut
import Derived.Shelf.Bytes.GrowKept
import Derived.Shelf.Strings.Count
import Derived.Shelf.Strings.Shaped
import Derived.Shelf.Bytes.WriteStringKept
import Derived.Shelf.Bytes.ResetKept
import Derived.Shelf.Strings.LastIndex
import Derived.Shelf.Bytes.BufferK
import Derived.Shelf.Strings.Prefix
import Derived.Shelf.Strings.Split
import Derived.Shelf.Strings.Replace
import Derived.Shelf.Strings.SplitShaped
import Derived.Shelf.Unicode.Latin
import Derived.Shelf.Unicode.Decode
import Derived.Shelf.Strings.Runes
import Derived.Shelf.Strings.RuneCount
import Derived.Shelf.Strings.IndexAny
import Derived.Shelf.Strings.AsciiSet
import Derived.Shelf.Strings.IndexAnyAll
import Derived.Shelf.Strings.Explode
import Derived.Shelf.Unicode.DecodeSlow
import Derived.Shelf.Unicode.DecodeAny
import Derived.Shelf.Unicode.DecodeLast
import Derived.Shelf.Unicode.CaseLookup
import Derived.Shelf.Unicode.CaseConvert
import Derived.Shelf.Unicode.CaseTo
import Derived.Shelf.Unicode.CaseLaid
import Derived.Shelf.Strings.MapAny
import Derived.Shelf.Strings.CaseAny
import Derived.Shelf.Bytes.SlIndexSmall
import Derived.Shelf.Bytes.SlIndexAt
import Derived.Shelf.Bytes.SlSearch0
import Derived.Shelf.Bytes.SlSearch1
import Derived.Shelf.Bytes.SlSearch2
import Derived.Shelf.Bytes.SlIndexWhole
import Derived.Ground.SlgfProg
import Derived.Shelf.SlicesE.IndexFunc
import Derived.Shelf.SlicesE.DeleteFunc
import Derived.Shelf.Bytes.SlSmallAll
import Derived.Ground.PaProg
import Derived.Shelf.Path.Small
import Derived.Shelf.Bytes.Small
import Derived.Shelf.Bytes.IndexByte
import Derived.Test.YtaakgjbdknobbaaGreatDoorProg
import Derived.Lib.LaidTab
import Derived.WalkSmall
import Derived.Sort.Grow
import Derived.Below
import Derived.Lib.Hide
import Derived.WalkKit
import Derived.Outline
import Derived.Lib.ItoaNum
import Derived.Lib.AtoiAll
import Derived.Test.YtaakgjbdknobbaaGreatDoorFK1
import Derived.Lib.Case
import Derived.Lib.ConvBytes
import Derived.Lib.SlBytesRow
import Derived.Lib.SplitLaws
import Derived.Lib.CutLaws
import Derived.Lib.SlTrimSet
import Derived.Shelf.Strings.SlTrimAscii
import Derived.Lib.OwnBridge
import Derived.Deep.Draws
import Derived.Deep.AppendLies
import Derived.Maps.AppendAt
import Derived.OwnWalk
import Derived.Laws.BytesArg
import Derived.Laws.MakeOwn
import Derived.Laws.OwnMore
import Derived.Deep.OwnRows
import Derived.Tactics
import Derived.Laws.Slices
import Derived.KernelRfl
import Derived.RowKit3
import Derived.Deep.LoopGhost
import Derived.Deep.QuietTactic
import Derived.BigQuiet
import Derived.WideLaws
import Derived.Deep.DeepCutAuto
import Derived.Deep.CutBlock
import Derived.Deep.RegionHeld3
import Derived.Laws.Rows
import Derived.Lib.AppendStr
import Derived.ArgAppend
import Derived.Laws.IdiomCopy
import Derived.OrdersHeld
import Derived.Laws.BitsLemmas
import Derived.RowKit
import Derived.Maps.Own
import Derived.Maps.Views
import Derived.Lib.Replace
import Derived.WalkLawsBesides
import Derived.Laws.IdiomStrings
import Derived.Deep.RegionWith


namespace Go.Proofs
open Go.Shelf
def Tryz.lays159_ren : Go.Shelf.Ren := ⟨fun | 159 => 218 | 165 => 185 | 166 => 151 | 167 => 241 | 169 => 153 | 230 => 242 | 204 => 243 | 240 => 198 | 241 => 220 | 197 => 186 | 118 => 256 | 168 => 257 | 270 => 258 | 262 => 259 | 276 => 230 | 277 => 244 | 260 => 221 | 242 => 264 | 313 => 265 | 278 => 266 | 274 => 267 | 275 => 268 | n => n, fun | 9 => 9 | 4 => 4 | 3 => 3 | 5 => 5 | 72 => 198 | 0 => 0 | 76 => 44 | 75 => 43 | 107 => 283 | 70 => 196 | 20 => 20 | 37 => 41 | 127 => 245 | 21 => 21 | 105 => 224 | 164 => 251 | 162 => 309 | 203 => 307 | 119 => 284 | 46 => 158 | 139 => 287 | 138 => 286 | 51 => 214 | 160 => 312 | 208 => 318 | 206 => 316 | 80 => 200 | n => n, fun | 13 => 8 | 3 => 3 | 4 => 4 | n => n⟩
theorem Tryz.lays159 : Go.Proofs.Lays.n159 Tryz.prog Tryz.lays159_ren := {
  mixed := by kernel_rfl
  f118 := Tryz.func256.trans (congrArg some (by kernel_rfl))
  f159 := Tryz.func218.trans (congrArg some (by kernel_rfl))
  f165 := Tryz.func185.trans (congrArg some (by kernel_rfl))
  f166 := Tryz.func151.trans (congrArg some (by kernel_rfl))
  f167 := Tryz.func241.trans (congrArg some (by kernel_rfl))
  f168 := Tryz.func257.trans (congrArg some (by kernel_rfl))
  f169 := Tryz.func153.trans (congrArg some (by kernel_rfl))
  f197 := Tryz.func186.trans (congrArg some (by kernel_rfl))
  f204 := Tryz.func243.trans (congrArg some (by kernel_rfl))
  f230 := Tryz.func242.trans (congrArg some (by kernel_rfl))
  f240 := Tryz.func198.trans (congrArg some (by kernel_rfl))
  f241 := Tryz.func220.trans (congrArg some (by kernel_rfl))
  f242 := Tryz.func264.trans (congrArg some (by kernel_rfl))
  f260 := Tryz.func221.trans (congrArg some (by kernel_rfl))
  f262 := Tryz.func259.trans (congrArg some (by kernel_rfl))
  f270 := Tryz.func258.trans (congrArg some (by kernel_rfl))
  f274 := Tryz.func267.trans (congrArg some (by kernel_rfl))
  f275 := Tryz.func268.trans (congrArg some (by kernel_rfl))
  f276 := Tryz.func230.trans (congrArg some (by kernel_rfl))
  f277 := Tryz.func244.trans (congrArg some (by kernel_rfl))
  f278 := Tryz.func266.trans (congrArg some (by kernel_rfl))
  f313 := Tryz.func265.trans (congrArg some (by kernel_rfl))
  t0 := Tryz.underlying0
  a0 := Tryz.isAgg0
  z0 := Tryz.sizeOf0
  v0 := Tryz.zeroValue0
  t3 := Tryz.underlying3
  a3 := Tryz.isAgg3
  z3 := Tryz.sizeOf3
  v3 := Tryz.zeroValue3
  t4 := Tryz.underlying4
  a4 := Tryz.isAgg4
  z4 := Tryz.sizeOf4
  v4 := Tryz.zeroValue4
  t5 := Tryz.underlying5
  a5 := Tryz.isAgg5
  z5 := Tryz.sizeOf5
  v5 := Tryz.zeroValue5
  t9 := Tryz.underlying9
  a9 := Tryz.isAgg9
  z9 := Tryz.sizeOf9
  v9 := Tryz.zeroValue9
  t20 := Tryz.underlying20
  a20 := Tryz.isAgg20
  z20 := Tryz.sizeOf20
  v20 := Tryz.zeroValue20
  t21 := Tryz.underlying21
  a21 := Tryz.isAgg21
  z21 := Tryz.sizeOf21
  v21 := Tryz.zeroValue21
  t37 := Tryz.underlying41
  a37 := Tryz.isAgg41
  z37 := Tryz.sizeOf41
  v37 := Tryz.zeroValue41
  t46 := Tryz.underlying158
  a46 := Tryz.isAgg158
  z46 := Tryz.sizeOf158
  v46 := Tryz.zeroValue158
  t51 := Tryz.underlying214
  a51 := Tryz.isAgg214
  z51 := Tryz.sizeOf214
  v51 := Tryz.zeroValue214
  t70 := Tryz.underlying196
  a70 := Tryz.isAgg196
  z70 := Tryz.sizeOf196
  v70 := Tryz.zeroValue196
  t72 := Tryz.underlying198
  a72 := Tryz.isAgg198
  z72 := Tryz.sizeOf198
  v72 := Tryz.zeroValue198
  t75 := Tryz.underlying43
  a75 := Tryz.isAgg43
  z75 := Tryz.sizeOf43
  v75 := Tryz.zeroValue43
  t76 := Tryz.underlying44
  a76 := Tryz.isAgg44
  z76 := Tryz.sizeOf44
  v76 := Tryz.zeroValue44
  t105 := Tryz.underlying224
  a105 := Tryz.isAgg224
  z105 := Tryz.sizeOf224
  v105 := Tryz.zeroValue224
  t107 := Tryz.underlying283
  a107 := Tryz.isAgg283
  z107 := Tryz.sizeOf283
  v107 := Tryz.zeroValue283
  t119 := Tryz.underlying284
  a119 := Tryz.isAgg284
  z119 := Tryz.sizeOf284
  t127 := Tryz.underlying245
  a127 := Tryz.isAgg245
  z127 := Tryz.sizeOf245
  v127 := Tryz.zeroValue245
  t138 := Tryz.underlying286
  a138 := Tryz.isAgg286
  z138 := Tryz.sizeOf286
  v138 := Tryz.zeroValue286
  t139 := Tryz.underlying287
  a139 := Tryz.isAgg287
  z139 := Tryz.sizeOf287
  v139 := Tryz.zeroValue287
  t160 := Tryz.underlying312
  a160 := Tryz.isAgg312
  z160 := Tryz.sizeOf312
  v160 := Tryz.zeroValue312
  t162 := Tryz.underlying309
  a162 := Tryz.isAgg309
  z162 := Tryz.sizeOf309
  v162 := Tryz.zeroValue309
  t164 := Tryz.underlying251
  a164 := Tryz.isAgg251
  z164 := Tryz.sizeOf251
  v164 := Tryz.zeroValue251
  t203 := Tryz.underlying307
  a203 := Tryz.isAgg307
  z203 := Tryz.sizeOf307
  v203 := Tryz.zeroValue307
  t206 := Tryz.underlying316
  a206 := Tryz.isAgg316
  z206 := Tryz.sizeOf316
  v206 := Tryz.zeroValue316
  t208 := Tryz.underlying318
  a208 := Tryz.isAgg318
  z208 := Tryz.sizeOf318
  v208 := Tryz.zeroValue318
  g3 := by kernel_rfl
  g4 := by kernel_rfl
  g13 := by kernel_rfl }
theorem Tryz.Builder_Extra_159 : Builder.Extra Tryz.prog Tryz.lays159_ren := {
  sizeBuilder := by kernel_rfl
  liesBuilder := by kernel_rfl
  t5 := Tryz.underlying5
  a5 := Tryz.isAgg5
  z5 := Tryz.sizeOf5
  v5 := Tryz.zeroValue5
  infoByte := by kernel_rfl
  cellsByte := by kernel_rfl
  sizeByte := by kernel_rfl
  neB5 := by decide }
open Go.RowKit in

theorem Tryz.strings_ToLower_ascii (s : ByteArray) (w : World) (hs : s.size ≤ 140737488355328) (hascii : ∀ (j : Nat) (b : UInt8), s.data.toList[j]? = some b → b.toNat < 128) :
    Calls Tryz.prog 218 #[.string s] w fun e w' => e = .returned (.string ⟨(Lib.toLowerA s.data.toList).toArray⟩) ∧ Below w.heap.size w w' := Any.strings_ToLower_ascii Tryz.lays159 Tryz.Builder_Extra_159 s w hs hascii
def Tryz.lays156_ren : Go.Shelf.Ren := ⟨fun | 156 => 167 | 165 => 185 | 166 => 151 | 169 => 153 | 240 => 198 | 241 => 220 | 276 => 230 | 277 => 244 | n => n, fun | 31 => 117 | 9 => 9 | 3 => 3 | 4 => 4 | 0 => 0 | 20 => 20 | 72 => 198 | 76 => 44 | 70 => 196 | 37 => 41 | 75 => 43 | 127 => 245 | 164 => 251 | 5 => 5 | 80 => 200 | n => n, fun | n => n⟩
theorem Tryz.lays156 : Go.Proofs.Lays.n156 Tryz.prog Tryz.lays156_ren := {
  mixed := by kernel_rfl
  f156 := Tryz.func167.trans (congrArg some (by kernel_rfl))
  f165 := Tryz.func185.trans (congrArg some (by kernel_rfl))
  f166 := Tryz.func151.trans (congrArg some (by kernel_rfl))
  f169 := Tryz.func153.trans (congrArg some (by kernel_rfl))
  f240 := Tryz.func198.trans (congrArg some (by kernel_rfl))
  f241 := Tryz.func220.trans (congrArg some (by kernel_rfl))
  f276 := Tryz.func230.trans (congrArg some (by kernel_rfl))
  f277 := Tryz.func244.trans (congrArg some (by kernel_rfl))
  t0 := Tryz.underlying0
  a0 := Tryz.isAgg0
  z0 := Tryz.sizeOf0
  v0 := Tryz.zeroValue0
  t3 := Tryz.underlying3
  a3 := Tryz.isAgg3
  z3 := Tryz.sizeOf3
  v3 := Tryz.zeroValue3
  t4 := Tryz.underlying4
  a4 := Tryz.isAgg4
  z4 := Tryz.sizeOf4
  v4 := Tryz.zeroValue4
  t9 := Tryz.underlying9
  a9 := Tryz.isAgg9
  z9 := Tryz.sizeOf9
  v9 := Tryz.zeroValue9
  t20 := Tryz.underlying20
  a20 := Tryz.isAgg20
  z20 := Tryz.sizeOf20
  v20 := Tryz.zeroValue20
  t31 := Tryz.underlying117
  a31 := Tryz.isAgg117
  z31 := Tryz.sizeOf117
  v31 := Tryz.zeroValue117
  t37 := Tryz.underlying41
  a37 := Tryz.isAgg41
  z37 := Tryz.sizeOf41
  v37 := Tryz.zeroValue41
  t70 := Tryz.underlying196
  a70 := Tryz.isAgg196
  z70 := Tryz.sizeOf196
  v70 := Tryz.zeroValue196
  t72 := Tryz.underlying198
  a72 := Tryz.isAgg198
  z72 := Tryz.sizeOf198
  v72 := Tryz.zeroValue198
  t75 := Tryz.underlying43
  a75 := Tryz.isAgg43
  z75 := Tryz.sizeOf43
  v75 := Tryz.zeroValue43
  t76 := Tryz.underlying44
  a76 := Tryz.isAgg44
  z76 := Tryz.sizeOf44
  v76 := Tryz.zeroValue44
  t127 := Tryz.underlying245
  a127 := Tryz.isAgg245
  z127 := Tryz.sizeOf245
  v127 := Tryz.zeroValue245
  t164 := Tryz.underlying251
  a164 := Tryz.isAgg251
  z164 := Tryz.sizeOf251
  v164 := Tryz.zeroValue251 }
theorem Tryz.Builder_Extra_156 : Builder.Extra Tryz.prog Tryz.lays156_ren := {
  sizeBuilder := by kernel_rfl
  liesBuilder := by kernel_rfl
  t5 := Tryz.underlying5
  a5 := Tryz.isAgg5
  z5 := Tryz.sizeOf5
  v5 := Tryz.zeroValue5
  infoByte := by kernel_rfl
  cellsByte := by kernel_rfl
  sizeByte := by kernel_rfl
  neB5 := by decide }
open Go.RowKit in

theorem Tryz.strings_Join_none (a : Option Addr) (c : Nat) (sep : ByteArray) (w : World) :
    Calls Tryz.prog 167 #[.slice a 0 c, .string sep] w fun e w' => e = .returned (.string ⟨#[]⟩) ∧ w' = w := Any.strings_Join_none Tryz.lays156 Tryz.Builder_Extra_156 a c sep w
open Go.RowKit in

theorem Tryz.strings_Join (bk o c : Nat) (xs : List ByteArray) (sep : ByteArray) (w : World) (hcells : ∀ (j : Nat) x, xs[j]? = some x → w.cell? ⟨bk, o + j, none⟩ = some (.string x)) (hbk : bk < w.heap.size) (hN : xs.length ≤ 140737488355328) (hcap : xs.length ≤ c) (hlen : (Lib.join (xs.map (·.data.toList)) sep.data.toList).length ≤ 140737488355328) :
    Calls Tryz.prog 167 #[.slice (some ⟨bk, o, none⟩) xs.length c, .string sep] w fun e w' => e = .returned (.string ⟨(Lib.join (xs.map (·.data.toList)) sep.data.toList).toArray⟩) ∧ Below w.heap.size w w' := Any.strings_Join Tryz.lays156 Tryz.Builder_Extra_156 bk o c xs sep w hcells hbk hN hcap hlen
def Tryz.lays160_ren : Go.Shelf.Ren := ⟨fun | 160 => 85 | 232 => 135 | 231 => 134 | 227 => 136 | 234 => 138 | 233 => 137 | 236 => 140 | 235 => 139 | 228 => 187 | 271 => 189 | 151 => 188 | 197 => 186 | 120 => 222 | 152 => 209 | 260 => 221 | 137 => 132 | 119 => 238 | 224 => 123 | 225 => 232 | 217 => 184 | 266 => 219 | n => n, fun | 9 => 9 | 4 => 4 | 3 => 3 | 5 => 5 | 117 => 178 | 116 => 177 | 0 => 0 | 124 => 181 | 21 => 21 | 105 => 224 | 46 => 158 | 119 => 284 | 139 => 287 | 138 => 286 | n => n, fun | 3 => 3 | 4 => 4 | n => n⟩
theorem Tryz.lays160 : Go.Proofs.Lays.n160 Tryz.prog Tryz.lays160_ren := {
  mixed := by kernel_rfl
  f119 := Tryz.func238.trans (congrArg some (by kernel_rfl))
  f120 := Tryz.func222.trans (congrArg some (by kernel_rfl))
  f137 := Tryz.func132.trans (congrArg some (by kernel_rfl))
  f151 := Tryz.func188.trans (congrArg some (by kernel_rfl))
  f152 := Tryz.func209.trans (congrArg some (by kernel_rfl))
  f160 := Tryz.func85.trans (congrArg some (by kernel_rfl))
  f197 := Tryz.func186.trans (congrArg some (by kernel_rfl))
  f217 := Tryz.func184.trans (congrArg some (by kernel_rfl))
  f224 := Tryz.func123.trans (congrArg some (by kernel_rfl))
  f225 := Tryz.func232.trans (congrArg some (by kernel_rfl))
  f227 := Tryz.func136.trans (congrArg some (by kernel_rfl))
  f228 := Tryz.func187.trans (congrArg some (by kernel_rfl))
  f231 := Tryz.func134.trans (congrArg some (by kernel_rfl))
  f232 := Tryz.func135.trans (congrArg some (by kernel_rfl))
  f233 := Tryz.func137.trans (congrArg some (by kernel_rfl))
  f234 := Tryz.func138.trans (congrArg some (by kernel_rfl))
  f235 := Tryz.func139.trans (congrArg some (by kernel_rfl))
  f236 := Tryz.func140.trans (congrArg some (by kernel_rfl))
  f260 := Tryz.func221.trans (congrArg some (by kernel_rfl))
  f266 := Tryz.func219.trans (congrArg some (by kernel_rfl))
  f271 := Tryz.func189.trans (congrArg some (by kernel_rfl))
  t0 := Tryz.underlying0
  a0 := Tryz.isAgg0
  z0 := Tryz.sizeOf0
  v0 := Tryz.zeroValue0
  t3 := Tryz.underlying3
  a3 := Tryz.isAgg3
  z3 := Tryz.sizeOf3
  v3 := Tryz.zeroValue3
  t4 := Tryz.underlying4
  a4 := Tryz.isAgg4
  z4 := Tryz.sizeOf4
  v4 := Tryz.zeroValue4
  t5 := Tryz.underlying5
  a5 := Tryz.isAgg5
  z5 := Tryz.sizeOf5
  v5 := Tryz.zeroValue5
  t9 := Tryz.underlying9
  a9 := Tryz.isAgg9
  z9 := Tryz.sizeOf9
  v9 := Tryz.zeroValue9
  t21 := Tryz.underlying21
  a21 := Tryz.isAgg21
  z21 := Tryz.sizeOf21
  v21 := Tryz.zeroValue21
  t46 := Tryz.underlying158
  a46 := Tryz.isAgg158
  z46 := Tryz.sizeOf158
  v46 := Tryz.zeroValue158
  t105 := Tryz.underlying224
  a105 := Tryz.isAgg224
  z105 := Tryz.sizeOf224
  v105 := Tryz.zeroValue224
  t116 := Tryz.underlying177
  a116 := Tryz.isAgg177
  z116 := Tryz.sizeOf177
  t117 := Tryz.underlying178
  a117 := Tryz.isAgg178
  z117 := Tryz.sizeOf178
  v117 := Tryz.zeroValue178
  t119 := Tryz.underlying284
  a119 := Tryz.isAgg284
  z119 := Tryz.sizeOf284
  t124 := Tryz.underlying181
  a124 := Tryz.isAgg181
  z124 := Tryz.sizeOf181
  v124 := Tryz.zeroValue181
  t138 := Tryz.underlying286
  a138 := Tryz.isAgg286
  z138 := Tryz.sizeOf286
  v138 := Tryz.zeroValue286
  t139 := Tryz.underlying287
  a139 := Tryz.isAgg287
  z139 := Tryz.sizeOf287
  v139 := Tryz.zeroValue287
  g3 := by kernel_rfl
  g4 := by kernel_rfl }
def Tryz.lays137_ren : Go.Shelf.Ren := ⟨fun | 137 => 132 | 217 => 184 | 266 => 219 | n => n, fun | 9 => 9 | 5 => 5 | 3 => 3 | n => n, fun | n => n⟩
theorem Tryz.lays137 : Go.Proofs.Lays.n137 Tryz.prog Tryz.lays137_ren := {
  mixed := by kernel_rfl
  f137 := Tryz.func132.trans (congrArg some (by kernel_rfl))
  f217 := Tryz.func184.trans (congrArg some (by kernel_rfl))
  f266 := Tryz.func219.trans (congrArg some (by kernel_rfl))
  t3 := Tryz.underlying3
  a3 := Tryz.isAgg3
  z3 := Tryz.sizeOf3
  v3 := Tryz.zeroValue3
  t5 := Tryz.underlying5
  a5 := Tryz.isAgg5
  z5 := Tryz.sizeOf5
  v5 := Tryz.zeroValue5
  t9 := Tryz.underlying9
  a9 := Tryz.isAgg9
  z9 := Tryz.sizeOf9
  v9 := Tryz.zeroValue9 }
open Go.RowKit in

theorem Tryz.strings_IndexByte (s : ByteArray) (c : Int) (w : World) :
    Calls Tryz.prog 132 #[.string s, .int .u8 c] w fun e w' => e = .returned (.int .i64 (Lib.indexByte s.data.toList c.toNat.toUInt8)) ∧ w' = w := Any.strings_IndexByte Tryz.lays137 s c w
def Tryz.laysM171_ren : Go.Shelf.Ren := ⟨fun | 171 => 116 | 243 => 168 | 246 => 204 | 283 => 234 | 284 => 235 | 285 => 236 | 286 => 237 | 129 => 252 | 317 => 251 | 318 => 253 | 319 => 254 | 320 => 255 | 337 => 262 | 338 => 263 | n => n, fun | 3 => 3 | 9 => 9 | 2 => 2 | 4 => 4 | 171 => 270 | 0 => 0 | 53 => 125 | 37 => 41 | 5 => 5 | 173 => 273 | 212 => 295 | 51 => 214 | 20 => 20 | 213 => 296 | 46 => 158 | 232 => 310 | 233 => 311 | n => n, fun | 17 => 7 | 18 => 9 | 19 => 10 | n => n⟩
theorem Tryz.laysM171 : Go.Proofs.LaysM.n171 Tryz.prog Tryz.laysM171_ren := {
  mixed := by kernel_rfl
  f129 := Tryz.func252.trans (congrArg some (by kernel_rfl))
  f171 := Tryz.func116.trans (congrArg some (by kernel_rfl))
  f243 := Tryz.func168.trans (congrArg some (by kernel_rfl))
  f246 := Tryz.func204.trans (congrArg some (by kernel_rfl))
  f283 := Tryz.func234.trans (congrArg some (by kernel_rfl))
  f284 := Tryz.func235.trans (congrArg some (by kernel_rfl))
  f285 := Tryz.func236.trans (congrArg some (by kernel_rfl))
  f286 := Tryz.func237.trans (congrArg some (by kernel_rfl))
  f317 := Tryz.func251.trans (congrArg some (by kernel_rfl))
  f318 := Tryz.func253.trans (congrArg some (by kernel_rfl))
  f319 := Tryz.func254.trans (congrArg some (by kernel_rfl))
  f320 := Tryz.func255.trans (congrArg some (by kernel_rfl))
  f337 := Tryz.func262.trans (congrArg some (by kernel_rfl))
  f338 := Tryz.func263.trans (congrArg some (by kernel_rfl))
  t0 := Tryz.underlying0
  a0 := Tryz.isAgg0
  z0 := Tryz.sizeOf0
  v0 := Tryz.zeroValue0
  t2 := Tryz.underlying2
  a2 := Tryz.isAgg2
  z2 := Tryz.sizeOf2
  v2 := Tryz.zeroValue2
  t3 := Tryz.underlying3
  a3 := Tryz.isAgg3
  z3 := Tryz.sizeOf3
  v3 := Tryz.zeroValue3
  t4 := Tryz.underlying4
  a4 := Tryz.isAgg4
  z4 := Tryz.sizeOf4
  v4 := Tryz.zeroValue4
  t5 := Tryz.underlying5
  a5 := Tryz.isAgg5
  z5 := Tryz.sizeOf5
  v5 := Tryz.zeroValue5
  t9 := Tryz.underlying9
  a9 := Tryz.isAgg9
  z9 := Tryz.sizeOf9
  v9 := Tryz.zeroValue9
  t20 := Tryz.underlying20
  a20 := Tryz.isAgg20
  z20 := Tryz.sizeOf20
  v20 := Tryz.zeroValue20
  t37 := Tryz.underlying41
  a37 := Tryz.isAgg41
  z37 := Tryz.sizeOf41
  v37 := Tryz.zeroValue41
  t46 := Tryz.underlying158
  a46 := Tryz.isAgg158
  z46 := Tryz.sizeOf158
  v46 := Tryz.zeroValue158
  t51 := Tryz.underlying214
  a51 := Tryz.isAgg214
  z51 := Tryz.sizeOf214
  v51 := Tryz.zeroValue214
  t53 := Tryz.underlying125
  a53 := Tryz.isAgg125
  z53 := Tryz.sizeOf125
  v53 := Tryz.zeroValue125
  t171 := Tryz.underlying270
  a171 := Tryz.isAgg270
  z171 := Tryz.sizeOf270
  v171 := Tryz.zeroValue270
  t173 := Tryz.underlying273
  a173 := Tryz.isAgg273
  z173 := Tryz.sizeOf273
  v173 := Tryz.zeroValue273
  t212 := Tryz.underlying295
  a212 := Tryz.isAgg295
  z212 := Tryz.sizeOf295
  v212 := Tryz.zeroValue295
  t213 := Tryz.underlying296
  a213 := Tryz.isAgg296
  z213 := Tryz.sizeOf296
  t232 := Tryz.underlying310
  a232 := Tryz.isAgg310
  z232 := Tryz.sizeOf310
  v232 := Tryz.zeroValue310
  t233 := Tryz.underlying311
  a233 := Tryz.isAgg311
  z233 := Tryz.sizeOf311
  v233 := Tryz.zeroValue311
  g17 := by kernel_rfl
  g18 := by kernel_rfl
  g19 := by kernel_rfl
  i0 := by kernel_rfl
  i2 := by kernel_rfl
  i3 := by kernel_rfl
  i4 := by kernel_rfl
  i5 := by kernel_rfl
  i9 := by kernel_rfl
  i20 := by kernel_rfl
  i37 := by kernel_rfl
  i46 := by kernel_rfl
  i51 := by kernel_rfl
  i53 := by kernel_rfl
  i171 := by kernel_rfl
  i173 := by kernel_rfl
  i212 := by kernel_rfl
  i232 := by kernel_rfl
  i233 := by kernel_rfl
  m17 := by kernel_rfl
  m18 := by kernel_rfl
  m19 := by kernel_rfl }
open Go.RowKit Go.Sort Go.Lib in

theorem Tryz.strconv_Itoa (n : Int) (h0 : -9223372036854775808 ≤ n) (h1 : n ≤ 9223372036854775807) (w : World) (htab : Lib.TabIs Tryz.prog w "internal/strconv.uint64pow10" .u64 Lib.pow10Tab) :
    Calls Tryz.prog 116 #[.int .i64 n] w fun e w' => e = .returned (.string ⟨(Lib.itoa n).toArray⟩) ∧ ∃ k os, w' = grow (w.drewN k) os := Any.strconv_Itoa Tryz.laysM171 n h0 h1 w htab
def Tryz.laysM181_ren : Go.Shelf.Ren := ⟨fun | 181 => 146 | n => n, fun | 130 => 231 | 3 => 3 | 0 => 0 | 93 => 190 | 37 => 41 | 91 => 188 | 5 => 5 | n => n, fun | n => n⟩
theorem Tryz.laysM181 : Go.Proofs.LaysM.n181 Tryz.prog Tryz.laysM181_ren := {
  mixed := by kernel_rfl
  f181 := Tryz.func146.trans (congrArg some (by kernel_rfl))
  t0 := Tryz.underlying0
  a0 := Tryz.isAgg0
  z0 := Tryz.sizeOf0
  v0 := Tryz.zeroValue0
  t3 := Tryz.underlying3
  a3 := Tryz.isAgg3
  z3 := Tryz.sizeOf3
  v3 := Tryz.zeroValue3
  t37 := Tryz.underlying41
  a37 := Tryz.isAgg41
  z37 := Tryz.sizeOf41
  v37 := Tryz.zeroValue41
  t93 := Tryz.underlying190
  a93 := Tryz.isAgg190
  z93 := Tryz.sizeOf190
  v93 := Tryz.zeroValue190
  t130 := Tryz.underlying231
  a130 := Tryz.isAgg231
  z130 := Tryz.sizeOf231
  v130 := Tryz.zeroValue231
  t5 := Tryz.underlying5
  a5 := Tryz.isAgg5
  z5 := Tryz.sizeOf5
  v5 := Tryz.zeroValue5
  t91 := Tryz.underlying188
  a91 := Tryz.isAgg188
  z91 := Tryz.sizeOf188
  v91 := Tryz.zeroValue188
  i0 := by kernel_rfl
  i3 := by kernel_rfl
  i5 := by kernel_rfl
  i37 := by kernel_rfl
  i91 := by kernel_rfl
  i93 := by kernel_rfl
  i130 := by kernel_rfl }
open Go.RowKit in

theorem Tryz.Buffer_Len (B b : Nat) (bs : List Value) (w : World) (h : Lib.IsBuffer 190 5 B b bs w) :
    Calls Tryz.prog 146 #[.pointer (some ⟨b, 0, none⟩)] w fun e w' => e = .returned (.int .i64 bs.length) ∧ ∃ n, w' = w.drewN n := Any.Buffer_Len Tryz.laysM181 B b bs w h
def Tryz.laysM183_ren : Go.Shelf.Ren := ⟨fun | 183 => 147 | n => n, fun | 130 => 231 | 37 => 41 | 0 => 0 | 93 => 190 | 3 => 3 | 5 => 5 | 91 => 188 | n => n, fun | n => n⟩
theorem Tryz.laysM183 : Go.Proofs.LaysM.n183 Tryz.prog Tryz.laysM183_ren := {
  mixed := by kernel_rfl
  f183 := Tryz.func147.trans (congrArg some (by kernel_rfl))
  t0 := Tryz.underlying0
  a0 := Tryz.isAgg0
  z0 := Tryz.sizeOf0
  v0 := Tryz.zeroValue0
  t3 := Tryz.underlying3
  a3 := Tryz.isAgg3
  z3 := Tryz.sizeOf3
  v3 := Tryz.zeroValue3
  t37 := Tryz.underlying41
  a37 := Tryz.isAgg41
  z37 := Tryz.sizeOf41
  v37 := Tryz.zeroValue41
  t93 := Tryz.underlying190
  a93 := Tryz.isAgg190
  z93 := Tryz.sizeOf190
  v93 := Tryz.zeroValue190
  t130 := Tryz.underlying231
  a130 := Tryz.isAgg231
  z130 := Tryz.sizeOf231
  v130 := Tryz.zeroValue231
  t5 := Tryz.underlying5
  a5 := Tryz.isAgg5
  z5 := Tryz.sizeOf5
  v5 := Tryz.zeroValue5
  t91 := Tryz.underlying188
  a91 := Tryz.isAgg188
  z91 := Tryz.sizeOf188
  v91 := Tryz.zeroValue188
  i0 := by kernel_rfl
  i3 := by kernel_rfl
  i5 := by kernel_rfl
  i37 := by kernel_rfl
  i91 := by kernel_rfl
  i93 := by kernel_rfl
  i130 := by kernel_rfl }
open Go.RowKit in

theorem Tryz.Buffer_Bytes (B b : Nat) (bs : List Value) (w : World) (h : Lib.IsBuffer 190 5 B b bs w) :
    Calls Tryz.prog 147 #[.pointer (some ⟨b, 0, none⟩)] w fun e w' => ∃ v, e = .returned v ∧ w'.ownsRow B 5 1 v bs.length bs ∧ ∃ n, w' = w.drewN n := Any.Buffer_Bytes Tryz.laysM183 B b bs w h
def Tryz.laysC172_ren : Go.Shelf.Ren := ⟨fun | 172 => 143 | 244 => 194 | 245 => 195 | 247 => 223 | 279 => 224 | 280 => 225 | 281 => 226 | 282 => 227 | 287 => 245 | 316 => 246 | 171 => 116 | 205 => 247 | 321 => 260 | 322 => 261 | 243 => 168 | 246 => 204 | 283 => 234 | 284 => 235 | 285 => 236 | 286 => 237 | 129 => 252 | 317 => 251 | 318 => 253 | 319 => 254 | 320 => 255 | 337 => 262 | 338 => 263 | n => n, fun | 9 => 9 | 3 => 3 | 75 => 43 | 76 => 44 | 4 => 4 | 5 => 5 | 167 => 262 | 37 => 41 | 0 => 0 | 85 => 263 | 2 => 2 | 168 => 265 | 53 => 125 | 175 => 288 | 46 => 158 | 210 => 291 | 127 => 245 | 145 => 304 | 143 => 302 | 21 => 21 | 171 => 270 | 173 => 273 | 212 => 295 | 51 => 214 | 20 => 20 | 213 => 296 | 232 => 310 | 233 => 311 | 80 => 200 | n => n, fun | 15 => 5 | 16 => 6 | 17 => 7 | 18 => 9 | 19 => 10 | n => n⟩
theorem Tryz.laysC172 : Go.Proofs.LaysC.n172 Tryz.prog Tryz.laysC172_ren := {
  mixed := by kernel_rfl
  f129 := Tryz.func252.trans (congrArg some (by kernel_rfl))
  f171 := Tryz.func116.trans (congrArg some (by kernel_rfl))
  f172 := Tryz.func143.trans (congrArg some (by kernel_rfl))
  f205 := Tryz.func247.trans (congrArg some (by kernel_rfl))
  f243 := Tryz.func168.trans (congrArg some (by kernel_rfl))
  f244 := Tryz.func194.trans (congrArg some (by kernel_rfl))
  f245 := Tryz.func195.trans (congrArg some (by kernel_rfl))
  f246 := Tryz.func204.trans (congrArg some (by kernel_rfl))
  f247 := Tryz.func223.trans (congrArg some (by kernel_rfl))
  f279 := Tryz.func224.trans (congrArg some (by kernel_rfl))
  f280 := Tryz.func225.trans (congrArg some (by kernel_rfl))
  f281 := Tryz.func226.trans (congrArg some (by kernel_rfl))
  f282 := Tryz.func227.trans (congrArg some (by kernel_rfl))
  f283 := Tryz.func234.trans (congrArg some (by kernel_rfl))
  f284 := Tryz.func235.trans (congrArg some (by kernel_rfl))
  f285 := Tryz.func236.trans (congrArg some (by kernel_rfl))
  f286 := Tryz.func237.trans (congrArg some (by kernel_rfl))
  f287 := Tryz.func245.trans (congrArg some (by kernel_rfl))
  f316 := Tryz.func246.trans (congrArg some (by kernel_rfl))
  f317 := Tryz.func251.trans (congrArg some (by kernel_rfl))
  f318 := Tryz.func253.trans (congrArg some (by kernel_rfl))
  f319 := Tryz.func254.trans (congrArg some (by kernel_rfl))
  f320 := Tryz.func255.trans (congrArg some (by kernel_rfl))
  f321 := Tryz.func260.trans (congrArg some (by kernel_rfl))
  f322 := Tryz.func261.trans (congrArg some (by kernel_rfl))
  f337 := Tryz.func262.trans (congrArg some (by kernel_rfl))
  f338 := Tryz.func263.trans (congrArg some (by kernel_rfl))
  t0 := Tryz.underlying0
  a0 := Tryz.isAgg0
  z0 := Tryz.sizeOf0
  v0 := Tryz.zeroValue0
  t2 := Tryz.underlying2
  a2 := Tryz.isAgg2
  z2 := Tryz.sizeOf2
  v2 := Tryz.zeroValue2
  t3 := Tryz.underlying3
  a3 := Tryz.isAgg3
  z3 := Tryz.sizeOf3
  v3 := Tryz.zeroValue3
  t4 := Tryz.underlying4
  a4 := Tryz.isAgg4
  z4 := Tryz.sizeOf4
  v4 := Tryz.zeroValue4
  t5 := Tryz.underlying5
  a5 := Tryz.isAgg5
  z5 := Tryz.sizeOf5
  v5 := Tryz.zeroValue5
  t9 := Tryz.underlying9
  a9 := Tryz.isAgg9
  z9 := Tryz.sizeOf9
  v9 := Tryz.zeroValue9
  t20 := Tryz.underlying20
  a20 := Tryz.isAgg20
  z20 := Tryz.sizeOf20
  v20 := Tryz.zeroValue20
  t21 := Tryz.underlying21
  a21 := Tryz.isAgg21
  z21 := Tryz.sizeOf21
  v21 := Tryz.zeroValue21
  t37 := Tryz.underlying41
  a37 := Tryz.isAgg41
  z37 := Tryz.sizeOf41
  v37 := Tryz.zeroValue41
  t46 := Tryz.underlying158
  a46 := Tryz.isAgg158
  z46 := Tryz.sizeOf158
  v46 := Tryz.zeroValue158
  t51 := Tryz.underlying214
  a51 := Tryz.isAgg214
  z51 := Tryz.sizeOf214
  v51 := Tryz.zeroValue214
  t53 := Tryz.underlying125
  a53 := Tryz.isAgg125
  z53 := Tryz.sizeOf125
  v53 := Tryz.zeroValue125
  t75 := Tryz.underlying43
  a75 := Tryz.isAgg43
  z75 := Tryz.sizeOf43
  v75 := Tryz.zeroValue43
  t76 := Tryz.underlying44
  a76 := Tryz.isAgg44
  z76 := Tryz.sizeOf44
  v76 := Tryz.zeroValue44
  t85 := Tryz.underlying263
  a85 := Tryz.isAgg263
  z85 := Tryz.sizeOf263
  v85 := Tryz.zeroValue263
  t127 := Tryz.underlying245
  a127 := Tryz.isAgg245
  z127 := Tryz.sizeOf245
  v127 := Tryz.zeroValue245
  t143 := Tryz.underlying302
  a143 := Tryz.isAgg302
  z143 := Tryz.sizeOf302
  v143 := Tryz.zeroValue302
  t145 := Tryz.underlying304
  a145 := Tryz.isAgg304
  z145 := Tryz.sizeOf304
  v145 := Tryz.zeroValue304
  t167 := Tryz.underlying262
  a167 := Tryz.isAgg262
  z167 := Tryz.sizeOf262
  v167 := Tryz.zeroValue262
  t168 := Tryz.underlying265
  a168 := Tryz.isAgg265
  z168 := Tryz.sizeOf265
  v168 := Tryz.zeroValue265
  t171 := Tryz.underlying270
  a171 := Tryz.isAgg270
  z171 := Tryz.sizeOf270
  v171 := Tryz.zeroValue270
  t173 := Tryz.underlying273
  a173 := Tryz.isAgg273
  z173 := Tryz.sizeOf273
  v173 := Tryz.zeroValue273
  t175 := Tryz.underlying288
  a175 := Tryz.isAgg288
  z175 := Tryz.sizeOf288
  v175 := Tryz.zeroValue288
  t210 := Tryz.underlying291
  a210 := Tryz.isAgg291
  z210 := Tryz.sizeOf291
  v210 := Tryz.zeroValue291
  t212 := Tryz.underlying295
  a212 := Tryz.isAgg295
  z212 := Tryz.sizeOf295
  v212 := Tryz.zeroValue295
  t213 := Tryz.underlying296
  a213 := Tryz.isAgg296
  z213 := Tryz.sizeOf296
  t232 := Tryz.underlying310
  a232 := Tryz.isAgg310
  z232 := Tryz.sizeOf310
  v232 := Tryz.zeroValue310
  t233 := Tryz.underlying311
  a233 := Tryz.isAgg311
  z233 := Tryz.sizeOf311
  v233 := Tryz.zeroValue311
  g15 := by kernel_rfl
  g16 := by kernel_rfl
  g17 := by kernel_rfl
  g18 := by kernel_rfl
  g19 := by kernel_rfl
  t80 := Tryz.underlying200
  a80 := Tryz.isAgg200
  z80 := Tryz.sizeOf200
  v80 := Tryz.zeroValue200
  i0 := by kernel_rfl
  i2 := by kernel_rfl
  i3 := by kernel_rfl
  i4 := by kernel_rfl
  i5 := by kernel_rfl
  i9 := by kernel_rfl
  i20 := by kernel_rfl
  i21 := by kernel_rfl
  i37 := by kernel_rfl
  i46 := by kernel_rfl
  i51 := by kernel_rfl
  i53 := by kernel_rfl
  i75 := by kernel_rfl
  i76 := by kernel_rfl
  i80 := by kernel_rfl
  i85 := by kernel_rfl
  i127 := by kernel_rfl
  i143 := by kernel_rfl
  i145 := by kernel_rfl
  i167 := by kernel_rfl
  i168 := by kernel_rfl
  i171 := by kernel_rfl
  i173 := by kernel_rfl
  i175 := by kernel_rfl
  i210 := by kernel_rfl
  i212 := by kernel_rfl
  i232 := by kernel_rfl
  i233 := by kernel_rfl
  m15 := by kernel_rfl
  m16 := by kernel_rfl
  m17 := by kernel_rfl
  m18 := by kernel_rfl
  m19 := by kernel_rfl
  c0 := by kernel_rfl
  c2 := by kernel_rfl
  c3 := by kernel_rfl
  c4 := by kernel_rfl
  c5 := by kernel_rfl
  c9 := by kernel_rfl
  c20 := by kernel_rfl
  c21 := by kernel_rfl
  c37 := by kernel_rfl
  c46 := by kernel_rfl
  c51 := by kernel_rfl
  c53 := by kernel_rfl
  c75 := by kernel_rfl
  c76 := by kernel_rfl
  c80 := by kernel_rfl
  c85 := by kernel_rfl
  c127 := by kernel_rfl
  c143 := by kernel_rfl
  c145 := by kernel_rfl
  c167 := by kernel_rfl
  c168 := by kernel_rfl
  c171 := by kernel_rfl
  c173 := by kernel_rfl
  c175 := by kernel_rfl
  c210 := by kernel_rfl
  c212 := by kernel_rfl
  c213 := by kernel_rfl
  c232 := by kernel_rfl
  c233 := by kernel_rfl }
open Go.RowKit in

theorem Tryz.strconv_Atoi_ok (s : ByteArray) (hmax : s.size ≤ 9223372036854775806) (v : Int) (h : Lib.atoiAll s.data.toList = .ok v) (w : World) :
    Calls Tryz.prog 143 #[.string s] w fun e w' => e = .returned (.tuple #[.int .i64 v, .nilIface]) ∧ (w' = w ∨ ∃ t, w' = Lib.bytesWorld w 5 t) := Any.strconv_Atoi_ok Tryz.laysC172 s hmax v h w
open Go.RowKit in

theorem Tryz.strconv_Atoi_syntax (s : ByteArray) (hlim : s.size ≤ 281474976710656) (h : Lib.atoiAll s.data.toList = Lib.atoiAll []) (ev : Value) (w : World) (hv : w.cell? ⟨5, 0, none⟩ = some ev) (hev : ev = .nilIface ∨ ∃ te pe, ev = .iface te pe) :
    Calls Tryz.prog 143 #[.string s] w fun e w' => ∃ N, e = .returned (.tuple #[.int .i64 (0), .iface 265 (.pointer (some ⟨N, 0, none⟩))]) ∧ w.heap.size ≤ N ∧ w'.heap[N]? = some (.cells #[.string ⟨#[65, 116, 111, 105]⟩, .string s, ev] 291 (0, 0)) ∧ Below w.heap.size w w' := Any.strconv_Atoi_syntax Tryz.laysC172 s hlim h ev w hv hev
open Go.RowKit in

theorem Tryz.strconv_Atoi_range (s : ByteArray) (hlim : s.size ≤ 281474976710656) (h : Lib.atoiAll s.data.toList = .range) (ev : Value) (w : World) (hv : w.cell? ⟨6, 0, none⟩ = some ev) (hev : ev = .nilIface ∨ ∃ te pe, ev = .iface te pe) :
    Calls Tryz.prog 143 #[.string s] w fun e w' => ∃ N, e = .returned (.tuple #[.int .i64 (Lib.atoiSat s.data.toList), .iface 265 (.pointer (some ⟨N, 0, none⟩))]) ∧ w.heap.size ≤ N ∧ w'.heap[N]? = some (.cells #[.string ⟨#[65, 116, 111, 105]⟩, .string s, ev] 291 (0, 0)) ∧ Below w.heap.size w w' := Any.strconv_Atoi_range Tryz.laysC172 s hlim h ev w hv hev
def Tryz.lays145_ren : Go.Shelf.Ren := ⟨fun | 145 => 114 | 220 => 165 | 219 => 203 | 217 => 184 | 225 => 232 | 224 => 123 | 267 => 233 | 266 => 219 | 314 => 250 | n => n, fun | 9 => 9 | 4 => 4 | 59 => 152 | 3 => 3 | 5 => 5 | 46 => 158 | 146 => 215 | 51 => 214 | n => n, fun | 1 => 0 | n => n⟩
theorem Tryz.lays145 : Go.Proofs.Lays.n145 Tryz.prog Tryz.lays145_ren := {
  mixed := by kernel_rfl
  f145 := Tryz.func114.trans (congrArg some (by kernel_rfl))
  f217 := Tryz.func184.trans (congrArg some (by kernel_rfl))
  f219 := Tryz.func203.trans (congrArg some (by kernel_rfl))
  f220 := Tryz.func165.trans (congrArg some (by kernel_rfl))
  f224 := Tryz.func123.trans (congrArg some (by kernel_rfl))
  f225 := Tryz.func232.trans (congrArg some (by kernel_rfl))
  f266 := Tryz.func219.trans (congrArg some (by kernel_rfl))
  f267 := Tryz.func233.trans (congrArg some (by kernel_rfl))
  f314 := Tryz.func250.trans (congrArg some (by kernel_rfl))
  t3 := Tryz.underlying3
  a3 := Tryz.isAgg3
  z3 := Tryz.sizeOf3
  v3 := Tryz.zeroValue3
  t4 := Tryz.underlying4
  a4 := Tryz.isAgg4
  z4 := Tryz.sizeOf4
  v4 := Tryz.zeroValue4
  t5 := Tryz.underlying5
  a5 := Tryz.isAgg5
  z5 := Tryz.sizeOf5
  v5 := Tryz.zeroValue5
  t9 := Tryz.underlying9
  a9 := Tryz.isAgg9
  z9 := Tryz.sizeOf9
  v9 := Tryz.zeroValue9
  t46 := Tryz.underlying158
  a46 := Tryz.isAgg158
  z46 := Tryz.sizeOf158
  v46 := Tryz.zeroValue158
  t51 := Tryz.underlying214
  a51 := Tryz.isAgg214
  z51 := Tryz.sizeOf214
  v51 := Tryz.zeroValue214
  t59 := Tryz.underlying152
  a59 := Tryz.isAgg152
  z59 := Tryz.sizeOf152
  v59 := Tryz.zeroValue152
  t146 := Tryz.underlying215
  a146 := Tryz.isAgg215
  z146 := Tryz.sizeOf215
  v146 := Tryz.zeroValue215
  g1 := by kernel_rfl }
open Go.RowKit Go.Lib in

theorem Tryz.strings_Cut (s sep : ByteArray) (m : Int) (w : World) (hs : s.size < 4294967281) (hm : w.cell? ⟨0, 0, none⟩ = some (.int .i64 m)) :
    Calls Tryz.prog 114 #[.string s, .string sep] w fun e w' => e = .returned (.tuple #[.string ⟨(Lib.cut s.data.toList sep.data.toList).1.toArray⟩, .string ⟨(Lib.cut s.data.toList sep.data.toList).2.1.toArray⟩, .bool (Lib.cut s.data.toList sep.data.toList).2.2]) ∧ ∃ n, w' = w.drewN n := Any.strings_Cut Tryz.lays145 s sep m w hs hm
def Tryz.laysM178_ren : Go.Shelf.Ren := ⟨fun | 178 => 145 | 251 => 196 | 252 => 197 | 181 => 146 | 184 => 228 | 290 => 229 | 324 => 248 | n => n, fun | 130 => 231 | 9 => 9 | 3 => 3 | 75 => 43 | 0 => 0 | 93 => 190 | 91 => 188 | 131 => 93 | 4 => 4 | 37 => 41 | 20 => 20 | 80 => 200 | 5 => 5 | n => n, fun | 14 => 2 | n => n⟩
theorem Tryz.laysM178 : Go.Proofs.LaysM.n178 Tryz.prog Tryz.laysM178_ren := {
  mixed := by kernel_rfl
  f178 := Tryz.func145.trans (congrArg some (by kernel_rfl))
  f181 := Tryz.func146.trans (congrArg some (by kernel_rfl))
  f184 := Tryz.func228.trans (congrArg some (by kernel_rfl))
  f251 := Tryz.func196.trans (congrArg some (by kernel_rfl))
  f252 := Tryz.func197.trans (congrArg some (by kernel_rfl))
  f290 := Tryz.func229.trans (congrArg some (by kernel_rfl))
  f324 := Tryz.func248.trans (congrArg some (by kernel_rfl))
  t0 := Tryz.underlying0
  a0 := Tryz.isAgg0
  z0 := Tryz.sizeOf0
  v0 := Tryz.zeroValue0
  t3 := Tryz.underlying3
  a3 := Tryz.isAgg3
  z3 := Tryz.sizeOf3
  v3 := Tryz.zeroValue3
  t4 := Tryz.underlying4
  a4 := Tryz.isAgg4
  z4 := Tryz.sizeOf4
  v4 := Tryz.zeroValue4
  t9 := Tryz.underlying9
  a9 := Tryz.isAgg9
  z9 := Tryz.sizeOf9
  v9 := Tryz.zeroValue9
  t20 := Tryz.underlying20
  a20 := Tryz.isAgg20
  z20 := Tryz.sizeOf20
  v20 := Tryz.zeroValue20
  t37 := Tryz.underlying41
  a37 := Tryz.isAgg41
  z37 := Tryz.sizeOf41
  v37 := Tryz.zeroValue41
  t75 := Tryz.underlying43
  a75 := Tryz.isAgg43
  z75 := Tryz.sizeOf43
  v75 := Tryz.zeroValue43
  t91 := Tryz.underlying188
  a91 := Tryz.isAgg188
  z91 := Tryz.sizeOf188
  v91 := Tryz.zeroValue188
  t93 := Tryz.underlying190
  a93 := Tryz.isAgg190
  z93 := Tryz.sizeOf190
  v93 := Tryz.zeroValue190
  t130 := Tryz.underlying231
  a130 := Tryz.isAgg231
  z130 := Tryz.sizeOf231
  v130 := Tryz.zeroValue231
  t131 := Tryz.underlying93
  a131 := Tryz.isAgg93
  z131 := Tryz.sizeOf93
  v131 := Tryz.zeroValue93
  g14 := by kernel_rfl
  t5 := Tryz.underlying5
  a5 := Tryz.isAgg5
  z5 := Tryz.sizeOf5
  v5 := Tryz.zeroValue5
  t80 := Tryz.underlying200
  a80 := Tryz.isAgg200
  z80 := Tryz.sizeOf200
  v80 := Tryz.zeroValue200
  i0 := by kernel_rfl
  i3 := by kernel_rfl
  i4 := by kernel_rfl
  i5 := by kernel_rfl
  i9 := by kernel_rfl
  i20 := by kernel_rfl
  i37 := by kernel_rfl
  i75 := by kernel_rfl
  i80 := by kernel_rfl
  i91 := by kernel_rfl
  i93 := by kernel_rfl
  i130 := by kernel_rfl
  i131 := by kernel_rfl
  m14 := by kernel_rfl }
open Go.RowKit in
theorem Tryz.Buffer_WriteString_k (B b : Nat) (bs : List Value) (s : ByteArray) (w : World) (h : Lib.IsBuffer 190 5 B b bs w) (hBw : B ≤ w.heap.size) (h1 : ∀ v ∈ bs, v.oneCell' = true) (hlim : bs.length + s.size ≤ 140737488355328) :
    Calls Tryz.prog 145 #[.pointer (some ⟨b, 0, none⟩), .string s] w fun e w' => e = .returned (.tuple #[.int .i64 s.size, .nilIface]) ∧ Lib.IsBuffer 190 5 B b (bs ++ Lib.byteCells s.data.toList) w' ∧ Below B w w' ∧ Lib.OthersKept 5 (some b) w w' := Any.Buffer_WriteString_k Tryz.laysM178 B b bs s w h hBw h1 hlim
def Tryz.lays99_ren : Go.Shelf.Ren := ⟨fun | 99 => 98 | 206 => 144 | n => n, fun | 9 => 9 | 4 => 4 | 3 => 3 | n => n, fun | n => n⟩
theorem Tryz.lays99 : Go.Proofs.Lays.n99 Tryz.prog Tryz.lays99_ren := {
  mixed := by kernel_rfl
  f99 := Tryz.func98.trans (congrArg some (by kernel_rfl))
  f206 := Tryz.func144.trans (congrArg some (by kernel_rfl))
  t3 := Tryz.underlying3
  a3 := Tryz.isAgg3
  z3 := Tryz.sizeOf3
  v3 := Tryz.zeroValue3
  t4 := Tryz.underlying4
  a4 := Tryz.isAgg4
  z4 := Tryz.sizeOf4
  v4 := Tryz.zeroValue4
  t9 := Tryz.underlying9
  a9 := Tryz.isAgg9
  z9 := Tryz.sizeOf9
  v9 := Tryz.zeroValue9 }
open Go.RowKit Go.Lib in

theorem Tryz.strings_HasPrefix (s p : ByteArray) (w : World) :
    Calls Tryz.prog 98 #[.string s, .string p] w fun e w' => e = .returned (.bool (Lib.hasPrefix s.data.toList p.data.toList)) ∧ w' = w := Any.strings_HasPrefix Tryz.lays99 s p w
def Tryz.lays146_ren : Go.Shelf.Ren := ⟨fun | 146 => 74 | 221 => 125 | 268 => 172 | 138 => 173 | 143 => 174 | 195 => 207 | 197 => 186 | 218 => 208 | 219 => 203 | 260 => 221 | 217 => 184 | 225 => 232 | 224 => 123 | 267 => 233 | 266 => 219 | 314 => 250 | n => n, fun | 9 => 9 | 31 => 117 | 3 => 3 | 4 => 4 | 0 => 0 | 105 => 224 | 21 => 21 | 5 => 5 | 46 => 158 | 119 => 284 | 139 => 287 | 138 => 286 | 146 => 215 | 51 => 214 | n => n, fun | 1 => 0 | 3 => 3 | 4 => 4 | n => n⟩
theorem Tryz.lays146 : Go.Proofs.Lays.n146 Tryz.prog Tryz.lays146_ren := {
  mixed := by kernel_rfl
  f138 := Tryz.func173.trans (congrArg some (by kernel_rfl))
  f143 := Tryz.func174.trans (congrArg some (by kernel_rfl))
  f146 := Tryz.func74.trans (congrArg some (by kernel_rfl))
  f195 := Tryz.func207.trans (congrArg some (by kernel_rfl))
  f197 := Tryz.func186.trans (congrArg some (by kernel_rfl))
  f217 := Tryz.func184.trans (congrArg some (by kernel_rfl))
  f218 := Tryz.func208.trans (congrArg some (by kernel_rfl))
  f219 := Tryz.func203.trans (congrArg some (by kernel_rfl))
  f221 := Tryz.func125.trans (congrArg some (by kernel_rfl))
  f224 := Tryz.func123.trans (congrArg some (by kernel_rfl))
  f225 := Tryz.func232.trans (congrArg some (by kernel_rfl))
  f260 := Tryz.func221.trans (congrArg some (by kernel_rfl))
  f266 := Tryz.func219.trans (congrArg some (by kernel_rfl))
  f267 := Tryz.func233.trans (congrArg some (by kernel_rfl))
  f268 := Tryz.func172.trans (congrArg some (by kernel_rfl))
  f314 := Tryz.func250.trans (congrArg some (by kernel_rfl))
  t0 := Tryz.underlying0
  a0 := Tryz.isAgg0
  z0 := Tryz.sizeOf0
  v0 := Tryz.zeroValue0
  t3 := Tryz.underlying3
  a3 := Tryz.isAgg3
  z3 := Tryz.sizeOf3
  v3 := Tryz.zeroValue3
  t4 := Tryz.underlying4
  a4 := Tryz.isAgg4
  z4 := Tryz.sizeOf4
  v4 := Tryz.zeroValue4
  t5 := Tryz.underlying5
  a5 := Tryz.isAgg5
  z5 := Tryz.sizeOf5
  v5 := Tryz.zeroValue5
  t9 := Tryz.underlying9
  a9 := Tryz.isAgg9
  z9 := Tryz.sizeOf9
  v9 := Tryz.zeroValue9
  t21 := Tryz.underlying21
  a21 := Tryz.isAgg21
  z21 := Tryz.sizeOf21
  v21 := Tryz.zeroValue21
  t31 := Tryz.underlying117
  a31 := Tryz.isAgg117
  z31 := Tryz.sizeOf117
  v31 := Tryz.zeroValue117
  t46 := Tryz.underlying158
  a46 := Tryz.isAgg158
  z46 := Tryz.sizeOf158
  v46 := Tryz.zeroValue158
  t51 := Tryz.underlying214
  a51 := Tryz.isAgg214
  z51 := Tryz.sizeOf214
  v51 := Tryz.zeroValue214
  t105 := Tryz.underlying224
  a105 := Tryz.isAgg224
  z105 := Tryz.sizeOf224
  v105 := Tryz.zeroValue224
  t119 := Tryz.underlying284
  a119 := Tryz.isAgg284
  z119 := Tryz.sizeOf284
  t138 := Tryz.underlying286
  a138 := Tryz.isAgg286
  z138 := Tryz.sizeOf286
  v138 := Tryz.zeroValue286
  t139 := Tryz.underlying287
  a139 := Tryz.isAgg287
  z139 := Tryz.sizeOf287
  v139 := Tryz.zeroValue287
  t146 := Tryz.underlying215
  a146 := Tryz.isAgg215
  z146 := Tryz.sizeOf215
  v146 := Tryz.zeroValue215
  g1 := by kernel_rfl
  g3 := by kernel_rfl
  g4 := by kernel_rfl }
open Go.RowKit Go.Lib in

theorem Tryz.strings_Split (s sep : ByteArray) (m : Int) (w : World) (hs : s.size < 4294967281) (hm : w.cell? ⟨0, 0, none⟩ = some (.int .i64 m)) (h1 : 1 ≤ sep.size) :
    Calls Tryz.prog 74 #[.string s, .string sep] w fun e w' =>
      e = .returned (.slice (some ⟨w.heap.size, 0, none⟩) (Lib.countB s sep + 1) (Lib.countB s sep + 1)) ∧ w' = w.alloc (.cells ((Lib.splitB sep 0 (Lib.countB s sep) s).map Value.string).toArray 9) := Any.strings_Split Tryz.lays146 (by kernel_rfl) s sep m w hs hm h1
def Tryz.lays155_ren : Go.Shelf.Ren := ⟨fun | 155 => 84 | 154 => 133 | 138 => 173 | 165 => 185 | 143 => 174 | 166 => 151 | 197 => 186 | 169 => 153 | 195 => 207 | 218 => 208 | 240 => 198 | 241 => 220 | 219 => 203 | 260 => 221 | 276 => 230 | 277 => 244 | 217 => 184 | 225 => 232 | 224 => 123 | 267 => 233 | 266 => 219 | 314 => 250 | n => n, fun | 9 => 9 | 3 => 3 | 4 => 4 | 72 => 198 | 0 => 0 | 76 => 44 | 105 => 224 | 21 => 21 | 5 => 5 | 70 => 196 | 20 => 20 | 37 => 41 | 75 => 43 | 127 => 245 | 164 => 251 | 46 => 158 | 119 => 284 | 139 => 287 | 138 => 286 | 146 => 215 | 51 => 214 | 80 => 200 | n => n, fun | 1 => 0 | 3 => 3 | 4 => 4 | n => n⟩
theorem Tryz.lays155 : Go.Proofs.Lays.n155 Tryz.prog Tryz.lays155_ren := {
  mixed := by kernel_rfl
  f138 := Tryz.func173.trans (congrArg some (by kernel_rfl))
  f143 := Tryz.func174.trans (congrArg some (by kernel_rfl))
  f154 := Tryz.func133.trans (congrArg some (by kernel_rfl))
  f155 := Tryz.func84.trans (congrArg some (by kernel_rfl))
  f165 := Tryz.func185.trans (congrArg some (by kernel_rfl))
  f166 := Tryz.func151.trans (congrArg some (by kernel_rfl))
  f169 := Tryz.func153.trans (congrArg some (by kernel_rfl))
  f195 := Tryz.func207.trans (congrArg some (by kernel_rfl))
  f197 := Tryz.func186.trans (congrArg some (by kernel_rfl))
  f217 := Tryz.func184.trans (congrArg some (by kernel_rfl))
  f218 := Tryz.func208.trans (congrArg some (by kernel_rfl))
  f219 := Tryz.func203.trans (congrArg some (by kernel_rfl))
  f224 := Tryz.func123.trans (congrArg some (by kernel_rfl))
  f225 := Tryz.func232.trans (congrArg some (by kernel_rfl))
  f240 := Tryz.func198.trans (congrArg some (by kernel_rfl))
  f241 := Tryz.func220.trans (congrArg some (by kernel_rfl))
  f260 := Tryz.func221.trans (congrArg some (by kernel_rfl))
  f266 := Tryz.func219.trans (congrArg some (by kernel_rfl))
  f267 := Tryz.func233.trans (congrArg some (by kernel_rfl))
  f276 := Tryz.func230.trans (congrArg some (by kernel_rfl))
  f277 := Tryz.func244.trans (congrArg some (by kernel_rfl))
  f314 := Tryz.func250.trans (congrArg some (by kernel_rfl))
  t0 := Tryz.underlying0
  a0 := Tryz.isAgg0
  z0 := Tryz.sizeOf0
  v0 := Tryz.zeroValue0
  t3 := Tryz.underlying3
  a3 := Tryz.isAgg3
  z3 := Tryz.sizeOf3
  v3 := Tryz.zeroValue3
  t4 := Tryz.underlying4
  a4 := Tryz.isAgg4
  z4 := Tryz.sizeOf4
  v4 := Tryz.zeroValue4
  t5 := Tryz.underlying5
  a5 := Tryz.isAgg5
  z5 := Tryz.sizeOf5
  v5 := Tryz.zeroValue5
  t9 := Tryz.underlying9
  a9 := Tryz.isAgg9
  z9 := Tryz.sizeOf9
  v9 := Tryz.zeroValue9
  t20 := Tryz.underlying20
  a20 := Tryz.isAgg20
  z20 := Tryz.sizeOf20
  v20 := Tryz.zeroValue20
  t21 := Tryz.underlying21
  a21 := Tryz.isAgg21
  z21 := Tryz.sizeOf21
  v21 := Tryz.zeroValue21
  t37 := Tryz.underlying41
  a37 := Tryz.isAgg41
  z37 := Tryz.sizeOf41
  v37 := Tryz.zeroValue41
  t46 := Tryz.underlying158
  a46 := Tryz.isAgg158
  z46 := Tryz.sizeOf158
  v46 := Tryz.zeroValue158
  t51 := Tryz.underlying214
  a51 := Tryz.isAgg214
  z51 := Tryz.sizeOf214
  v51 := Tryz.zeroValue214
  t70 := Tryz.underlying196
  a70 := Tryz.isAgg196
  z70 := Tryz.sizeOf196
  v70 := Tryz.zeroValue196
  t72 := Tryz.underlying198
  a72 := Tryz.isAgg198
  z72 := Tryz.sizeOf198
  v72 := Tryz.zeroValue198
  t75 := Tryz.underlying43
  a75 := Tryz.isAgg43
  z75 := Tryz.sizeOf43
  v75 := Tryz.zeroValue43
  t76 := Tryz.underlying44
  a76 := Tryz.isAgg44
  z76 := Tryz.sizeOf44
  v76 := Tryz.zeroValue44
  t105 := Tryz.underlying224
  a105 := Tryz.isAgg224
  z105 := Tryz.sizeOf224
  v105 := Tryz.zeroValue224
  t119 := Tryz.underlying284
  a119 := Tryz.isAgg284
  z119 := Tryz.sizeOf284
  t127 := Tryz.underlying245
  a127 := Tryz.isAgg245
  z127 := Tryz.sizeOf245
  v127 := Tryz.zeroValue245
  t138 := Tryz.underlying286
  a138 := Tryz.isAgg286
  z138 := Tryz.sizeOf286
  v138 := Tryz.zeroValue286
  t139 := Tryz.underlying287
  a139 := Tryz.isAgg287
  z139 := Tryz.sizeOf287
  v139 := Tryz.zeroValue287
  t146 := Tryz.underlying215
  a146 := Tryz.isAgg215
  z146 := Tryz.sizeOf215
  v146 := Tryz.zeroValue215
  t164 := Tryz.underlying251
  a164 := Tryz.isAgg251
  z164 := Tryz.sizeOf251
  v164 := Tryz.zeroValue251
  g1 := by kernel_rfl
  g3 := by kernel_rfl
  g4 := by kernel_rfl }
theorem Tryz.Builder_Extra_155 : Builder.Extra Tryz.prog Tryz.lays155_ren := {
  sizeBuilder := by kernel_rfl
  liesBuilder := by kernel_rfl
  t5 := Tryz.underlying5
  a5 := Tryz.isAgg5
  z5 := Tryz.sizeOf5
  v5 := Tryz.zeroValue5
  infoByte := by kernel_rfl
  cellsByte := by kernel_rfl
  sizeByte := by kernel_rfl
  neB5 := by decide }
open Go.RowKit Go.Lib in

theorem Tryz.strings_ReplaceAll (s old new : ByteArray) (m : Int) (w : World) (hs : s.size < 4294967281) (hm : w.cell? ⟨0, 0, none⟩ = some (.int .i64 m)) (h1 : 1 ≤ old.size) (hlen : s.size + Lib.countB s old * new.size ≤ 140737488355328) :
    Calls Tryz.prog 84 #[.string s, .string old, .string new] w fun e w' =>
      e = .returned (.string ⟨(Lib.replaceAll s.data.toList old.data.toList new.data.toList).toArray⟩) ∧ Below w.heap.size w w' := Any.strings_ReplaceAll Tryz.lays155 Tryz.Builder_Extra_155 s old new m w hs hm h1 hlen
def Tryz.laysSlH10_f163_ren : Go.Shelf.Ren := ⟨fun | 10 => 163 | 6 => 202 | n => n, fun | 22 => 117 | 23 => 9 | 25 => 60 | 3 => 3 | 4 => 4 | 0 => 0 | n => n, fun | n => n⟩
theorem Tryz.laysSlH10_f163 : Go.Proofs.SlLaysH.n10 Tryz.prog Tryz.laysSlH10_f163_ren := {
  mixed := by kernel_rfl
  f6 := ⟨Tryz.f202.name, by decide, Tryz.func202.trans (congrArg some (by kernel_rfl))⟩
  f10 := ⟨Tryz.f163.name, by decide, Tryz.func163.trans (congrArg some (by kernel_rfl))⟩
  t0 := Tryz.underlying0
  a0 := Tryz.isAgg0
  z0 := Tryz.sizeOf0
  v0 := Tryz.zeroValue0
  t3 := Tryz.underlying3
  a3 := Tryz.isAgg3
  z3 := Tryz.sizeOf3
  v3 := Tryz.zeroValue3
  t4 := Tryz.underlying4
  a4 := Tryz.isAgg4
  z4 := Tryz.sizeOf4
  v4 := Tryz.zeroValue4
  t22 := Tryz.underlying117
  a22 := Tryz.isAgg117
  z22 := Tryz.sizeOf117
  v22 := Tryz.zeroValue117
  a23 := Tryz.isAgg9
  z23 := Tryz.sizeOf9
  t25 := Tryz.underlying60
  a25 := Tryz.isAgg60
  z25 := Tryz.sizeOf60
  v25 := Tryz.zeroValue60 }
open Go.RowKit Go.Lib Go.Sort in
theorem Tryz.slices_DeleteFunc {α : Type} [Inhabited α] (enc : α → Value) (hO : OneCell enc) (p : α → Bool) (g : Nat) (lb : Array Value) (eg : ∀ args w, (callFunc g args).run Tryz.prog w = .ok (.enter g args) w) (zr : α) (v23 : ∀ w, (zeroValue 9).run Tryz.prog w = .ok (enc zr) w) (blk off cap : Nat) (d : Array α) (w : World) (hp : PredAt Tryz.prog g lb enc p w) (hpo : PredOver Tryz.prog g lb enc p blk off d.size w) (hH : Holds enc w blk off d) (hsz : d.size ≤ 9223372036854775807) (hcap : d.size ≤ cap) :
    Calls Tryz.prog 163 #[.slice (some ⟨blk, off, none⟩) d.size cap, .func (.func g) #[] lb] w fun e w' => e = .returned (.slice (some ⟨blk, off, none⟩) (d.toList.filter fun x => !p x).length cap) ∧ ∃ q, w' = putRow enc (Sort.ahead w q) blk off ((d.toList.filter fun x => !p x) ++ List.replicate (d.size - (d.toList.filter fun x => !p x).length) zr).toArray := AnyE.slices_DeleteFunc Tryz.laysSlH10_f163 enc hO p g lb eg zr v23 blk off cap d w hp hpo hH hsz hcap
end Go.Proofs


namespace Go.Proofs.YtaakgjbdknobbaaGreatDoor
open Go.RowKit
structure StdW (w : World) : Prop where
  max : ∃ m, w.cell? ⟨0, 0, none⟩ = some (.int .i64 m)
  tab : Lib.TabIs Tryz.prog w "internal/strconv.uint64pow10" .u64 Lib.pow10Tab
  syn : ∃ tp p, w.cell? ⟨5, 0, none⟩ = some (.iface tp p)
  rng : ∃ tp p, w.cell? ⟨6, 0, none⟩ = some (.iface tp p)
  size : 7 < w.heap.size
theorem gPow : Tryz.prog.globalNamed "internal/strconv.uint64pow10" = some 7 := by kernel_rfl
theorem StdW.below {w w' : World} (h : StdW w) (hb : Below w.heap.size w w') : StdW w' := by
  obtain ⟨⟨m, hm⟩, ht, ⟨a, b, hs⟩, ⟨c, d, hr⟩, hz⟩ := h
  exact ⟨⟨m, (hb.cell (World.block_lt_of_cell? _ _ hm)).trans hm⟩, var?_below hb gPow hz ht, ⟨a, b, (hb.cell (World.block_lt_of_cell? _ _ hs)).trans hs⟩,
    ⟨c, d, (hb.cell (World.block_lt_of_cell? _ _ hr)).trans hr⟩, Nat.lt_of_lt_of_le hz hb.size⟩
theorem below_drewN (w : World) (n : Nat) : Below w.heap.size w (w.drewN n) := ⟨rfl, rfl, rfl, Nat.le_refl _, fun _ _ => rfl⟩
theorem below_grow (w : World) (os : Array Obj) : Below w.heap.size w (Sort.grow w os) :=
  ⟨rfl, rfl, rfl, by simp [Sort.grow], fun k hk => by simp [Sort.grow, Array.getElem?_append, hk]⟩
end Go.Proofs.YtaakgjbdknobbaaGreatDoor


namespace Go.Proofs.YtaakgjbdknobbaaGreatDoor.Num
open Go.Lib
def val (l : List UInt8) : Nat := l.foldl (fun a c => a * 10 + (c.toNat - 48)) 0
theorem val_snoc (l : List UInt8) (c : UInt8) : val (l ++ [c]) = val l * 10 + (c.toNat - 48) := by simp [val]
def canon (l : List UInt8) : Bool := l == decDigits (val l)
def dig (c : UInt8) : Bool := decide (48 ≤ c.toNat) && decide (c.toNat ≤ 57)
theorem dig_iff (c : UInt8) : dig c = true ↔ 48 ≤ c.toNat ∧ c.toNat ≤ 57 := by simp [dig]
theorem ofNat_toNat (k : Nat) (h : k < 10) : (UInt8.ofNat (48 + k)).toNat = 48 + k := by
  rw [UInt8.toNat_ofNat']; omega
theorem val_dec (n : Nat) : val (decDigits n) = n := by
  induction n using Nat.strongRecOn with
  | _ n ih =>
    by_cases h : n < 10
    · rw [decDigits, dif_pos h]
      simp only [val, List.foldl_cons, List.foldl_nil]
      rw [ofNat_toNat n h]; omega
    · rw [decDigits, dif_neg h, val_snoc, ih (n / 10) (by omega), ofNat_toNat _ (by omega)]; omega
theorem canon_dec (n : Nat) : canon (decDigits n) = true := by simp [canon, val_dec]
theorem canon_iff (l : List UInt8) : canon l = true ↔ l = decDigits (val l) := by simp [canon]
theorem dec_digits (n : Nat) : ∀ c ∈ decDigits n, dig c = true := by
  induction n using Nat.strongRecOn with
  | _ n ih =>
    intro c hc
    by_cases h : n < 10
    · rw [decDigits, dif_pos h] at hc
      simp only [List.mem_cons, List.not_mem_nil, or_false] at hc
      subst hc; rw [dig_iff, ofNat_toNat n h]; omega
    · rw [decDigits, dif_neg h, List.mem_append] at hc
      rcases hc with hc | hc
      · exact ih (n / 10) (by omega) c hc
      · simp only [List.mem_cons, List.not_mem_nil, or_false] at hc
        subst hc; rw [dig_iff, ofNat_toNat _ (by omega)]; omega
theorem dec_ne (n : Nat) : decDigits n ≠ [] := by
  intro h
  have := decDigits_length n
  rw [h] at this
  have := nDigits_pos n
  simp at *; omega
def whole (l : List UInt8) (d : Nat) : Option Nat :=
  if l = [] ∨ d < l.length ∨ (1 < l.length ∧ l.head?.map (·.toNat) = some 48) then none
  else if l.all dig then some (val l) else none
theorem nDigits_le (k n : Nat) (h : n < 10 ^ k) (hk : 1 ≤ k) : nDigits n ≤ k := by
  induction k generalizing n with
  | zero => omega
  | succ k ih =>
    by_cases h10 : n < 10
    · rw [nDigits_small h10]; omega
    · rw [nDigits_big h10]
      have : 1 ≤ k := by
        rcases Nat.eq_zero_or_pos k with rfl | h
        · simp at h; omega
        · exact h
      have := ih (n / 10) (by rw [Nat.pow_succ] at h; omega) this
      omega
theorem parse_digits : ∀ (l : List UInt8) (acc : Nat), l.all dig = true → l.foldl (fun a c => a * 10 + (c.toNat - 48)) acc < 9223372036854775808 → parseUint10 acc l = .ok (l.foldl (fun a c => a * 10 + (c.toNat - 48)) acc) := by
  intro l
  induction l with
  | nil => intro acc _ _; rfl
  | cons c r ih =>
    intro acc hall hlt
    simp only [List.all_cons, Bool.and_eq_true] at hall
    have hd := (dig_iff c).1 hall.1
    have mono : ∀ (r : List UInt8) (a : Nat), a ≤ r.foldl (fun a c => a * 10 + (c.toNat - 48)) a := by
      intro r
      induction r with
      | nil => intro a; exact Nat.le_refl _
      | cons x t ih => intro a; exact Nat.le_trans (show a ≤ a * 10 + (x.toNat - 48) by omega) (ih _)
    simp only [List.foldl_cons] at hlt ⊢
    have := mono r (acc * 10 + (c.toNat - 48))
    rw [parseUint10, if_pos hd, if_neg (by omega), if_neg (by omega)]
    exact ih _ hall.2 hlt
theorem atoi_canon (l : List UInt8) (hc : canon l = true) (hv : val l < 9223372036854775808) : atoiAll l = .ok (val l : Int) := by
  have e := (canon_iff l).1 hc
  have hall : l.all dig = true := by rw [e, List.all_eq_true]; exact dec_digits _
  cases l with
  | nil => exact absurd e.symm (dec_ne _)
  | cons c r =>
    have hd : dig c = true := by simp at hall; exact hall.1
    rw [dig_iff] at hd
    have hp := parse_digits (c :: r) 0 hall (by exact hv)
    unfold atoiAll
    simp only
    rw [if_neg (by omega)]
    unfold parseMag
    rw [if_neg (by simp), hp]
    simp only
    have hv' : (c :: r).foldl (fun a c => a * 10 + (c.toNat - 48)) 0 < 9223372036854775808 := hv
    rw [if_neg (by omega), if_neg (by omega), if_neg (by omega)]
    rfl
theorem itoa_val (l : List UInt8) (hc : canon l = true) : itoa (val l : Int) = l := by
  unfold itoa; rw [if_neg (by omega)]; exact ((canon_iff l).1 hc).symm
end Go.Proofs.YtaakgjbdknobbaaGreatDoor.Num


namespace Go.Proofs.YtaakgjbdknobbaaGreatDoor.E
open Go.RowKit Go.Proofs.YtaakgjbdknobbaaGreatDoorW.PrintWords Go.Proofs.YtaakgjbdknobbaaGreatDoorW.PrintLast
set_option linter.unusedVariables false
set_option linter.unusedSimpArgs false
theorem addAt (b o j : Nat) : (⟨b, o, none⟩ : Addr).add j = ⟨b, o + j, none⟩ := by unfold Addr.add; split <;> simp_all
def Itoa.f (a : Int) : Option ByteArray := if -9223372036854775808 ≤ a ∧ a ≤ 9223372036854775807 then some ⟨(Lib.itoa a).toArray⟩ else none
theorem Itoa.calls (a : Int) (r : ByteArray) (w : World) (hS_ : StdW w) (h : Itoa.f a = some r) :
    Calls Tryz.prog 116 #[.int .i64 a] w fun e w' => e = .returned (.string r) ∧ Below w.heap.size w w' := by
  unfold Itoa.f at h
  split at h
  · rename_i hc
    obtain rfl := Option.some.inj h
    refine (Tryz.strconv_Itoa a hc.1 hc.2 w hS_.tab).mono ?_
    rintro e w' ⟨rfl, k, os, rfl⟩
    exact ⟨rfl, below_then (below_drewN w k) (Nat.le_refl _) (below_grow (w.drewN k) os)⟩
  · cases h
def Cut.f (s sep : ByteArray) : Option (ByteArray × ByteArray × Bool) :=
  if s.size < 4294967281 then some (⟨(Lib.cut s.data.toList sep.data.toList).1.toArray⟩, ⟨(Lib.cut s.data.toList sep.data.toList).2.1.toArray⟩, (Lib.cut s.data.toList sep.data.toList).2.2) else none
theorem Cut.calls (s sep : ByteArray) (r1 r2 : ByteArray) (r3 : Bool) (w : World) (hS_ : StdW w) (h : Cut.f s sep = some (r1, r2, r3)) :
    Calls Tryz.prog 114 #[.string s, .string sep] w fun e w' => e = .returned (.tuple #[.string r1, .string r2, .bool r3]) ∧ Below w.heap.size w w' := by
  unfold Cut.f at h
  split at h
  · rename_i hc
    simp only [Option.some.injEq, Prod.mk.injEq] at h
    obtain ⟨rfl, rfl, rfl⟩ := h
    obtain ⟨m, hm⟩ := hS_.max
    refine (Tryz.strings_Cut s sep m w hc hm).mono ?_
    rintro e w' ⟨rfl, n, rfl⟩
    exact ⟨rfl, below_drewN w n⟩
  · cases h
end Go.Proofs.YtaakgjbdknobbaaGreatDoor.E


namespace Go.Proofs.YtaakgjbdknobbaaGreatDoor.E
open Go.RowKit Go.Proofs.YtaakgjbdknobbaaGreatDoorW.PrintWords Go.Proofs.YtaakgjbdknobbaaGreatDoorW.PrintLast
set_option linter.unusedVariables false
set_option linter.unusedSimpArgs false
def lowI (x : Int) : Int := if 65 ≤ x ∧ x ≤ 90 then x + 32 else x
def lowAt (s : ByteArray) (k j : Nat) : Int := if j < k then lowI (s.data.toList.getD j 0).toNat else (s.data.toList.getD j 0).toNat
theorem lowI_byte (b : UInt8) : lowI b.toNat = (Lib.lowerB b).toNat := by
  have h : ∀ n : Fin 256, lowI (UInt8.ofNat n.1).toNat = (Lib.lowerB (UInt8.ofNat n.1)).toNat := by decide +kernel
  have := h ⟨b.toNat, b.toNat_lt⟩
  simpa using this
def LowMem (s : ByteArray) (R k : Nat) (w : World) : Prop := ∀ j, j < s.size → w.cell? ⟨R, j, none⟩ = some (.int .u8 (lowAt s k j)) ∧ w.frozen? ⟨R, j, none⟩ = false
theorem LowMem.keep {s : ByteArray} {R k : Nat} {w : World} (h : LowMem s R k w) (hk : lowI (s.data.toList.getD k 0).toNat = (s.data.toList.getD k 0).toNat) : LowMem s R (k + 1) w := fun j hj => by
  have e : lowAt s (k + 1) j = lowAt s k j := by
    unfold lowAt
    by_cases h1 : j < k
    · rw [if_pos h1, if_pos (by omega)]
    · by_cases h2 : j = k
      · subst h2; rw [if_pos (by omega), if_neg h1, hk]
      · rw [if_neg (by omega), if_neg h1]
  rw [e]; exact h j hj
theorem LowMem.put {s : ByteArray} {R k : Nat} {w : World} (h : LowMem s R k w) (hk : k < s.size) : LowMem s R (k + 1) (w.setCell ⟨R, k, none⟩ (.int .u8 (lowI (s.data.toList.getD k 0).toNat))) := fun j hj => by
  obtain ⟨a, b⟩ := h j hj
  rw [World.frozen?_setCell]
  refine ⟨?_, b⟩
  by_cases e : j = k
  · subst e
    rw [World.cell?_setCell_same _ _ _ a]
    unfold lowAt
    rw [if_pos (by omega)]
  · rw [World.cell?_setCell_other _ _ _ _ (by intro e2; injection e2 with _ e2; omega), a]
    unfold lowAt
    by_cases h1 : j < k
    · rw [if_pos h1, if_pos (by omega)]
    · rw [if_neg h1, if_neg (by omega)]
end Go.Proofs.YtaakgjbdknobbaaGreatDoor.E


namespace Go.Proofs.YtaakgjbdknobbaaGreatDoor.E
open Go.RowKit Go.Proofs.YtaakgjbdknobbaaGreatDoorW.PrintWords Go.Proofs.YtaakgjbdknobbaaGreatDoorW.PrintLast
set_option linter.unusedVariables false
set_option linter.unusedSimpArgs false
set_option maxRecDepth 100000 in
set_option maxHeartbeats 4000000 in
theorem small_any (s : ByteArray) (hs : s.size ≤ 281474976710656) (w : World) :
    Calls Tryz.prog 157 #[.string s] w fun e w' => e = .returned (.string ⟨(Lib.toLowerA s.data.toList).toArray⟩) ∧ Below w.heap.size w w' := by
  have hcv := Lib.run_convert_string_bytes (P := Tryz.prog) w 9 41 5 s Tryz.underlying9 Tryz.underlying41 Tryz.underlying5
  generalize hcap : grownCap w s.size 0 5 = cap at hcv
  generalize hW : Lib.bytesWorld w 5 s = W at hcv
  have HB0 : Hid (Below w.heap.size w W) := Lib.hid (hW ▸ Lib.bytesWorld_below _ _ _)
  have HM0 : Hid (LowMem s w.heap.size 0 W) := Lib.hid (fun j hj => by
    subst hW
    refine ⟨?_, ?_⟩
    · rw [Lib.bytesWorld_cell _ _ _ _ hj]
      unfold lowAt
      rw [if_neg (by omega)]
    · unfold World.frozen?
      rw [Lib.bytesWorld_at_new]
      have hc : s.size ≤ (Lib.bytesCells w 5 s).size := by
        unfold Lib.bytesCells
        rw [Array.size_append, Array.size_map]; exact Nat.le_add_right _ _
      simp
      omega)
  clear hW hcap
  have HS := Lib.hid hs
  clear hs
  go_enter Tryz.func157, Tryz.ntmps157
  go_wp2
  go_loopw [10] (fun i wr => ∃ k : Nat, k ≤ s.size ∧ i = .int .i64 k ∧ Hid (LowMem s w.heap.size k wr) ∧ Hid (Below w.heap.size w wr)) (fun i _ => s.size - (intOf i).toNat)
  case atStart => exact ⟨0, Nat.zero_le _, rfl, HM0, HB0⟩
  case round =>
    obtain ⟨k, hk, rfl, HM, HB⟩ := hrel
    clear HM0 HB0
    have hs1 : (s.size : Int) ≤ 281474976710656 := by have := HS.out; omega
    by_cases hlt : k < s.size
    · have hk0 : (0 : Int) ≤ (k : Int) := Int.natCast_nonneg _
      have hk1 : (k : Int) < (s.size : Int) := by omega
      obtain ⟨hc, hf⟩ := HM.out k hlt
      have hR := World.block_lt_of_cell? _ _ hc
      have hx : lowAt s k k = ((s.data.toList.getD k 0).toNat : Int) := by unfold lowAt; rw [if_neg (by omega)]
      rw [hx] at hc
      have HKP := Lib.hid (fun h => HM.out.keep (k := k) h)
      have HPT := Lib.hid (HM.out.put hlt)
      have hb := (s.data.toList.getD k 0).toNat_lt
      generalize (s.data.toList.getD k 0).toNat = x at hc HKP HPT hb
      have hb' : (x : Int) < 256 := by omega
      have hb0 : (0 : Int) ≤ (x : Int) := by omega
      by_cases h1 : (65 : Int) ≤ (x : Int)
      · by_cases h2 : (x : Int) ≤ 90
        · have he : lowI (x : Int) = (x : Int) + 32 := by unfold lowI; rw [if_pos ⟨h1, h2⟩]
          rw [he] at HPT
          go_wp2
          go_roundw
          case rel => exact ⟨k + 1, by omega, by go_num, HPT, Lib.hid (HB.out.setCell (Nat.le_refl _) _)⟩
          case measure => simp [intOf]; omega
        · have he : lowI (x : Int) = (x : Int) := by unfold lowI; rw [if_neg (fun h => h2 h.2)]
          have h2' : decide ((x : Int) ≤ 90) = false := decide_eq_false h2
          have hm := HKP.out he
          go_wp2
          go_roundw
          case rel => exact ⟨k + 1, by omega, by go_num, Lib.hid hm, HB⟩
          case measure => simp [intOf]; omega
      · have he : lowI (x : Int) = (x : Int) := by unfold lowI; rw [if_neg (fun h => h1 h.1)]
        have h1' : decide ((65 : Int) ≤ (x : Int)) = false := decide_eq_false h1
        have hm := HKP.out he
        go_wp2
        go_roundw
        case rel => exact ⟨k + 1, by omega, by go_num, Lib.hid hm, HB⟩
        case measure => simp [intOf]; omega
    · have hk1 : (k : Int) = (s.size : Int) := by omega
      have hkn : k = s.size := by omega
      subst hkn
      have hz : (⟨(Lib.toLowerA s.data.toList).toArray⟩ : ByteArray).size = s.size := by
        show (Lib.toLowerA s.data.toList).toArray.size = _
        rw [List.size_toArray, Lib.toLowerA, List.length_map, Array.length_toList]; rfl
      have hB : Lib.Bytes wr w.heap.size 0 ⟨(Lib.toLowerA s.data.toList).toArray⟩ := fun i hi => by
        have hi' : i < s.size := by rw [hz] at hi; exact hi
        rw [Nat.zero_add, (HM.out i hi').1]
        unfold lowAt
        rw [if_pos hi', lowI_byte]
        have hl : i < s.data.toList.length := by rw [Array.length_toList]; exact hi'
        have hg : s.data.toList.getD i 0 = s.data.toList[i] := by rw [List.getD_eq_getElem?_getD, List.getElem?_eq_getElem hl]; rfl
        have hm : (⟨(Lib.toLowerA s.data.toList).toArray⟩ : ByteArray)[i]'hi = Lib.lowerB s.data.toList[i] := by
          exact List.getElem_map (l := s.data.toList) Lib.lowerB (i := i) (h := by rw [List.length_map]; exact hl)
        rw [hm, hg]
      have hcv2 := Lib.run_convert_whole (P := Tryz.prog) wr 41 5 9 Tryz.underlying41 Tryz.underlying5 Tryz.underlying9 w.heap.size 0 _ hB cap
      rw [hz] at hcv2
      go_wp2
      go_ret
      exact ⟨rfl, HB.out⟩
end Go.Proofs.YtaakgjbdknobbaaGreatDoor.E


namespace Go.Proofs.YtaakgjbdknobbaaGreatDoor.Pt
open Go.Lib
def cutOn (c : UInt8) : List UInt8 → List (List UInt8)
  | [] => [[]]
  | x :: l => if x = c then [] :: cutOn c l else match cutOn c l with
    | [] => [[x]]
    | p :: r => (x :: p) :: r
theorem cutOn_ne (c : UInt8) (l : List UInt8) : cutOn c l ≠ [] := by
  cases l with
  | nil => simp [cutOn]
  | cons x l => unfold cutOn; split; simp; split <;> simp
theorem cutOn_cons (c : UInt8) (l : List UInt8) : ∃ p r, cutOn c l = p :: r := by
  cases h : cutOn c l with
  | nil => exact absurd h (cutOn_ne c l)
  | cons p r => exact ⟨p, r, rfl⟩
theorem splitK_cutOn (c : UInt8) : ∀ s : List UInt8, splitK [c] 0 (count s [c]) s = cutOn c s
  | [] => by
    rw [count_miss (by simp [index])]; rfl
  | b :: l => by
    have ih := splitK_cutOn c l
    by_cases h : b = c
    · subst h
      have hix : index (b :: l) [b] = 0 := by rw [index]; simp [List.isPrefixOf]
      rw [count_cons_eq, Nat.add_comm, splitK, hix]
      simp only [cutOn, if_true]
      rw [← ih]; rfl
    · rw [count_cons_ne b c l h]
      simp only [cutOn, if_neg h]
      have hp : ([c] : List UInt8).isPrefixOf (b :: l) = false := by simp [List.isPrefixOf, Ne.symm h]
      have hix : index (b :: l) [c] = if index l [c] == -1 then -1 else index l [c] + 1 := by rw [index, hp]; simp
      cases hn : count l [c] with
      | zero =>
        rw [hn] at ih
        rw [← ih]; rfl
      | succ m =>
        rw [hn] at ih
        have hm : ¬ index l [c] = -1 := fun e => by rw [count_miss e] at hn; cases hn
        have hge := index_ge l [c]
        obtain ⟨j, hj⟩ : ∃ j : Nat, index l [c] = j := ⟨(index l [c]).toNat, by omega⟩
        have hb : (index l [c] == -1) = false := by rw [beq_eq_false_iff_ne]; exact hm
        rw [← ih]
        unfold splitK
        rw [hix, hb]
        have hb2 : ((index l [c] + 1 : Int) == -1) = false := by rw [beq_eq_false_iff_ne]; omega
        simp only [Bool.false_eq_true, if_false, hb2]
        rw [hj]
        have e1 : ((j : Int) + 1).toNat = j + 1 := by omega
        have e2 : ((j : Int)).toNat = j := by omega
        rw [e1, e2]
        simp
def tot (l : List (List UInt8)) : Nat := (l.map (fun p => p.length + 1)).sum
theorem tot_cutOn (c : UInt8) : ∀ s : List UInt8, tot (cutOn c s) = s.length + 1
  | [] => rfl
  | x :: l => by
    have ih := tot_cutOn c l
    obtain ⟨p, r, e⟩ := cutOn_cons c l
    unfold cutOn
    split
    · show _ + tot (cutOn c l) = _; rw [ih]; simp; omega
    · rw [e] at ih ⊢
      simp only [tot, List.map_cons, List.sum_cons, List.length_cons] at ih ⊢
      omega
theorem cutOn_all (c : UInt8) (P : UInt8 → Bool) (hc : P c = true) : ∀ s : List UInt8, (∀ p ∈ cutOn c s, p.all P = true) → s.all P = true
  | [], _ => rfl
  | x :: l, h => by
    have ih := cutOn_all c P hc l
    obtain ⟨p, r, e⟩ := cutOn_cons c l
    unfold cutOn at h
    split at h
    · rename_i hx
      rw [List.all_cons, hx, hc, Bool.true_and]
      exact ih (fun q hq => h q (List.mem_cons_of_mem _ hq))
    · rw [e] at h ih
      have h1 := h (x :: p) List.mem_cons_self
      rw [List.all_cons, Bool.and_eq_true] at h1 ⊢
      refine ⟨h1.1, ih (fun q hq => ?_)⟩
      rcases List.mem_cons.1 hq with rfl | hq
      · exact h1.2
      · exact h q (List.mem_cons_of_mem _ hq)
theorem cutOn_not_mem (c : UInt8) : ∀ s : List UInt8, ∀ p ∈ cutOn c s, c ∉ p
  | [], p, h => by simp [cutOn] at h; simp [h]
  | x :: l, q, h => by
    have ih := cutOn_not_mem c l
    obtain ⟨p, r, e⟩ := cutOn_cons c l
    unfold cutOn at h
    split at h
    · rcases List.mem_cons.1 h with rfl | h
      · simp
      · exact ih q h
    · rename_i hx
      rw [e] at h ih
      rcases List.mem_cons.1 h with rfl | h
      · intro hm
        rcases List.mem_cons.1 hm with h2 | h2
        · exact hx h2.symm
        · exact ih p List.mem_cons_self h2
      · exact ih q (List.mem_cons_of_mem _ h)
theorem join_cutOn (c : UInt8) : ∀ s : List UInt8, [c].intercalate (cutOn c s) = s
  | [] => rfl
  | x :: l => by
    have ih := join_cutOn c l
    obtain ⟨p, r, e⟩ := cutOn_cons c l
    unfold cutOn
    split
    · rename_i hx
      rw [e] at ih ⊢
      rw [hx, ← ih]
      simp [List.intercalate, List.intersperse]
    · rw [e] at ih ⊢
      rw [← ih]
      cases r <;> simp [List.intercalate, List.intersperse]
end Go.Proofs.YtaakgjbdknobbaaGreatDoor.Pt


namespace Go.Proofs.YtaakgjbdknobbaaGreatDoor.Fd
open Go.Lib
def trimB (l : List UInt8) : List UInt8 := trimS l [32, 9]
theorem trimB_len (l : List UInt8) : (trimB l).length ≤ l.length := by
  unfold trimB trimS trimLeftS trimRightS
  refine Nat.le_trans (List.dropWhile_sublist _).length_le ?_
  rw [List.length_reverse]
  refine Nat.le_trans (List.dropWhile_sublist _).length_le ?_
  rw [List.length_reverse]
  exact Nat.le_refl _
def low (l : List UInt8) : List UInt8 := toLowerA l
def partsL (l : List UInt8) : List (List UInt8) := (Pt.cutOn 44 l).map trimB
abbrev F : Type := List UInt8 × List UInt8
def sConn : List UInt8 := [99, 111, 110, 110, 101, 99, 116, 105, 111, 110]
def sign (c : UInt8) : Bool := (97 ≤ c && c ≤ 122) || ((65 ≤ c && c ≤ 90) || ((48 ≤ c && c ≤ 57) || (32 < c && [33, 35, 36, 37, 38, 39, 42, 43, 45, 46, 94, 95, 96, 124, 126].contains c)))
def token (l : List UInt8) : Bool := l.all sign && (!l.isEmpty && decide (l.length ≤ 64))
def fixed : List (List UInt8) := [sConn, [107, 101, 101, 112, 45, 97, 108, 105, 118, 101], [112, 114, 111, 120, 121, 45, 97, 117, 116, 104, 101, 110, 116, 105, 99, 97, 116, 101], [112, 114, 111, 120, 121, 45, 97, 117, 116, 104, 111, 114, 105, 122, 97, 116, 105, 111, 110], [112, 114, 111, 120, 121, 45, 99, 111, 110, 110, 101, 99, 116, 105, 111, 110], [116, 101], [116, 114, 97, 105, 108, 101, 114], [116, 114, 97, 110, 115, 102, 101, 114, 45, 101, 110, 99, 111, 100, 105, 110, 103], [117, 112, 103, 114, 97, 100, 101]]
def conn1 (f : F) : List (List UInt8) := if low f.1 == sConn then partsL f.2 else []
def told (l : List F) : List (List UInt8) := ((l.flatMap conn1).filter token).map low
def hop (l : List F) (n : List UInt8) : Bool := fixed.contains n || (told l).contains n
end Go.Proofs.YtaakgjbdknobbaaGreatDoor.Fd


namespace Go.Proofs.YtaakgjbdknobbaaGreatDoor.E
open Go.RowKit Go.Proofs.YtaakgjbdknobbaaGreatDoorW.PrintWords Go.Proofs.YtaakgjbdknobbaaGreatDoorW.PrintLast
set_option linter.unusedVariables false
set_option linter.unusedSimpArgs false
theorem data_inj {a b : ByteArray} (h : a.data.toList = b.data.toList) : a = b := ByteArray.ext (Array.toList_inj.1 h)
def lowS (s : ByteArray) : ByteArray := ⟨(Lib.toLowerA s.data.toList).toArray⟩
theorem small_lowS (s : ByteArray) (hs : s.size ≤ 281474976710656) (w : World) : Calls Tryz.prog 157 #[.string s] w fun e w' => e = .returned (.string (lowS s)) ∧ Below w.heap.size w w' := small_any s hs w
def eqS (a b : ByteArray) : Bool := a.toList == b.toList
set_option maxHeartbeats 1000000 in
theorem named_any (nm va t : ByteArray) (hs : nm.size ≤ 281474976710656) (w : World) :
    Calls Tryz.prog 161 #[.agg #[.string nm, .string va], .string t] w fun e w' => e = .returned (.bool (eqS (lowS nm) t)) ∧ Below w.heap.size w w' := by
  have HS := Lib.hid (small_lowS nm hs)
  have HE := Lib.hid (show ∀ a, eqS a t = (a.toList == t.toList) from fun a => rfl)
  generalize lowS nm = a at HS
  go_enter Tryz.func161, Tryz.ntmps161
  go_wp2_with (go_at_call 157; refine (HS.out _).mono ?_; rintro e w1 ⟨rfl, hb1⟩)
  go_ret
  exact ⟨by rw [HE.out]; first | done | rfl, below_then (below_alloc (Below.refl _ _) _) (below_alloc (Below.refl _ _) _).size hb1⟩
def trimA (p : ByteArray) : ByteArray := ⟨(Lib.trimS p.data.toList [32, 9]).toArray⟩
theorem trim_any (s : ByteArray) (hs : s.size ≤ 281474976710656) (w : World) : Calls Tryz.prog 85 #[.string s, .string ⟨#[32, 9]⟩] w fun e w' => e = .returned (.string (trimA s)) ∧ Below w.heap.size w w' :=
  Any.strings_Trim_laid Tryz.lays160 (by kernel_rfl) s ⟨#[32, 9]⟩ w (by omega) (by decide) (ascii_of_all (by decide))
theorem trimA_size (p : ByteArray) : (trimA p).size ≤ p.size := by
  have := Fd.trimB_len p.data.toList
  rw [Lib.size_eq p]
  exact this
def commas (s : ByteArray) : List ByteArray := Lib.splitB ⟨#[44]⟩ 0 (Lib.countB s ⟨#[44]⟩) s
theorem commas_data (s : ByteArray) : (commas s).map (·.data.toList) = Pt.cutOn 44 s.data.toList := by
  unfold commas
  rw [Lib.splitB_data, ← Pt.splitK_cutOn]
  first | done | rfl
theorem commas_len (s : ByteArray) : (commas s).length ≤ s.size + 1 := by
  unfold commas; rw [Lib.splitB_all ⟨#[44]⟩ (Nat.le_refl _) 0 _ s rfl]
  have := Lib.countB_le ⟨#[44]⟩ (Nat.le_refl _) s.size s (Nat.le_refl _); omega
theorem tot_mem (L : List (List UInt8)) (p : List UInt8) (h : p ∈ L) : p.length + 1 ≤ Pt.tot L := by
  induction L with
  | nil => cases h
  | cons q r ih =>
    simp only [Pt.tot, List.map_cons, List.sum_cons] at ih ⊢
    rcases List.mem_cons.1 h with rfl | h
    · omega
    · have := ih h; omega
theorem commas_size (s p : ByteArray) (h : p ∈ commas s) : p.size ≤ s.size := by
  have h1 : p.data.toList ∈ Pt.cutOn 44 s.data.toList := by rw [← commas_data]; exact List.mem_map.2 ⟨p, h, rfl⟩
  have h2 := tot_mem _ _ h1
  rw [Pt.tot_cutOn] at h2
  rw [Lib.size_eq, Lib.size_eq]; omega
def RowS (l : List ByteArray) (b : Nat) (w : World) : Prop := (∀ j, (h : j < l.length) → w.cell? ⟨b, j, none⟩ = some (.string l[j]) ∧ w.frozen? ⟨b, j, none⟩ = false) ∧ b < w.heap.size
theorem RowS.below {l : List ByteArray} {b : Nat} {w w1 : World} (h : RowS l b w) (hb : Below w.heap.size w w1) : RowS l b w1 :=
  ⟨fun j hj => ⟨(hb.cell (p := ⟨b, j, none⟩) h.2).trans (h.1 j hj).1, (hb.frozen (p := ⟨b, j, none⟩) h.2).trans (h.1 j hj).2⟩, Nat.lt_of_lt_of_le h.2 hb.size⟩
theorem RowS.put {l : List ByteArray} {b : Nat} {w : World} (h : RowS l b w) (k : Nat) (x : ByteArray) : RowS (l.set k x) b (w.setCell ⟨b, k, none⟩ (.string x)) := by
  refine ⟨fun j hj => ?_, by simpa [World.setCell] using h.2⟩
  rw [List.length_set] at hj
  obtain ⟨a, f⟩ := h.1 j hj
  rw [World.frozen?_setCell]
  refine ⟨?_, f⟩
  by_cases e : k = j
  · subst e
    rw [World.cell?_setCell_same _ _ _ a, List.getElem_set_self]
  · rw [World.cell?_setCell_other _ _ _ _ (by intro e2; injection e2 with _ e2; exact e e2), a, List.getElem_set_ne e]
theorem split_commas (s : ByteArray) (hs : s.size < 4294967281) (w : World) (hS : StdW w) :
    Calls Tryz.prog 74 #[.string s, .string ⟨#[44]⟩] w fun e w' => e = .returned (.slice (some ⟨w.heap.size, 0, none⟩) (commas s).length (commas s).length) ∧ RowS (commas s) w.heap.size w' ∧ Below w.heap.size w w' := by
  obtain ⟨m, hm⟩ := hS.max
  refine (Tryz.strings_Split s ⟨#[44]⟩ m w hs hm (Nat.le_refl _)).mono ?_
  rintro e w' ⟨rfl, rfl⟩
  have hl := Lib.splitB_all ⟨#[44]⟩ (Nat.le_refl _) 0 _ s rfl
  refine ⟨by unfold commas; rw [hl], ⟨fun j hj => ⟨?_, ?_⟩, by simp⟩, (Below.refl _ _).alloc (Nat.le_refl _) _⟩
  · unfold commas at hj ⊢
    rw [World.cell?_alloc_new, List.getElem?_toArray, List.getElem?_map, List.getElem?_eq_getElem hj]
    rfl
  · exact World.frozen?_alloc_at _ _ _ _ rfl
def trK (l : List ByteArray) (k : Nat) : List ByteArray := (l.take k).map trimA ++ l.drop k
theorem trK_len (l : List ByteArray) (k : Nat) : (trK l k).length = l.length := by unfold trK; simp; omega
theorem trK_zero (l : List ByteArray) : trK l 0 = l := by simp [trK]
theorem trK_all (l : List ByteArray) : trK l l.length = l.map trimA := by simp [trK]
theorem trK_at (l : List ByteArray) (k : Nat) (h : k < l.length) : (trK l k)[k]'(by rw [trK_len]; exact h) = l[k] := by
  unfold trK
  rw [List.getElem_append_right (by simp; omega)]
  simp [Nat.min_eq_left (Nat.le_of_lt h)]
theorem trK_succ (l : List ByteArray) (k : Nat) (h : k < l.length) : (trK l k).set k (trimA l[k]) = trK l (k + 1) := by
  unfold trK
  have hz : k - ((l.take k).map trimA).length = 0 := by simp; omega
  rw [List.set_append_right _ _ (by simp; omega), hz, List.drop_eq_getElem_cons h, List.set_cons_zero, List.take_succ_eq_append_getElem h, List.map_append, List.append_assoc]
  rfl
set_option maxRecDepth 100000 in
set_option maxHeartbeats 2000000 in
theorem parts_any (s : ByteArray) (hs : s.size < 4294967281) (w : World) (hS : StdW w) :
    Calls Tryz.prog 162 #[.string s] w fun e w' => e = .returned (.slice (some ⟨w.heap.size, 0, none⟩) (commas s).length (commas s).length) ∧ RowS ((commas s).map trimA) w.heap.size w' ∧ Below w.heap.size w w' := by
  have HSP := Lib.hid (split_commas s hs w hS)
  have hn1 := commas_len s
  have HZ := Lib.hid (commas_size s)
  have HT := Lib.hid (fun p hp W => trim_any p hp W)
  have hlim : (commas s).length ≤ 4294967282 := by omega
  have HSS := Lib.hid hs
  clear hS hs hn1
  generalize commas s = l at HSP HZ hlim ⊢
  go_enter Tryz.func162, Tryz.ntmps162
  go_wp2_with (go_at_call 74; refine HSP.out.mono ?_; rintro e w1 ⟨rfl, hr, hb1⟩; have HR := Lib.hid hr; have HB1 := Lib.hid hb1; clear hr hb1)
  go_loopw [9] (fun i wr => ∃ k : Nat, k ≤ l.length ∧ i = .int .i64 k ∧ Hid (RowS (trK l k) w.heap.size wr) ∧ Hid (Below w.heap.size w wr)) (fun i _ => l.length - (intOf i).toNat)
  case atStart => exact ⟨0, Nat.zero_le _, rfl, Lib.hid (by rw [trK_zero]; exact HR.out), HB1⟩
  case round =>
    obtain ⟨k, hk, rfl, HM, HB⟩ := hrel
    clear HR HB1
    by_cases hlt : k < l.length
    · have hk0 : (0 : Int) ≤ (k : Int) := Int.natCast_nonneg _
      have hk1 : (k : Int) < (l.length : Int) := by omega
      obtain ⟨hc, hf⟩ := HM.out.1 k (by rw [trK_len]; exact hlt)
      rw [trK_at l k hlt] at hc
      have hpz : l[k].size ≤ 281474976710656 := by have := HZ.out l[k] (List.getElem_mem _); have := HSS.out; omega
      have HNX := Lib.hid (fun W (h : RowS (trK l k) w.heap.size W) => (trK_succ l k hlt) ▸ h.put k (trimA l[k]))
      have HTP := Lib.hid (fun W => HT.out l[k] hpz W)
      generalize l[k] = p at hc HNX HTP
      generalize trimA p = q at HNX HTP
      go_wp2_with (go_at_call 85; refine (HTP.out _).mono ?_; rintro e w2 ⟨rfl, hb2⟩; have hm2 := HM.out.below hb2; obtain ⟨hc2, hf2⟩ := hm2.1 k (by rw [trK_len]; exact hlt); have HM2 := Lib.hid hm2; have HB2 : Hid (Below w.heap.size w w2) := Lib.hid (below_then HB.out HB.out.size hb2); clear hm2)
      go_roundw
      case rel => exact ⟨k + 1, by omega, by go_num, Lib.hid (HNX.out _ HM2.out), Lib.hid (HB2.out.setCell (Nat.le_refl _) _)⟩
      case measure => simp [intOf]; omega
    · have hkl : k = l.length := by omega
      subst hkl
      have HF := Lib.hid HM.out
      rw [trK_all] at HF
      go_wp2
      go_ret
      exact ⟨rfl, HF.out, HB.out⟩
end Go.Proofs.YtaakgjbdknobbaaGreatDoor.E


namespace Go.Proofs.YtaakgjbdknobbaaGreatDoor.E
open Go.RowKit Go.Proofs.YtaakgjbdknobbaaGreatDoorW.PrintWords Go.Proofs.YtaakgjbdknobbaaGreatDoorW.PrintLast Go.Shelf Go.Sort
set_option linter.unusedVariables false
set_option linter.unusedSimpArgs false
theorem isE_any (p : ByteArray) (W : World) : Calls Tryz.prog 164 #[.string p] W fun e w' => e = .returned (.bool p.toList.isEmpty) ∧ ∃ q, w' = W.drewN q := by
  cases h : p.toList.isEmpty
  all_goals
    go_enter Tryz.func164, Tryz.ntmps164
    go_wp2
    go_ret
    exact ⟨rfl, 0, rfl⟩
def neE (p : ByteArray) : Bool := !p.toList.isEmpty
theorem del_any (l : List ByteArray) (b : Nat) (w : World) (hr : RowS l b w) (hn : l.length ≤ 4294967282) :
    Calls Tryz.prog 163 #[.slice (some ⟨b, 0, none⟩) l.length l.length, .func (.func 164) #[] #[]] w fun e w' =>
      e = .returned (.slice (some ⟨b, 0, none⟩) (l.filter neE).length l.length) ∧ (∀ j, (h : j < (l.filter neE).length) → w'.cell? ⟨b, j, none⟩ = some (.string (l.filter neE)[j])) ∧ Below b w w' := by
  have eg : ∀ args w, (callFunc 164 args).run Tryz.prog w = .ok (.enter 164 args) w := enters_of Tryz.func164 (by kernel_rfl) rfl
  have hp : PredAt Tryz.prog 164 #[] Value.string (fun p => p.toList.isEmpty) w := fun W x _ => isE_any x W
  have hpo : PredOver Tryz.prog 164 #[] Value.string (fun p => p.toList.isEmpty) b 0 l.toArray.size w := fun _ _ _ x _ => isE_any x _
  have hH : Holds Value.string w b 0 l.toArray := fun j hj => by
    obtain ⟨a, f⟩ := hr.1 j (by simpa using hj)
    rw [Nat.zero_add]
    refine ⟨?_, f⟩
    rw [a, getElem!_pos l.toArray j hj]; simp
  have key := Tryz.slices_DeleteFunc Value.string (fun _ => rfl) (fun p => p.toList.isEmpty) 164 #[] eg ⟨#[]⟩ (fun w => by kernel_rfl) b 0 l.length l.toArray w hp hpo hH (by simp; omega) (by simp)
  rw [List.size_toArray] at key
  refine key.mono ?_
  rintro e w' ⟨rfl, q, rfl⟩
  have hf : (l.toArray.toList.filter fun x => !(fun p : ByteArray => p.toList.isEmpty) x) = l.filter neE := rfl
  have hle : (l.filter neE).length ≤ l.length := List.length_filter_le _ _
  rw [hf]
  generalize hF : l.filter neE = F at hle
  refine ⟨rfl, fun j hj => ?_, Lib.below_putRow (Below.refl b w) (Nat.le_refl b)⟩
  have := cell?_putRow Value.string (Sort.ahead w q) b 0 l.toArray (F ++ List.replicate (l.length - F.length) (⟨#[]⟩ : ByteArray)).toArray hH (by simp; omega) j (by simp; omega)
  rw [Nat.zero_add] at this
  rw [this, getElem!_pos _ j (by simp; omega)]
  simp [List.getElem_append_left hj]
end Go.Proofs.YtaakgjbdknobbaaGreatDoor.E


namespace Go.Proofs.YtaakgjbdknobbaaGreatDoor.XK
open Go.RowKit Go.Proofs.YtaakgjbdknobbaaGreatDoorW.PrintWords Go.Proofs.YtaakgjbdknobbaaGreatDoorW.PrintLast Go.Proofs.YtaakgjbdknobbaaGreatDoorW.PrintMore
attribute [local go_sem] max2_int min2_int max_two min_two max_three min_three max_four min_four
set_option linter.unusedVariables false
set_option linter.unusedSimpArgs false
def errW : Option Int → Value
 | none => .nilIface
 | some c => .iface 0 (.int .i64 c)
theorem errW_none : errW none = .nilIface := rfl
theorem errW_some (c : Int) : errW (some c) = .iface 0 (.int .i64 c) := rfl
structure S78 where
 f0 : ByteArray
 f1 : ByteArray
def z78 : S78 := ⟨(⟨#[]⟩ : ByteArray), (⟨#[]⟩ : ByteArray)⟩
def k78 : Kd S78 := Kd.iso (Kd.pair Kd.string Kd.string) (fun x : S78 => (x.f0, x.f1))
theorem k78_open {w : World} {x : S78} {cs : List Value} (h : k78.K w x cs) : cs = [.string x.f0, .string x.f1] := by
 obtain ⟨_, _, rfl, rfl, rfl⟩ := h
 exact rfl
theorem k78_mk (w : World) (x : S78)  : k78.K w x [.string x.f0, .string x.f1] := ⟨[.string x.f0], [.string x.f1], rfl, rfl, rfl⟩
theorem k78_mkM (w : World) (base : Nat) (ok : Nat → Prop) (x : S78)  : k78.M w base ok x [.string x.f0, .string x.f1] := ⟨[.string x.f0], [.string x.f1], rfl, rfl, rfl⟩
def rd_T78 (xs : List S78) (i : Int) : S78 := xs.getD i.toNat z78
theorem at_T78 {w : World} {A : Option Addr} {n : Nat} {xs : List S78} (h : Kd.C k78 w A n xs) (i : Int) (h0 : 0 ≤ i) (h1 : i < n) : ∃ ad , A = some ad ∧ w.cell? (ad.add (i.toNat * 2)) = some (.string (rd_T78 xs i).f0) ∧ w.cell? ⟨(ad.add (i.toNat * 2)).block, (ad.add (i.toNat * 2)).off + 1, none⟩ = some (.string (rd_T78 xs i).f1) := by
 obtain ⟨ad, c, e, _, hK, hc0⟩ := Kd.C_get h z78 i h0 h1
 have hc : ∀ j u, c[j]? = some u → w.cell? (ad.add (i.toNat * 2 + j)) = some u := hc0
 obtain rfl := k78_open hK
 exact ⟨ad, e, hc 0 _ rfl, by rw [← add_field _ _ 1 (by omega)]; exact hc 1 _ rfl⟩
end Go.Proofs.YtaakgjbdknobbaaGreatDoor.XK


namespace Go.Proofs.YtaakgjbdknobbaaGreatDoor.XK
open Go.RowKit Go.Proofs.YtaakgjbdknobbaaGreatDoorW.PrintWords Go.Proofs.YtaakgjbdknobbaaGreatDoorW.PrintLast Go.Proofs.YtaakgjbdknobbaaGreatDoorW.PrintMore
attribute [local go_sem] max2_int min2_int max_two min_two max_three min_three max_four min_four
set_option linter.unusedVariables false
set_option linter.unusedSimpArgs false
theorem eqA78 (d : Nat) (w : World) (x0 y0 : ByteArray) (x1 y1 : ByteArray) :
  (Op.equalIn (d + 2) 78 (.agg #[.string x0, .string x1]) (.agg #[.string y0, .string y1])).run Tryz.prog w = .ok (x0.toList == y0.toList && (x1.toList == y1.toList)) w := by
 refine eqA_of Tryz.underlying78 (by kernel_rfl) ?_
 refine eqf_cons (by rfl) (by go_simp; rfl) (by go_simp; rfl) (by go_simp) ?_
 exact eqf_last (by rfl) (by go_simp; rfl) (by go_simp; rfl) (by go_simp)
end Go.Proofs.YtaakgjbdknobbaaGreatDoor.XK


namespace Go.Proofs.YtaakgjbdknobbaaGreatDoor.XK
open Go.RowKit Go.Proofs.YtaakgjbdknobbaaGreatDoorW.PrintWords Go.Proofs.YtaakgjbdknobbaaGreatDoorW.PrintLast Go.Proofs.YtaakgjbdknobbaaGreatDoorW.PrintMore
attribute [local go_sem] max2_int min2_int max_two min_two max_three min_three max_four min_four
set_option linter.unusedVariables false
set_option linter.unusedSimpArgs false
attribute [local go_sem high] eqA78
end Go.Proofs.YtaakgjbdknobbaaGreatDoor.XK


namespace Go.Proofs.YtaakgjbdknobbaaGreatDoor.XK
open Go.RowKit Go.Proofs.YtaakgjbdknobbaaGreatDoorW.PrintWords Go.Proofs.YtaakgjbdknobbaaGreatDoorW.PrintLast Go.Proofs.YtaakgjbdknobbaaGreatDoorW.PrintMore
attribute [local go_sem] max2_int min2_int max_two min_two max_three min_three max_four min_four
set_option linter.unusedVariables false
set_option linter.unusedSimpArgs false
end Go.Proofs.YtaakgjbdknobbaaGreatDoor.XK


namespace Go.Proofs.YtaakgjbdknobbaaGreatDoor.E
open Go.RowKit Go.Proofs.YtaakgjbdknobbaaGreatDoorW.PrintWords Go.Proofs.YtaakgjbdknobbaaGreatDoorW.PrintLast Go.Proofs.YtaakgjbdknobbaaGreatDoor.XK
set_option linter.unusedVariables false
set_option linter.unusedSimpArgs false
theorem info_str : (Tryz.prog.info? 9).map (fun i => (i.zero, i.size, i.bytes)) = some (some (.string ⟨#[]⟩), 1, 16) := by kernel_rfl
theorem boxCell {w w1 : World} {C : Array Value} {T : TypeId} (hb : Below (w.alloc (.cells C T)).heap.size (w.alloc (.cells C T)) w1) (j : Nat) (v : Value) (h : C[j]? = some v) : w1.cell? ⟨w.heap.size, j, none⟩ = some v :=
  (hb.cell (p := ⟨w.heap.size, j, none⟩) (by simp)).trans ((World.cell?_alloc_new ..).trans h)
theorem C_row (l : List ByteArray) (b : Nat) (w : World) (hn : l.length ≤ 9223372036854775807) (h : ∀ j, (h : j < l.length) → w.cell? ⟨b, j, none⟩ = some (.string l[j])) : Kd.C Kd.string w (some ⟨b, 0, none⟩) l.length l := by
  refine ⟨rfl, hn, fun _ => ⟨_, rfl, fun j p hj => ⟨[.string p], rfl, rfl, fun i u hu => ?_⟩⟩⟩
  obtain ⟨hl, hp⟩ := List.getElem?_eq_some_iff.1 hj
  match i, hu with
  | 0, hu =>
    simp only [List.getElem?_cons_zero, Option.some.injEq] at hu
    subst hu
    rw [addAt]
    have e : 0 + (j * Kd.string.sz + 0) = j := by show 0 + (j * 1 + 0) = j; omega
    rw [e, ← hp]
    exact h j hl
def cacheS : ByteArray := ⟨#[99, 97, 99, 104, 101, 45, 99, 111, 110, 116, 114, 111, 108]⟩
def connS : ByteArray := ⟨#[99, 111, 110, 110, 101, 99, 116, 105, 111, 110]⟩
def dir1A (f : S78) : List ByteArray := if eqS (lowS f.f0) cacheS then ((commas (lowS f.f1)).map trimA).filter neE else []
def conn1A (f : S78) : List ByteArray := if eqS (lowS f.f0) connS then (commas f.f1).map trimA else []
theorem lowS_size (s : ByteArray) : (lowS s).size = s.size := by
  show (Lib.toLowerA s.data.toList).toArray.size = _
  rw [List.size_toArray, Lib.toLowerA, List.length_map, Array.length_toList]; rfl
def TellsS (q : List ByteArray) (W : World) (e : Ending) (w' : World) : Prop := ∃ A c, e = .returned (.slice A q.length c) ∧ Kd.C Kd.string w' A q.length q ∧ Below W.heap.size W w'
def okF (f : S78) : Prop := f.f0.size ≤ 4294967296 ∧ f.f1.size < 4294967281
set_option maxHeartbeats 2000000 in
theorem dirc_any (f : S78) (hf : okF f) (w : World) (hS : StdW w) :
    Calls Tryz.prog 160 #[.agg #[.string f.f0, .string f.f1]] w (TellsS (dir1A f) w) := by
  obtain ⟨nm, va⟩ := f
  have HN := Lib.hid (fun W => named_any nm va cacheS (Nat.le_trans hf.1 (by decide)) W)
  have HV := Lib.hid (small_lowS va (by have := hf.2; show va.size ≤ _; simp only at this; omega))
  have hz : (lowS va).size < 4294967281 := by rw [lowS_size]; exact hf.2
  have HP := Lib.hid (parts_any (lowS va) hz)
  have hcl : (commas (lowS va)).length ≤ 4294967282 := by have := commas_len (lowS va); omega
  have HS := Lib.hid hS
  obtain ⟨q, hq⟩ : ∃ q, dir1A ⟨nm, va⟩ = q := ⟨_, rfl⟩
  rw [hq]
  have HQ : Hid (q = if eqS (lowS nm) cacheS then ((commas (lowS va)).map trimA).filter neE else []) := Lib.hid hq.symm
  clear hq
  unfold cacheS at HN HQ
  clear hS hf hz
  cases hb : eqS (lowS nm) ⟨#[99, 97, 99, 104, 101, 45, 99, 111, 110, 116, 114, 111, 108]⟩
  · rw [hb] at HN HQ
    clear hb
    go_enter Tryz.func160, Tryz.ntmps160
    go_wp2_with (go_at_call 161; (with_reducible refine (HN.out _).mono ?_); rintro e w1 ⟨rfl, hb1⟩)
    go_ret
    refine ⟨none, 0, ?_, ?_, below_then (below_alloc (Below.refl _ _) _) (below_alloc (Below.refl _ _) _).size hb1⟩
    · rw [HQ.out]; rfl
    · rw [HQ.out]; exact Kd.C_nil _ _
  · rw [hb] at HN HQ
    clear hb
    generalize lowS va = v at HV HP HQ hcl
    have HD := Lib.hid (del_any ((commas v).map trimA))
    have hQ2 : Hid (q = ((commas v).map trimA).filter neE) := Lib.hid HQ.out
    clear HQ
    have hml : ((commas v).map trimA).length = (commas v).length := List.length_map ..
    rw [hml] at HD
    have HML := Lib.hid hml
    clear hml
    generalize (commas v).length = n at HP HD HML hcl
    go_enter Tryz.func160, Tryz.ntmps160
    go_wp2_with (go_at_call 161; (with_reducible refine (HN.out _).mono ?_); rintro e w1 ⟨rfl, hb1⟩; have HB1 : Hid (Below w.heap.size w w1) := Lib.hid (below_then (below_alloc (Below.refl _ _) _) (below_alloc (Below.refl _ _) _).size hb1); have c0 := boxCell hb1 0 _ rfl; have c1 := boxCell hb1 1 _ rfl; clear hb1)
    go_wp2_with (go_at_call 157; (with_reducible refine (HV.out _).mono ?_); rintro e w2 ⟨rfl, hb2⟩; have HB2 : Hid (Below w.heap.size w w2) := Lib.hid (below_then HB1.out HB1.out.size hb2); clear hb2)
    go_wp2_with (go_at_call 162; (with_reducible refine (HP.out _ (StdW.below HS.out HB2.out)).mono ?_); rintro e w3 ⟨rfl, hr3, hb3⟩; have HB3 : Hid (Below w.heap.size w w3) := Lib.hid (below_then HB2.out HB2.out.size hb3); have HR3 := Lib.hid hr3; clear hb3 hr3)
    go_wp2_with (go_at_call 163; (with_reducible refine (HD.out _ _ HR3.out (by omega)).mono ?_); rintro e w4 ⟨rfl, hr4, hb4⟩; have HR4 := Lib.hid hr4; have HB4 : Hid (Below w.heap.size w w4) := Lib.hid (HB3.out.trans (hb4.mono HB2.out.size)); clear hr4 hb4)
    go_ret
    refine ⟨some ⟨w2.heap.size, 0, none⟩, n, by rw [hQ2.out]; rfl, ?_, HB4.out⟩
    rw [hQ2.out]
    refine C_row _ _ _ ?_ HR4.out
    have := List.length_filter_le neE ((commas v).map trimA)
    have := HML.out
    omega
set_option maxHeartbeats 2000000 in
theorem connc_any (f : S78) (hf : okF f) (w : World) (hS : StdW w) :
    Calls Tryz.prog 200 #[.agg #[.string f.f0, .string f.f1]] w (TellsS (conn1A f) w) := by
  obtain ⟨nm, va⟩ := f
  have HN := Lib.hid (fun W => named_any nm va connS (Nat.le_trans hf.1 (by decide)) W)
  have HP := Lib.hid (parts_any va hf.2)
  have hcl : (commas va).length ≤ 4294967282 := by have := commas_len va; have := hf.2; simp only at this; omega
  have HS := Lib.hid hS
  obtain ⟨q, hq⟩ : ∃ q, conn1A ⟨nm, va⟩ = q := ⟨_, rfl⟩
  rw [hq]
  have HQ : Hid (q = if eqS (lowS nm) connS then (commas va).map trimA else []) := Lib.hid hq.symm
  clear hq
  unfold connS at HN HQ
  clear hS hf
  cases hb : eqS (lowS nm) ⟨#[99, 111, 110, 110, 101, 99, 116, 105, 111, 110]⟩
  · rw [hb] at HN HQ
    clear hb
    go_enter Tryz.func200, Tryz.ntmps200
    go_wp2_with (go_at_call 161; (with_reducible refine (HN.out _).mono ?_); rintro e w1 ⟨rfl, hb1⟩)
    go_ret
    refine ⟨none, 0, ?_, ?_, below_then (below_alloc (Below.refl _ _) _) (below_alloc (Below.refl _ _) _).size hb1⟩
    · rw [HQ.out]; rfl
    · rw [HQ.out]; exact Kd.C_nil _ _
  · rw [hb] at HN HQ
    clear hb
    have hQ2 : Hid (q = (commas va).map trimA) := Lib.hid HQ.out
    clear HQ
    have hml : ((commas va).map trimA).length = (commas va).length := List.length_map ..
    have HML := Lib.hid hml
    clear hml
    generalize (commas va).length = n at HP HML hcl
    go_enter Tryz.func200, Tryz.ntmps200
    go_wp2_with (go_at_call 161; (with_reducible refine (HN.out _).mono ?_); rintro e w1 ⟨rfl, hb1⟩; have HB1 : Hid (Below w.heap.size w w1) := Lib.hid (below_then (below_alloc (Below.refl _ _) _) (below_alloc (Below.refl _ _) _).size hb1); have c0 := boxCell hb1 0 _ rfl; have c1 := boxCell hb1 1 _ rfl; clear hb1)
    go_wp2_with (go_at_call 162; (with_reducible refine (HP.out _ (StdW.below HS.out HB1.out)).mono ?_); rintro e w3 ⟨rfl, hr3, hb3⟩; have HB3 : Hid (Below w.heap.size w w3) := Lib.hid (below_then HB1.out HB1.out.size hb3); have HR3 := Lib.hid hr3; clear hb3 hr3)
    go_ret
    refine ⟨some ⟨w1.heap.size, 0, none⟩, n, by rw [hQ2.out, HML.out]; rfl, ?_, HB3.out⟩
    rw [hQ2.out]
    exact C_row _ _ _ (by have := HML.out; omega) (fun j h => (HR3.out.1 j h).1)
theorem flat_take {α β : Type} (q : α → List β) (l : List α) (k : Nat) : ((l.take k).flatMap q).length ≤ (l.flatMap q).length := by
  conv => rhs; rw [← List.take_append_drop k l, List.flatMap_append, List.length_append]
  omega
theorem flat_succ {α β : Type} (q : α → List β) (l : List α) (k : Nat) (h : k < l.length) : (l.take (k + 1)).flatMap q = (l.take k).flatMap q ++ q l[k] := by
  rw [List.take_succ_eq_append_getElem h, List.flatMap_append]; simp
set_option maxRecDepth 100000 in
set_option maxHeartbeats 4000000 in
theorem each_dir (A0 : Option Addr) (c0 : Nat) (l : List S78) (w : World) (hS : StdW w) (hR : Kd.C k78 w A0 l.length l) (hok : ∀ f ∈ l, okF f) (htot : (l.flatMap dir1A).length ≤ 8796093022207) (hlen : l.length ≤ 4294967296) :
    Calls Tryz.prog 159 #[.slice A0 l.length c0, .func (.func 160) #[] #[]] w fun e w' => ∃ v, e = .returned v ∧ Kd.R Kd.string 9 w' w.heap.size (fun _ => True) v (l.flatMap dir1A) ∧ Below w.heap.size w w' := by
  have HS := Lib.hid hS
  have HR := Lib.hid hR
  have HC := Lib.hid (fun f hf W h => dirc_any f (hok f hf) W h)
  have HT := Lib.hid htot
  clear hS hR hok htot
  go_enter Tryz.func159, Tryz.ntmps159
  go_wp2
  go_loopw [5, 10] (fun v i wr => ∃ k : Nat, k ≤ l.length ∧ i = .int .i64 k ∧ Hid (Kd.R Kd.string 9 wr w.heap.size (fun _ => True) v ((l.take k).flatMap dir1A)) ∧ Hid (Below w.heap.size w wr)) (fun _ i _ => l.length - (intOf i).toNat)
  case atStart => exact ⟨0, Nat.zero_le _, rfl, Lib.hid (by simpa using Kd.R_nil _ _ _ _ _), Lib.hid (Below.refl _ _)⟩
  case round =>
    obtain ⟨k, hk, rfl, HM, HB⟩ := hrel
    by_cases hlt : k < l.length
    · have hk0 : (0 : Int) ≤ (k : Int) := Int.natCast_nonneg _
      have hk1 : (k : Int) < (l.length : Int) := by omega
      have hrd : rd_T78 l (k : Int) = l[k] := by
        unfold rd_T78
        rw [show ((k : Int)).toNat = k by omega, List.getD_eq_getElem?_getD, List.getElem?_eq_getElem hlt]; rfl
      obtain ⟨ad, ea, x0, x1⟩ := at_T78 HR.out (k : Int) hk0 hk1
      cases ea
      rw [hrd] at x0 x1
      have HCk := Lib.hid (HC.out l[k] (List.getElem_mem _))
      have HNX := Lib.hid (flat_succ dir1A l k hlt)
      have HL := Lib.hid (show ((l.take k).flatMap dir1A).length + (dir1A l[k]).length ≤ 8796093022207 by
        have := flat_take dir1A l (k + 1)
        rw [flat_succ dir1A l k hlt, List.length_append] at this
        exact Nat.le_trans this HT.out)
      generalize l[k] = r at x0 x1 HCk HNX HL hrd
      obtain ⟨nm, va⟩ := r
      simp only [Int.toNat_natCast] at x0 x1
      clear hrd
      replace x0 := (HB.out.cell (World.block_lt_of_cell? w _ x0)).trans x0
      replace x1 := (HB.out.cell (World.block_lt_of_cell? w _ x1)).trans x1
      generalize hqv : dir1A ⟨nm, va⟩ = qv at HCk HNX HL
      clear hqv
      generalize hpv : (l.take k).flatMap dir1A = pv at HM HNX HL
      clear hpv
      go_wp2_with (first | (go_at_call 160; (with_reducible refine (HCk.out _ (StdW.below HS.out (below_alloc HB.out _))).mono ?_); rintro e w2 ⟨A, c, rfl, hC, hb2⟩; have HC2 := Lib.hid hC; have HB2 : Hid (Below w.heap.size w w2) := Lib.hid (below_then (below_alloc HB.out _) (below_alloc HB.out _).size hb2); have HM2 := Lib.hid (Kd.R_below (Kd.R_below HM.out (below_alloc (Below.refl _ _) _)) hb2); clear hC hb2) | (at_builtin; refine Kd.R_append_row Value.string (⟨#[]⟩ : ByteArray) (w0 := w) w.heap.size rfl (.tmp 14) (.tmp 17) 117 9 (.string ⟨#[]⟩) 16 rfl Tryz.underlying117 info_str rfl (by decide) u5 pv qv A qv.length c (fun _ => True) rfl rfl (fun _ _ => trivial) HM2.out HC2.out HB2.out HB2.out.size (by have := HL.out; omega) ?_; intro v3 w3 ho hb3 hg3 hat3))
      go_roundw
      case rel => exact ⟨k + 1, by omega, by go_num, Lib.hid (by rw [HNX.out]; exact ho), Lib.hid hb3⟩
      case measure => simp [intOf]; omega
    · have hkl : k = l.length := by omega
      subst hkl
      have HF := Lib.hid HM.out
      rw [List.take_length] at HF
      go_wp2
      go_ret
      exact ⟨_, rfl, HF.out, HB.out⟩
set_option maxRecDepth 100000 in
set_option maxHeartbeats 4000000 in
theorem each_conn (A0 : Option Addr) (c0 : Nat) (l : List S78) (w : World) (hS : StdW w) (hR : Kd.C k78 w A0 l.length l) (hok : ∀ f ∈ l, okF f) (htot : (l.flatMap conn1A).length ≤ 8796093022207) (hlen : l.length ≤ 4294967296) :
    Calls Tryz.prog 159 #[.slice A0 l.length c0, .func (.func 200) #[] #[]] w fun e w' => ∃ v, e = .returned v ∧ Kd.R Kd.string 9 w' w.heap.size (fun _ => True) v (l.flatMap conn1A) ∧ Below w.heap.size w w' := by
  have HS := Lib.hid hS
  have HR := Lib.hid hR
  have HC := Lib.hid (fun f hf W h => connc_any f (hok f hf) W h)
  have HT := Lib.hid htot
  clear hS hR hok htot
  go_enter Tryz.func159, Tryz.ntmps159
  go_wp2
  go_loopw [5, 10] (fun v i wr => ∃ k : Nat, k ≤ l.length ∧ i = .int .i64 k ∧ Hid (Kd.R Kd.string 9 wr w.heap.size (fun _ => True) v ((l.take k).flatMap conn1A)) ∧ Hid (Below w.heap.size w wr)) (fun _ i _ => l.length - (intOf i).toNat)
  case atStart => exact ⟨0, Nat.zero_le _, rfl, Lib.hid (by simpa using Kd.R_nil _ _ _ _ _), Lib.hid (Below.refl _ _)⟩
  case round =>
    obtain ⟨k, hk, rfl, HM, HB⟩ := hrel
    by_cases hlt : k < l.length
    · have hk0 : (0 : Int) ≤ (k : Int) := Int.natCast_nonneg _
      have hk1 : (k : Int) < (l.length : Int) := by omega
      have hrd : rd_T78 l (k : Int) = l[k] := by
        unfold rd_T78
        rw [show ((k : Int)).toNat = k by omega, List.getD_eq_getElem?_getD, List.getElem?_eq_getElem hlt]; rfl
      obtain ⟨ad, ea, x0, x1⟩ := at_T78 HR.out (k : Int) hk0 hk1
      cases ea
      rw [hrd] at x0 x1
      have HCk := Lib.hid (HC.out l[k] (List.getElem_mem _))
      have HNX := Lib.hid (flat_succ conn1A l k hlt)
      have HL := Lib.hid (show ((l.take k).flatMap conn1A).length + (conn1A l[k]).length ≤ 8796093022207 by
        have := flat_take conn1A l (k + 1)
        rw [flat_succ conn1A l k hlt, List.length_append] at this
        exact Nat.le_trans this HT.out)
      generalize l[k] = r at x0 x1 HCk HNX HL hrd
      obtain ⟨nm, va⟩ := r
      simp only [Int.toNat_natCast] at x0 x1
      clear hrd
      replace x0 := (HB.out.cell (World.block_lt_of_cell? w _ x0)).trans x0
      replace x1 := (HB.out.cell (World.block_lt_of_cell? w _ x1)).trans x1
      generalize hqv : conn1A ⟨nm, va⟩ = qv at HCk HNX HL
      clear hqv
      generalize hpv : (l.take k).flatMap conn1A = pv at HM HNX HL
      clear hpv
      go_wp2_with (first | (go_at_call 200; (with_reducible refine (HCk.out _ (StdW.below HS.out (below_alloc HB.out _))).mono ?_); rintro e w2 ⟨A, c, rfl, hC, hb2⟩; have HC2 := Lib.hid hC; have HB2 : Hid (Below w.heap.size w w2) := Lib.hid (below_then (below_alloc HB.out _) (below_alloc HB.out _).size hb2); have HM2 := Lib.hid (Kd.R_below (Kd.R_below HM.out (below_alloc (Below.refl _ _) _)) hb2); clear hC hb2) | (at_builtin; refine Kd.R_append_row Value.string (⟨#[]⟩ : ByteArray) (w0 := w) w.heap.size rfl (.tmp 14) (.tmp 17) 117 9 (.string ⟨#[]⟩) 16 rfl Tryz.underlying117 info_str rfl (by decide) u5 pv qv A qv.length c (fun _ => True) rfl rfl (fun _ _ => trivial) HM2.out HC2.out HB2.out HB2.out.size (by have := HL.out; omega) ?_; intro v3 w3 ho hb3 hg3 hat3))
      go_roundw
      case rel => exact ⟨k + 1, by omega, by go_num, Lib.hid (by rw [HNX.out]; exact ho), Lib.hid hb3⟩
      case measure => simp [intOf]; omega
    · have hkl : k = l.length := by omega
      subst hkl
      have HF := Lib.hid HM.out
      rw [List.take_length] at HF
      go_wp2
      go_ret
      exact ⟨_, rfl, HF.out, HB.out⟩
end Go.Proofs.YtaakgjbdknobbaaGreatDoor.E


namespace Go.Proofs.YtaakgjbdknobbaaGreatDoor.E
open Go.RowKit Go.Proofs.YtaakgjbdknobbaaGreatDoorW.PrintWords Go.Proofs.YtaakgjbdknobbaaGreatDoorW.PrintLast
set_option linter.unusedVariables false
set_option linter.unusedSimpArgs false
def atoiV (l : List UInt8) : Int := match Lib.atoiAll l with | .ok v => v | .range => Lib.atoiSat l | _ => 0
def numOk (l : List UInt8) (most : Int) : Bool := match Lib.atoiAll l with | .ok v => decide (0 ≤ v) && (decide (v ≤ most) && (Lib.itoa v == l)) | _ => false
theorem atoi_any (s : ByteArray) (hs : s.size ≤ 281474976710656) (w : World) (hS : StdW w) :
    Calls Tryz.prog 143 #[.string s] w fun e w' => ∃ er : Value, e = .returned (.tuple #[.int .i64 (atoiV s.data.toList), er]) ∧ (match Lib.atoiAll s.data.toList with | .ok _ => er = .nilIface | _ => ∃ N, er = .iface 265 (.pointer (some ⟨N, 0, none⟩))) ∧ Below w.heap.size w w' := by
  unfold atoiV
  rcases h : Lib.atoiAll s.data.toList with v | _ | _
  ·
    refine (Tryz.strconv_Atoi_ok s (by omega) v h w).mono ?_
    rintro e w' ⟨rfl, hw⟩
    refine ⟨_, rfl, rfl, ?_⟩
    rcases hw with rfl | ⟨t, rfl⟩
    · exact Below.refl _ _
    · exact Lib.bytesWorld_below _ _ _
  ·
    obtain ⟨a, b, hs1⟩ := hS.syn
    refine (Tryz.strconv_Atoi_syntax s hs h _ w hs1 (.inr ⟨_, _, rfl⟩)).mono ?_
    rintro e w' ⟨N, rfl, -, -, hb⟩
    exact ⟨_, rfl, ⟨N, rfl⟩, hb⟩
  ·
    obtain ⟨a, b, hs1⟩ := hS.rng
    refine (Tryz.strconv_Atoi_range s hs h _ w hs1 (.inr ⟨_, _, rfl⟩)).mono ?_
    rintro e w' ⟨N, rfl, -, -, hb⟩
    exact ⟨_, rfl, ⟨N, rfl⟩, hb⟩
theorem atoiAll_bounds (l : List UInt8) (v : Int) (h : Lib.atoiAll l = .ok v) : -9223372036854775808 ≤ v ∧ v ≤ 9223372036854775807 := by
  unfold Lib.atoiAll at h
  cases l with
  | nil => cases h
  | cons c r =>
    simp only at h
    split at h
    · cases h
    · cases h
    · rename_i u hu
      have := Lib.parseMag_lt hu
      split at h
      · cases h
      · split at h
        · cases h
        · injection h with h
          split at h <;> omega
end Go.Proofs.YtaakgjbdknobbaaGreatDoor.E


namespace Go.Proofs.YtaakgjbdknobbaaGreatDoor.E
open Go.RowKit Go.Proofs.YtaakgjbdknobbaaGreatDoorW.PrintWords Go.Proofs.YtaakgjbdknobbaaGreatDoorW.PrintLast
set_option linter.unusedVariables false
set_option linter.unusedSimpArgs false
set_option maxHeartbeats 1000000 in
theorem fnumber_ok (s : ByteArray) (v : Int) (hv0 : -9223372036854775808 ≤ v) (hv1 : v ≤ 9223372036854775807) (w : World)
    (A : Calls Tryz.prog 143 #[.string s] w fun e w' => e = .returned (.tuple #[.int .i64 v, .nilIface]) ∧ Below w.heap.size w w') (hS : StdW w) :
    Calls Tryz.prog 109 #[.string s] w fun e w' => e = .returned (.tuple #[.int .i64 v, .bool (decide (0 ≤ v) && (decide (v ≤ 9999999) && (Lib.itoa v == s.toList)))]) ∧ Below w.heap.size w w' := by
  have HA := Lib.hid A
  have HS := Lib.hid hS
  clear A hS
  by_cases h0 : 0 ≤ v
  · by_cases h1 : v ≤ 9999999
    · rw [decide_eq_true h0, decide_eq_true h1, Bool.true_and, Bool.true_and]
      go_enter Tryz.func109, Tryz.ntmps109
      go_wp2_with (first | (go_at_call 143; refine HA.out.mono ?_; rintro e w1 ⟨rfl, hb1⟩) | (go_at_call 116; refine (Itoa.calls v ⟨(Lib.itoa v).toArray⟩ _ (StdW.below HS.out hb1) (by unfold Itoa.f; rw [if_pos ⟨hv0, hv1⟩])).mono ?_; rintro e w2 ⟨rfl, hb2⟩))
      go_ret2
      exact ⟨rfl, below_then hb1 hb1.size hb2⟩
    · rw [decide_eq_true h0, decide_eq_false h1, Bool.true_and, Bool.false_and]
      have h1' : decide (v ≤ 9999999) = false := decide_eq_false h1
      go_enter Tryz.func109, Tryz.ntmps109
      go_wp2_with (go_at_call 143; refine HA.out.mono ?_; rintro e w1 ⟨rfl, hb1⟩)
      go_ret2
      exact ⟨rfl, hb1⟩
  · rw [decide_eq_false h0, Bool.false_and]
    have h0' : decide (0 ≤ v) = false := decide_eq_false h0
    go_enter Tryz.func109, Tryz.ntmps109
    go_wp2_with (go_at_call 143; refine HA.out.mono ?_; rintro e w1 ⟨rfl, hb1⟩)
    go_ret2
    exact ⟨rfl, hb1⟩
set_option maxHeartbeats 1000000 in
theorem fnumber_no (s : ByteArray) (v : Int) (w : World)
    (A : Calls Tryz.prog 143 #[.string s] w fun e w' => (∃ N, e = .returned (.tuple #[.int .i64 v, .iface 265 (.pointer (some ⟨N, 0, none⟩))])) ∧ Below w.heap.size w w') :
    Calls Tryz.prog 109 #[.string s] w fun e w' => e = .returned (.tuple #[.int .i64 v, .bool false]) ∧ Below w.heap.size w w' := by
  have HA := Lib.hid A
  clear A
  go_enter Tryz.func109, Tryz.ntmps109
  go_wp2_with (go_at_call 143; refine HA.out.mono ?_; rintro e w1 ⟨⟨N, rfl⟩, hb1⟩)
  go_ret2
  exact ⟨rfl, hb1⟩
theorem fnumber_any (s : ByteArray) (hs : s.size ≤ 281474976710656) (w : World) (hS : StdW w) :
    Calls Tryz.prog 109 #[.string s] w fun e w' => e = .returned (.tuple #[.int .i64 (atoiV s.data.toList), .bool (numOk s.data.toList 9999999)]) ∧ Below w.heap.size w w' := by
  have A := atoi_any s hs w hS
  unfold numOk
  rcases h : Lib.atoiAll s.data.toList with v | _ | _
  ·
    have hv : atoiV s.data.toList = v := by unfold atoiV; rw [h]
    rw [hv] at A ⊢
    obtain ⟨b0, b1⟩ := atoiAll_bounds _ _ h
    have := fnumber_ok s v b0 b1 w (A.mono fun e w' hh => by
      obtain ⟨er, rfl, he, hb⟩ := hh
      rw [h] at he
      subst he
      exact ⟨rfl, hb⟩) hS
    rw [ByteArray.toList_eq] at this
    exact this
  ·
    exact fnumber_no s _ w (A.mono fun e w' hh => by
      obtain ⟨er, rfl, he, hb⟩ := hh
      rw [h] at he
      obtain ⟨N, rfl⟩ := he
      exact ⟨⟨N, rfl⟩, hb⟩)
  ·
    exact fnumber_no s _ w (A.mono fun e w' hh => by
      obtain ⟨er, rfl, he, hb⟩ := hh
      rw [h] at he
      obtain ⟨N, rfl⟩ := he
      exact ⟨⟨N, rfl⟩, hb⟩)
end Go.Proofs.YtaakgjbdknobbaaGreatDoor.E


namespace Go.Proofs.YtaakgjbdknobbaaGreatDoor.E
open Go.RowKit Go.Proofs.YtaakgjbdknobbaaGreatDoorW.PrintWords Go.Proofs.YtaakgjbdknobbaaGreatDoorW.PrintLast
set_option linter.unusedVariables false
set_option linter.unusedSimpArgs false
def IndexByte.f (s : ByteArray) (c : Int) : Option Int := some (Lib.indexByte s.data.toList c.toNat.toUInt8)
theorem IndexByte.calls (s : ByteArray) (c : Int) (r : Int) (w : World) (hS_ : StdW w) (h : IndexByte.f s c = some r) :
    Calls Tryz.prog 132 #[.string s, .int .u8 c] w fun e w' => e = .returned (.int .i64 r) ∧ Below w.heap.size w w' := by
  obtain rfl := Option.some.inj h
  exact (Tryz.strings_IndexByte s c w).mono (fun e w' ⟨he, hw⟩ => ⟨he, hw ▸ Below.refl _ _⟩)
end Go.Proofs.YtaakgjbdknobbaaGreatDoor.E


namespace Go.Proofs.YtaakgjbdknobbaaGreatDoor.E
open Go.RowKit Go.Proofs.YtaakgjbdknobbaaGreatDoorW.PrintWords Go.Proofs.YtaakgjbdknobbaaGreatDoorW.PrintLast Go.Proofs.YtaakgjbdknobbaaGreatDoor.XK
set_option linter.unusedVariables false
set_option linter.unusedSimpArgs false
def okL (l : List S78) : Bool := l.all (fun f => decide (f.f0.size ≤ 4294967296) && decide (f.f1.size < 4294967281)) && decide (l.length ≤ 4294967296)
theorem okL_mem {l : List S78} (h : okL l = true) : (∀ f ∈ l, okF f) ∧ l.length ≤ 4294967296 := by
  unfold okL at h
  rw [Bool.and_eq_true, List.all_eq_true, decide_eq_true_eq] at h
  refine ⟨fun f hf => ?_, h.2⟩
  have := h.1 f hf
  rw [Bool.and_eq_true, decide_eq_true_eq, decide_eq_true_eq] at this
  exact this
def Directives.f (l : List S78) : Option (List ByteArray) := if okL l = true ∧ (l.flatMap dir1A).length ≤ 8796093022207 then some (l.flatMap dir1A) else none
set_option maxHeartbeats 1000000 in
theorem Directives.calls (A0 : Option Addr) (c0 : Nat) (l0 : List S78) (r : List ByteArray) (w : World) (hr0 : Kd.C k78 w A0 l0.length l0) (hc0 : l0.length ≤ c0) (hS_ : StdW w) (h : Directives.f l0 = some r) :
    Calls Tryz.prog 113 #[.slice A0 l0.length c0] w fun e w' => ∃ v0_ : Value, e = .returned (v0_) ∧ Kd.R Kd.string 9 w' w.heap.size (fun _ => True) v0_ r ∧ Below w.heap.size w w' := by
  unfold Directives.f at h
  split at h
  · rename_i hc
    obtain rfl := Option.some.inj h
    have HE := Lib.hid (each_dir A0 c0 l0 w hS_ hr0 (okL_mem hc.1).1 hc.2 (okL_mem hc.1).2)
    clear hr0 hc0 hS_ h hc
    generalize l0.flatMap dir1A = r at HE ⊢
    generalize l0.length = n at HE ⊢
    go_enter Tryz.func113, Tryz.ntmps113
    go_wp2_with (go_at_call 159; (with_reducible refine HE.out.mono ?_); rintro e w1 ⟨v, rfl, hr, hb⟩)
    go_ret
    exact ⟨v, rfl, hr, hb⟩
  · cases h
def fnumber.f (s : ByteArray) : Option (Int × Bool) := if s.size ≤ 281474976710656 then some (atoiV s.data.toList, numOk s.data.toList 9999999) else none
theorem fnumber.calls (s : ByteArray) (r1 : Int) (r2 : Bool) (w : World) (hS_ : StdW w) (h : fnumber.f s = some (r1, r2)) :
    Calls Tryz.prog 109 #[.string s] w fun e w' => e = .returned (.tuple #[.int .i64 r1, .bool r2]) ∧ Below w.heap.size w w' := by
  unfold fnumber.f at h
  split at h
  · rename_i hc
    simp only [Option.some.injEq, Prod.mk.injEq] at h
    obtain ⟨rfl, rfl⟩ := h
    exact fnumber_any s hc w hS_
  · cases h
end Go.Proofs.YtaakgjbdknobbaaGreatDoor.E


namespace Go.Proofs.YtaakgjbdknobbaaGreatDoor.E
open Go.RowKit Go.Proofs.YtaakgjbdknobbaaGreatDoorW.PrintWords Go.Proofs.YtaakgjbdknobbaaGreatDoorW.PrintLast Go.Proofs.YtaakgjbdknobbaaGreatDoor.XK Go.Maps Go.ChangeMaps
set_option linter.unusedVariables false
set_option linter.unusedSimpArgs false
theorem keyLaw : Keyed Tryz.prog 9 := string_keyed Tryz.underlying9
def SetM (w : World) (b n : Nat) (S : List UInt8 → Bool) : Prop :=
  ∃ D : DataW Unit, w.ownsMap Tryz.prog 9 (plainElem Tryz.prog 4) b n D ∧ IsMap D ∧ ∀ s : List UInt8, D.atKey (.string s) (.lit (.bool false)) = .lit (.bool (S s))
theorem SetM.made (w : World) : SetM (w.alloc (.map #[] 0)) w.heap.size 0 (fun _ => false) :=
  ⟨.map [], World.ownsMap_made _ _ _ _, ⟨[], rfl⟩, fun s => rfl⟩
theorem SetM.lt {w : World} {b n : Nat} {S : List UInt8 → Bool} (h : SetM w b n S) : b < w.heap.size := by obtain ⟨D, h1, -⟩ := h; exact h1.lt
theorem SetM.isMap {w : World} {b n : Nat} {S : List UInt8 → Bool} (h : SetM w b n S) : ∃ es c, w.heap[b]? = some (.map es c) := by obtain ⟨D, ⟨es, c, hb, -⟩, -⟩ := h; exact ⟨es, c, hb⟩
theorem SetM.below {w w1 : World} {b n : Nat} {S : List UInt8 → Bool} (h : SetM w b n S) (hb : Below w.heap.size w w1) : SetM w1 b n S := by
  have hlt := h.lt
  obtain ⟨D, ⟨es, c, h1, h2⟩, h3⟩ := h
  exact ⟨D, ⟨es, c, (hb.block b hlt).trans h1, h2⟩, h3⟩
theorem SetM.to {w : World} {b n : Nat} {S T : List UInt8 → Bool} (h : SetM w b n S) (e : ∀ s, S s = T s) : SetM w b n T := by
  obtain ⟨D, h1, h2, h3⟩ := h
  exact ⟨D, h1, h2, fun s => (h3 s).trans (by rw [e])⟩
theorem zeroB (w : World) : (zeroValue 4).run Tryz.prog w = .ok (.bool false) w := by kernel_rfl
theorem elemB_inv {P : Program} {e : TypeId} (he : P.underlying e = some .bool) {v : Value} {x : Bool} {ps : List MemPlace} (h : plainElem (H := Unit) P e v = some (.lit (.bool x), ps)) : v = .bool x := by
  unfold plainElem at h
  rw [he] at h
  cases v <;> simp at h
  exact congrArg Value.bool h.1
theorem SetM.look {w : World} {b n : Nat} {S : List UInt8 → Bool} (h : SetM w b n S) (s : ByteArray) (hs : s.size ≤ maxLen) : (Instr.lookup 201 (.map (some b)) (.string s) false).run Tryz.prog w = .ok (.bool (S s.data.toList)) w := by
  obtain ⟨D, h1, h2, h3⟩ := h
  obtain ⟨v, ps, hrun, hv⟩ := h1.lookup keyLaw Tryz.underlying201 (zeroB w) (plainElem_bool Tryz.underlying4 false) (Go.WideMaps.keyOf_string_mk Tryz.underlying9 hs)
  rw [h3] at hv
  rw [hrun, elemB_inv Tryz.underlying4 hv]
theorem SetM.put {w : World} {b n : Nat} {S : List UInt8 → Bool} (h : SetM w b n S) (hn : n < maxLen) (s : ByteArray) (hs : s.size ≤ maxLen) :
    ∃ w', (Instr.mapUpdate 201 (.map (some b)) (.string s) (.bool true)).run Tryz.prog w = .ok () w' ∧ SetM w' b (n + 1) (fun k => k == s.data.toList || S k) ∧ w.grownBy w' (some b) := by
  obtain ⟨D, h1, h2, h3⟩ := h
  obtain ⟨w', hrun, r1, r2⟩ := h1.update keyLaw Tryz.underlying201 hn (Go.WideMaps.keyOf_string_mk Tryz.underlying9 hs) (plainElem_bool Tryz.underlying4 true)
  refine ⟨w', hrun, ⟨_, r1, h2.put _ _, fun k => ?_⟩, r2⟩
  by_cases e : k = s.data.toList
  · subst e
    show (D.put (Lit.string s.data.toList) (.lit (.bool true))).atKey (Lit.string s.data.toList) (.lit (.bool false)) = .lit (.bool (s.data.toList == s.data.toList || S s.data.toList))
    rw [atKey_put_same h2 (show WideAt.IsKeyLit (Lit.string s.data.toList) from True.intro), beq_self_eq_true, Bool.true_or]
  · show (D.put (Lit.string s.data.toList) (.lit (.bool true))).atKey (Lit.string k) (.lit (.bool false)) = .lit (.bool (k == s.data.toList || S k))
    rw [atKey_put_other (fun h => e (by injection h)), h3, beq_eq_false_iff_ne.2 e, Bool.false_or]
theorem wpList_set_put {w : World} {ops : Array Oper} {rest : List Oper} {o : Oper} {a : Act} {Q : Exit → Act → World → Prop} (hg : o.guard = none) (m x v : Operand)
    (hop : o.op = Op.mapUpdate 201 m x v ∨ o.op = Op.insert 201 m x v) {b n : Nat} {S : List UInt8 → Bool} (hm : a.eval m = .map (some b)) (h : SetM w b n S) (hn : n < maxLen) (s : ByteArray) (hx : a.eval x = .string s) (hs : s.size ≤ maxLen) (hv : a.eval v = .bool true)
    (hK : ∀ w', SetM w' b (n + 1) (fun k => k == s.data.toList || S k) → w.grownBy w' (some b) → wpList Tryz.prog ops Q rest (a.put o.dst undef) w') :
    wpList Tryz.prog ops Q (o :: rest) a w := by
  refine wpList_plain hg fun K' hK' => ?_
  obtain ⟨w', hrun, r1, r2⟩ := h.put hn s hs
  unfold Oper.wp
  rcases hop with hop | hop <;> (simp [execOp, hop, hm, hx, hv, hrun, Result.andThen]; exact hK' _ _ (hK w' r1 r2))
theorem cell_grown {w w1 : World} {b : Nat} (hm : ∃ es c, w.heap[b]? = some (.map es c)) (hg : w.grownBy w1 (some b)) {a : Addr} {v : Value} (hc : w.cell? a = some v) : w1.cell? a = some v := by
  have hlt := World.block_lt_of_cell? _ _ hc
  have hne : a.block ≠ b := by
    rintro rfl
    obtain ⟨es, c, h⟩ := hm
    unfold World.cell? at hc
    rw [h] at hc
    simp at hc
  have hh : w1.heap[a.block]? = w.heap[a.block]? := hg.block a.block hlt (by simpa using hne)
  unfold World.cell? at hc ⊢
  rw [hh]; exact hc
theorem C_grown {w w1 : World} {b : Nat} {A : Option Addr} {n : Nat} {xs : List ByteArray} (hm : ∃ es c, w.heap[b]? = some (.map es c)) (hg : w.grownBy w1 (some b)) (h : Kd.C Kd.string w A n xs) : Kd.C Kd.string w1 A n xs := by
  refine ⟨h.1, h.2.1, fun hn => ?_⟩
  obtain ⟨ad, e, hc⟩ := h.2.2 hn
  refine ⟨ad, e, fun j p hj => ?_⟩
  obtain ⟨c, h1, h2, h3⟩ := hc j p hj
  exact ⟨c, h1, h2, fun i u hu => cell_grown hm hg (h3 i u hu)⟩
theorem below_grown_map {w0 w w1 : World} {b B : Nat} (h : Below B w0 w) (hb : B ≤ b) (hg : w.grownBy w1 (some b)) (hB : B ≤ w.heap.size) : Below B w0 w1 :=
  h.grown hg hB (fun j hj => by cases hj; exact hb)
end Go.Proofs.YtaakgjbdknobbaaGreatDoor.E


namespace Go.Proofs.YtaakgjbdknobbaaGreatDoor.XA
open Go.Proofs.YtaakgjbdknobbaaGreatDoor.XK
open Go.RowKit Go.Proofs.YtaakgjbdknobbaaGreatDoorW.PrintWords Go.Proofs.YtaakgjbdknobbaaGreatDoorW.PrintLast Go.Proofs.YtaakgjbdknobbaaGreatDoorW.PrintMore
attribute [local go_sem] max2_int min2_int max_two min_two max_three min_three max_four min_four
set_option linter.unusedVariables false
set_option linter.unusedSimpArgs false
end Go.Proofs.YtaakgjbdknobbaaGreatDoor.XA


namespace Go.Proofs.YtaakgjbdknobbaaGreatDoor.XA
open Go.Proofs.YtaakgjbdknobbaaGreatDoor.XK
open Go.RowKit Go.Proofs.YtaakgjbdknobbaaGreatDoorW.PrintWords Go.Proofs.YtaakgjbdknobbaaGreatDoorW.PrintLast Go.Proofs.YtaakgjbdknobbaaGreatDoorW.PrintMore
attribute [local go_sem] max2_int min2_int max_two min_two max_three min_three max_four min_four
set_option linter.unusedVariables false
set_option linter.unusedSimpArgs false
mutual
def fields_Age.l0 : Nat → Int → List ByteArray → Int → Int → Option (Int × Bool)
 | 0, _, _, _, _ => none
 | k + 1, x4, x13, x14, x15 => if x15 < x14 then (if 0 ≤ x15 then (if x15 < (x13.length : Int) then ((E.Cut.f (rdOf ByteArray.empty x13 x15) (⟨#[61]⟩ : ByteArray)).bind fun bt105 => (if bt105.1.toList = ([110, 111, 45, 115, 116, 111, 114, 101] : List UInt8) then (fields_Age.j1 k x4 bt105.1 bt105.2.1 bt105.2.2 x13 x14 x15 (!bt105.2.2)) else (fields_Age.j1 k x4 bt105.1 bt105.2.1 bt105.2.2 x13 x14 x15 false))) else (none)) else (none)) else (some (x4, decide (x4 > 0)))
def fields_Age.j1 : Nat → Int → ByteArray → ByteArray → Bool → List ByteArray → Int → Int → Bool → Option (Int × Bool)
 | 0, _, _, _, _, _, _, _, _ => none
 | k + 1, x4, x7, x8, x9, x13, x14, x15, x25 => if x25 = true then (fields_Age.j2 k x4 x7 x8 x9 x13 x14 x15 x25) else (if x7.toList = ([110, 111, 45, 99, 97, 99, 104, 101] : List UInt8) then (fields_Age.j2 k x4 x7 x8 x9 x13 x14 x15 (x7.toList == ([110, 111, 45, 99, 97, 99, 104, 101] : List UInt8))) else (fields_Age.j2 k x4 x7 x8 x9 x13 x14 x15 (x7.toList == ([112, 114, 105, 118, 97, 116, 101] : List UInt8))))
def fields_Age.j2 : Nat → Int → ByteArray → ByteArray → Bool → List ByteArray → Int → Int → Bool → Option (Int × Bool)
 | 0, _, _, _, _, _, _, _, _ => none
 | k + 1, x4, x7, x8, x9, x13, x14, x15, x25 => if x25 = true then (some (0, false)) else (if x7.toList = ([109, 97, 120, 45, 97, 103, 101] : List UInt8) then (fields_Age.j3 k x4 x8 x13 x14 x15 x9) else (fields_Age.j3 k x4 x8 x13 x14 x15 false))
def fields_Age.j3 : Nat → Int → ByteArray → List ByteArray → Int → Int → Bool → Option (Int × Bool)
 | 0, _, _, _, _, _, _ => none
 | k + 1, x4, x8, x13, x14, x15, x36 => if x36 = true then ((E.fnumber.f x8).bind fun bt108 => (if bt108.2 = true then (if bt108.1 = 0 then (some (0, false)) else (if x4 > 0 then (some (0, false)) else (fields_Age.l0 k (mn bt108.1 1048576) x13 x14 (wrap64 (x15 + 1))))) else (some (0, false)))) else (fields_Age.l0 k x4 x13 x14 (wrap64 (x15 + 1)))
end
def fields_Age.f (k : Nat) (l0 : List (S78)) : Option (Int × Bool) := (E.Directives.f l0).bind fun t101 => (fields_Age.l0 k 0 t101 (t101.length : Int) 0)
theorem fields_Age.mono_l : ∀ k, (∀ y0 y1 y2 y3, LeO (fields_Age.l0 k y0 y1 y2 y3) (fields_Age.l0 (k + 1) y0 y1 y2 y3)) ∧ (∀ y0 y1 y2 y3 y4 y5 y6 y7, LeO (fields_Age.j1 k y0 y1 y2 y3 y4 y5 y6 y7) (fields_Age.j1 (k + 1) y0 y1 y2 y3 y4 y5 y6 y7)) ∧ (∀ y0 y1 y2 y3 y4 y5 y6 y7, LeO (fields_Age.j2 k y0 y1 y2 y3 y4 y5 y6 y7) (fields_Age.j2 (k + 1) y0 y1 y2 y3 y4 y5 y6 y7)) ∧ (∀ y0 y1 y2 y3 y4 y5, LeO (fields_Age.j3 k y0 y1 y2 y3 y4 y5) (fields_Age.j3 (k + 1) y0 y1 y2 y3 y4 y5))
 | 0 => ⟨fun _ _ _ _ r h => by simp [fields_Age.l0] at h, fun _ _ _ _ _ _ _ _ r h => by simp [fields_Age.j1] at h, fun _ _ _ _ _ _ _ _ r h => by simp [fields_Age.j2] at h, fun _ _ _ _ _ _ r h => by simp [fields_Age.j3] at h⟩
 | k + 1 => by
  obtain ⟨ih0, ih1, ih2, ih3⟩ := fields_Age.mono_l k
  refine ⟨?_, ?_, ?_, ?_⟩
  ·intro y0 y1 y2 y3
   unfold fields_Age.l0
   repeat' first
   | (with_reducible exact ih0 _ _ _ _)
   | (with_reducible exact ih1 _ _ _ _ _ _ _ _)
   | (with_reducible exact ih2 _ _ _ _ _ _ _ _)
   | (with_reducible exact ih3 _ _ _ _ _ _)
   | (with_reducible exact LeO.refl _)
   | (with_reducible exact LeO.none _)
   | (with_reducible refine LeO.ite ?_ ?_)
   | (with_reducible refine LeO.bind ?_ (fun _ => ?_))
   | exact ih0 _ _ _ _
   | exact ih1 _ _ _ _ _ _ _ _
   | exact ih2 _ _ _ _ _ _ _ _
   | exact ih3 _ _ _ _ _ _
   | exact LeO.none _
   | refine LeO.ite ?_ ?_
   | refine LeO.bind ?_ (fun _ => ?_)
  ·intro y0 y1 y2 y3 y4 y5 y6 y7
   unfold fields_Age.j1
   repeat' first
   | (with_reducible exact ih0 _ _ _ _)
   | (with_reducible exact ih1 _ _ _ _ _ _ _ _)
   | (with_reducible exact ih2 _ _ _ _ _ _ _ _)
   | (with_reducible exact ih3 _ _ _ _ _ _)
   | (with_reducible exact LeO.refl _)
   | (with_reducible exact LeO.none _)
   | (with_reducible refine LeO.ite ?_ ?_)
   | (with_reducible refine LeO.bind ?_ (fun _ => ?_))
   | exact ih0 _ _ _ _
   | exact ih1 _ _ _ _ _ _ _ _
   | exact ih2 _ _ _ _ _ _ _ _
   | exact ih3 _ _ _ _ _ _
   | exact LeO.none _
   | refine LeO.ite ?_ ?_
   | refine LeO.bind ?_ (fun _ => ?_)
  ·intro y0 y1 y2 y3 y4 y5 y6 y7
   unfold fields_Age.j2
   repeat' first
   | (with_reducible exact ih0 _ _ _ _)
   | (with_reducible exact ih1 _ _ _ _ _ _ _ _)
   | (with_reducible exact ih2 _ _ _ _ _ _ _ _)
   | (with_reducible exact ih3 _ _ _ _ _ _)
   | (with_reducible exact LeO.refl _)
   | (with_reducible exact LeO.none _)
   | (with_reducible refine LeO.ite ?_ ?_)
   | (with_reducible refine LeO.bind ?_ (fun _ => ?_))
   | exact ih0 _ _ _ _
   | exact ih1 _ _ _ _ _ _ _ _
   | exact ih2 _ _ _ _ _ _ _ _
   | exact ih3 _ _ _ _ _ _
   | exact LeO.none _
   | refine LeO.ite ?_ ?_
   | refine LeO.bind ?_ (fun _ => ?_)
  ·intro y0 y1 y2 y3 y4 y5
   unfold fields_Age.j3
   repeat' first
   | (with_reducible exact ih0 _ _ _ _)
   | (with_reducible exact ih1 _ _ _ _ _ _ _ _)
   | (with_reducible exact ih2 _ _ _ _ _ _ _ _)
   | (with_reducible exact ih3 _ _ _ _ _ _)
   | (with_reducible exact LeO.refl _)
   | (with_reducible exact LeO.none _)
   | (with_reducible refine LeO.ite ?_ ?_)
   | (with_reducible refine LeO.bind ?_ (fun _ => ?_))
   | exact ih0 _ _ _ _
   | exact ih1 _ _ _ _ _ _ _ _
   | exact ih2 _ _ _ _ _ _ _ _
   | exact ih3 _ _ _ _ _ _
   | exact LeO.none _
   | refine LeO.ite ?_ ?_
   | refine LeO.bind ?_ (fun _ => ?_)
theorem fields_Age.mono : ∀ a0 k, LeO (fields_Age.f k a0) (fields_Age.f (k + 1) a0) := by
 intro a0 k
 obtain ⟨ih0, ih1, ih2, ih3⟩ := fields_Age.mono_l k
 unfold fields_Age.f
 repeat' first
   | (with_reducible exact ih0 _ _ _ _)
   | (with_reducible exact ih1 _ _ _ _ _ _ _ _)
   | (with_reducible exact ih2 _ _ _ _ _ _ _ _)
   | (with_reducible exact ih3 _ _ _ _ _ _)
   | (with_reducible exact LeO.refl _)
   | (with_reducible exact LeO.none _)
   | (with_reducible refine LeO.ite ?_ ?_)
   | (with_reducible refine LeO.bind ?_ (fun _ => ?_))
   | exact ih0 _ _ _ _
   | exact ih1 _ _ _ _ _ _ _ _
   | exact ih2 _ _ _ _ _ _ _ _
   | exact ih3 _ _ _ _ _ _
   | exact LeO.none _
   | refine LeO.ite ?_ ?_
   | refine LeO.bind ?_ (fun _ => ?_)
set_option maxHeartbeats 8000000 in
set_option maxRecDepth 100000 in
theorem fields_Age.calls (k : Nat) (A0 : Option Addr) (c0 : Nat) (l0 : List (S78)) (r1 : Int) (r2 : Bool) (w : World) (hr0 : Kd.C k78 w A0 l0.length l0) (hc0 : l0.length ≤ c0) (hS_ : StdW w) (h : fields_Age.f k l0 = some (r1, r2)) :
  Calls Tryz.prog 63 #[.slice A0 l0.length c0] w fun e w' => e = .returned (.tuple #[.int .i64 r1, .bool r2]) ∧ Below w.heap.size w w' := by
 have HR0 := Aside0.mk hr0
 have HC0 := Aside0.mk hc0
 clear hr0 hc0
 have HS_ := Aside0.mk hS_
 clear hS_
 have HB := Aside0.mk (Below.refl w.heap.size w)
 have H : ((E.Directives.f l0).bind fun t101 => (fields_Age.l0 k 0 t101 (t101.length : Int) 0)) = some (r1, r2) := h
 clear h
 replace H := Option.bind_eq_some_iff.mp H
 obtain ⟨t101, A20, H⟩ := H
 replace H : (fields_Age.l0 k 0 t101 (t101.length : Int) 0) = some (r1, r2) := H
 have A2 := Aside0.mk A20
 clear A20
 have H' := Aside0.mk H
 clear H
 go_enter Tryz.func63, Tryz.ntmps63
 go_wp2_with (first | ((with_reducible refine gate_callee (f := 113) rfl ?_); refine goesL_ (some 13) rfl rfl Tryz.func113 (by kernel_rfl) rfl #[.slice A0 l0.length c0] rfl (by (try simp only [List.map_toArray, List.map_cons, List.map_nil]); first | done | rfl | (simp only [List.length_drop, List.length_take]; rfl)) ?_; (with_reducible refine (E.Directives.calls _ _ l0 t101 _ ?side1 ?side2 ?side3 A2.out).mono ?_); (case side1 => repeat (first | exact HR0.out | (with_reducible refine Kd.C_alloc ?_ _) | (with_reducible refine Kd.C_drewN ?_ _) | (with_reducible refine Kd.C_drew ?_))); (case side2 => exact HC0.out); (case side3 => exact StdW.below HS_.out (by repeat (first | (with_reducible first | exact HB.out | apply below_alloc | apply pw_below_drewN | apply below_drew1) | exact HB.out))); rintro e w3 ⟨v102, rfl, ho0, hb⟩; refine ⟨_, rfl, ?_⟩; have n0_ := Aside0.mk (Kd.R_lower ho0 (below_size (by repeat (first | (with_reducible first | exact HB.out | apply below_alloc | apply pw_below_drewN | apply below_drew1) | exact HB.out)))); have n1_ := Aside0.mk (below_step (by repeat (first | (with_reducible first | exact HB.out | apply below_alloc | apply pw_below_drewN | apply below_drew1) | exact HB.out)) hb); clear HB; have HO103 := n0_; have HB := n1_; clear n0_ n1_; (try clear hb); (try clear hb2); (try clear hk); (try clear hi); (try clear ho0); obtain ⟨Ao4, co4, eo4⟩ := Kd.R_slice HO103.out; subst eo4))
 go_loopg [4, 15] k (fun kq v4 v15 w' => ∃ (x4_1 : Int) (x15_1 : Int), v4 = .int .i64 x4_1 ∧ v15 = .int .i64 x15_1 ∧ Aside0 (fields_Age.l0 kq x4_1 t101 (t101.length : Int) x15_1 = some (r1, r2)) ∧ Aside0 (kq ≤ k) ∧ Aside0 (Kd.R Kd.string 9 w' w.heap.size (fun _ => True) (.slice Ao4 t101.length co4) t101) ∧ Aside0 (Below w.heap.size w w'))
 case atStart => exact ⟨(0), (0), (by first | rfl | (simp; done) | (simp [*]; done)), (by first | rfl | (simp; done) | (simp [*]; done)), H', ⟨Nat.le_refl _⟩, ⟨by (with_reducible repeat (first | apply Kd.R_alloc | apply Kd.R_drewN | apply Kd.R_drew)); exact HO103.out⟩, ⟨by repeat (first | (with_reducible first | exact HB.out | apply below_alloc | apply pw_below_drewN | apply below_drew1) | exact HB.out)⟩⟩
 case round =>
  clear H'
  try clear c1
  try clear p2
  obtain ⟨x4_1, x15_1, rfl, rfl, HA, HK1, HO_13, HB⟩ := hrel
  cases gk with
  | zero => exact absurd HA.out (by simp [fields_Age.l0])
  | succ k1 =>
   have H := HA.out
   clear HA
   simp only [fields_Age.l0] at H
   by_cases c5 : x15_1 < (t101.length : Int)
   ·rw [if_pos c5] at H
    have c5b0 : decide (x15_1 < (t101.length : Int)) = true := decide_eq_true c5
    clear c5
    by_cases c6 : 0 ≤ x15_1
    ·rw [if_pos c6] at H
     have c6b0 : decide (0 ≤ x15_1) = true := decide_eq_true c6
     clear c6
     by_cases c7 : x15_1 < (t101.length : Int)
     ·rw [if_pos c7] at H
      have c7b0 : decide (x15_1 < (t101.length : Int)) = true := decide_eq_true c7
      clear c7
      replace H := Option.bind_eq_some_iff.mp H
      obtain ⟨⟨t105, t106, t107⟩, A80, H⟩ := H
      replace H : (if t105.toList = ([110, 111, 45, 115, 116, 111, 114, 101] : List UInt8) then (fields_Age.j1 k1 x4_1 t105 t106 t107 t101 (t101.length : Int) x15_1 (!t107)) else (fields_Age.j1 k1 x4_1 t105 t106 t107 t101 (t101.length : Int) x15_1 false)) = some (r1, r2) := H
      have A8 := Aside0.mk A80
      clear A80
      have HC9 := Aside0.mk H
      clear H
      have p104 : 0 ≤ (x15_1 : Int) := of_decide_eq_true (by first | (with_reducible assumption) | assumption)
      have q104 : x15_1 < (t101.length : Int) := of_decide_eq_true (by first | (with_reducible assumption) | assumption)
      obtain ⟨ad104, e104, hx104_0⟩ := Kd.at_string (Kd.R_reads' HO_13.out).2.2 x15_1 p104 q104
      cases e104
      replace p104 := eq_true p104
      replace q104 := eq_true q104
      go_upto_region 6 with (first | ((with_reducible refine gate_callee (f := 114) rfl ?_); refine goesL_ (some 21) rfl rfl Tryz.func114 (by kernel_rfl) rfl #[.string (rdOf ByteArray.empty t101 x15_1), .string (⟨#[61]⟩ : ByteArray)] rfl (by (try simp only [List.map_toArray, List.map_cons, List.map_nil]); first | done | rfl | (simp only [List.length_drop, List.length_take]; rfl)) ?_; (with_reducible refine (E.Cut.calls (rdOf ByteArray.empty t101 x15_1) (⟨#[61]⟩ : ByteArray) t105 t106 t107 _ ?side1 A8.out).mono ?_); (case side1 => exact StdW.below HS_.out (by repeat (first | (with_reducible first | exact HB.out | apply below_alloc | apply pw_below_drewN | apply below_drew1) | exact HB.out))); rintro e w10 ⟨rfl, hb⟩; refine ⟨_, rfl, ?_⟩; have n0_ := Aside0.mk (Kd.R_below (by (with_reducible repeat (first | apply Kd.R_alloc | apply Kd.R_drewN | apply Kd.R_drew)); exact HO_13.out) hb); have n1_ := Aside0.mk (below_step (by repeat (first | (with_reducible first | exact HB.out | apply below_alloc | apply pw_below_drewN | apply below_drew1) | exact HB.out)) hb); clear HO_13; clear HB; have HO_13 := n0_; have HB := n1_; clear n0_ n1_; (try clear hb); (try clear hb2); (try clear hk); (try clear hi)))
      (try simp only [Act.put, List.setIfInBounds_toArray, List.set_cons_zero, List.set_cons_succ])
      go_cut [25] (fun v25 wc => ∃ (kq : Nat) (x25_8 : Bool), v25 = .bool x25_8 ∧ Aside0 (fields_Age.j1 kq x4_1 t105 t106 t107 t101 (t101.length : Int) x15_1 x25_8 = some (r1, r2)) ∧ Aside0 (kq ≤ k1) ∧ Aside0 (Kd.R Kd.string 9 wc w.heap.size (fun _ => True) (.slice (some ad104) t101.length co4) t101) ∧ Aside0 (Below w.heap.size w wc))
      case first =>
       have H := HC9.out
       clear HC9
       by_cases c11 : t105.toList = ([110, 111, 45, 115, 116, 111, 114, 101] : List UInt8)
       ·rw [if_pos c11] at H
        have c11b0 : (t105.toList == ([110, 111, 45, 115, 116, 111, 114, 101] : List UInt8)) = true := beq_iff_eq.mpr c11
        have c11b1 : (t105.toList != ([110, 111, 45, 115, 116, 111, 114, 101] : List UInt8)) = false := bne_eq_false_iff_eq.mpr c11
        clear c11
        (first | rw [c11b0] | (simp only [i64_w, i32_w]; rw [c11b0]) | skip)
        have H' := Aside0.mk H
        clear H
        go_wp2
        go_meet
        case rel => exact ⟨_, (!t107), (by first | rfl | (simp; done) | (simp [*]; done)), H', ⟨by have := HK1.out; first | omega | exact Nat.le_refl _⟩, ⟨by (with_reducible repeat (first | apply Kd.R_alloc | apply Kd.R_drewN | apply Kd.R_drew)); exact HO_13.out⟩, ⟨by repeat (first | (with_reducible first | exact HB.out | apply below_alloc | apply pw_below_drewN | apply below_drew1) | exact HB.out)⟩⟩
       ·rw [if_neg c11] at H
        have c11b0 : (t105.toList == ([110, 111, 45, 115, 116, 111, 114, 101] : List UInt8)) = false := beq_eq_false_iff_ne.mpr c11
        have c11b1 : (t105.toList != ([110, 111, 45, 115, 116, 111, 114, 101] : List UInt8)) = true := bne_iff_ne.mpr c11
        (first | rw [c11b0] | (simp only [i64_w, i32_w]; rw [c11b0]) | skip)
        have H' := Aside0.mk H
        clear H
        go_wp2
        go_meet
        case rel => exact ⟨_, (false), (by first | rfl | (simp; done) | (simp [*]; done)), H', ⟨by have := HK1.out; first | omega | exact Nat.le_refl _⟩, ⟨by (with_reducible repeat (first | apply Kd.R_alloc | apply Kd.R_drewN | apply Kd.R_drew)); exact HO_13.out⟩, ⟨by repeat (first | (with_reducible first | exact HB.out | apply below_alloc | apply pw_below_drewN | apply below_drew1) | exact HB.out)⟩⟩
      case rest =>
       clear HC9
       try clear c1
       try clear p1
       try clear q1
       try clear hx1
       try clear p2
       try clear c5
       try clear c5b0
       try clear c6
       try clear c6b0
       try clear c7
       try clear c7b0
       try clear p10
       try clear q10
       try clear hx10
       try clear c11
       try clear c11b0
       try clear c11b1
       try clear hx104_0
       try clear p104
       try clear p2
       try clear q104
       obtain ⟨kq, x25_8, rfl, HA, HJ8, HO_13, HB⟩ := hcut
       cases kq with
       | zero => exact absurd HA.out (by simp [fields_Age.j1])
       | succ kj8 =>
        have H := HA.out
        clear HA
        simp only [fields_Age.j1] at H
        have HC12 := Aside0.mk H
        clear H
        go_upto_if 25 with (fail)
        go_cut [25] (fun v25 wc => ∃ (kq : Nat) (x25_11 : Bool), v25 = .bool x25_11 ∧ Aside0 (fields_Age.j2 kq x4_1 t105 t106 t107 t101 (t101.length : Int) x15_1 x25_11 = some (r1, r2)) ∧ Aside0 (kq ≤ kj8) ∧ Aside0 (Kd.R Kd.string 9 wc w.heap.size (fun _ => True) (.slice (some ad104) t101.length co4) t101) ∧ Aside0 (Below w.heap.size w wc))
        case first =>
         have H := HC12.out
         clear HC12
         by_cases c13 : x25_8 = true
         ·subst c13
          have H1 : (fields_Age.j2 kj8 x4_1 t105 t106 t107 t101 (t101.length : Int) x15_1 true) = some (r1, r2) := by rw [if_pos rfl] at H; exact H
          clear H
          have H := H1
          clear H1
          have H' := Aside0.mk H
          clear H
          go_wp2
          go_meet
          case rel => exact ⟨_, (true), (by first | rfl | (simp; done) | (simp [*]; done)), H', ⟨by have := HK1.out; have := HJ8.out; first | omega | exact Nat.le_refl _⟩, ⟨by (with_reducible repeat (first | apply Kd.R_alloc | apply Kd.R_drewN | apply Kd.R_drew)); exact HO_13.out⟩, ⟨by repeat (first | (with_reducible first | exact HB.out | apply below_alloc | apply pw_below_drewN | apply below_drew1) | exact HB.out)⟩⟩
         ·replace c13 := Bool.eq_false_iff.mpr c13
          subst c13
          have H1 : (if t105.toList = ([110, 111, 45, 99, 97, 99, 104, 101] : List UInt8) then (fields_Age.j2 kj8 x4_1 t105 t106 t107 t101 (t101.length : Int) x15_1 (t105.toList == ([110, 111, 45, 99, 97, 99, 104, 101] : List UInt8))) else (fields_Age.j2 kj8 x4_1 t105 t106 t107 t101 (t101.length : Int) x15_1 (t105.toList == ([112, 114, 105, 118, 97, 116, 101] : List UInt8)))) = some (r1, r2) := by rw [if_neg (show ¬ (false = true) by decide)] at H; exact H
          clear H
          have H := H1
          clear H1
          by_cases c14 : t105.toList = ([110, 111, 45, 99, 97, 99, 104, 101] : List UInt8)
          ·rw [if_pos c14] at H
           have c14b0 : (t105.toList == ([110, 111, 45, 99, 97, 99, 104, 101] : List UInt8)) = true := beq_iff_eq.mpr c14
           have c14b1 : (t105.toList != ([110, 111, 45, 99, 97, 99, 104, 101] : List UInt8)) = false := bne_eq_false_iff_eq.mpr c14
           clear c14
           (first | rw [c14b0] | (simp only [i64_w, i32_w]; rw [c14b0]) | skip)
           have H' := Aside0.mk H
           clear H
           go_wp2
           go_meet
           case rel => exact ⟨_, ((t105.toList == ([110, 111, 45, 99, 97, 99, 104, 101] : List UInt8))), (by first | rfl | (simp; done) | (simp [*]; done)), H', ⟨by have := HK1.out; have := HJ8.out; first | omega | exact Nat.le_refl _⟩, ⟨by (with_reducible repeat (first | apply Kd.R_alloc | apply Kd.R_drewN | apply Kd.R_drew)); exact HO_13.out⟩, ⟨by repeat (first | (with_reducible first | exact HB.out | apply below_alloc | apply pw_below_drewN | apply below_drew1) | exact HB.out)⟩⟩
          ·rw [if_neg c14] at H
           have c14b0 : (t105.toList == ([110, 111, 45, 99, 97, 99, 104, 101] : List UInt8)) = false := beq_eq_false_iff_ne.mpr c14
           have c14b1 : (t105.toList != ([110, 111, 45, 99, 97, 99, 104, 101] : List UInt8)) = true := bne_iff_ne.mpr c14
           (first | rw [c14b0] | (simp only [i64_w, i32_w]; rw [c14b0]) | skip)
           have H' := Aside0.mk H
           clear H
           go_wp2
           go_meet
           case rel => exact ⟨_, ((t105.toList == ([112, 114, 105, 118, 97, 116, 101] : List UInt8))), (by first | rfl | (simp; done) | (simp [*]; done)), H', ⟨by have := HK1.out; have := HJ8.out; first | omega | exact Nat.le_refl _⟩, ⟨by (with_reducible repeat (first | apply Kd.R_alloc | apply Kd.R_drewN | apply Kd.R_drew)); exact HO_13.out⟩, ⟨by repeat (first | (with_reducible first | exact HB.out | apply below_alloc | apply pw_below_drewN | apply below_drew1) | exact HB.out)⟩⟩
        case rest =>
         clear HC12
         try clear c1
         try clear p1
         try clear q1
         try clear hx1
         try clear p2
         try clear c5
         try clear c5b0
         try clear c6
         try clear c6b0
         try clear c7
         try clear c7b0
         try clear p10
         try clear q10
         try clear hx10
         try clear c11
         try clear c11b0
         try clear c11b1
         try clear c13
         try clear c14
         try clear c14b0
         try clear c14b1
         try clear hx104_0
         try clear p1
         try clear p10
         try clear p104
         try clear p2
         try clear q1
         try clear q10
         try clear q104
         obtain ⟨kq, x25_11, rfl, HA, HJ11, HO_13, HB⟩ := hcut
         cases kq with
         | zero => exact absurd HA.out (by simp [fields_Age.j2])
         | succ kj11 =>
          have H := HA.out
          clear HA
          simp only [fields_Age.j2] at H
          by_cases c15 : x25_11 = true
          ·subst c15
           have H1 : (some (0, false)) = some (r1, r2) := by rw [if_pos rfl] at H; exact H
           clear H
           have H := H1
           clear H1
           simp only [Option.some.injEq, Prod.mk.injEq] at H
           obtain ⟨rfl, rfl⟩ := H
           go_wp2
           go_ret2
           exact ⟨by first | rfl | (simp [errW_none, errW_some] <;> rfl) | (simp [*, errW_none, errW_some] <;> rfl), by repeat (first | (with_reducible first | exact HB.out | apply below_alloc | apply pw_below_drewN | apply below_drew1) | exact HB.out)⟩
          ·replace c15 := Bool.eq_false_iff.mpr c15
           subst c15
           have H1 : (if t105.toList = ([109, 97, 120, 45, 97, 103, 101] : List UInt8) then (fields_Age.j3 kj11 x4_1 t106 t101 (t101.length : Int) x15_1 t107) else (fields_Age.j3 kj11 x4_1 t106 t101 (t101.length : Int) x15_1 false)) = some (r1, r2) := by rw [if_neg (show ¬ (false = true) by decide)] at H; exact H
           clear H
           have H := H1
           clear H1
           have HC16 := Aside0.mk H
           clear H
           go_upto_region 10 with (fail)
           go_cut [36] (fun v36 wc => ∃ (kq : Nat) (x36_15 : Bool), v36 = .bool x36_15 ∧ Aside0 (fields_Age.j3 kq x4_1 t106 t101 (t101.length : Int) x15_1 x36_15 = some (r1, r2)) ∧ Aside0 (kq ≤ kj11) ∧ Aside0 (Kd.R Kd.string 9 wc w.heap.size (fun _ => True) (.slice (some ad104) t101.length co4) t101) ∧ Aside0 (Below w.heap.size w wc))
           case first =>
            have H := HC16.out
            clear HC16
            by_cases c17 : t105.toList = ([109, 97, 120, 45, 97, 103, 101] : List UInt8)
            ·rw [if_pos c17] at H
             have c17b0 : (t105.toList == ([109, 97, 120, 45, 97, 103, 101] : List UInt8)) = true := beq_iff_eq.mpr c17
             have c17b1 : (t105.toList != ([109, 97, 120, 45, 97, 103, 101] : List UInt8)) = false := bne_eq_false_iff_eq.mpr c17
             clear c17
             (first | rw [c17b0] | (simp only [i64_w, i32_w]; rw [c17b0]) | skip)
             have H' := Aside0.mk H
             clear H
             go_wp2
             go_meet
             case rel => exact ⟨_, (t107), (by first | rfl | (simp; done) | (simp [*]; done)), H', ⟨by have := HK1.out; have := HJ8.out; have := HJ11.out; first | omega | exact Nat.le_refl _⟩, ⟨by (with_reducible repeat (first | apply Kd.R_alloc | apply Kd.R_drewN | apply Kd.R_drew)); exact HO_13.out⟩, ⟨by repeat (first | (with_reducible first | exact HB.out | apply below_alloc | apply pw_below_drewN | apply below_drew1) | exact HB.out)⟩⟩
            ·rw [if_neg c17] at H
             have c17b0 : (t105.toList == ([109, 97, 120, 45, 97, 103, 101] : List UInt8)) = false := beq_eq_false_iff_ne.mpr c17
             have c17b1 : (t105.toList != ([109, 97, 120, 45, 97, 103, 101] : List UInt8)) = true := bne_iff_ne.mpr c17
             (first | rw [c17b0] | (simp only [i64_w, i32_w]; rw [c17b0]) | skip)
             have H' := Aside0.mk H
             clear H
             go_wp2
             go_meet
             case rel => exact ⟨_, (false), (by first | rfl | (simp; done) | (simp [*]; done)), H', ⟨by have := HK1.out; have := HJ8.out; have := HJ11.out; first | omega | exact Nat.le_refl _⟩, ⟨by (with_reducible repeat (first | apply Kd.R_alloc | apply Kd.R_drewN | apply Kd.R_drew)); exact HO_13.out⟩, ⟨by repeat (first | (with_reducible first | exact HB.out | apply below_alloc | apply pw_below_drewN | apply below_drew1) | exact HB.out)⟩⟩
           case rest =>
            clear HC16
            try clear c1
            try clear p1
            try clear q1
            try clear hx1
            try clear p2
            try clear c5
            try clear c5b0
            try clear c6
            try clear c6b0
            try clear c7
            try clear c7b0
            try clear p10
            try clear q10
            try clear hx10
            try clear c11
            try clear c11b0
            try clear c11b1
            try clear c13
            try clear c14
            try clear c14b0
            try clear c14b1
            try clear c15
            try clear c17
            try clear c17b0
            try clear c17b1
            try clear hx104_0
            try clear p1
            try clear p10
            try clear p104
            try clear p2
            try clear q1
            try clear q10
            try clear q104
            obtain ⟨kq, x36_15, rfl, HA, HJ15, HO_13, HB⟩ := hcut
            cases kq with
            | zero => exact absurd HA.out (by simp [fields_Age.j3])
            | succ kj15 =>
             have H := HA.out
             clear HA
             simp only [fields_Age.j3] at H
             by_cases c18 : x36_15 = true
             ·subst c18
              have H1 : ((E.fnumber.f t106).bind fun bt108 => (if bt108.2 = true then (if bt108.1 = 0 then (some (0, false)) else (if x4_1 > 0 then (some (0, false)) else (fields_Age.l0 kj15 (mn bt108.1 1048576) t101 (t101.length : Int) (wrap64 (x15_1 + 1))))) else (some (0, false)))) = some (r1, r2) := by rw [if_pos rfl] at H; exact H
              clear H
              have H := H1
              clear H1
              replace H := Option.bind_eq_some_iff.mp H
              obtain ⟨⟨t108, t109⟩, A190, H⟩ := H
              replace H : (if t109 = true then (if t108 = 0 then (some (0, false)) else (if x4_1 > 0 then (some (0, false)) else (fields_Age.l0 kj15 (mn t108 1048576) t101 (t101.length : Int) (wrap64 (x15_1 + 1))))) else (some (0, false))) = some (r1, r2) := H
              have A19 := Aside0.mk A190
              clear A190
              by_cases c20 : t109 = true
              ·subst c20
               have H1 : (if t108 = 0 then (some (0, false)) else (if x4_1 > 0 then (some (0, false)) else (fields_Age.l0 kj15 (mn t108 1048576) t101 (t101.length : Int) (wrap64 (x15_1 + 1))))) = some (r1, r2) := by rw [if_pos rfl] at H; exact H
               clear H
               have H := H1
               clear H1
               by_cases c21 : t108 = 0
               ·rw [if_pos c21] at H
                have c21b0 : (t108 == 0) = true := beq_iff_eq.mpr c21
                have c21b1 : (t108 != 0) = false := bne_eq_false_iff_eq.mpr c21
                clear c21
                simp only [Option.some.injEq, Prod.mk.injEq] at H
                obtain ⟨rfl, rfl⟩ := H
                go_wp2_with (first | ((with_reducible refine gate_callee (f := 109) rfl ?_); refine goesL_ (some 44) rfl rfl Tryz.func109 (by kernel_rfl) rfl #[.string t106] rfl (by (try simp only [List.map_toArray, List.map_cons, List.map_nil]); first | done | rfl | (simp only [List.length_drop, List.length_take]; rfl)) ?_; (with_reducible refine (E.fnumber.calls t106 t108 true _ ?side1 A19.out).mono ?_); (case side1 => exact StdW.below HS_.out (by repeat (first | (with_reducible first | exact HB.out | apply below_alloc | apply pw_below_drewN | apply below_drew1) | exact HB.out))); rintro e w22 ⟨rfl, hb⟩; refine ⟨_, rfl, ?_⟩; have n0_ := Aside0.mk (Kd.R_below (by (with_reducible repeat (first | apply Kd.R_alloc | apply Kd.R_drewN | apply Kd.R_drew)); exact HO_13.out) hb); have n1_ := Aside0.mk (below_step (by repeat (first | (with_reducible first | exact HB.out | apply below_alloc | apply pw_below_drewN | apply below_drew1) | exact HB.out)) hb); clear HO_13; clear HB; have HO_13 := n0_; have HB := n1_; clear n0_ n1_; (try clear hb); (try clear hb2); (try clear hk); (try clear hi)))
                go_ret2
                exact ⟨by first | rfl | (simp [errW_none, errW_some] <;> rfl) | (simp [*, errW_none, errW_some] <;> rfl), by repeat (first | (with_reducible first | exact HB.out | apply below_alloc | apply pw_below_drewN | apply below_drew1) | exact HB.out)⟩
               ·rw [if_neg c21] at H
                have c21b0 : (t108 == 0) = false := beq_eq_false_iff_ne.mpr c21
                have c21b1 : (t108 != 0) = true := bne_iff_ne.mpr c21
                by_cases c23 : x4_1 > 0
                ·rw [if_pos c23] at H
                 have c23b0 : decide (0 < x4_1) = true := decide_eq_true c23
                 clear c23
                 simp only [Option.some.injEq, Prod.mk.injEq] at H
                 obtain ⟨rfl, rfl⟩ := H
                 go_wp2_with (first | ((with_reducible refine gate_callee (f := 109) rfl ?_); refine goesL_ (some 44) rfl rfl Tryz.func109 (by kernel_rfl) rfl #[.string t106] rfl (by (try simp only [List.map_toArray, List.map_cons, List.map_nil]); first | done | rfl | (simp only [List.length_drop, List.length_take]; rfl)) ?_; (with_reducible refine (E.fnumber.calls t106 t108 true _ ?side1 A19.out).mono ?_); (case side1 => exact StdW.below HS_.out (by repeat (first | (with_reducible first | exact HB.out | apply below_alloc | apply pw_below_drewN | apply below_drew1) | exact HB.out))); rintro e w24 ⟨rfl, hb⟩; refine ⟨_, rfl, ?_⟩; have n0_ := Aside0.mk (Kd.R_below (by (with_reducible repeat (first | apply Kd.R_alloc | apply Kd.R_drewN | apply Kd.R_drew)); exact HO_13.out) hb); have n1_ := Aside0.mk (below_step (by repeat (first | (with_reducible first | exact HB.out | apply below_alloc | apply pw_below_drewN | apply below_drew1) | exact HB.out)) hb); clear HO_13; clear HB; have HO_13 := n0_; have HB := n1_; clear n0_ n1_; (try clear hb); (try clear hb2); (try clear hk); (try clear hi)))
                 go_ret2
                 exact ⟨by first | rfl | (simp [errW_none, errW_some] <;> rfl) | (simp [*, errW_none, errW_some] <;> rfl), by repeat (first | (with_reducible first | exact HB.out | apply below_alloc | apply pw_below_drewN | apply below_drew1) | exact HB.out)⟩
                ·rw [if_neg c23] at H
                 have c23b0 : decide (0 < x4_1) = false := decide_eq_false c23
                 clear c23
                 obtain ⟨ji25, hji25⟩ : ∃ j_ : Int, (mn t108 1048576) = j_ := ⟨_, rfl⟩
                 replace H : (fields_Age.l0 kj15 ji25 t101 (t101.length : Int) (wrap64 (x15_1 + 1))) = some (r1, r2) := by first | (rw [hji25] at H; exact H) | (simp only [hji25] at H ⊢; exact H)
                 (try rw [hji25] at A19)
                 (try (have hji25h : ji25 ≤ 1048576 := by (rw [← hji25]; unfold mn; (repeat' split) <;> omega)))
                 (try (have hji25g : ji25 ≤ 64 := by omega))
                 have hji25_ : (if 1048576 < t108 then 1048576 else t108) = ji25 := hji25
                 have H' := Aside0.mk H
                 clear H
                 go_wp2_with (first | ((with_reducible refine gate_callee (f := 109) rfl ?_); refine goesL_ (some 44) rfl rfl Tryz.func109 (by kernel_rfl) rfl #[.string t106] rfl (by (try simp only [List.map_toArray, List.map_cons, List.map_nil]); first | done | rfl | (simp only [List.length_drop, List.length_take]; rfl)) ?_; (with_reducible refine (E.fnumber.calls t106 t108 true _ ?side1 A19.out).mono ?_); (case side1 => exact StdW.below HS_.out (by repeat (first | (with_reducible first | exact HB.out | apply below_alloc | apply pw_below_drewN | apply below_drew1) | exact HB.out))); rintro e w26 ⟨rfl, hb⟩; refine ⟨_, rfl, ?_⟩; have n0_ := Aside0.mk (Kd.R_below (by (with_reducible repeat (first | apply Kd.R_alloc | apply Kd.R_drewN | apply Kd.R_drew)); exact HO_13.out) hb); have n1_ := Aside0.mk (below_step (by repeat (first | (with_reducible first | exact HB.out | apply below_alloc | apply pw_below_drewN | apply below_drew1) | exact HB.out)) hb); clear HO_13; clear HB; have HO_13 := n0_; have HB := n1_; clear n0_ n1_; (try clear hb); (try clear hb2); (try clear hk); (try clear hi)))
                 go_roundg kj15
                 case measure => have := HK1.out; have := HJ8.out; have := HJ11.out; have := HJ15.out; omega
                 case rel => exact ⟨(ji25), (wrap64 (x15_1 + 1)), (by first | rfl | (simp; done) | (simp only [← hji25] <;> (first | rfl | simp)) | (simp [*]; done)), (by first | rfl | (simp; done) | (simp [*]; done)), H', ⟨by have := HK1.out; have := HJ8.out; have := HJ11.out; have := HJ15.out; omega⟩, ⟨by (with_reducible repeat (first | apply Kd.R_alloc | apply Kd.R_drewN | apply Kd.R_drew)); exact HO_13.out⟩, ⟨by repeat (first | (with_reducible first | exact HB.out | apply below_alloc | apply pw_below_drewN | apply below_drew1) | exact HB.out)⟩⟩
              ·replace c20 := Bool.eq_false_iff.mpr c20
               subst c20
               have H1 : (some (0, false)) = some (r1, r2) := by rw [if_neg (show ¬ (false = true) by decide)] at H; exact H
               clear H
               have H := H1
               clear H1
               simp only [Option.some.injEq, Prod.mk.injEq] at H
               obtain ⟨rfl, rfl⟩ := H
               go_wp2_with (first | ((with_reducible refine gate_callee (f := 109) rfl ?_); refine goesL_ (some 44) rfl rfl Tryz.func109 (by kernel_rfl) rfl #[.string t106] rfl (by (try simp only [List.map_toArray, List.map_cons, List.map_nil]); first | done | rfl | (simp only [List.length_drop, List.length_take]; rfl)) ?_; (with_reducible refine (E.fnumber.calls t106 t108 false _ ?side1 A19.out).mono ?_); (case side1 => exact StdW.below HS_.out (by repeat (first | (with_reducible first | exact HB.out | apply below_alloc | apply pw_below_drewN | apply below_drew1) | exact HB.out))); rintro e w27 ⟨rfl, hb⟩; refine ⟨_, rfl, ?_⟩; have n0_ := Aside0.mk (Kd.R_below (by (with_reducible repeat (first | apply Kd.R_alloc | apply Kd.R_drewN | apply Kd.R_drew)); exact HO_13.out) hb); have n1_ := Aside0.mk (below_step (by repeat (first | (with_reducible first | exact HB.out | apply below_alloc | apply pw_below_drewN | apply below_drew1) | exact HB.out)) hb); clear HO_13; clear HB; have HO_13 := n0_; have HB := n1_; clear n0_ n1_; (try clear hb); (try clear hb2); (try clear hk); (try clear hi)))
               go_ret2
               exact ⟨by first | rfl | (simp [errW_none, errW_some] <;> rfl) | (simp [*, errW_none, errW_some] <;> rfl), by repeat (first | (with_reducible first | exact HB.out | apply below_alloc | apply pw_below_drewN | apply below_drew1) | exact HB.out)⟩
             ·replace c18 := Bool.eq_false_iff.mpr c18
              subst c18
              have H1 : (fields_Age.l0 kj15 x4_1 t101 (t101.length : Int) (wrap64 (x15_1 + 1))) = some (r1, r2) := by rw [if_neg (show ¬ (false = true) by decide)] at H; exact H
              clear H
              have H := H1
              clear H1
              have H' := Aside0.mk H
              clear H
              go_wp2
              go_roundg kj15
              case measure => have := HK1.out; have := HJ8.out; have := HJ11.out; have := HJ15.out; omega
              case rel => exact ⟨(x4_1), (wrap64 (x15_1 + 1)), (by first | rfl | (simp; done) | (simp [*]; done)), (by first | rfl | (simp; done) | (simp [*]; done)), H', ⟨by have := HK1.out; have := HJ8.out; have := HJ11.out; have := HJ15.out; omega⟩, ⟨by (with_reducible repeat (first | apply Kd.R_alloc | apply Kd.R_drewN | apply Kd.R_drew)); exact HO_13.out⟩, ⟨by repeat (first | (with_reducible first | exact HB.out | apply below_alloc | apply pw_below_drewN | apply below_drew1) | exact HB.out)⟩⟩
     ·rw [if_neg c7] at H
      exact absurd H (by simp)
    ·rw [if_neg c6] at H
     exact absurd H (by simp)
   ·rw [if_neg c5] at H
    have c5b0 : decide (x15_1 < (t101.length : Int)) = false := decide_eq_false c5
    clear c5
    simp only [Option.some.injEq, Prod.mk.injEq] at H
    obtain ⟨rfl, rfl⟩ := H
    go_wp2
    go_ret2
    exact ⟨by first | rfl | (simp [errW_none, errW_some] <;> rfl) | (simp [*, errW_none, errW_some] <;> rfl), by repeat (first | (with_reducible first | exact HB.out | apply below_alloc | apply pw_below_drewN | apply below_drew1) | exact HB.out)⟩
def head_sign.f (a0 : Int) : Option (Bool) := if a0 ≥ 97 then (if a0 ≤ 122 then (some true) else (if a0 ≥ 65 then (if a0 ≤ 90 then (some true) else (if a0 ≥ 48 then (if a0 ≤ 57 then (some true) else (if a0 > 32 then ((E.IndexByte.f (⟨#[33, 35, 36, 37, 38, 39, 42, 43, 45, 46, 94, 95, 96, 124, 126]⟩ : ByteArray) a0).bind fun t110 => (some (decide (t110 ≥ 0)))) else (some false))) else (if a0 > 32 then ((E.IndexByte.f (⟨#[33, 35, 36, 37, 38, 39, 42, 43, 45, 46, 94, 95, 96, 124, 126]⟩ : ByteArray) a0).bind fun t111 => (some (decide (t111 ≥ 0)))) else (some false)))) else (if a0 ≥ 48 then (if a0 ≤ 57 then (some true) else (if a0 > 32 then ((E.IndexByte.f (⟨#[33, 35, 36, 37, 38, 39, 42, 43, 45, 46, 94, 95, 96, 124, 126]⟩ : ByteArray) a0).bind fun t112 => (some (decide (t112 ≥ 0)))) else (some false))) else (if a0 > 32 then ((E.IndexByte.f (⟨#[33, 35, 36, 37, 38, 39, 42, 43, 45, 46, 94, 95, 96, 124, 126]⟩ : ByteArray) a0).bind fun t113 => (some (decide (t113 ≥ 0)))) else (some false))))) else (if a0 ≥ 65 then (if a0 ≤ 90 then (some true) else (if a0 ≥ 48 then (if a0 ≤ 57 then (some true) else (if a0 > 32 then ((E.IndexByte.f (⟨#[33, 35, 36, 37, 38, 39, 42, 43, 45, 46, 94, 95, 96, 124, 126]⟩ : ByteArray) a0).bind fun t114 => (some (decide (t114 ≥ 0)))) else (some false))) else (if a0 > 32 then ((E.IndexByte.f (⟨#[33, 35, 36, 37, 38, 39, 42, 43, 45, 46, 94, 95, 96, 124, 126]⟩ : ByteArray) a0).bind fun t115 => (some (decide (t115 ≥ 0)))) else (some false)))) else (if a0 ≥ 48 then (if a0 ≤ 57 then (some true) else (if a0 > 32 then ((E.IndexByte.f (⟨#[33, 35, 36, 37, 38, 39, 42, 43, 45, 46, 94, 95, 96, 124, 126]⟩ : ByteArray) a0).bind fun t116 => (some (decide (t116 ≥ 0)))) else (some false))) else (if a0 > 32 then ((E.IndexByte.f (⟨#[33, 35, 36, 37, 38, 39, 42, 43, 45, 46, 94, 95, 96, 124, 126]⟩ : ByteArray) a0).bind fun t117 => (some (decide (t117 ≥ 0)))) else (some false))))
set_option maxHeartbeats 8000000 in
set_option maxRecDepth 100000 in
theorem head_sign.calls (a0 : Int) (r : Bool) (w : World) (hS_ : StdW w) (h : head_sign.f a0 = some r) :
  Calls Tryz.prog 81 #[.int .u8 a0] w fun e w' => e = .returned (.bool r) ∧ Below w.heap.size w w' := by
 have HS_ := Aside0.mk hS_
 clear hS_
 have HB := Aside0.mk (Below.refl w.heap.size w)
 have H : (if a0 ≥ 97 then (if a0 ≤ 122 then (some true) else (if a0 ≥ 65 then (if a0 ≤ 90 then (some true) else (if a0 ≥ 48 then (if a0 ≤ 57 then (some true) else (if a0 > 32 then ((E.IndexByte.f (⟨#[33, 35, 36, 37, 38, 39, 42, 43, 45, 46, 94, 95, 96, 124, 126]⟩ : ByteArray) a0).bind fun t110 => (some (decide (t110 ≥ 0)))) else (some false))) else (if a0 > 32 then ((E.IndexByte.f (⟨#[33, 35, 36, 37, 38, 39, 42, 43, 45, 46, 94, 95, 96, 124, 126]⟩ : ByteArray) a0).bind fun t111 => (some (decide (t111 ≥ 0)))) else (some false)))) else (if a0 ≥ 48 then (if a0 ≤ 57 then (some true) else (if a0 > 32 then ((E.IndexByte.f (⟨#[33, 35, 36, 37, 38, 39, 42, 43, 45, 46, 94, 95, 96, 124, 126]⟩ : ByteArray) a0).bind fun t112 => (some (decide (t112 ≥ 0)))) else (some false))) else (if a0 > 32 then ((E.IndexByte.f (⟨#[33, 35, 36, 37, 38, 39, 42, 43, 45, 46, 94, 95, 96, 124, 126]⟩ : ByteArray) a0).bind fun t113 => (some (decide (t113 ≥ 0)))) else (some false))))) else (if a0 ≥ 65 then (if a0 ≤ 90 then (some true) else (if a0 ≥ 48 then (if a0 ≤ 57 then (some true) else (if a0 > 32 then ((E.IndexByte.f (⟨#[33, 35, 36, 37, 38, 39, 42, 43, 45, 46, 94, 95, 96, 124, 126]⟩ : ByteArray) a0).bind fun t114 => (some (decide (t114 ≥ 0)))) else (some false))) else (if a0 > 32 then ((E.IndexByte.f (⟨#[33, 35, 36, 37, 38, 39, 42, 43, 45, 46, 94, 95, 96, 124, 126]⟩ : ByteArray) a0).bind fun t115 => (some (decide (t115 ≥ 0)))) else (some false)))) else (if a0 ≥ 48 then (if a0 ≤ 57 then (some true) else (if a0 > 32 then ((E.IndexByte.f (⟨#[33, 35, 36, 37, 38, 39, 42, 43, 45, 46, 94, 95, 96, 124, 126]⟩ : ByteArray) a0).bind fun t116 => (some (decide (t116 ≥ 0)))) else (some false))) else (if a0 > 32 then ((E.IndexByte.f (⟨#[33, 35, 36, 37, 38, 39, 42, 43, 45, 46, 94, 95, 96, 124, 126]⟩ : ByteArray) a0).bind fun t117 => (some (decide (t117 ≥ 0)))) else (some false))))) = some r := h
 clear h
 by_cases c2 : a0 ≥ 97
 ·rw [if_pos c2] at H
  have c2b0 : decide (97 ≤ a0) = true := decide_eq_true c2
  clear c2
  by_cases c3 : a0 ≤ 122
  ·rw [if_pos c3] at H
   have c3b0 : decide (a0 ≤ 122) = true := decide_eq_true c3
   clear c3
   obtain rfl := Option.some.inj H
   go_enter Tryz.func81, Tryz.ntmps81
   go_wp2
   go_ret
   exact ⟨by first | rfl | (simp [errW_none, errW_some] <;> rfl) | (simp [*, errW_none, errW_some] <;> rfl), by repeat (first | (with_reducible first | exact HB.out | apply below_alloc | apply pw_below_drewN | apply below_drew1) | exact HB.out)⟩
  ·rw [if_neg c3] at H
   have c3b0 : decide (a0 ≤ 122) = false := decide_eq_false c3
   clear c3
   by_cases c4 : a0 ≥ 65
   ·rw [if_pos c4] at H
    have c4b0 : decide (65 ≤ a0) = true := decide_eq_true c4
    clear c4
    by_cases c5 : a0 ≤ 90
    ·rw [if_pos c5] at H
     have c5b0 : decide (a0 ≤ 90) = true := decide_eq_true c5
     clear c5
     obtain rfl := Option.some.inj H
     go_enter Tryz.func81, Tryz.ntmps81
     go_wp2
     go_ret
     exact ⟨by first | rfl | (simp [errW_none, errW_some] <;> rfl) | (simp [*, errW_none, errW_some] <;> rfl), by repeat (first | (with_reducible first | exact HB.out | apply below_alloc | apply pw_below_drewN | apply below_drew1) | exact HB.out)⟩
    ·rw [if_neg c5] at H
     have c5b0 : decide (a0 ≤ 90) = false := decide_eq_false c5
     clear c5
     by_cases c6 : a0 ≥ 48
     ·rw [if_pos c6] at H
      have c6b0 : decide (48 ≤ a0) = true := decide_eq_true c6
      clear c6
      by_cases c7 : a0 ≤ 57
      ·rw [if_pos c7] at H
       have c7b0 : decide (a0 ≤ 57) = true := decide_eq_true c7
       clear c7
       obtain rfl := Option.some.inj H
       go_enter Tryz.func81, Tryz.ntmps81
       go_wp2
       go_ret
       exact ⟨by first | rfl | (simp [errW_none, errW_some] <;> rfl) | (simp [*, errW_none, errW_some] <;> rfl), by repeat (first | (with_reducible first | exact HB.out | apply below_alloc | apply pw_below_drewN | apply below_drew1) | exact HB.out)⟩
      ·rw [if_neg c7] at H
       have c7b0 : decide (a0 ≤ 57) = false := decide_eq_false c7
       clear c7
       by_cases c8 : a0 > 32
       ·rw [if_pos c8] at H
        have c8b0 : decide (32 < a0) = true := decide_eq_true c8
        clear c8
        replace H := Option.bind_eq_some_iff.mp H
        obtain ⟨t110, A90, H⟩ := H
        replace H : (some (decide (t110 ≥ 0))) = some r := H
        have A9 := Aside0.mk A90
        clear A90
        obtain rfl := Option.some.inj H
        go_enter Tryz.func81, Tryz.ntmps81
        go_wp2_with (first | (go_at_call 132; (with_reducible refine (E.IndexByte.calls (⟨#[33, 35, 36, 37, 38, 39, 42, 43, 45, 46, 94, 95, 96, 124, 126]⟩ : ByteArray) a0 t110 _ ?side1 A9.out).mono ?_); (case side1 => exact StdW.below HS_.out (by repeat (first | (with_reducible first | exact HB.out | apply below_alloc | apply pw_below_drewN | apply below_drew1) | exact HB.out))); rintro e w10 ⟨rfl, hb⟩; have n0_ := Aside0.mk (below_step (by repeat (first | (with_reducible first | exact HB.out | apply below_alloc | apply pw_below_drewN | apply below_drew1) | exact HB.out)) hb); clear HB; have HB := n0_; clear n0_; (try clear hb); (try clear hb2); (try clear hk); (try clear hi)))
        go_ret
        exact ⟨by first | rfl | (simp [errW_none, errW_some] <;> rfl) | (simp [*, errW_none, errW_some] <;> rfl), by repeat (first | (with_reducible first | exact HB.out | apply below_alloc | apply pw_below_drewN | apply below_drew1) | exact HB.out)⟩
       ·rw [if_neg c8] at H
        have c8b0 : decide (32 < a0) = false := decide_eq_false c8
        clear c8
        obtain rfl := Option.some.inj H
        go_enter Tryz.func81, Tryz.ntmps81
        go_wp2
        go_ret
        exact ⟨by first | rfl | (simp [errW_none, errW_some] <;> rfl) | (simp [*, errW_none, errW_some] <;> rfl), by repeat (first | (with_reducible first | exact HB.out | apply below_alloc | apply pw_below_drewN | apply below_drew1) | exact HB.out)⟩
     ·rw [if_neg c6] at H
      have c6b0 : decide (48 ≤ a0) = false := decide_eq_false c6
      clear c6
      by_cases c11 : a0 > 32
      ·rw [if_pos c11] at H
       have c11b0 : decide (32 < a0) = true := decide_eq_true c11
       clear c11
       replace H := Option.bind_eq_some_iff.mp H
       obtain ⟨t111, A120, H⟩ := H
       replace H : (some (decide (t111 ≥ 0))) = some r := H
       have A12 := Aside0.mk A120
       clear A120
       obtain rfl := Option.some.inj H
       go_enter Tryz.func81, Tryz.ntmps81
       go_wp2_with (first | (go_at_call 132; (with_reducible refine (E.IndexByte.calls (⟨#[33, 35, 36, 37, 38, 39, 42, 43, 45, 46, 94, 95, 96, 124, 126]⟩ : ByteArray) a0 t111 _ ?side1 A12.out).mono ?_); (case side1 => exact StdW.below HS_.out (by repeat (first | (with_reducible first | exact HB.out | apply below_alloc | apply pw_below_drewN | apply below_drew1) | exact HB.out))); rintro e w13 ⟨rfl, hb⟩; have n0_ := Aside0.mk (below_step (by repeat (first | (with_reducible first | exact HB.out | apply below_alloc | apply pw_below_drewN | apply below_drew1) | exact HB.out)) hb); clear HB; have HB := n0_; clear n0_; (try clear hb); (try clear hb2); (try clear hk); (try clear hi)))
       go_ret
       exact ⟨by first | rfl | (simp [errW_none, errW_some] <;> rfl) | (simp [*, errW_none, errW_some] <;> rfl), by repeat (first | (with_reducible first | exact HB.out | apply below_alloc | apply pw_below_drewN | apply below_drew1) | exact HB.out)⟩
      ·rw [if_neg c11] at H
       have c11b0 : decide (32 < a0) = false := decide_eq_false c11
       clear c11
       obtain rfl := Option.some.inj H
       go_enter Tryz.func81, Tryz.ntmps81
       go_wp2
       go_ret
       exact ⟨by first | rfl | (simp [errW_none, errW_some] <;> rfl) | (simp [*, errW_none, errW_some] <;> rfl), by repeat (first | (with_reducible first | exact HB.out | apply below_alloc | apply pw_below_drewN | apply below_drew1) | exact HB.out)⟩
   ·rw [if_neg c4] at H
    have c4b0 : decide (65 ≤ a0) = false := decide_eq_false c4
    clear c4
    by_cases c14 : a0 ≥ 48
    ·rw [if_pos c14] at H
     have c14b0 : decide (48 ≤ a0) = true := decide_eq_true c14
     clear c14
     by_cases c15 : a0 ≤ 57
     ·rw [if_pos c15] at H
      have c15b0 : decide (a0 ≤ 57) = true := decide_eq_true c15
      clear c15
      obtain rfl := Option.some.inj H
      go_enter Tryz.func81, Tryz.ntmps81
      go_wp2
      go_ret
      exact ⟨by first | rfl | (simp [errW_none, errW_some] <;> rfl) | (simp [*, errW_none, errW_some] <;> rfl), by repeat (first | (with_reducible first | exact HB.out | apply below_alloc | apply pw_below_drewN | apply below_drew1) | exact HB.out)⟩
     ·rw [if_neg c15] at H
      have c15b0 : decide (a0 ≤ 57) = false := decide_eq_false c15
      clear c15
      by_cases c16 : a0 > 32
      ·rw [if_pos c16] at H
       have c16b0 : decide (32 < a0) = true := decide_eq_true c16
       clear c16
       replace H := Option.bind_eq_some_iff.mp H
       obtain ⟨t112, A170, H⟩ := H
       replace H : (some (decide (t112 ≥ 0))) = some r := H
       have A17 := Aside0.mk A170
       clear A170
       obtain rfl := Option.some.inj H
       go_enter Tryz.func81, Tryz.ntmps81
       go_wp2_with (first | (go_at_call 132; (with_reducible refine (E.IndexByte.calls (⟨#[33, 35, 36, 37, 38, 39, 42, 43, 45, 46, 94, 95, 96, 124, 126]⟩ : ByteArray) a0 t112 _ ?side1 A17.out).mono ?_); (case side1 => exact StdW.below HS_.out (by repeat (first | (with_reducible first | exact HB.out | apply below_alloc | apply pw_below_drewN | apply below_drew1) | exact HB.out))); rintro e w18 ⟨rfl, hb⟩; have n0_ := Aside0.mk (below_step (by repeat (first | (with_reducible first | exact HB.out | apply below_alloc | apply pw_below_drewN | apply below_drew1) | exact HB.out)) hb); clear HB; have HB := n0_; clear n0_; (try clear hb); (try clear hb2); (try clear hk); (try clear hi)))
       go_ret
       exact ⟨by first | rfl | (simp [errW_none, errW_some] <;> rfl) | (simp [*, errW_none, errW_some] <;> rfl), by repeat (first | (with_reducible first | exact HB.out | apply below_alloc | apply pw_below_drewN | apply below_drew1) | exact HB.out)⟩
      ·rw [if_neg c16] at H
       have c16b0 : decide (32 < a0) = false := decide_eq_false c16
       clear c16
       obtain rfl := Option.some.inj H
       go_enter Tryz.func81, Tryz.ntmps81
       go_wp2
       go_ret
       exact ⟨by first | rfl | (simp [errW_none, errW_some] <;> rfl) | (simp [*, errW_none, errW_some] <;> rfl), by repeat (first | (with_reducible first | exact HB.out | apply below_alloc | apply pw_below_drewN | apply below_drew1) | exact HB.out)⟩
    ·rw [if_neg c14] at H
     have c14b0 : decide (48 ≤ a0) = false := decide_eq_false c14
     clear c14
     by_cases c19 : a0 > 32
     ·rw [if_pos c19] at H
      have c19b0 : decide (32 < a0) = true := decide_eq_true c19
      clear c19
      replace H := Option.bind_eq_some_iff.mp H
      obtain ⟨t113, A200, H⟩ := H
      replace H : (some (decide (t113 ≥ 0))) = some r := H
      have A20 := Aside0.mk A200
      clear A200
      obtain rfl := Option.some.inj H
      go_enter Tryz.func81, Tryz.ntmps81
      go_wp2_with (first | (go_at_call 132; (with_reducible refine (E.IndexByte.calls (⟨#[33, 35, 36, 37, 38, 39, 42, 43, 45, 46, 94, 95, 96, 124, 126]⟩ : ByteArray) a0 t113 _ ?side1 A20.out).mono ?_); (case side1 => exact StdW.below HS_.out (by repeat (first | (with_reducible first | exact HB.out | apply below_alloc | apply pw_below_drewN | apply below_drew1) | exact HB.out))); rintro e w21 ⟨rfl, hb⟩; have n0_ := Aside0.mk (below_step (by repeat (first | (with_reducible first | exact HB.out | apply below_alloc | apply pw_below_drewN | apply below_drew1) | exact HB.out)) hb); clear HB; have HB := n0_; clear n0_; (try clear hb); (try clear hb2); (try clear hk); (try clear hi)))
      go_ret
      exact ⟨by first | rfl | (simp [errW_none, errW_some] <;> rfl) | (simp [*, errW_none, errW_some] <;> rfl), by repeat (first | (with_reducible first | exact HB.out | apply below_alloc | apply pw_below_drewN | apply below_drew1) | exact HB.out)⟩
     ·rw [if_neg c19] at H
      have c19b0 : decide (32 < a0) = false := decide_eq_false c19
      clear c19
      obtain rfl := Option.some.inj H
      go_enter Tryz.func81, Tryz.ntmps81
      go_wp2
      go_ret
      exact ⟨by first | rfl | (simp [errW_none, errW_some] <;> rfl) | (simp [*, errW_none, errW_some] <;> rfl), by repeat (first | (with_reducible first | exact HB.out | apply below_alloc | apply pw_below_drewN | apply below_drew1) | exact HB.out)⟩
 ·rw [if_neg c2] at H
  have c2b0 : decide (97 ≤ a0) = false := decide_eq_false c2
  clear c2
  by_cases c22 : a0 ≥ 65
  ·rw [if_pos c22] at H
   have c22b0 : decide (65 ≤ a0) = true := decide_eq_true c22
   clear c22
   by_cases c23 : a0 ≤ 90
   ·rw [if_pos c23] at H
    have c23b0 : decide (a0 ≤ 90) = true := decide_eq_true c23
    clear c23
    obtain rfl := Option.some.inj H
    go_enter Tryz.func81, Tryz.ntmps81
    go_wp2
    go_ret
    exact ⟨by first | rfl | (simp [errW_none, errW_some] <;> rfl) | (simp [*, errW_none, errW_some] <;> rfl), by repeat (first | (with_reducible first | exact HB.out | apply below_alloc | apply pw_below_drewN | apply below_drew1) | exact HB.out)⟩
   ·rw [if_neg c23] at H
    have c23b0 : decide (a0 ≤ 90) = false := decide_eq_false c23
    clear c23
    by_cases c24 : a0 ≥ 48
    ·rw [if_pos c24] at H
     have c24b0 : decide (48 ≤ a0) = true := decide_eq_true c24
     clear c24
     by_cases c25 : a0 ≤ 57
     ·rw [if_pos c25] at H
      have c25b0 : decide (a0 ≤ 57) = true := decide_eq_true c25
      clear c25
      obtain rfl := Option.some.inj H
      go_enter Tryz.func81, Tryz.ntmps81
      go_wp2
      go_ret
      exact ⟨by first | rfl | (simp [errW_none, errW_some] <;> rfl) | (simp [*, errW_none, errW_some] <;> rfl), by repeat (first | (with_reducible first | exact HB.out | apply below_alloc | apply pw_below_drewN | apply below_drew1) | exact HB.out)⟩
     ·rw [if_neg c25] at H
      have c25b0 : decide (a0 ≤ 57) = false := decide_eq_false c25
      clear c25
      by_cases c26 : a0 > 32
      ·rw [if_pos c26] at H
       have c26b0 : decide (32 < a0) = true := decide_eq_true c26
       clear c26
       replace H := Option.bind_eq_some_iff.mp H
       obtain ⟨t114, A270, H⟩ := H
       replace H : (some (decide (t114 ≥ 0))) = some r := H
       have A27 := Aside0.mk A270
       clear A270
       obtain rfl := Option.some.inj H
       go_enter Tryz.func81, Tryz.ntmps81
       go_wp2_with (first | (go_at_call 132; (with_reducible refine (E.IndexByte.calls (⟨#[33, 35, 36, 37, 38, 39, 42, 43, 45, 46, 94, 95, 96, 124, 126]⟩ : ByteArray) a0 t114 _ ?side1 A27.out).mono ?_); (case side1 => exact StdW.below HS_.out (by repeat (first | (with_reducible first | exact HB.out | apply below_alloc | apply pw_below_drewN | apply below_drew1) | exact HB.out))); rintro e w28 ⟨rfl, hb⟩; have n0_ := Aside0.mk (below_step (by repeat (first | (with_reducible first | exact HB.out | apply below_alloc | apply pw_below_drewN | apply below_drew1) | exact HB.out)) hb); clear HB; have HB := n0_; clear n0_; (try clear hb); (try clear hb2); (try clear hk); (try clear hi)))
       go_ret
       exact ⟨by first | rfl | (simp [errW_none, errW_some] <;> rfl) | (simp [*, errW_none, errW_some] <;> rfl), by repeat (first | (with_reducible first | exact HB.out | apply below_alloc | apply pw_below_drewN | apply below_drew1) | exact HB.out)⟩
      ·rw [if_neg c26] at H
       have c26b0 : decide (32 < a0) = false := decide_eq_false c26
       clear c26
       obtain rfl := Option.some.inj H
       go_enter Tryz.func81, Tryz.ntmps81
       go_wp2
       go_ret
       exact ⟨by first | rfl | (simp [errW_none, errW_some] <;> rfl) | (simp [*, errW_none, errW_some] <;> rfl), by repeat (first | (with_reducible first | exact HB.out | apply below_alloc | apply pw_below_drewN | apply below_drew1) | exact HB.out)⟩
    ·rw [if_neg c24] at H
     have c24b0 : decide (48 ≤ a0) = false := decide_eq_false c24
     clear c24
     by_cases c29 : a0 > 32
     ·rw [if_pos c29] at H
      have c29b0 : decide (32 < a0) = true := decide_eq_true c29
      clear c29
      replace H := Option.bind_eq_some_iff.mp H
      obtain ⟨t115, A300, H⟩ := H
      replace H : (some (decide (t115 ≥ 0))) = some r := H
      have A30 := Aside0.mk A300
      clear A300
      obtain rfl := Option.some.inj H
      go_enter Tryz.func81, Tryz.ntmps81
      go_wp2_with (first | (go_at_call 132; (with_reducible refine (E.IndexByte.calls (⟨#[33, 35, 36, 37, 38, 39, 42, 43, 45, 46, 94, 95, 96, 124, 126]⟩ : ByteArray) a0 t115 _ ?side1 A30.out).mono ?_); (case side1 => exact StdW.below HS_.out (by repeat (first | (with_reducible first | exact HB.out | apply below_alloc | apply pw_below_drewN | apply below_drew1) | exact HB.out))); rintro e w31 ⟨rfl, hb⟩; have n0_ := Aside0.mk (below_step (by repeat (first | (with_reducible first | exact HB.out | apply below_alloc | apply pw_below_drewN | apply below_drew1) | exact HB.out)) hb); clear HB; have HB := n0_; clear n0_; (try clear hb); (try clear hb2); (try clear hk); (try clear hi)))
      go_ret
      exact ⟨by first | rfl | (simp [errW_none, errW_some] <;> rfl) | (simp [*, errW_none, errW_some] <;> rfl), by repeat (first | (with_reducible first | exact HB.out | apply below_alloc | apply pw_below_drewN | apply below_drew1) | exact HB.out)⟩
     ·rw [if_neg c29] at H
      have c29b0 : decide (32 < a0) = false := decide_eq_false c29
      clear c29
      obtain rfl := Option.some.inj H
      go_enter Tryz.func81, Tryz.ntmps81
      go_wp2
      go_ret
      exact ⟨by first | rfl | (simp [errW_none, errW_some] <;> rfl) | (simp [*, errW_none, errW_some] <;> rfl), by repeat (first | (with_reducible first | exact HB.out | apply below_alloc | apply pw_below_drewN | apply below_drew1) | exact HB.out)⟩
  ·rw [if_neg c22] at H
   have c22b0 : decide (65 ≤ a0) = false := decide_eq_false c22
   clear c22
   by_cases c32 : a0 ≥ 48
   ·rw [if_pos c32] at H
    have c32b0 : decide (48 ≤ a0) = true := decide_eq_true c32
    clear c32
    by_cases c33 : a0 ≤ 57
    ·rw [if_pos c33] at H
     have c33b0 : decide (a0 ≤ 57) = true := decide_eq_true c33
     clear c33
     obtain rfl := Option.some.inj H
     go_enter Tryz.func81, Tryz.ntmps81
     go_wp2
     go_ret
     exact ⟨by first | rfl | (simp [errW_none, errW_some] <;> rfl) | (simp [*, errW_none, errW_some] <;> rfl), by repeat (first | (with_reducible first | exact HB.out | apply below_alloc | apply pw_below_drewN | apply below_drew1) | exact HB.out)⟩
    ·rw [if_neg c33] at H
     have c33b0 : decide (a0 ≤ 57) = false := decide_eq_false c33
     clear c33
     by_cases c34 : a0 > 32
     ·rw [if_pos c34] at H
      have c34b0 : decide (32 < a0) = true := decide_eq_true c34
      clear c34
      replace H := Option.bind_eq_some_iff.mp H
      obtain ⟨t116, A350, H⟩ := H
      replace H : (some (decide (t116 ≥ 0))) = some r := H
      have A35 := Aside0.mk A350
      clear A350
      obtain rfl := Option.some.inj H
      go_enter Tryz.func81, Tryz.ntmps81
      go_wp2_with (first | (go_at_call 132; (with_reducible refine (E.IndexByte.calls (⟨#[33, 35, 36, 37, 38, 39, 42, 43, 45, 46, 94, 95, 96, 124, 126]⟩ : ByteArray) a0 t116 _ ?side1 A35.out).mono ?_); (case side1 => exact StdW.below HS_.out (by repeat (first | (with_reducible first | exact HB.out | apply below_alloc | apply pw_below_drewN | apply below_drew1) | exact HB.out))); rintro e w36 ⟨rfl, hb⟩; have n0_ := Aside0.mk (below_step (by repeat (first | (with_reducible first | exact HB.out | apply below_alloc | apply pw_below_drewN | apply below_drew1) | exact HB.out)) hb); clear HB; have HB := n0_; clear n0_; (try clear hb); (try clear hb2); (try clear hk); (try clear hi)))
      go_ret
      exact ⟨by first | rfl | (simp [errW_none, errW_some] <;> rfl) | (simp [*, errW_none, errW_some] <;> rfl), by repeat (first | (with_reducible first | exact HB.out | apply below_alloc | apply pw_below_drewN | apply below_drew1) | exact HB.out)⟩
     ·rw [if_neg c34] at H
      have c34b0 : decide (32 < a0) = false := decide_eq_false c34
      clear c34
      obtain rfl := Option.some.inj H
      go_enter Tryz.func81, Tryz.ntmps81
      go_wp2
      go_ret
      exact ⟨by first | rfl | (simp [errW_none, errW_some] <;> rfl) | (simp [*, errW_none, errW_some] <;> rfl), by repeat (first | (with_reducible first | exact HB.out | apply below_alloc | apply pw_below_drewN | apply below_drew1) | exact HB.out)⟩
   ·rw [if_neg c32] at H
    have c32b0 : decide (48 ≤ a0) = false := decide_eq_false c32
    clear c32
    by_cases c37 : a0 > 32
    ·rw [if_pos c37] at H
     have c37b0 : decide (32 < a0) = true := decide_eq_true c37
     clear c37
     replace H := Option.bind_eq_some_iff.mp H
     obtain ⟨t117, A380, H⟩ := H
     replace H : (some (decide (t117 ≥ 0))) = some r := H
     have A38 := Aside0.mk A380
     clear A380
     obtain rfl := Option.some.inj H
     go_enter Tryz.func81, Tryz.ntmps81
     go_wp2_with (first | (go_at_call 132; (with_reducible refine (E.IndexByte.calls (⟨#[33, 35, 36, 37, 38, 39, 42, 43, 45, 46, 94, 95, 96, 124, 126]⟩ : ByteArray) a0 t117 _ ?side1 A38.out).mono ?_); (case side1 => exact StdW.below HS_.out (by repeat (first | (with_reducible first | exact HB.out | apply below_alloc | apply pw_below_drewN | apply below_drew1) | exact HB.out))); rintro e w39 ⟨rfl, hb⟩; have n0_ := Aside0.mk (below_step (by repeat (first | (with_reducible first | exact HB.out | apply below_alloc | apply pw_below_drewN | apply below_drew1) | exact HB.out)) hb); clear HB; have HB := n0_; clear n0_; (try clear hb); (try clear hb2); (try clear hk); (try clear hi)))
     go_ret
     exact ⟨by first | rfl | (simp [errW_none, errW_some] <;> rfl) | (simp [*, errW_none, errW_some] <;> rfl), by repeat (first | (with_reducible first | exact HB.out | apply below_alloc | apply pw_below_drewN | apply below_drew1) | exact HB.out)⟩
    ·rw [if_neg c37] at H
     have c37b0 : decide (32 < a0) = false := decide_eq_false c37
     clear c37
     obtain rfl := Option.some.inj H
     go_enter Tryz.func81, Tryz.ntmps81
     go_wp2
     go_ret
     exact ⟨by first | rfl | (simp [errW_none, errW_some] <;> rfl) | (simp [*, errW_none, errW_some] <;> rfl), by repeat (first | (with_reducible first | exact HB.out | apply below_alloc | apply pw_below_drewN | apply below_drew1) | exact HB.out)⟩
end Go.Proofs.YtaakgjbdknobbaaGreatDoor.XA


namespace Go.Proofs.YtaakgjbdknobbaaGreatDoor.XA
open Go.Proofs.YtaakgjbdknobbaaGreatDoor.XK
open Go.RowKit Go.Proofs.YtaakgjbdknobbaaGreatDoorW.PrintWords Go.Proofs.YtaakgjbdknobbaaGreatDoorW.PrintLast Go.Proofs.YtaakgjbdknobbaaGreatDoorW.PrintMore
attribute [local go_sem] max2_int min2_int max_two min_two max_three min_three max_four min_four
set_option linter.unusedVariables false
set_option linter.unusedSimpArgs false
def head_Token.l0 : Nat → ByteArray → Int → Int → Option (Bool)
 | 0, _, _, _ => none
 | k + 1, x0, x5, x6 => if x6 < x5 then (if 0 ≤ x6 then (if x6 < (x0.size : Int) then ((head_sign.f (bt x0 x6)).bind fun t118 => (if t118 = true then (head_Token.l0 k x0 x5 (wrap64 (x6 + 1))) else (some false))) else (none)) else (none)) else (if x0.toList = ([] : List UInt8) then (some false) else (some (decide ((x0.size : Int) ≤ 64))))
def head_Token.f (k : Nat) (a0 : ByteArray) : Option (Bool) := head_Token.l0 k a0 (a0.size : Int) 0
theorem head_Token.mono_l : ∀ k, (∀ y0 y1 y2, LeO (head_Token.l0 k y0 y1 y2) (head_Token.l0 (k + 1) y0 y1 y2))
 | 0 => fun _ _ _ r h => by simp [head_Token.l0] at h
 | k + 1 => by
  have ih0 := head_Token.mono_l k
  ·intro y0 y1 y2
   unfold head_Token.l0
   repeat' first
   | (with_reducible exact ih0 _ _ _)
   | (with_reducible exact LeO.refl _)
   | (with_reducible exact LeO.none _)
   | (with_reducible refine LeO.ite ?_ ?_)
   | (with_reducible refine LeO.bind ?_ (fun _ => ?_))
   | exact ih0 _ _ _
   | exact LeO.none _
   | refine LeO.ite ?_ ?_
   | refine LeO.bind ?_ (fun _ => ?_)
theorem head_Token.mono : ∀ a0 k, LeO (head_Token.f k a0) (head_Token.f (k + 1) a0) := by
 intro a0 k
 have ih0 := head_Token.mono_l k
 unfold head_Token.f
 repeat' first
   | (with_reducible exact ih0 _ _ _)
   | (with_reducible exact LeO.refl _)
   | (with_reducible exact LeO.none _)
   | (with_reducible refine LeO.ite ?_ ?_)
   | (with_reducible refine LeO.bind ?_ (fun _ => ?_))
   | exact ih0 _ _ _
   | exact LeO.none _
   | refine LeO.ite ?_ ?_
   | refine LeO.bind ?_ (fun _ => ?_)
set_option maxHeartbeats 8000000 in
set_option maxRecDepth 100000 in
theorem head_Token.calls (k : Nat) (a0 : ByteArray) (r : Bool) (w : World) (hS_ : StdW w) (h : head_Token.f k a0 = some r) :
  Calls Tryz.prog 32 #[.string a0] w fun e w' => e = .returned (.bool r) ∧ Below w.heap.size w w' := by
 have HS_ := Aside0.mk hS_
 clear hS_
 have HB := Aside0.mk (Below.refl w.heap.size w)
 have H : (head_Token.l0 k a0 (a0.size : Int) 0) = some r := h
 clear h
 have H' := Aside0.mk H
 clear H
 go_enter Tryz.func32, Tryz.ntmps32
 go_wp2
 go_loopg [6] k (fun kq v6 w' => ∃ (x6_1 : Int), v6 = .int .i64 x6_1 ∧ Aside0 (head_Token.l0 kq a0 (a0.size : Int) x6_1 = some r) ∧ Aside0 (kq ≤ k) ∧ Aside0 (Below w.heap.size w w'))
 case atStart => exact ⟨(0), (by first | rfl | (simp; done) | (simp [*]; done)), H', ⟨Nat.le_refl _⟩, ⟨by repeat (first | (with_reducible first | exact HB.out | apply below_alloc | apply pw_below_drewN | apply below_drew1) | exact HB.out)⟩⟩
 case round =>
  clear H'
  obtain ⟨x6_1, rfl, HA, HK1, HB⟩ := hrel
  cases gk with
  | zero => exact absurd HA.out (by simp [head_Token.l0])
  | succ k1 =>
   have H := HA.out
   clear HA
   simp only [head_Token.l0] at H
   by_cases c2 : x6_1 < (a0.size : Int)
   ·rw [if_pos c2] at H
    have c2b0 : decide (x6_1 < (a0.size : Int)) = true := decide_eq_true c2
    clear c2
    by_cases c3 : 0 ≤ x6_1
    ·rw [if_pos c3] at H
     have c3b0 : decide (0 ≤ x6_1) = true := decide_eq_true c3
     clear c3
     by_cases c4 : x6_1 < (a0.size : Int)
     ·rw [if_pos c4] at H
      have c4b0 : decide (x6_1 < (a0.size : Int)) = true := decide_eq_true c4
      clear c4
      replace H := Option.bind_eq_some_iff.mp H
      obtain ⟨t118, A60, H⟩ := H
      replace H : (if t118 = true then (head_Token.l0 k1 a0 (a0.size : Int) (wrap64 (x6_1 + 1))) else (some false)) = some r := H
      have A6 := Aside0.mk A60
      clear A60
      by_cases c7 : t118 = true
      ·subst c7
       have H1 : (head_Token.l0 k1 a0 (a0.size : Int) (wrap64 (x6_1 + 1))) = some r := by rw [if_pos rfl] at H; exact H
       clear H
       have H := H1
       clear H1
       have H' := Aside0.mk H
       clear H
       have p5 : 0 ≤ (x6_1 : Int) := of_decide_eq_true (by first | (with_reducible assumption) | assumption)
       have q5 : x6_1 < (a0.size : Int) := of_decide_eq_true (by first | (with_reducible assumption) | assumption)
       have hx5 := bt_at a0 x6_1
       replace p5 := eq_true p5
       replace q5 := eq_true q5
       go_wp2_with (first | ((with_reducible refine gate_callee (f := 81) rfl ?_); refine goesL_ (some 12) rfl rfl Tryz.func81 (by kernel_rfl) rfl #[.int .u8 (bt a0 x6_1)] rfl (by (try simp only [List.map_toArray, List.map_cons, List.map_nil]); first | done | rfl | (simp only [List.length_drop, List.length_take]; rfl)) ?_; (with_reducible refine (head_sign.calls (bt a0 x6_1) true _ ?side1 A6.out).mono ?_); (case side1 => exact StdW.below HS_.out (by repeat (first | (with_reducible first | exact HB.out | apply below_alloc | apply pw_below_drewN | apply below_drew1) | exact HB.out))); rintro e w8 ⟨rfl, hb⟩; refine ⟨_, rfl, ?_⟩; have n0_ := Aside0.mk (below_step (by repeat (first | (with_reducible first | exact HB.out | apply below_alloc | apply pw_below_drewN | apply below_drew1) | exact HB.out)) hb); clear HB; have HB := n0_; clear n0_; (try clear hb); (try clear hb2); (try clear hk); (try clear hi)))
       go_roundg k1
       case measure => have := HK1.out; omega
       case rel => exact ⟨(wrap64 (x6_1 + 1)), (by first | rfl | (simp; done) | (simp [*]; done)), H', ⟨by have := HK1.out; omega⟩, ⟨by repeat (first | (with_reducible first | exact HB.out | apply below_alloc | apply pw_below_drewN | apply below_drew1) | exact HB.out)⟩⟩
      ·replace c7 := Bool.eq_false_iff.mpr c7
       subst c7
       have H1 : (some false) = some r := by rw [if_neg (show ¬ (false = true) by decide)] at H; exact H
       clear H
       have H := H1
       clear H1
       obtain rfl := Option.some.inj H
       have p5 : 0 ≤ (x6_1 : Int) := of_decide_eq_true (by first | (with_reducible assumption) | assumption)
       have q5 : x6_1 < (a0.size : Int) := of_decide_eq_true (by first | (with_reducible assumption) | assumption)
       have hx5 := bt_at a0 x6_1
       replace p5 := eq_true p5
       replace q5 := eq_true q5
       go_wp2_with (first | ((with_reducible refine gate_callee (f := 81) rfl ?_); refine goesL_ (some 12) rfl rfl Tryz.func81 (by kernel_rfl) rfl #[.int .u8 (bt a0 x6_1)] rfl (by (try simp only [List.map_toArray, List.map_cons, List.map_nil]); first | done | rfl | (simp only [List.length_drop, List.length_take]; rfl)) ?_; (with_reducible refine (head_sign.calls (bt a0 x6_1) false _ ?side1 A6.out).mono ?_); (case side1 => exact StdW.below HS_.out (by repeat (first | (with_reducible first | exact HB.out | apply below_alloc | apply pw_below_drewN | apply below_drew1) | exact HB.out))); rintro e w9 ⟨rfl, hb⟩; refine ⟨_, rfl, ?_⟩; have n0_ := Aside0.mk (below_step (by repeat (first | (with_reducible first | exact HB.out | apply below_alloc | apply pw_below_drewN | apply below_drew1) | exact HB.out)) hb); clear HB; have HB := n0_; clear n0_; (try clear hb); (try clear hb2); (try clear hk); (try clear hi)))
       go_ret
       exact ⟨by first | rfl | (simp [errW_none, errW_some] <;> rfl) | (simp [*, errW_none, errW_some] <;> rfl), by repeat (first | (with_reducible first | exact HB.out | apply below_alloc | apply pw_below_drewN | apply below_drew1) | exact HB.out)⟩
     ·rw [if_neg c4] at H
      exact absurd H (by simp)
    ·rw [if_neg c3] at H
     exact absurd H (by simp)
   ·rw [if_neg c2] at H
    have c2b0 : decide (x6_1 < (a0.size : Int)) = false := decide_eq_false c2
    clear c2
    by_cases c10 : a0.toList = ([] : List UInt8)
    ·rw [if_pos c10] at H
     have c10b0 : (a0.toList == ([] : List UInt8)) = true := beq_iff_eq.mpr c10
     have c10b6 : a0.toList.isEmpty = true := by rw [List.isEmpty_iff]; exact c10
     have c10b1 : (a0.toList != ([] : List UInt8)) = false := bne_eq_false_iff_eq.mpr c10
     clear c10
     obtain rfl := Option.some.inj H
     go_wp2
     go_ret
     exact ⟨by first | rfl | (simp [errW_none, errW_some] <;> rfl) | (simp [*, errW_none, errW_some] <;> rfl), by repeat (first | (with_reducible first | exact HB.out | apply below_alloc | apply pw_below_drewN | apply below_drew1) | exact HB.out)⟩
    ·rw [if_neg c10] at H
     have c10b0 : (a0.toList == ([] : List UInt8)) = false := beq_eq_false_iff_ne.mpr c10
     have c10b6 : a0.toList.isEmpty = false := by rw [← Bool.not_eq_true, List.isEmpty_iff]; exact c10
     have c10b1 : (a0.toList != ([] : List UInt8)) = true := bne_iff_ne.mpr c10
     obtain rfl := Option.some.inj H
     go_wp2
     go_ret
     exact ⟨by first | rfl | (simp [errW_none, errW_some] <;> rfl) | (simp [*, errW_none, errW_some] <;> rfl), by repeat (first | (with_reducible first | exact HB.out | apply below_alloc | apply pw_below_drewN | apply below_drew1) | exact HB.out)⟩
end Go.Proofs.YtaakgjbdknobbaaGreatDoor.XA


namespace Go.Proofs.YtaakgjbdknobbaaGreatDoor.XA
open Go.Proofs.YtaakgjbdknobbaaGreatDoor.XK
open Go.RowKit Go.Proofs.YtaakgjbdknobbaaGreatDoorW.PrintWords Go.Proofs.YtaakgjbdknobbaaGreatDoorW.PrintLast Go.Proofs.YtaakgjbdknobbaaGreatDoorW.PrintMore
attribute [local go_sem] max2_int min2_int max_two min_two max_three min_three max_four min_four
set_option linter.unusedVariables false
set_option linter.unusedSimpArgs false
end Go.Proofs.YtaakgjbdknobbaaGreatDoor.XA


namespace Go.Proofs.YtaakgjbdknobbaaGreatDoor.E
open Go.RowKit Go.Proofs.YtaakgjbdknobbaaGreatDoorW.PrintWords Go.Proofs.YtaakgjbdknobbaaGreatDoorW.PrintLast Go.Proofs.YtaakgjbdknobbaaGreatDoor.XK Go.Proofs.YtaakgjbdknobbaaGreatDoor.XA Go.Maps
set_option linter.unusedVariables false
set_option linter.unusedSimpArgs false
theorem sign_f (c : UInt8) : head_sign.f (c.toNat : Int) = some (Fd.sign c) := by
  have h : ∀ n : Fin 256, head_sign.f ((UInt8.ofNat n.1).toNat : Int) = some (Fd.sign (UInt8.ofNat n.1)) := by decide +kernel
  have := h ⟨c.toNat, c.toNat_lt⟩
  simp only [UInt8.ofNat_toNat] at this
  exact this
def tokB (p : ByteArray) : Bool := Fd.token p.data.toList
theorem wrap64_nat (k n : Nat) (h : k < n) (hn : n ≤ 281474976710656) : wrap64 ((k : Int) + 1) = ((k + 1 : Nat) : Int) := by unfold wrap64; omega
theorem token_loop (s : ByteArray) (hs : s.size ≤ 281474976710656) : ∀ (m k i : Nat), i + m = s.size → m < k → head_Token.l0 k s (s.size : Int) (i : Int) = some ((s.data.toList.drop i).all Fd.sign && (!s.data.toList.isEmpty && decide (s.data.toList.length ≤ 64))) := by
  intro m
  induction m with
  | zero =>
    intro k i hi hk
    obtain ⟨k, rfl⟩ : ∃ j, k = j + 1 := ⟨k - 1, by omega⟩
    have hl : s.data.toList.length = s.size := (Lib.size_eq s).symm
    simp only [head_Token.l0]
    rw [if_neg (by omega), List.drop_of_length_le (by omega), hl, ByteArray.toList_eq]
    cases hd : s.data.toList with
    | nil => rfl
    | cons x r =>
      rw [if_neg (by simp)]
      simp only [List.all_nil, Bool.true_and, List.isEmpty_cons, Bool.not_false]
      congr 1
      rw [Bool.eq_iff_iff, decide_eq_true_eq, decide_eq_true_eq]; omega
  | succ m ih =>
    intro k i hi hk
    obtain ⟨k, rfl⟩ : ∃ j, k = j + 1 := ⟨k - 1, by omega⟩
    have hl : s.data.toList.length = s.size := (Lib.size_eq s).symm
    have hlt : i < s.data.toList.length := by omega
    have hb : bt s (i : Int) = ((s.data.toList[i]).toNat : Int) := by
      have hlt' : i < s.size := by omega
      first | (unfold bt; rw [Int.toNat_natCast, dif_pos hlt']; rfl) | (unfold bt; simp [hlt']; rfl)
    simp only [head_Token.l0]
    rw [if_pos (by omega), if_pos (by omega), if_pos (by omega), hb, sign_f, Option.bind_some, wrap64_nat i s.size (by omega) hs, ih k (i + 1) (by omega) (by omega), List.drop_eq_getElem_cons hlt, List.all_cons]
    cases Fd.sign s.data.toList[i] <;> rfl
theorem token_f (s : ByteArray) (hs : s.size ≤ 281474976710656) : head_Token.f (s.size + 1) s = some (tokB s) := by
  unfold head_Token.f
  have := token_loop s hs s.size (s.size + 1) 0 (by omega) (by omega)
  rw [List.drop_zero] at this
  exact this
theorem token_any (s : ByteArray) (hs : s.size ≤ 281474976710656) (w : World) (hS : StdW w) : Calls Tryz.prog 32 #[.string s] w fun e w' => e = .returned (.bool (tokB s)) ∧ Below w.heap.size w w' :=
  head_Token.calls (s.size + 1) s (tokB s) w hS (token_f s hs)
def toF (f : S78) : Fd.F := (f.f0.data.toList, f.f1.data.toList)
theorem parts_toF (s : ByteArray) : ((commas s).map trimA).map (·.data.toList) = Fd.partsL s.data.toList := by
  unfold Fd.partsL
  rw [← commas_data, List.map_map, List.map_map]
  rfl
theorem eqS_low (a t : ByteArray) : eqS (lowS a) t = (Fd.low a.data.toList == t.data.toList) := by
  unfold eqS
  rw [ByteArray.toList_eq, ByteArray.toList_eq]; rfl
theorem conn1_toF (f : S78) : (conn1A f).map (·.data.toList) = Fd.conn1 (toF f) := by
  unfold conn1A Fd.conn1 toF
  rw [eqS_low]
  show _ = if Fd.low f.f0.data.toList == Fd.sConn then Fd.partsL f.f1.data.toList else []
  rw [show connS.data.toList = Fd.sConn from rfl]
  cases (Fd.low f.f0.data.toList == Fd.sConn)
  · rfl
  · exact parts_toF f.f1
theorem flat_toF (l : List S78) : (l.flatMap conn1A).map (·.data.toList) = (l.map toF).flatMap Fd.conn1 := by
  induction l with
  | nil => rfl
  | cons f r ih => rw [List.flatMap_cons, List.map_append, ih, List.map_cons, List.flatMap_cons, conn1_toF]
def setK (ps : List ByteArray) (k : Nat) (x : List UInt8) : Bool := Fd.fixed.contains x || (((ps.take k).filter tokB).map (fun p => Fd.low p.data.toList)).contains x
theorem setK_step (ps : List ByteArray) (k : Nat) (h : k < ps.length) (ht : tokB ps[k] = true) (x : List UInt8) : setK ps (k + 1) x = (x == (lowS ps[k]).data.toList || setK ps k x) := by
  unfold setK
  rw [List.take_succ_eq_append_getElem h, List.filter_append, List.map_append]
  have : (List.filter tokB [ps[k]]) = [ps[k]] := by simp [ht]
  rw [this]
  simp only [List.map_cons, List.map_nil, List.contains_eq_any_beq, List.any_append, List.any_cons, List.any_nil, Bool.or_false]
  have e : (lowS ps[k]).data.toList = Fd.low ps[k].data.toList := rfl
  rw [e]
  cases (x == Fd.low ps[k].data.toList) <;> cases (Fd.fixed.any fun y => x == y) <;> simp
theorem setK_skip (ps : List ByteArray) (k : Nat) (h : k < ps.length) (ht : tokB ps[k] = false) (x : List UInt8) : setK ps (k + 1) x = setK ps k x := by
  unfold setK
  rw [List.take_succ_eq_append_getElem h, List.filter_append]
  have : (List.filter tokB [ps[k]]) = [] := by simp [ht]
  rw [this, List.append_nil]
theorem setK_all (l : List S78) (x : List UInt8) : setK (l.flatMap conn1A) (l.flatMap conn1A).length x = Fd.hop (l.map toF) x := by
  unfold setK Fd.hop Fd.told
  rw [List.take_length, ← flat_toF]
  congr 2
  rw [List.filter_map, List.map_map]
  rfl
end Go.Proofs.YtaakgjbdknobbaaGreatDoor.E


namespace Go.Proofs.YtaakgjbdknobbaaGreatDoor.Hd
open Go.Lib
abbrev Bs := List UInt8
def crlf : Bs := [13, 10]
def cc : Bs := [13, 10, 13, 10]
def plain (l : Bs) (least most : Nat) : Bool := l.all (fun c => decide (least ≤ c.toNat) && decide (c.toNat ≤ 126)) && decide (l.length ≤ most)
def spc (l : Bs) : Bs := l.map fun c => if c = 9 then 32 else c
def value (l : Bs) : Bool := plain (spc l) 32 4096 && Fd.trimB l == l
theorem replaceK_spc : ∀ l : Bs, replaceK [9] [32] (count l [9]) l = spc l
  | [] => by
    rw [count_miss (by simp [index])]; rfl
  | b :: l => by
    have ih := replaceK_spc l
    by_cases h : b = 9
    · subst h
      rw [count_cons_eq, Nat.add_comm, replaceK_hit [9] [32] _ _ 0 (by rw [index]; simp [List.isPrefixOf])]
      show [] ++ [32] ++ replaceK [9] [32] (count l [9]) l = _
      rw [ih]; rfl
    · rw [count_cons_ne b 9 l h]
      have hp : ([9] : Bs).isPrefixOf (b :: l) = false := by simp [List.isPrefixOf, Ne.symm h]
      have hs : spc (b :: l) = b :: spc l := by unfold spc; rw [List.map_cons, if_neg h]
      cases hn : count l [9] with
      | zero =>
        rw [hn] at ih
        rw [hs, ← ih]; rfl
      | succ m =>
        obtain ⟨j, hj⟩ := index_of_count (s := l) (old := [9]) (by omega)
        have hj2 : index (b :: l) [9] = ((j + 1 : Nat) : Int) := by
          rw [index, hp, hj]
          have : ((j : Int) == -1) = false := by rw [beq_eq_false_iff_ne]; omega
          simp [this]
        rw [hn, replaceK_hit _ _ _ _ _ hj] at ih
        rw [hs, ← ih, replaceK_hit _ _ _ _ _ hj2, Nat.add_right_comm, List.take_succ_cons, List.drop_succ_cons]
        rfl
theorem replaceAll_spc (l : Bs) : replaceAll l [9] [32] = spc l := by
  unfold replaceAll replace
  rw [if_neg (by decide)]
  have : replaceNum l [9] (-1) = count l [9] := by unfold replaceNum; rw [if_pos (.inl (by decide))]
  rw [this, replaceK_spc]
theorem spc_len (l : Bs) : (spc l).length = l.length := List.length_map ..
def fline (f : Fd.F) : Bs := f.1 ++ ([58, 32] ++ (f.2 ++ crlf))
def putL : Bs → List Fd.F → Option Bs
  | acc, [] => some acc
  | acc, f :: r => if Fd.token f.1 && value f.2 then putL (if acc.length ≤ 8192 then acc ++ fline f else acc) r else none
def putR (first : Bs) (l : List Fd.F) : Nat ⊕ Bs := match putL (first ++ crlf) l with
  | none => .inl 2
  | some acc => if 8192 < (acc ++ crlf).length ∨ 64 < l.length then .inl 3 else .inr (acc ++ crlf)
theorem fline_len (f : Fd.F) (h : (Fd.token f.1 && value f.2) = true) : (fline f).length ≤ 4164 := by
  unfold fline crlf
  rw [Bool.and_eq_true] at h
  have h1 := h.1
  have h2 := h.2
  unfold Fd.token at h1
  unfold value plain at h2
  simp only [Bool.and_eq_true, decide_eq_true_eq, spc_len] at h1 h2
  simp only [List.length_append, List.length_cons, List.length_nil]
  omega
end Go.Proofs.YtaakgjbdknobbaaGreatDoor.Hd


namespace Go.Proofs.YtaakgjbdknobbaaGreatDoor.E
open Go.RowKit Go.Proofs.YtaakgjbdknobbaaGreatDoorW.PrintWords Go.Proofs.YtaakgjbdknobbaaGreatDoorW.PrintLast
set_option linter.unusedVariables false
set_option linter.unusedSimpArgs false
def HasPrefix.f (s p : ByteArray) : Option Bool := some (Lib.hasPrefix s.data.toList p.data.toList)
theorem HasPrefix.calls (s p : ByteArray) (r : Bool) (w : World) (hS_ : StdW w) (h : HasPrefix.f s p = some r) :
    Calls Tryz.prog 98 #[.string s, .string p] w fun e w' => e = .returned (.bool r) ∧ Below w.heap.size w w' := by
  obtain rfl := Option.some.inj h
  exact (Tryz.strings_HasPrefix s p w).mono (fun e w' ⟨he, hw⟩ => ⟨he, hw ▸ Below.refl _ _⟩)
def Trim.f (s cs : ByteArray) : Option ByteArray := if s.size ≤ 281474976710656 ∧ cs = ⟨#[32, 9]⟩ then some ⟨(Fd.trimB s.data.toList).toArray⟩ else none
theorem Trim.calls (s cs r : ByteArray) (w : World) (hS_ : StdW w) (h : Trim.f s cs = some r) :
    Calls Tryz.prog 85 #[.string s, .string cs] w fun e w' => e = .returned (.string r) ∧ Below w.heap.size w w' := by
  unfold Trim.f at h
  split at h
  · rename_i hc
    obtain ⟨hs, rfl⟩ := hc
    obtain rfl := Option.some.inj h
    exact Any.strings_Trim_laid Tryz.lays160 (by kernel_rfl) s ⟨#[32, 9]⟩ w (by omega) (by decide) (ascii_of_all (by decide))
  · cases h
def RepTab.f (s o n : ByteArray) : Option ByteArray := if s.size < 4294967281 ∧ o = ⟨#[9]⟩ ∧ n = ⟨#[32]⟩ then some ⟨(Hd.spc s.data.toList).toArray⟩ else none
theorem RepTab.calls (s o n r : ByteArray) (w : World) (hS_ : StdW w) (h : RepTab.f s o n = some r) :
    Calls Tryz.prog 84 #[.string s, .string o, .string n] w fun e w' => e = .returned (.string r) ∧ Below w.heap.size w w' := by
  unfold RepTab.f at h
  split at h
  · rename_i hc
    obtain ⟨hs, rfl, rfl⟩ := hc
    obtain rfl := Option.some.inj h
    obtain ⟨m, hm⟩ := hS_.max
    have := Tryz.strings_ReplaceAll s ⟨#[9]⟩ ⟨#[32]⟩ m w hs hm (by decide) (by
      have := Lib.countB_le ⟨#[9]⟩ (Nat.le_refl _) s.size s (Nat.le_refl _)
      show s.size + Lib.countB s ⟨#[9]⟩ * 1 ≤ _
      omega)
    rw [show (⟨#[9]⟩ : ByteArray).data.toList = [9] from rfl, show (⟨#[32]⟩ : ByteArray).data.toList = [32] from rfl, Hd.replaceAll_spc] at this
    exact this
  · cases h
end Go.Proofs.YtaakgjbdknobbaaGreatDoor.E


namespace Go.Proofs.YtaakgjbdknobbaaGreatDoor.XD
open Go.Proofs.YtaakgjbdknobbaaGreatDoor.XK Go.Proofs.YtaakgjbdknobbaaGreatDoor.XA
open Go.RowKit Go.Proofs.YtaakgjbdknobbaaGreatDoorW.PrintWords Go.Proofs.YtaakgjbdknobbaaGreatDoorW.PrintLast Go.Proofs.YtaakgjbdknobbaaGreatDoorW.PrintMore
attribute [local go_sem] max2_int min2_int max_two min_two max_three min_three max_four min_four
set_option linter.unusedVariables false
set_option linter.unusedSimpArgs false
end Go.Proofs.YtaakgjbdknobbaaGreatDoor.XD


namespace Go.Proofs.YtaakgjbdknobbaaGreatDoor.XD
open Go.Proofs.YtaakgjbdknobbaaGreatDoor.XK Go.Proofs.YtaakgjbdknobbaaGreatDoor.XA
open Go.RowKit Go.Proofs.YtaakgjbdknobbaaGreatDoorW.PrintWords Go.Proofs.YtaakgjbdknobbaaGreatDoorW.PrintLast Go.Proofs.YtaakgjbdknobbaaGreatDoorW.PrintMore
attribute [local go_sem] max2_int min2_int max_two min_two max_three min_three max_four min_four
set_option linter.unusedVariables false
set_option linter.unusedSimpArgs false
def head_within.l0 : Nat → ByteArray → Int → Int → Int → Int → Option (Bool)
 | 0, _, _, _, _, _ => none
 | k + 1, x0, x1, x2, x9, x10 => if x10 < x9 then (if 0 ≤ x10 then (if x10 < (x0.size : Int) then (if (bt x0 x10) < x1 then (some false) else (if (bt x0 x10) > 126 then (some false) else (head_within.l0 k x0 x1 x2 x9 (wrap64 (x10 + 1))))) else (none)) else (none)) else (some (decide ((x0.size : Int) ≤ x2)))
def head_within.f (k : Nat) (a0 : ByteArray) (a1 : Int) (a2 : Int) : Option (Bool) := head_within.l0 k a0 a1 a2 (a0.size : Int) 0
theorem head_within.mono_l : ∀ k, (∀ y0 y1 y2 y3 y4, LeO (head_within.l0 k y0 y1 y2 y3 y4) (head_within.l0 (k + 1) y0 y1 y2 y3 y4))
 | 0 => fun _ _ _ _ _ r h => by simp [head_within.l0] at h
 | k + 1 => by
  have ih0 := head_within.mono_l k
  ·intro y0 y1 y2 y3 y4
   unfold head_within.l0
   repeat' first
   | (with_reducible exact ih0 _ _ _ _ _)
   | (with_reducible exact LeO.refl _)
   | (with_reducible exact LeO.none _)
   | (with_reducible refine LeO.ite ?_ ?_)
   | (with_reducible refine LeO.bind ?_ (fun _ => ?_))
   | exact ih0 _ _ _ _ _
   | exact LeO.none _
   | refine LeO.ite ?_ ?_
   | refine LeO.bind ?_ (fun _ => ?_)
theorem head_within.mono : ∀ a0 a1 a2 k, LeO (head_within.f k a0 a1 a2) (head_within.f (k + 1) a0 a1 a2) := by
 intro a0 a1 a2 k
 have ih0 := head_within.mono_l k
 unfold head_within.f
 repeat' first
   | (with_reducible exact ih0 _ _ _ _ _)
   | (with_reducible exact LeO.refl _)
   | (with_reducible exact LeO.none _)
   | (with_reducible refine LeO.ite ?_ ?_)
   | (with_reducible refine LeO.bind ?_ (fun _ => ?_))
   | exact ih0 _ _ _ _ _
   | exact LeO.none _
   | refine LeO.ite ?_ ?_
   | refine LeO.bind ?_ (fun _ => ?_)
set_option maxHeartbeats 8000000 in
set_option maxRecDepth 100000 in
theorem head_within.calls (k : Nat) (a0 : ByteArray) (a1 : Int) (a2 : Int) (r : Bool) (w : World) (h : head_within.f k a0 a1 a2 = some r) :
  Calls Tryz.prog 83 #[.string a0, .int .u8 a1, .int .i64 a2] w fun e w' => e = .returned (.bool r) ∧ Drawn0 w w' := by
 have H : (head_within.l0 k a0 a1 a2 (a0.size : Int) 0) = some r := h
 clear h
 have H' := Aside0.mk H
 clear H
 go_enter Tryz.func83, Tryz.ntmps83
 go_wp2
 go_loopg [10] k (fun kq v10 w' => ∃ (x10_1 : Int), v10 = .int .i64 x10_1 ∧ Aside0 (head_within.l0 kq a0 a1 a2 (a0.size : Int) x10_1 = some r) ∧ Aside0 (kq ≤ k) ∧ Drawn0 w w')
 case atStart => exact ⟨(0), (by first | rfl | (simp; done) | (simp [*]; done)), H', ⟨Nat.le_refl _⟩, by repeat (first | exact Drawn0.refl _ | apply Drawn0.step)⟩
 case round =>
  clear H'
  try clear p2
  obtain ⟨x10_1, rfl, HA, HK1, ⟨m1, rfl⟩⟩ := hrel
  cases gk with
  | zero => exact absurd HA.out (by simp [head_within.l0])
  | succ k1 =>
   have H := HA.out
   clear HA
   simp only [head_within.l0] at H
   by_cases c4 : x10_1 < (a0.size : Int)
   ·rw [if_pos c4] at H
    have c4b0 : decide (x10_1 < (a0.size : Int)) = true := decide_eq_true c4
    clear c4
    by_cases c5 : 0 ≤ x10_1
    ·rw [if_pos c5] at H
     have c5b0 : decide (0 ≤ x10_1) = true := decide_eq_true c5
     clear c5
     by_cases c6 : x10_1 < (a0.size : Int)
     ·rw [if_pos c6] at H
      have c6b0 : decide (x10_1 < (a0.size : Int)) = true := decide_eq_true c6
      clear c6
      by_cases c8 : (bt a0 x10_1) < a1
      ·rw [if_pos c8] at H
       have c8b0 : decide ((bt a0 x10_1) < a1) = true := decide_eq_true c8
       clear c8
       obtain rfl := Option.some.inj H
       have p7 : 0 ≤ (x10_1 : Int) := of_decide_eq_true (by first | (with_reducible assumption) | assumption)
       have q7 : x10_1 < (a0.size : Int) := of_decide_eq_true (by first | (with_reducible assumption) | assumption)
       have hx7 := bt_at a0 x10_1
       replace p7 := eq_true p7
       replace q7 := eq_true q7
       go_wp2
       go_ret
       exact ⟨by first | rfl | (simp; done) | (simp [*]; done), by repeat (first | exact Drawn0.refl _ | apply Drawn0.step)⟩
      ·rw [if_neg c8] at H
       have c8b0 : decide ((bt a0 x10_1) < a1) = false := decide_eq_false c8
       clear c8
       by_cases c10 : (bt a0 x10_1) > 126
       ·rw [if_pos c10] at H
        have c10b0 : decide (126 < (bt a0 x10_1)) = true := decide_eq_true c10
        clear c10
        obtain rfl := Option.some.inj H
        have p7 : 0 ≤ (x10_1 : Int) := of_decide_eq_true (by first | (with_reducible assumption) | assumption)
        have q7 : x10_1 < (a0.size : Int) := of_decide_eq_true (by first | (with_reducible assumption) | assumption)
        have hx7 := bt_at a0 x10_1
        replace p7 := eq_true p7
        replace q7 := eq_true q7
        have p9 : 0 ≤ (x10_1 : Int) := of_decide_eq_true (by first | (with_reducible assumption) | assumption)
        have q9 : x10_1 < (a0.size : Int) := of_decide_eq_true (by first | (with_reducible assumption) | assumption)
        have hx9 := bt_at a0 x10_1
        replace p9 := eq_true p9
        replace q9 := eq_true q9
        go_wp2
        go_ret
        exact ⟨by first | rfl | (simp; done) | (simp [*]; done), by repeat (first | exact Drawn0.refl _ | apply Drawn0.step)⟩
       ·rw [if_neg c10] at H
        have c10b0 : decide (126 < (bt a0 x10_1)) = false := decide_eq_false c10
        clear c10
        have H' := Aside0.mk H
        clear H
        have p7 : 0 ≤ (x10_1 : Int) := of_decide_eq_true (by first | (with_reducible assumption) | assumption)
        have q7 : x10_1 < (a0.size : Int) := of_decide_eq_true (by first | (with_reducible assumption) | assumption)
        have hx7 := bt_at a0 x10_1
        replace p7 := eq_true p7
        replace q7 := eq_true q7
        have p9 : 0 ≤ (x10_1 : Int) := of_decide_eq_true (by first | (with_reducible assumption) | assumption)
        have q9 : x10_1 < (a0.size : Int) := of_decide_eq_true (by first | (with_reducible assumption) | assumption)
        have hx9 := bt_at a0 x10_1
        replace p9 := eq_true p9
        replace q9 := eq_true q9
        go_wp2
        go_roundg k1
        case measure => have := HK1.out; omega
        case rel => exact ⟨(wrap64 (x10_1 + 1)), (by first | rfl | (simp; done) | (simp [*]; done)), H', ⟨by have := HK1.out; omega⟩, by repeat (first | exact Drawn0.refl _ | apply Drawn0.step)⟩
     ·rw [if_neg c6] at H
      exact absurd H (by simp)
    ·rw [if_neg c5] at H
     exact absurd H (by simp)
   ·rw [if_neg c4] at H
    have c4b0 : decide (x10_1 < (a0.size : Int)) = false := decide_eq_false c4
    clear c4
    obtain rfl := Option.some.inj H
    go_wp2
    go_ret
    exact ⟨by first | rfl | (simp; done) | (simp [*]; done), by repeat (first | exact Drawn0.refl _ | apply Drawn0.step)⟩
def head_Value.f (k : Nat) (a0 : ByteArray) : Option (Bool) := (E.RepTab.f a0 (⟨#[9]⟩ : ByteArray) (⟨#[32]⟩ : ByteArray)).bind fun t101 => ((head_within.f k t101 32 4096).bind fun t102 => (if t102 = true then ((E.Trim.f a0 (⟨#[32, 9]⟩ : ByteArray)).bind fun t103 => (some (t103.toList == a0.toList))) else (some false)))
theorem head_Value.mono : ∀ a0 k, LeO (head_Value.f k a0) (head_Value.f (k + 1) a0) := by
 intro a0 k
 unfold head_Value.f
 repeat' first
   | (with_reducible exact head_within.mono _ _ _ _)
   | (with_reducible exact LeO.refl _)
   | (with_reducible exact LeO.none _)
   | (with_reducible refine LeO.ite ?_ ?_)
   | (with_reducible refine LeO.bind ?_ (fun _ => ?_))
   | exact head_within.mono _ _ _ _
   | exact LeO.none _
   | refine LeO.ite ?_ ?_
   | refine LeO.bind ?_ (fun _ => ?_)
set_option maxHeartbeats 8000000 in
set_option maxRecDepth 100000 in
theorem head_Value.calls (k : Nat) (a0 : ByteArray) (r : Bool) (w : World) (hS_ : StdW w) (h : head_Value.f k a0 = some r) :
  Calls Tryz.prog 34 #[.string a0] w fun e w' => e = .returned (.bool r) ∧ Below w.heap.size w w' := by
 have HS_ := Aside0.mk hS_
 clear hS_
 have HB := Aside0.mk (Below.refl w.heap.size w)
 have H : ((E.RepTab.f a0 (⟨#[9]⟩ : ByteArray) (⟨#[32]⟩ : ByteArray)).bind fun t101 => ((head_within.f k t101 32 4096).bind fun t102 => (if t102 = true then ((E.Trim.f a0 (⟨#[32, 9]⟩ : ByteArray)).bind fun t103 => (some (t103.toList == a0.toList))) else (some false)))) = some r := h
 clear h
 replace H := Option.bind_eq_some_iff.mp H
 obtain ⟨t101, A20, H⟩ := H
 replace H : ((head_within.f k t101 32 4096).bind fun t102 => (if t102 = true then ((E.Trim.f a0 (⟨#[32, 9]⟩ : ByteArray)).bind fun t103 => (some (t103.toList == a0.toList))) else (some false))) = some r := H
 have A2 := Aside0.mk A20
 clear A20
 replace H := Option.bind_eq_some_iff.mp H
 obtain ⟨t102, A30, H⟩ := H
 replace H : (if t102 = true then ((E.Trim.f a0 (⟨#[32, 9]⟩ : ByteArray)).bind fun t103 => (some (t103.toList == a0.toList))) else (some false)) = some r := H
 have A3 := Aside0.mk A30
 clear A30
 by_cases c4 : t102 = true
 ·subst c4
  have H1 : ((E.Trim.f a0 (⟨#[32, 9]⟩ : ByteArray)).bind fun t103 => (some (t103.toList == a0.toList))) = some r := by rw [if_pos rfl] at H; exact H
  clear H
  have H := H1
  clear H1
  replace H := Option.bind_eq_some_iff.mp H
  obtain ⟨t103, A50, H⟩ := H
  replace H : (some (t103.toList == a0.toList)) = some r := H
  have A5 := Aside0.mk A50
  clear A50
  obtain rfl := Option.some.inj H
  go_enter Tryz.func34, Tryz.ntmps34
  go_wp2_with (first | ((with_reducible refine gate_callee (f := 84) rfl ?_); refine goesL_ (some 4) rfl rfl Tryz.func84 (by kernel_rfl) rfl #[.string a0, .string (⟨#[9]⟩ : ByteArray), .string (⟨#[32]⟩ : ByteArray)] rfl (by (try simp only [List.map_toArray, List.map_cons, List.map_nil]); first | done | rfl | (simp only [List.length_drop, List.length_take]; rfl)) ?_; (with_reducible refine (E.RepTab.calls a0 (⟨#[9]⟩ : ByteArray) (⟨#[32]⟩ : ByteArray) t101 _ ?side1 A2.out).mono ?_); (case side1 => exact StdW.below HS_.out (by repeat (first | (with_reducible first | exact HB.out | apply below_alloc | apply pw_below_drewN | apply below_drew1) | exact HB.out))); rintro e w6 ⟨rfl, hb⟩; refine ⟨_, rfl, ?_⟩; have n0_ := Aside0.mk (below_step (by repeat (first | (with_reducible first | exact HB.out | apply below_alloc | apply pw_below_drewN | apply below_drew1) | exact HB.out)) hb); clear HB; have HB := n0_; clear n0_; (try clear hb); (try clear hb2); (try clear hk); (try clear hi)) | ((with_reducible refine gate_callee (f := 83) rfl ?_); refine goesL_ (some 5) rfl rfl Tryz.func83 (by kernel_rfl) rfl #[.string t101, .int .u8 32, .int .i64 4096] rfl (by (try simp only [List.map_toArray, List.map_cons, List.map_nil]); first | done | rfl | (simp only [List.length_drop, List.length_take]; rfl)) ?_; (with_reducible refine (head_within.calls k t101 32 4096 true _ A3.out).mono ?_); rintro e w' ⟨rfl, ⟨nd, rfl⟩⟩; refine ⟨_, rfl, ?_⟩) | (go_at_call 85; (with_reducible refine (E.Trim.calls a0 (⟨#[32, 9]⟩ : ByteArray) t103 _ ?side1 A5.out).mono ?_); (case side1 => exact StdW.below HS_.out (by repeat (first | (with_reducible first | exact HB.out | apply below_alloc | apply pw_below_drewN | apply below_drew1) | exact HB.out))); rintro e w7 ⟨rfl, hb⟩; have n0_ := Aside0.mk (below_step (by repeat (first | (with_reducible first | exact HB.out | apply below_alloc | apply pw_below_drewN | apply below_drew1) | exact HB.out)) hb); clear HB; have HB := n0_; clear n0_; (try clear hb); (try clear hb2); (try clear hk); (try clear hi)))
  go_ret
  exact ⟨by first | rfl | (simp [errW_none, errW_some] <;> rfl) | (simp [*, errW_none, errW_some] <;> rfl), by repeat (first | (with_reducible first | exact HB.out | apply below_alloc | apply pw_below_drewN | apply below_drew1) | exact HB.out)⟩
 ·replace c4 := Bool.eq_false_iff.mpr c4
  subst c4
  have H1 : (some false) = some r := by rw [if_neg (show ¬ (false = true) by decide)] at H; exact H
  clear H
  have H := H1
  clear H1
  obtain rfl := Option.some.inj H
  go_enter Tryz.func34, Tryz.ntmps34
  go_wp2_with (first | ((with_reducible refine gate_callee (f := 84) rfl ?_); refine goesL_ (some 4) rfl rfl Tryz.func84 (by kernel_rfl) rfl #[.string a0, .string (⟨#[9]⟩ : ByteArray), .string (⟨#[32]⟩ : ByteArray)] rfl (by (try simp only [List.map_toArray, List.map_cons, List.map_nil]); first | done | rfl | (simp only [List.length_drop, List.length_take]; rfl)) ?_; (with_reducible refine (E.RepTab.calls a0 (⟨#[9]⟩ : ByteArray) (⟨#[32]⟩ : ByteArray) t101 _ ?side1 A2.out).mono ?_); (case side1 => exact StdW.below HS_.out (by repeat (first | (with_reducible first | exact HB.out | apply below_alloc | apply pw_below_drewN | apply below_drew1) | exact HB.out))); rintro e w8 ⟨rfl, hb⟩; refine ⟨_, rfl, ?_⟩; have n0_ := Aside0.mk (below_step (by repeat (first | (with_reducible first | exact HB.out | apply below_alloc | apply pw_below_drewN | apply below_drew1) | exact HB.out)) hb); clear HB; have HB := n0_; clear n0_; (try clear hb); (try clear hb2); (try clear hk); (try clear hi)) | ((with_reducible refine gate_callee (f := 83) rfl ?_); refine goesL_ (some 5) rfl rfl Tryz.func83 (by kernel_rfl) rfl #[.string t101, .int .u8 32, .int .i64 4096] rfl (by (try simp only [List.map_toArray, List.map_cons, List.map_nil]); first | done | rfl | (simp only [List.length_drop, List.length_take]; rfl)) ?_; (with_reducible refine (head_within.calls k t101 32 4096 false _ A3.out).mono ?_); rintro e w' ⟨rfl, ⟨nd, rfl⟩⟩; refine ⟨_, rfl, ?_⟩))
  go_ret
  exact ⟨by first | rfl | (simp [errW_none, errW_some] <;> rfl) | (simp [*, errW_none, errW_some] <;> rfl), by repeat (first | (with_reducible first | exact HB.out | apply below_alloc | apply pw_below_drewN | apply below_drew1) | exact HB.out)⟩
end Go.Proofs.YtaakgjbdknobbaaGreatDoor.XD


namespace Go.Proofs.YtaakgjbdknobbaaGreatDoor.XD
open Go.Proofs.YtaakgjbdknobbaaGreatDoor.XK Go.Proofs.YtaakgjbdknobbaaGreatDoor.XA
open Go.RowKit Go.Proofs.YtaakgjbdknobbaaGreatDoorW.PrintWords Go.Proofs.YtaakgjbdknobbaaGreatDoorW.PrintLast Go.Proofs.YtaakgjbdknobbaaGreatDoorW.PrintMore
attribute [local go_sem] max2_int min2_int max_two min_two max_three min_three max_four min_four
set_option linter.unusedVariables false
set_option linter.unusedSimpArgs false
end Go.Proofs.YtaakgjbdknobbaaGreatDoor.XD


namespace Go.Proofs.YtaakgjbdknobbaaGreatDoor.E
open Go.RowKit Go.Proofs.YtaakgjbdknobbaaGreatDoorW.PrintWords Go.Proofs.YtaakgjbdknobbaaGreatDoorW.PrintLast Go.Proofs.YtaakgjbdknobbaaGreatDoor.XK Go.Proofs.YtaakgjbdknobbaaGreatDoor.XA Go.Proofs.YtaakgjbdknobbaaGreatDoor.XD
set_option linter.unusedVariables false
set_option linter.unusedSimpArgs false
def valB (p : ByteArray) : Bool := Hd.value p.data.toList
theorem within_loop (s : ByteArray) (hs : s.size ≤ 281474976710656) (least most : Nat) : ∀ (m k i : Nat), i + m = s.size → m < k → head_within.l0 k s (least : Int) (most : Int) (s.size : Int) (i : Int) = some ((s.data.toList.drop i).all (fun c => decide (least ≤ c.toNat) && decide (c.toNat ≤ 126)) && decide (s.data.toList.length ≤ most)) := by
  intro m
  induction m with
  | zero =>
    intro k i hi hk
    obtain ⟨k, rfl⟩ : ∃ j, k = j + 1 := ⟨k - 1, by omega⟩
    have hl : s.data.toList.length = s.size := (Lib.size_eq s).symm
    simp only [head_within.l0]
    rw [if_neg (by omega), List.drop_of_length_le (by omega), hl]
    simp only [List.all_nil, Bool.true_and]
    congr 1
    rw [Bool.eq_iff_iff, decide_eq_true_eq, decide_eq_true_eq]; omega
  | succ m ih =>
    intro k i hi hk
    obtain ⟨k, rfl⟩ : ∃ j, k = j + 1 := ⟨k - 1, by omega⟩
    have hl : s.data.toList.length = s.size := (Lib.size_eq s).symm
    have hlt : i < s.data.toList.length := by omega
    have hb : bt s (i : Int) = ((s.data.toList[i]).toNat : Int) := by
      have hlt' : i < s.size := by omega
      first | (unfold bt; rw [Int.toNat_natCast, dif_pos hlt']; rfl) | (unfold bt; simp [hlt']; rfl)
    simp only [head_within.l0]
    rw [if_pos (by omega), if_pos (by omega), if_pos (by omega), hb, List.drop_eq_getElem_cons hlt, List.all_cons]
    generalize (s.data.toList[i]).toNat = c
    by_cases h1 : c < least
    · rw [if_pos (by omega), decide_eq_false (show ¬ least ≤ c by omega)]; rfl
    · by_cases h2 : 126 < c
      · rw [if_neg (by omega), if_pos (by omega), decide_eq_false (show ¬ c ≤ 126 by omega), Bool.and_false]; rfl
      · rw [if_neg (by omega), if_neg (by omega), wrap64_nat i s.size (by omega) hs, ih k (i + 1) (by omega) (by omega), decide_eq_true (show least ≤ c by omega), decide_eq_true (show c ≤ 126 by omega)]; rfl
theorem within_f (s : ByteArray) (hs : s.size ≤ 281474976710656) (least most k : Nat) (hk : s.size < k) : head_within.f k s (least : Int) (most : Int) = some (Hd.plain s.data.toList least most) := by
  unfold head_within.f
  have := within_loop s hs least most s.size k 0 (by omega) hk
  rw [List.drop_zero] at this
  exact this
theorem within_any (s : ByteArray) (hs : s.size ≤ 281474976710656) (least most : Nat) (w : World) : Calls Tryz.prog 83 #[.string s, .int .u8 least, .int .i64 most] w fun e w' => e = .returned (.bool (Hd.plain s.data.toList least most)) ∧ Below w.heap.size w w' :=
  (head_within.calls (s.size + 1) s least most _ w (within_f s hs least most _ (Nat.lt_succ_self _))).mono fun e w' ⟨he, hd⟩ => ⟨he, by obtain ⟨n, rfl⟩ := hd.out; exact below_drewN w n⟩
theorem value_f (s : ByteArray) (hs : s.size < 4294967281) (k : Nat) (hk : s.size < k) : head_Value.f k s = some (valB s) := by
  unfold head_Value.f RepTab.f Trim.f
  rw [if_pos ⟨hs, rfl, rfl⟩, Option.bind_some]
  have hz : (⟨(Hd.spc s.data.toList).toArray⟩ : ByteArray).size = s.size := by
    show (Hd.spc s.data.toList).toArray.size = _
    rw [List.size_toArray, Hd.spc_len, ← Lib.size_eq]
  have := within_f ⟨(Hd.spc s.data.toList).toArray⟩ (by omega) 32 4096 k (by omega)
  rw [show head_within.f k ⟨(Hd.spc s.data.toList).toArray⟩ 32 4096 = some (Hd.plain (Hd.spc s.data.toList) 32 4096) from this, Option.bind_some]
  unfold valB Hd.value
  cases Hd.plain (Hd.spc s.data.toList) 32 4096
  · rfl
  · rw [if_pos rfl, if_pos ⟨by omega, rfl⟩, Option.bind_some, Bool.true_and, ByteArray.toList_eq, ByteArray.toList_eq]
theorem value_any (s : ByteArray) (hs : s.size < 4294967281) (w : World) (hS : StdW w) : Calls Tryz.prog 34 #[.string s] w fun e w' => e = .returned (.bool (valB s)) ∧ Below w.heap.size w w' :=
  head_Value.calls (s.size + 1) s (valB s) w hS (value_f s hs _ (Nat.lt_succ_self _))
end Go.Proofs.YtaakgjbdknobbaaGreatDoor.E


namespace Go.Proofs.YtaakgjbdknobbaaGreatDoor.E
open Go.RowKit Go.Proofs.YtaakgjbdknobbaaGreatDoorW.PrintWords Go.Proofs.YtaakgjbdknobbaaGreatDoorW.PrintLast
set_option linter.unusedVariables false
set_option linter.unusedSimpArgs false
def Join.f (l : List ByteArray) (sep : ByteArray) : Option ByteArray :=
  if (Lib.join (l.map (·.data.toList)) sep.data.toList).length ≤ 140737488355328 ∧ l.length ≤ 140737488355328 then some ⟨(Lib.join (l.map (·.data.toList)) sep.data.toList).toArray⟩ else none
theorem Join.calls (A0 : Option Addr) (c0 : Nat) (l0 : List ByteArray) (sep : ByteArray) (r : ByteArray) (w : World) (hr0 : Kd.C Kd.string w A0 l0.length l0) (hc0 : l0.length ≤ c0) (hS_ : StdW w) (h : Join.f l0 sep = some r) :
    Calls Tryz.prog 167 #[.slice A0 l0.length c0, .string sep] w fun e w' => e = .returned (.string r) ∧ Below w.heap.size w w' := by
  unfold Join.f at h
  split at h
  · rename_i hc
    obtain rfl := Option.some.inj h
    cases l0 with
    | nil =>
      refine (Tryz.strings_Join_none A0 c0 sep w).mono ?_
      rintro e w' ⟨rfl, rfl⟩
      exact ⟨rfl, Below.refl _ _⟩
    | cons x l =>
      obtain ⟨ad, rfl, h0⟩ := Kd.at_string hr0 0 (Int.le_refl _) (by simp)
      have hsp := World.cell?_spot h0
      obtain ⟨b, o, sp⟩ := ad
      have hsp2 : sp = none := by simpa [Addr.add] using hsp
      subst hsp2
      refine Tryz.strings_Join b o c0 (x :: l) sep w (fun j y hj => ?_) ?_ hc.2 hc0 hc.1
      · have hj2 : j < (x :: l).length := (List.getElem?_eq_some_iff.1 hj).1
        obtain ⟨ad2, e2, h2⟩ := Kd.at_string hr0 (j : Int) (by omega) (by omega)
        cases e2
        have hr : rdOf ByteArray.empty (x :: l) (j : Int) = y := by
          unfold rdOf; rw [Int.toNat_natCast, List.getD_eq_getElem?_getD, hj]; rfl
        rw [hr, Int.toNat_natCast, addAt] at h2
        exact h2
      · have := World.block_lt_of_cell? w _ h0
        simpa [Addr.add] using this
  · cases h
def ToLower.f (s : ByteArray) : Option ByteArray := if s.size ≤ 140737488355328 ∧ s.data.toList.all (fun b => decide (b.toNat < 128)) = true then some ⟨(Lib.toLowerA s.data.toList).toArray⟩ else none
theorem ToLower.calls (s r : ByteArray) (w : World) (hS_ : StdW w) (h : ToLower.f s = some r) :
    Calls Tryz.prog 218 #[.string s] w fun e w' => e = .returned (.string r) ∧ Below w.heap.size w w' := by
  unfold ToLower.f at h
  split at h
  · rename_i hc
    obtain rfl := Option.some.inj h
    exact Tryz.strings_ToLower_ascii s w hc.1 (fun j b hb => by
      have := List.all_eq_true.1 hc.2 b (List.mem_of_getElem? hb)
      simpa using this)
  · cases h
end Go.Proofs.YtaakgjbdknobbaaGreatDoor.E


namespace Go.Proofs.YtaakgjbdknobbaaGreatDoor
open Go.RowKit
def kindZ (c : Int) : Int :=
  if c = 46 then 1 else if 48 ≤ c ∧ c ≤ 57 then 2 else if c = 45 then 3 else if 65 ≤ c ∧ c ≤ 90 then 4 else if 97 ≤ c ∧ c ≤ 122 then 4 else 0
theorem kind_any (c : Int) (w : World) (h0 : 0 ≤ c) (h1 : c ≤ 255) :
    Calls Tryz.prog 217 #[.int .u8 c] w fun e w' => e = .returned (.int .i64 (kindZ c)) ∧ w = w' := by
  go_enter Tryz.func217, Tryz.ntmps217
  go_wp2
  all_goals
    go_ret
    refine ⟨?_, rfl⟩
    unfold kindZ
    simp_all
    try omega
end Go.Proofs.YtaakgjbdknobbaaGreatDoor


namespace Go.Proofs.YtaakgjbdknobbaaGreatDoor.E
open Go.RowKit Go.Proofs.YtaakgjbdknobbaaGreatDoorW.PrintWords Go.Proofs.YtaakgjbdknobbaaGreatDoorW.PrintLast
set_option linter.unusedVariables false
set_option linter.unusedSimpArgs false
def onlyZ (ks : List Int) (l : List UInt8) : Bool := l.all fun c => ks.contains (kindZ (c.toNat : Int))
theorem take_snoc (s : ByteArray) (k : Nat) (h : k < s.size) : s.data.toList.take (k + 1) = s.data.toList.take k ++ [s[k]] := by
  rw [List.take_succ_eq_append_getElem (by simpa using h)]; rfl
theorem all_snoc (p : UInt8 → Bool) (l : List UInt8) (c : UInt8) : (l ++ [c]).all p = (l.all p && p c) := by simp [List.all_append]
theorem any_take (ks : List Int) (j : Nat) (h : j < ks.length) (q : Int) : (ks.take (j + 1)).contains q = ((ks.take j).contains q || (q == ks[j])) := by
  rw [List.take_succ_eq_append_getElem h]
  rw [List.contains_eq_any_beq, List.any_append, ← List.contains_eq_any_beq]
  simp
theorem all_false (p : UInt8 → Bool) (s : ByteArray) (k : Nat) (h : k < s.size) (hp : p s[k] = false) : s.data.toList.all p = false := by
  rw [List.all_eq_false]
  exact ⟨s[k], by
    have : s[k] = s.data.toList[k]'(by simpa using h) := rfl
    rw [this]; exact List.getElem_mem _, by simp [hp]⟩
set_option maxRecDepth 100000 in
set_option maxHeartbeats 1000000 in
theorem only_any (s : ByteArray) (ks : List Int) (bk c : Nat) (w : World) (hs : s.size ≤ 281474976710656) (hl : ks.length ≤ 1000)
    (hks : ∀ j, j < ks.length → w.cell? ⟨bk, j, none⟩ = some (.int .i64 (ks.getD j 0))) :
    Calls Tryz.prog 181 #[.string s, .slice (some ⟨bk, 0, none⟩) ks.length c] w fun e w' => e = .returned (.bool (onlyZ ks s.data.toList)) ∧ w = w' := by
  have HK := Lib.hid hks
  clear hks
  go_enter Tryz.func181, Tryz.ntmps181
  go_wp2
  go_loop [11] (fun i => ∃ k : Nat, k ≤ s.size ∧ i = .int .i64 k ∧ Hid (onlyZ ks (s.data.toList.take k) = true)) (fun i => s.size - (intOf i).toNat)
  case atStart => exact ⟨0, Nat.zero_le _, rfl, by simp [Hid, onlyZ]⟩
  case round =>
    obtain ⟨k, hk, rfl, HO⟩ := hrel
    by_cases hlt : k < s.size
    · have hk0 : (0 : Int) ≤ (k : Int) := Int.natCast_nonneg _
      have hk1 : (k : Int) < (s.size : Int) := by omega
      go_wp2
      go_loop [6, 16] (fun b j => ∃ (m : Nat), m ≤ ks.length ∧ j = .int .i64 m ∧ b = .bool ((ks.take m).contains (kindZ (s[k].toNat : Int)))) (fun _ j => ks.length - (intOf j).toNat)
      case atStart => exact ⟨0, Nat.zero_le _, rfl, by simp⟩
      case round =>
        obtain ⟨m, hm, rfl, rfl⟩ := hrel
        by_cases hmt : m < ks.length
        · have hc := HK.out m hmt
          have hm0 : (0 : Int) ≤ (m : Int) := Int.natCast_nonneg _
          have hat := Lib.hid (any_take ks m hmt (kindZ (s[k].toNat : Int)))
          have KC := Lib.hid (fun W => kind_any (s[k].toNat : Int) W (by omega) (by have := s[k].toNat_lt; omega))
          cases hb : (ks.take m).contains (kindZ (s[k].toNat : Int))
          · have HB := Lib.hid hb
            clear hb
            go_wp2_with (go_at_call 217; refine (KC.out _).mono ?_; rintro e w' ⟨rfl, rfl⟩)
            all_goals
              go_round
              case rel => exact ⟨m + 1, by omega, by go_num, by first | (rw [hat.out, HB.out]; rfl) | (rw [hat.out, HB.out, Bool.false_or])⟩
              case measure => simp [intOf]; omega
          · have HB := Lib.hid hb
            clear hb
            go_wp2_with (go_at_call 217; refine (KC.out _).mono ?_; rintro e w' ⟨rfl, rfl⟩)
            all_goals
              go_round
              case rel => exact ⟨m + 1, by omega, by go_num, by first | (rw [hat.out, HB.out]; rfl) | (rw [hat.out, HB.out, Bool.false_or])⟩
              case measure => simp [intOf]; omega
        · have hme : m = ks.length := by omega
          subst hme
          rw [List.take_length]
          have hts := take_snoc s k hlt
          have HS : Hid (onlyZ ks (s.data.toList.take (k + 1)) = ks.contains (kindZ (s[k].toNat : Int))) := by
            have := HO.out
            unfold onlyZ at this ⊢
            rw [hts, all_snoc, this, Bool.true_and]; rfl
          clear hts
          cases hb : ks.contains (kindZ (s[k].toNat : Int))
          · have HB := Lib.hid hb
            clear hb
            go_wp2
            go_ret
            have hf : onlyZ ks s.data.toList = false := all_false _ s k hlt HB.out
            exact ⟨by rw [hf]; rfl, rfl⟩
          · have HB := Lib.hid hb
            clear hb
            go_wp2
            go_round
            case rel => exact ⟨k + 1, by omega, by go_num, by rw [HB.out] at HS; exact HS⟩
            case measure => simp [intOf]; omega
    · go_wp2
      go_ret
      have hke : k = s.size := by omega
      subst hke
      refine ⟨?_, rfl⟩
      have := HO.out
      rw [List.take_of_length_le (by simp)] at this
      rw [this]
      rfl
end Go.Proofs.YtaakgjbdknobbaaGreatDoor.E


namespace Go.Proofs.YtaakgjbdknobbaaGreatDoor.E
open Go.RowKit Go.Proofs.YtaakgjbdknobbaaGreatDoorW.PrintWords Go.Proofs.YtaakgjbdknobbaaGreatDoorW.PrintLast
set_option linter.unusedVariables false
set_option linter.unusedSimpArgs false
def ErrIs (w : World) : Value → List (ByteArray × Int) → Int → Prop
  | v, [], c => v = .iface 32 (.int .i64 c)
  | v, (l, a) :: r, c => ∃ b u, v = .iface 159 (.pointer (some ⟨b, 0, none⟩)) ∧ w.cell? ⟨b, 0, none⟩ = some (.string l) ∧ w.cell? ⟨b, 1, none⟩ = some (.int .i64 a) ∧ w.cell? ⟨b, 2, none⟩ = some u ∧ ErrIs w u r c
theorem ErrIs.below {w w' : World} (hb : Below w.heap.size w w') : ∀ {v : Value} {r : List (ByteArray × Int)} {c : Int}, ErrIs w v r c → ErrIs w' v r c
  | _, [], _, h => h
  | _, (l, a) :: r, c, h => by
    obtain ⟨b, u, e, h0, h1, h2, hr⟩ := h
    exact ⟨b, u, e, pw_cell_below hb h0, pw_cell_below hb h1, pw_cell_below hb h2, ErrIs.below hb hr⟩
def hostS : ByteArray := ⟨#[104, 111, 115, 116]⟩
theorem ErrIs.iface {w : World} : ∀ {v : Value} {r : List (ByteArray × Int)} {c : Int}, ErrIs w v r c → ∃ t x, v = .iface t x
  | _, [], _, h => ⟨_, _, h⟩
  | _, (l, a) :: r, c, h => by obtain ⟨b, u, e, _⟩ := h; exact ⟨_, _, e⟩
theorem wrong_walk (at_ : Int) (t : TypeId) (x : Value) (w : World) :
    Calls Tryz.prog 176 #[.int .i64 at_, .iface t x] w fun e w' => e = .returned (.iface 159 (.pointer (some ⟨w.heap.size, 0, none⟩))) ∧ w' = w.alloc (.cells #[.string hostS, .int .i64 at_, .iface t x] 161) := by
  go_enter Tryz.func176, Tryz.ntmps176
  go_wp2
  go_ret
  exact ⟨rfl, rfl⟩
theorem wrong_any (at_ : Int) (er : Value) (r : List (ByteArray × Int)) (c : Int) (w : World) (h : ErrIs w er r c) :
    Calls Tryz.prog 176 #[.int .i64 at_, er] w fun e w' => ∃ v, e = .returned v ∧ ErrIs w' v ((hostS, at_) :: r) c ∧ Below w.heap.size w w' := by
  obtain ⟨t, x, rfl⟩ := h.iface
  refine (wrong_walk at_ t x w).mono ?_
  rintro e w' ⟨rfl, rfl⟩
  have hb : Below w.heap.size w (w.alloc (.cells #[.string hostS, .int .i64 at_, .iface t x] 161)) := (Below.refl _ _).alloc (Nat.le_refl _) _
  exact ⟨_, rfl, ⟨w.heap.size, .iface t x, rfl, by simp, by simp, by simp, ErrIs.below hb h⟩, hb⟩
def parts (s : ByteArray) : List ByteArray := Lib.splitB ⟨#[46]⟩ 0 (Lib.countB s ⟨#[46]⟩) s
theorem parts_pos (s : ByteArray) : 0 < (parts s).length := by
  unfold parts; rw [Lib.splitB_all ⟨#[46]⟩ (Nat.le_refl _) 0 _ s rfl]; omega
theorem split_dots (s : ByteArray) (hs : s.size < 4294967281) (w : World) (hS : StdW w) :
    Calls Tryz.prog 74 #[.string s, .string ⟨#[46]⟩] w fun e w' => e = .returned (.slice (some ⟨w.heap.size, 0, none⟩) (parts s).length (parts s).length) ∧ (∀ j, (h : j < (parts s).length) → w'.cell? ⟨w.heap.size, j, none⟩ = some (.string (parts s)[j])) ∧ w.heap.size < w'.heap.size ∧ Below w.heap.size w w' := by
  obtain ⟨m, hm⟩ := hS.max
  refine (Tryz.strings_Split s ⟨#[46]⟩ m w hs hm (Nat.le_refl _)).mono ?_
  rintro e w' ⟨rfl, rfl⟩
  have hl := Lib.splitB_all ⟨#[46]⟩ (Nat.le_refl _) 0 _ s rfl
  refine ⟨by unfold parts; rw [hl], fun j hj => ?_, by simp, (Below.refl _ _).alloc (Nat.le_refl _) _⟩
  unfold parts at hj ⊢
  rw [World.cell?_alloc_new, List.getElem?_toArray, List.getElem?_map, List.getElem?_eq_getElem hj]
  rfl
end Go.Proofs.YtaakgjbdknobbaaGreatDoor.E


namespace Go.Proofs.YtaakgjbdknobbaaGreatDoor.E
open Go.RowKit Go.Proofs.YtaakgjbdknobbaaGreatDoorW.PrintWords Go.Proofs.YtaakgjbdknobbaaGreatDoorW.PrintLast
set_option linter.unusedVariables false
set_option linter.unusedSimpArgs false
def lblOk (p : List UInt8) : Bool :=
  !p.isEmpty && (decide (p.length ≤ 63) && (onlyZ [2, 3, 4] p && (!((p.headD 0).toNat == 45) && !((p.getLastD 0).toNat == 45))))
def badAt : Nat → List ByteArray → Option Nat
  | _, [] => none
  | at_, p :: r => if lblOk p.data.toList then badAt (at_ + p.size + 1) r else some at_
def sumAt : Nat → List ByteArray → Nat
  | at_, [] => at_
  | at_, p :: r => sumAt (at_ + p.size + 1) r
theorem badAt_append (l : List ByteArray) (p : ByteArray) : ∀ a, badAt a (l ++ [p]) = match badAt a l with | some x => some x | none => if lblOk p.data.toList then none else some (sumAt a l) := by
  induction l with
  | nil => intro a; simp [badAt, sumAt]
  | cons q r ih =>
    intro a
    simp only [List.cons_append, badAt, sumAt]
    split
    · exact ih _
    · rfl
theorem sumAt_append (l : List ByteArray) (p : ByteArray) : ∀ a, sumAt a (l ++ [p]) = sumAt a l + p.size + 1 := by
  induction l with
  | nil => intro a; rfl
  | cons q r ih => intro a; exact ih _
theorem badAt_some (l r : List ByteArray) (x : Nat) : ∀ a, badAt a l = some x → badAt a (l ++ r) = some x := by
  induction l with
  | nil => intro a h; cases h
  | cons q t ih =>
    intro a h
    simp only [List.cons_append, badAt] at h ⊢
    split
    · rename_i hq; rw [if_pos hq] at h; exact ih _ h
    · rename_i hq; rw [if_neg hq] at h; exact h
set_option maxRecDepth 100000 in
set_option maxHeartbeats 2000000 in
theorem parseName_long (s : ByteArray) (hs : 253 < s.size) (hs2 : s.size ≤ 281474976710656) (w : World) :
    Calls Tryz.prog 183 #[.string s] w fun e w' => ∃ v, e = .returned (.tuple #[.string ⟨#[]⟩, v]) ∧ ErrIs w' v [(hostS, 253)] 3 ∧ Below w.heap.size w w' := by
  have HE : ∀ W, ErrIs W (.iface 32 (.int .i64 3)) [] 3 := fun W => rfl
  have HW := Lib.hid (fun W => wrong_any 253 _ [] 3 W (HE W))
  clear HE
  go_enter Tryz.func183, Tryz.ntmps183
  go_wp2_with (go_at_call 176; refine (HW.out _).mono ?_; rintro e w1 ⟨v, rfl, he, hb⟩)
  go_ret2
  exact ⟨v, rfl, he, hb⟩
theorem only3 (p : ByteArray) (hp : p.size ≤ 281474976710656) (W : World) :
    Calls Tryz.prog 181 #[.string p, .slice (some ⟨W.heap.size, 0, none⟩) 3 3] (W.alloc (.cells #[.int .i64 2, .int .i64 3, .int .i64 4] 3)) fun e w' => e = .returned (.bool (onlyZ [2, 3, 4] p.data.toList)) ∧ W.alloc (.cells #[.int .i64 2, .int .i64 3, .int .i64 4] 3) = w' :=
  only_any p [2, 3, 4] W.heap.size 3 _ hp (by decide) (fun j hj => by
    rw [World.cell?_alloc_new]
    match j, hj with
    | 0, _ => rfl
    | 1, _ => rfl
    | 2, _ => rfl)
theorem only1 (p : ByteArray) (hp : p.size ≤ 281474976710656) (W : World) :
    Calls Tryz.prog 181 #[.string p, .slice (some ⟨W.heap.size, 0, none⟩) 1 1] (W.alloc (.cells #[.int .i64 2] 3)) fun e w' => e = .returned (.bool (onlyZ [2] p.data.toList)) ∧ W.alloc (.cells #[.int .i64 2] 3) = w' :=
  only_any p [2] W.heap.size 1 _ hp (by decide) (fun j hj => by
    rw [World.cell?_alloc_new]
    match j, hj with
    | 0, _ => rfl)
def pnRes (s : ByteArray) : (Int × Int) ⊕ ByteArray :=
  if 253 < s.size then .inl (253, 3) else match badAt 0 (parts s) with
    | some a => .inl ((a : Int), 61)
    | none => if onlyZ [2] ((parts s).getLastD ⟨#[]⟩).data.toList then .inl ((sumAt 0 (parts s) : Int) - 1 - ((parts s).getLastD ⟨#[]⟩).size, 63) else .inr ⟨(Lib.toLowerA s.data.toList).toArray⟩
def PNPost (r : (Int × Int) ⊕ ByteArray) (w : World) (e : Ending) (w' : World) : Prop :=
  Below w.heap.size w w' ∧ match r with
    | .inl (a, c) => ∃ v, e = .returned (.tuple #[.string ⟨#[]⟩, v]) ∧ ErrIs w' v [(hostS, a)] c
    | .inr t => e = .returned (.tuple #[.string t, .nilIface])
theorem parts_le (s : ByteArray) : (parts s).length ≤ s.size + 1 := by
  unfold parts; rw [Lib.splitB_all ⟨#[46]⟩ (Nat.le_refl _) 0 _ s rfl]
  have := Lib.countB_le ⟨#[46]⟩ (Nat.le_refl _) s.size s (Nat.le_refl _); omega
theorem size_zero (p : ByteArray) : p.toList.isEmpty = decide (p.size = 0) := by
  rw [ByteArray.toList_eq]
  obtain ⟨⟨l⟩⟩ := p
  cases l <;> rfl
theorem getLast_take (l : List ByteArray) (k : Nat) (h : k < l.length) : (l.take (k + 1)).getLastD ⟨#[]⟩ = l[k] := by
  rw [List.take_succ_eq_append_getElem h, List.getLastD_eq_getLast?, List.getLast?_append]; rfl
theorem head_eq (p : ByteArray) (h : 0 < p.size) : p.data.toList.headD 0 = p[0] := by
  obtain ⟨⟨l⟩⟩ := p
  cases l with
  | nil => simp [ByteArray.size] at h
  | cons c r => rfl
theorem last_eq (p : ByteArray) (h : p.size - 1 < p.size) : p.data.toList.getLastD 0 = p[p.size - 1] := by
  obtain ⟨⟨l⟩⟩ := p
  have hl : l ≠ [] := by rintro rfl; simp [ByteArray.size] at h
  show l.getLastD 0 = l[l.length - 1]
  rw [List.getLastD_eq_getLast?, List.getLast?_eq_some_getLast hl, Option.getD_some, List.getLast_eq_getElem]
set_option maxRecDepth 100000 in
set_option maxHeartbeats 8000000 in
theorem parseName_short (s : ByteArray) (hs : s.size ≤ 253) (hasc : badAt 0 (parts s) = none → s.data.toList.all (fun b => decide (b.toNat < 128)) = true) (hsz : ∀ p ∈ parts s, p.size ≤ 253) (hsum : ∀ k, sumAt 0 ((parts s).take k) ≤ 254) (w : World) (hS : StdW w) :
    Calls Tryz.prog 183 #[.string s] w (PNPost (pnRes s) w) := by
  have HSP := Lib.hid (split_dots s (by omega) w hS)
  have HS := Lib.hid hS
  have HPN := Lib.hid (show pnRes s = _ by unfold pnRes; rw [if_neg (show ¬ 253 < s.size by omega)])
  have HLOW := Lib.hid hasc
  have HSZ := Lib.hid hsz
  have HSUM := Lib.hid hsum
  clear hS hasc hsz hsum
  have HW := Lib.hid (fun a c W => wrong_any a _ [] c W (show ErrIs W (.iface 32 (.int .i64 c)) [] c from rfl))
  have hn0 := parts_pos s
  have hn1 := parts_le s
  go_enter Tryz.func183, Tryz.ntmps183
  go_wp2_with (go_at_call 74; refine HSP.out.mono ?_; rintro e w1 ⟨rfl, hc, hlt1, hb1⟩)
  have HC := Lib.hid hc
  have HB1 := Lib.hid hb1
  clear hc hb1
  generalize hl : parts s = l at HC hn0 hn1 HPN HLOW HSZ HSUM ⊢
  have HL := Lib.hid hl
  clear hl
  go_loopw [4, 5, 16] (fun a z i wr => ∃ (k q : Nat) (y : ByteArray), k ≤ l.length ∧ i = .int .i64 k ∧ a = .int .i64 q ∧ q ≤ 254 ∧ y.size ≤ 253 ∧ z = .string y ∧ Hid (q = sumAt 0 (l.take k)) ∧ Hid (y = (l.take k).getLastD ⟨#[]⟩) ∧ Hid (badAt 0 (l.take k) = none) ∧ Hid (Below w1.heap.size w1 wr)) (fun _ _ i _ => l.length - (intOf i).toNat)
  case atStart => exact ⟨0, 0, ⟨#[]⟩, Nat.zero_le _, rfl, rfl, by omega, by decide, rfl, rfl, rfl, rfl, Lib.hid (Below.refl _ _)⟩
  case round =>
    obtain ⟨k, q, y, hk, rfl, rfl, hq, hy, rfl, HQ, HY, HBA, HBW⟩ := hrel
    by_cases hlt : k < l.length
    · have hk0 : (0 : Int) ≤ (k : Int) := Int.natCast_nonneg _
      have hk1 : (k : Int) < (l.length : Int) := by omega
      have hcell : wr.cell? ⟨w.heap.size, k, none⟩ = some (.string l[k]) := (HBW.out.cell (p := ⟨w.heap.size, k, none⟩) hlt1).trans (HC.out k hlt)
      have hpsz : l[k].size ≤ 253 := HSZ.out _ (List.getElem_mem _)
      have hq1 := HSUM.out (k + 1)
      rw [List.take_succ_eq_append_getElem hlt, sumAt_append, ← HQ.out] at hq1
      have HNX : Hid (badAt 0 (l.take (k + 1)) = if lblOk l[k].data.toList then none else some q) := by
        rw [List.take_succ_eq_append_getElem hlt, badAt_append, HBA.out, ← HQ.out]; exact rfl
      have HQ1 : Hid (q + l[k].size + 1 = sumAt 0 (l.take (k + 1))) := by
        rw [List.take_succ_eq_append_getElem hlt, sumAt_append, ← HQ.out]; exact rfl
      have HY1 : Hid (l[k] = (l.take (k + 1)).getLastD ⟨#[]⟩) := by rw [getLast_take l k hlt]; exact rfl
      generalize l[k] = p at hcell hpsz hq1 HNX HQ1 HY1
      have HBAD : lblOk p.data.toList = false → ∀ (v : Value) (wx : World), ErrIs wx v [(hostS, (q : Int))] 61 → Below w.heap.size w wx → PNPost (pnRes s) w (.returned (.tuple #[.string ⟨#[]⟩, v])) wx := by
        intro hb v wx he hbx
        have h1 := HNX.out
        rw [hb] at h1
        have h2 := badAt_some (l.take (k + 1)) (l.drop (k + 1)) q 0 h1
        rw [List.take_append_drop] at h2
        refine ⟨hbx, ?_⟩
        rw [HPN.out, h2]
        exact ⟨v, rfl, he⟩
      have HBAD' := Lib.hid HBAD
      clear HBAD
      have HBW' : Hid (Below w.heap.size w wr) := Lib.hid (below_then HB1.out (Nat.le_of_lt hlt1) (HBW.out.mono (Nat.le_refl _)))
      by_cases hA : p.size = 0
      · have hA1 : p.toList.isEmpty = true := by rw [size_zero]; simpa using hA
        have HLB := Lib.hid (show lblOk p.data.toList = false by unfold lblOk; rw [← ByteArray.toList_eq, hA1]; rfl)
        clear hA
        go_wp2_with (go_at_call 176; refine (HW.out _ _ _).mono ?_; rintro e w2 ⟨v, rfl, he, hb2⟩)
        go_ret2
        exact HBAD'.out HLB.out v _ he (below_then HBW'.out HBW'.out.size hb2)
      · have hA1 : p.toList.isEmpty = false := by rw [size_zero]; simpa using hA
        have hp0 : (0 : Int) < (p.size : Int) := by omega
        by_cases hB : 63 < p.size
        · have hB1 : (63 : Int) < (p.size : Int) := by omega
          have HLB := Lib.hid (show lblOk p.data.toList = false by
            unfold lblOk; rw [show decide (p.data.toList.length ≤ 63) = false from decide_eq_false (by rw [← Lib.size_eq]; omega)]; simp)
          go_wp2_with (go_at_call 176; refine (HW.out _ _ _).mono ?_; rintro e w2 ⟨v, rfl, he, hb2⟩)
          go_ret2
          exact HBAD'.out HLB.out v _ he (below_then HBW'.out HBW'.out.size hb2)
        · have hB1 : (p.size : Int) ≤ 63 := by omega
          have HO3 := Lib.hid (only3 p (by omega))
          cases hC : onlyZ [2, 3, 4] p.data.toList
          · have HLB := Lib.hid (show lblOk p.data.toList = false by unfold lblOk; rw [hC]; simp)
            rw [hC] at HO3
            clear hC
            go_wp2_with (first | (go_at_call 181; refine (HO3.out _).mono ?_; rintro e w2 ⟨rfl, rfl⟩) | (go_at_call 176; refine (HW.out _ _ _).mono ?_; rintro e w2 ⟨v, rfl, he, hb2⟩))
            go_ret2
            exact HBAD'.out HLB.out v _ he (below_then (below_alloc HBW'.out _) (below_alloc HBW'.out _).size hb2)
          · rw [hC] at HO3
            have HC3 := Lib.hid hC
            clear hC
            have hp1 : p.size - 1 < p.size := by omega
            have hp2 : (0 : Int) ≤ (p.size : Int) - 1 := by omega
            have hp3 : (p.size : Int) - 1 < (p.size : Int) := by omega
            have hpp : 0 < p.size := by omega
            have HHE := Lib.hid (head_eq p hpp)
            have HLE := Lib.hid (last_eq p hp1)
            cases hD : (((p[0]).toNat : Int) == 45)
            · cases hE : (((p[p.size - 1]).toNat : Int) == 45)
              · have HLB := Lib.hid (show lblOk p.data.toList = true by
                  unfold lblOk; rw [HLE.out, HHE.out, HC3.out]
                  have e1 : ((p[0]).toNat == 45) = false := by rw [beq_eq_false_iff_ne] at hD ⊢; omega
                  have e2 : ((p[p.size - 1]).toNat == 45) = false := by rw [beq_eq_false_iff_ne] at hE ⊢; omega
                  have e3 : p.data.toList.isEmpty = false := by rw [← ByteArray.toList_eq]; exact hA1
                  rw [e1, e2, e3, show decide (p.data.toList.length ≤ 63) = true from decide_eq_true (by rw [← Lib.size_eq]; omega)]; rfl)
                clear hA
                go_wp2_with (go_at_call 181; refine (HO3.out _).mono ?_; rintro e w2 ⟨rfl, rfl⟩)
                go_roundw
                case rel => exact ⟨k + 1, q + p.size + 1, p, by omega, by go_num, by go_num, by omega, by omega, rfl, HQ1, HY1, by rw [HLB.out] at HNX; exact HNX, Lib.hid (below_then HBW.out HBW.out.size (by exact below_alloc (Below.refl _ _) _))⟩
                case measure => simp [intOf]; omega
              · have HLB := Lib.hid (show lblOk p.data.toList = false by
                  unfold lblOk; rw [HLE.out]
                  have : ((p[p.size - 1]).toNat == 45) = true := by rw [beq_iff_eq] at hE ⊢; omega
                  rw [this]; simp)
                clear hA
                go_wp2_with (first | (go_at_call 181; refine (HO3.out _).mono ?_; rintro e w2 ⟨rfl, rfl⟩) | (go_at_call 176; refine (HW.out _ _ _).mono ?_; rintro e w2 ⟨v, rfl, he, hb2⟩))
                go_ret2
                exact HBAD'.out HLB.out v _ he (below_then (below_alloc HBW'.out _) (below_alloc HBW'.out _).size hb2)
            · have HLB := Lib.hid (show lblOk p.data.toList = false by
                unfold lblOk; rw [HHE.out]
                have : ((p[0]).toNat == 45) = true := by rw [beq_iff_eq] at hD ⊢; omega
                rw [this]; simp)
              clear hA
              go_wp2_with (first | (go_at_call 181; refine (HO3.out _).mono ?_; rintro e w2 ⟨rfl, rfl⟩) | (go_at_call 176; refine (HW.out _ _ _).mono ?_; rintro e w2 ⟨v, rfl, he, hb2⟩))
              go_ret2
              exact HBAD'.out HLB.out v _ he (below_then (below_alloc HBW'.out _) (below_alloc HBW'.out _).size hb2)
    · have hke : k = l.length := by omega
      subst hke
      rw [List.take_length] at HQ HY HBA
      have HBW' : Hid (Below w.heap.size w wr) := Lib.hid (below_then HB1.out (Nat.le_of_lt hlt1) (HBW.out.mono (Nat.le_refl _)))
      have HO1 := Lib.hid (only1 y (by omega))
      have hend : pnRes s = if onlyZ [2] y.data.toList then .inl ((q : Int) - 1 - y.size, 63) else .inr ⟨(Lib.toLowerA s.data.toList).toArray⟩ := by
        rw [HPN.out, HBA.out]
        simp only [← HY.out, ← HQ.out]
      have HEND := Lib.hid hend
      clear hend
      cases hC : onlyZ [2] y.data.toList
      · rw [hC] at HO1 HEND
        clear hC
        have HLW := Lib.hid (ToLower.calls s ⟨(Lib.toLowerA s.data.toList).toArray⟩)
        have HF := Lib.hid (show ToLower.f s = some ⟨(Lib.toLowerA s.data.toList).toArray⟩ by unfold ToLower.f; rw [if_pos ⟨by omega, HLOW.out HBA.out⟩])
        go_wp2_with (first | (go_at_call 181; refine (HO1.out _).mono ?_; rintro e w2 ⟨rfl, rfl⟩) | (go_at_call 218; refine (HLW.out _ (StdW.below HS.out (below_alloc HBW'.out _)) HF.out).mono ?_; rintro e w3 ⟨rfl, hb3⟩))
        go_ret2
        refine ⟨below_then (below_alloc HBW'.out _) (below_alloc HBW'.out _).size hb3, ?_⟩
        rw [HEND.out]
        rfl
      · rw [hC] at HO1 HEND
        clear hC
        go_wp2_with (first | (go_at_call 181; refine (HO1.out _).mono ?_; rintro e w2 ⟨rfl, rfl⟩) | (go_at_call 176; refine (HW.out _ _ _).mono ?_; rintro e w2 ⟨v, rfl, he, hb2⟩))
        go_ret2
        refine ⟨below_then (below_alloc HBW'.out _) (below_alloc HBW'.out _).size hb2, ?_⟩
        rw [HEND.out]
        exact ⟨v, rfl, he⟩
end Go.Proofs.YtaakgjbdknobbaaGreatDoor.E


namespace Go.Proofs.YtaakgjbdknobbaaGreatDoor.E
open Go.RowKit Go.Proofs.YtaakgjbdknobbaaGreatDoorW.PrintWords Go.Proofs.YtaakgjbdknobbaaGreatDoorW.PrintLast
set_option linter.unusedVariables false
set_option linter.unusedSimpArgs false
theorem parts_data (s : ByteArray) : (parts s).map (·.data.toList) = Pt.cutOn 46 s.data.toList := by
  unfold parts
  rw [Lib.splitB_data, ← Pt.splitK_cutOn]
  first | done | rfl
theorem sumAt_eq (l : List ByteArray) : ∀ a, sumAt a l = a + Pt.tot (l.map (·.data.toList)) := by
  induction l with
  | nil => intro a; rfl
  | cons p r ih =>
    intro a
    rw [sumAt, ih]
    have : (p.data.toList).length = p.size := (Lib.size_eq p).symm
    simp only [Pt.tot, List.map_cons, List.sum_cons, this]; omega
theorem sumAt_parts (s : ByteArray) : sumAt 0 (parts s) = s.size + 1 := by
  rw [sumAt_eq, parts_data, Pt.tot_cutOn, Lib.size_eq]; omega
theorem sumAt_take (l : List ByteArray) (k : Nat) : sumAt 0 (l.take k) ≤ sumAt 0 l := by
  rw [sumAt_eq, sumAt_eq]
  conv => rhs; rw [← List.take_append_drop k l]
  simp only [Pt.tot, List.map_append, List.sum_append]; omega
theorem size_mem (l : List ByteArray) (p : ByteArray) (h : p ∈ l) : p.size + 1 ≤ sumAt 0 l := by
  rw [sumAt_eq]
  induction l with
  | nil => cases h
  | cons q r ih =>
    have hq : (q.data.toList).length = q.size := (Lib.size_eq q).symm
    simp only [Pt.tot, List.map_cons, List.sum_cons, hq] at ih ⊢
    rcases List.mem_cons.1 h with rfl | h
    · omega
    · have := ih h; omega
theorem badAt_none (l : List ByteArray) : ∀ a, badAt a l = none ↔ ∀ p ∈ l, lblOk p.data.toList = true := by
  induction l with
  | nil => intro a; simp [badAt]
  | cons q r ih =>
    intro a
    unfold badAt
    split
    · rename_i h; rw [ih]; simp [h]
    · rename_i h; simp [h]
theorem kind_ascii (c : UInt8) (h : ([2, 3, 4] : List Int).contains (kindZ (c.toNat : Int)) = true) : c.toNat < 128 := by
  unfold kindZ at h
  split at h
  · simp at h
  · split at h
    · omega
    · split at h
      · omega
      · split at h
        · omega
        · split at h
          · omega
          · simp at h
theorem ok_ascii (s : ByteArray) (h : badAt 0 (parts s) = none) : s.data.toList.all (fun b => decide (b.toNat < 128)) = true := by
  refine Pt.cutOn_all 46 _ (by decide) _ fun p hp => ?_
  rw [← parts_data] at hp
  obtain ⟨q, hq, rfl⟩ := List.mem_map.1 hp
  have := (badAt_none _ 0).1 h q hq
  unfold lblOk at this
  simp only [Bool.and_eq_true] at this
  have h2 := this.2.2.1
  unfold onlyZ at h2
  rw [List.all_eq_true] at h2 ⊢
  intro c hc
  exact decide_eq_true (kind_ascii c (h2 c hc))
theorem parseName_any (s : ByteArray) (hs : s.size ≤ 281474976710656) (w : World) (hS : StdW w) :
    Calls Tryz.prog 183 #[.string s] w (PNPost (pnRes s) w) := by
  by_cases h : s.size ≤ 253
  · refine parseName_short s h (ok_ascii s) (fun p hp => ?_) (fun k => ?_) w hS
    · have := size_mem _ p hp; rw [sumAt_parts] at this; omega
    · have := sumAt_take (parts s) k; rw [sumAt_parts] at this; omega
  · refine (parseName_long s (by omega) hs w).mono ?_
    rintro e w' ⟨v, rfl, he, hb⟩
    refine ⟨hb, ?_⟩
    have : pnRes s = .inl (253, 3) := by unfold pnRes; rw [if_pos (by omega)]
    rw [this]
    exact ⟨v, rfl, he⟩
def checkB (a b c d : Int) (n : ByteArray) : Bool :=
  if n.size = 0 then true else match pnRes n with
    | .inr t => (t.toList == n.toList) && (a == 0 && (b == 0 && (c == 0 && d == 0)))
    | .inl _ => false
set_option maxRecDepth 100000 in
set_option maxHeartbeats 2000000 in
theorem check_any (a b c d : Int) (n : ByteArray) (hs : n.size ≤ 281474976710656) (w : World) (hS : StdW w) :
    Calls Tryz.prog 166 #[.agg #[.int .u8 a, .int .u8 b, .int .u8 c, .int .u8 d, .string n]] w fun e w' => e = .returned (.bool (checkB a b c d n)) ∧ Below w.heap.size w w' := by
  unfold checkB
  by_cases h0 : n.size = 0
  · have h1 : n.toList.isEmpty = true := by rw [size_zero]; simpa using h0
    rw [if_pos h0]
    go_enter Tryz.func166, Tryz.ntmps166
    go_wp2_with fail
    go_ret
    exact ⟨rfl, below_alloc (Below.refl _ _) _⟩
  · have h1 : n.toList.isEmpty = false := by rw [size_zero]; simpa using h0
    rw [if_neg h0]
    have HPN := Lib.hid (parseName_any n hs)
    have HS := Lib.hid hS
    clear hS
    cases hr : pnRes n with
    | inl x =>
      obtain ⟨xa, xc⟩ := x
      rw [hr] at HPN
      clear hr
      go_enter Tryz.func166, Tryz.ntmps166
      go_wp2_with (go_at_call 183; refine (HPN.out _ (StdW.below HS.out (below_alloc (Below.refl _ _) _))).mono ?_; rintro e w1 ⟨hb, v, rfl, b, u, rfl, -⟩)
      go_ret
      exact ⟨rfl, below_then (below_alloc (Below.refl _ _) _) (below_alloc (Below.refl _ _) _).size hb⟩
    | inr t =>
      rw [hr] at HPN
      clear hr
      go_enter Tryz.func166, Tryz.ntmps166
      go_wp2_with (go_at_call 183; refine (HPN.out _ (StdW.below HS.out (below_alloc (Below.refl _ _) _))).mono ?_; rintro e w1 ⟨hb, rfl⟩; have c0 := boxCell hb 0 _ rfl; have c1 := boxCell hb 1 _ rfl; have c2 := boxCell hb 2 _ rfl; have c3 := boxCell hb 3 _ rfl; have c4 := boxCell hb 4 _ rfl)
      all_goals
        clear c0 c1 c2 c3 c4
        go_ret
        refine ⟨?_, below_then (below_alloc (Below.refl _ _) _) (below_alloc (Below.refl _ _) _).size hb⟩
        clear hb
        first | rfl | (simp [*]; done) | (simp_all; done)
end Go.Proofs.YtaakgjbdknobbaaGreatDoor.E


namespace Go.Proofs.YtaakgjbdknobbaaGreatDoor.E
open Go.RowKit Go.Proofs.YtaakgjbdknobbaaGreatDoorW.PrintWords Go.Proofs.YtaakgjbdknobbaaGreatDoorW.PrintLast
set_option linter.unusedVariables false
set_option linter.unusedSimpArgs false
def it (a : Int) : ByteArray := ⟨(Lib.itoa a).toArray⟩
def addrS (a b c d : Int) : ByteArray := ⟨(Lib.join ([it a, it b, it c, it d].map (·.data.toList)) [46]).toArray⟩
def printB (a b c d : Int) (n : ByteArray) : ByteArray := if checkB a b c d n then (if n.size = 0 then addrS a b c d else n) else ⟨#[]⟩
theorem it_len (a : Int) (h0 : 0 ≤ a) (h1 : a ≤ 255) : (Lib.itoa a).length ≤ 3 := by
  unfold Lib.itoa
  rw [if_neg (by omega), Lib.decDigits_length]
  exact Num.nDigits_le 3 _ (by omega) (by decide)
theorem it_calls (a : Int) (h0 : 0 ≤ a) (h1 : a ≤ 255) (w : World) (hS : StdW w) :
    Calls Tryz.prog 116 #[.int .i64 a] w fun e w' => e = .returned (.string (it a)) ∧ Below w.heap.size w w' :=
  Itoa.calls a (it a) w hS (by unfold Itoa.f; rw [if_pos ⟨by omega, by omega⟩]; rfl)
set_option maxRecDepth 100000 in
set_option maxHeartbeats 4000000 in
theorem print_addr (a b c d : Int) (n : ByteArray) (ha0 : 0 ≤ a) (ha1 : a ≤ 255) (hb0 : 0 ≤ b) (hb1 : b ≤ 255) (hc0 : 0 ≤ c) (hc1 : c ≤ 255) (hd0 : 0 ≤ d) (hd1 : d ≤ 255) (hn : n.size = 0) (w : World) (hS : StdW w) :
    Calls Tryz.prog 115 #[.agg #[.int .u8 a, .int .u8 b, .int .u8 c, .int .u8 d, .string n]] w fun e w' => e = .returned (.string (addrS a b c d)) ∧ Below w.heap.size w w' := by
  have HCK := Lib.hid (fun W (h : StdW W) => check_any a b c d n (by omega) W h)
  have hck : checkB a b c d n = true := by unfold checkB; rw [if_pos hn]
  rw [hck] at HCK
  have hn1 : n.toList.isEmpty = true := by rw [size_zero]; simpa using hn
  have HS := Lib.hid hS
  clear hS hck hn
  have HA := Lib.hid (it_calls a ha0 ha1)
  have HB := Lib.hid (it_calls b hb0 hb1)
  have HC := Lib.hid (it_calls c hc0 hc1)
  have HD := Lib.hid (it_calls d hd0 hd1)
  have i0 : ∀ w, (Instr.index 210 (.agg #[.int .u8 a, .int .u8 b, .int .u8 c, .int .u8 d]) (.int .i64 0)).run Tryz.prog w = .ok (.int .u8 a) w := fun _ => by kernel_rfl
  have i1 : ∀ w, (Instr.index 210 (.agg #[.int .u8 a, .int .u8 b, .int .u8 c, .int .u8 d]) (.int .i64 1)).run Tryz.prog w = .ok (.int .u8 b) w := fun _ => by kernel_rfl
  have i2 : ∀ w, (Instr.index 210 (.agg #[.int .u8 a, .int .u8 b, .int .u8 c, .int .u8 d]) (.int .i64 2)).run Tryz.prog w = .ok (.int .u8 c) w := fun _ => by kernel_rfl
  have i3 : ∀ w, (Instr.index 210 (.agg #[.int .u8 a, .int .u8 b, .int .u8 c, .int .u8 d]) (.int .i64 3)).run Tryz.prog w = .ok (.int .u8 d) w := fun _ => by kernel_rfl
  go_enter Tryz.func115, Tryz.ntmps115
  go_wp2_with (go_at_call 166; refine (HCK.out _ (StdW.below HS.out (below_alloc (Below.refl _ _) _))).mono ?_; rintro e w1 ⟨rfl, hb⟩; have c0 := boxCell hb 0 _ rfl; have c1 := boxCell hb 1 _ rfl; have c2 := boxCell hb 2 _ rfl; have c3 := boxCell hb 3 _ rfl; have c4 := boxCell hb 4 _ rfl)
  have HW1 : Hid (Below w.heap.size w w1) := Lib.hid (below_then (below_alloc (Below.refl _ _) _) (below_alloc (Below.refl _ _) _).size hb)
  clear hb c0 c1 c2 c3 c4
  go_loopw [3, 29] (fun l i wr => ∃ k : Int, 0 ≤ k ∧ k ≤ 4 ∧ i = .int .i64 k ∧ Hid (Kd.R Kd.string 9 wr w.heap.size (fun _ => True) l ([it a, it b, it c, it d].take k.toNat)) ∧ Hid (Below w.heap.size w wr)) (fun _ i _ => 4 - (intOf i).toNat)
  case atStart => exact ⟨0, by omega, by omega, rfl, Lib.hid (Kd.R_nil _ _ _ _ _), HW1⟩
  case round =>
    obtain ⟨k, hk0, hk4, rfl, HR, HWR⟩ := hrel
    by_cases hlt : k < 4
    · have hkk : k = 0 ∨ k = 1 ∨ k = 2 ∨ k = 3 := by omega
      clear hk0 hk4 hlt
      rcases hkk with rfl | rfl | rfl | rfl
      · go_wp2_with (first | (go_at_call 116; refine (HA.out _ (StdW.below HS.out HWR.out)).mono ?_; rintro e w2 ⟨rfl, hb2⟩) | (at_builtin; refine Kd.R_append Kd.string (w0 := w) w.heap.size rfl (.tmp 32) (.tmp 36) 117 9 (.string ⟨#[]⟩) 16 rfl Tryz.underlying117 info_str rfl (by decide) (by omega) u3 ([it a, it b, it c, it d].take 0) (it a) [.string (it a)] (fun _ => True) (fun _ => False) rfl rfl ?aP0 (fun _ hk => hk.elim) ?aF0 ?aO0 ?aB0 ?aS0 ?aL0 ?_; (case aP0 => exact rfl); (case aF0 => exact (fun _ _ => trivial)); (case aO0 => exact Kd.R_below HR.out hb2); (case aB0 => exact below_then HWR.out HWR.out.size hb2); (case aS0 => exact (below_then HWR.out HWR.out.size hb2).size); (case aL0 => simp); intro v3 w3 ho hb3 hg3 hat3))
        go_roundw
        case rel => exact ⟨0 + 1, by omega, by omega, by go_num, Lib.hid (by simpa using ho), Lib.hid hb3⟩
        case measure => simp [intOf]
      · go_wp2_with (first | (go_at_call 116; refine (HB.out _ (StdW.below HS.out HWR.out)).mono ?_; rintro e w2 ⟨rfl, hb2⟩) | (at_builtin; refine Kd.R_append Kd.string (w0 := w) w.heap.size rfl (.tmp 32) (.tmp 36) 117 9 (.string ⟨#[]⟩) 16 rfl Tryz.underlying117 info_str rfl (by decide) (by omega) u3 ([it a, it b, it c, it d].take 1) (it b) [.string (it b)] (fun _ => True) (fun _ => False) rfl rfl ?aP1 (fun _ hk => hk.elim) ?aF1 ?aO1 ?aB1 ?aS1 ?aL1 ?_; (case aP1 => exact rfl); (case aF1 => exact (fun _ _ => trivial)); (case aO1 => exact Kd.R_below HR.out hb2); (case aB1 => exact below_then HWR.out HWR.out.size hb2); (case aS1 => exact (below_then HWR.out HWR.out.size hb2).size); (case aL1 => simp); intro v3 w3 ho hb3 hg3 hat3))
        go_roundw
        case rel => exact ⟨1 + 1, by omega, by omega, by go_num, Lib.hid (by simpa using ho), Lib.hid hb3⟩
        case measure => simp [intOf]
      · go_wp2_with (first | (go_at_call 116; refine (HC.out _ (StdW.below HS.out HWR.out)).mono ?_; rintro e w2 ⟨rfl, hb2⟩) | (at_builtin; refine Kd.R_append Kd.string (w0 := w) w.heap.size rfl (.tmp 32) (.tmp 36) 117 9 (.string ⟨#[]⟩) 16 rfl Tryz.underlying117 info_str rfl (by decide) (by omega) u3 ([it a, it b, it c, it d].take 2) (it c) [.string (it c)] (fun _ => True) (fun _ => False) rfl rfl ?aP2 (fun _ hk => hk.elim) ?aF2 ?aO2 ?aB2 ?aS2 ?aL2 ?_; (case aP2 => exact rfl); (case aF2 => exact (fun _ _ => trivial)); (case aO2 => exact Kd.R_below HR.out hb2); (case aB2 => exact below_then HWR.out HWR.out.size hb2); (case aS2 => exact (below_then HWR.out HWR.out.size hb2).size); (case aL2 => simp); intro v3 w3 ho hb3 hg3 hat3))
        go_roundw
        case rel => exact ⟨2 + 1, by omega, by omega, by go_num, Lib.hid (by simpa using ho), Lib.hid hb3⟩
        case measure => simp [intOf]
      · go_wp2_with (first | (go_at_call 116; refine (HD.out _ (StdW.below HS.out HWR.out)).mono ?_; rintro e w2 ⟨rfl, hb2⟩) | (at_builtin; refine Kd.R_append Kd.string (w0 := w) w.heap.size rfl (.tmp 32) (.tmp 36) 117 9 (.string ⟨#[]⟩) 16 rfl Tryz.underlying117 info_str rfl (by decide) (by omega) u3 ([it a, it b, it c, it d].take 3) (it d) [.string (it d)] (fun _ => True) (fun _ => False) rfl rfl ?aP3 (fun _ hk => hk.elim) ?aF3 ?aO3 ?aB3 ?aS3 ?aL3 ?_; (case aP3 => exact rfl); (case aF3 => exact (fun _ _ => trivial)); (case aO3 => exact Kd.R_below HR.out hb2); (case aB3 => exact below_then HWR.out HWR.out.size hb2); (case aS3 => exact (below_then HWR.out HWR.out.size hb2).size); (case aL3 => simp); intro v3 w3 ho hb3 hg3 hat3))
        go_roundw
        case rel => exact ⟨3 + 1, by omega, by omega, by go_num, Lib.hid (by simpa using ho), Lib.hid hb3⟩
        case measure => simp [intOf]
    · have hk : k = 4 := by omega
      subst hk
      obtain ⟨A0, c0, rfl, hlc, hC⟩ := Kd.R_reads HR.out
      clear HR
      have HCC := Lib.hid hC
      clear hC
      have hx : ([it a, it b, it c, it d].take (4 : Int).toNat) = [it a, it b, it c, it d] := rfl
      rw [hx] at HCC hlc ⊢
      have HJ := Lib.hid (Join.calls A0 c0 [it a, it b, it c, it d] ⟨#[46]⟩ (addrS a b c d))
      have HF := Lib.hid (show Join.f [it a, it b, it c, it d] ⟨#[46]⟩ = some (addrS a b c d) by
        unfold Join.f
        have la := it_len a ha0 ha1
        have lb := it_len b hb0 hb1
        have lc := it_len c hc0 hc1
        have ld := it_len d hd0 hd1
        rw [if_pos]
        · rfl
        · refine ⟨?_, by simp⟩
          simp only [Lib.join, List.intercalate, List.map_cons, List.map_nil, List.intersperse, List.flatten_cons, List.flatten_nil, List.length_append, it, List.append_nil]
          simp only [List.length_cons, List.length_nil]
          omega)
      clear i0 i1 i2 i3 hx
      go_wp2_with (go_at_call 167; refine (HJ.out _ HCC.out hlc (StdW.below HS.out HWR.out) HF.out).mono ?_; rintro e w2 ⟨rfl, hb2⟩)
      go_ret
      exact ⟨rfl, below_then HWR.out HWR.out.size hb2⟩
set_option maxRecDepth 100000 in
set_option maxHeartbeats 4000000 in
theorem print_any (a b c d : Int) (n : ByteArray) (ha0 : 0 ≤ a) (ha1 : a ≤ 255) (hb0 : 0 ≤ b) (hb1 : b ≤ 255) (hc0 : 0 ≤ c) (hc1 : c ≤ 255) (hd0 : 0 ≤ d) (hd1 : d ≤ 255) (hs : n.size ≤ 281474976710656) (w : World) (hS : StdW w) :
    Calls Tryz.prog 115 #[.agg #[.int .u8 a, .int .u8 b, .int .u8 c, .int .u8 d, .string n]] w fun e w' => e = .returned (.string (printB a b c d n)) ∧ Below w.heap.size w w' := by
  by_cases hn : n.size = 0
  · have : printB a b c d n = addrS a b c d := by unfold printB checkB; rw [if_pos hn, if_pos hn]; rfl
    rw [this]
    exact print_addr a b c d n ha0 ha1 hb0 hb1 hc0 hc1 hd0 hd1 hn w hS
  · have hn1 : n.toList.isEmpty = false := by rw [size_zero]; simpa using hn
    have HCK := Lib.hid (fun W (h : StdW W) => check_any a b c d n hs W h)
    have HS := Lib.hid hS
    have HP := Lib.hid (show printB a b c d n = if checkB a b c d n then n else ⟨#[]⟩ by unfold printB; rw [if_neg hn])
    clear hS hn
    cases hb : checkB a b c d n
    all_goals
      rw [hb] at HCK HP
      clear hb
      go_enter Tryz.func115, Tryz.ntmps115
      go_wp2_with (go_at_call 166; refine (HCK.out _ (StdW.below HS.out (below_alloc (Below.refl _ _) _))).mono ?_; rintro e w1 ⟨rfl, hb⟩; have c0 := boxCell hb 0 _ rfl; have c1 := boxCell hb 1 _ rfl; have c2 := boxCell hb 2 _ rfl; have c3 := boxCell hb 3 _ rfl; have c4 := boxCell hb 4 _ rfl)
      go_ret
      exact ⟨by rw [HP.out]; rfl, below_then (below_alloc (Below.refl _ _) _) (below_alloc (Below.refl _ _) _).size hb⟩
end Go.Proofs.YtaakgjbdknobbaaGreatDoor.E


namespace Go.Proofs.YtaakgjbdknobbaaGreatDoor.E
open Go.RowKit Go.Proofs.YtaakgjbdknobbaaGreatDoorW.PrintWords Go.Proofs.YtaakgjbdknobbaaGreatDoorW.PrintLast
set_option linter.unusedVariables false
set_option linter.unusedSimpArgs false
theorem setCell_id (w : World) (b j : Nat) (v : Value) (h : w.cell? ⟨b, j, none⟩ = some v) : w.setCell ⟨b, j, none⟩ v = w := by
  have hh : w.heap.modify b (fun o => match o with
      | .cells c elem frozen => .cells (c.setIfInBounds j v) elem frozen
      | o => o) = w.heap := by
    apply Array.ext_getElem?
    intro k
    rw [Array.getElem?_modify]
    split
    · rename_i e
      subst e
      unfold World.cell? at h
      cases hk : w.heap[b]? with
      | none => rfl
      | some o =>
        rw [hk] at h
        cases o with
        | cells c t fr =>
          simp only [Option.isSome_none, Bool.false_eq_true, if_false] at h
          simp only [Option.map_some, Option.some.injEq, Obj.cells.injEq, and_true]
          apply Array.ext_getElem?
          intro i
          rw [Array.getElem?_setIfInBounds]
          split
          · rename_i e; subst e
            split
            · exact h.symm
            · rename_i hb
              rw [Array.getElem?_eq_none (by omega)] at h; cases h
          · rfl
        | _ => rfl
    · rfl
  exact congrArg (fun h => ({ w with heap := h } : World)) hh
def paLoop (sz : Int) : Int → Int → List ByteArray → List Int → (Int × Int) ⊕ List Int
  | _, _, [], acc => .inr acc
  | i, a, p :: r, acc => if i = 4 then .inl (a, 63) else if numOk p.data.toList 255 = false then .inl (a, 60)
    else if sz < a + p.size + 1 ∧ i < 3 then .inl (sz, 63) else paLoop sz (i + 1) (a + p.size + 1) r (acc ++ [atoiV p.data.toList])
def paRes (s : ByteArray) : (Int × Int) ⊕ List Int := if 253 < s.size then .inl (253, 3) else paLoop s.size 0 0 (parts s) []
def Mem (w wr : World) (acc : List Int) : Prop :=
  (∀ j, j < 4 → wr.cell? ⟨w.heap.size, j, none⟩ = some (.int .u8 0) ∧ wr.frozen? ⟨w.heap.size, j, none⟩ = false) ∧
  (∀ j, j < 4 → wr.cell? ⟨w.heap.size + 1, j, none⟩ = some (.int .u8 (acc.getD j 0)) ∧ wr.frozen? ⟨w.heap.size + 1, j, none⟩ = false) ∧ w.heap.size + 1 < wr.heap.size
theorem Mem.below {w wr w1 : World} {acc : List Int} (h : Mem w wr acc) (hb : Below wr.heap.size wr w1) : Mem w w1 acc := by
  obtain ⟨h0, h1, h2⟩ := h
  refine ⟨fun j hj => ?_, fun j hj => ?_, Nat.lt_of_lt_of_le h2 hb.size⟩
  · obtain ⟨a, b⟩ := h0 j hj
    exact ⟨pw_cell_below hb a, (hb.frozen (p := ⟨w.heap.size, j, none⟩) (by show w.heap.size < _; omega)).trans b⟩
  · obtain ⟨a, b⟩ := h1 j hj
    exact ⟨pw_cell_below hb a, (hb.frozen (p := ⟨w.heap.size + 1, j, none⟩) (by show w.heap.size + 1 < _; omega)).trans b⟩
theorem Mem.put {w wr : World} {acc : List Int} {k : Nat} (h : Mem w wr acc) (hk : acc.length = k) (h4 : k < 4) (v : Int) : Mem w (wr.setCell ⟨w.heap.size + 1, k, none⟩ (.int .u8 v)) (acc ++ [v]) := by
  obtain ⟨h0, h1, h2⟩ := h
  refine ⟨fun j hj => ?_, fun j hj => ?_, by simpa [World.setCell] using h2⟩
  · obtain ⟨a, b⟩ := h0 j hj
    rw [World.frozen?_setCell, World.cell?_setCell_other _ _ _ _ (by intro e; injection e with e; omega)]
    exact ⟨a, b⟩
  · obtain ⟨a, b⟩ := h1 j hj
    rw [World.frozen?_setCell]
    refine ⟨?_, b⟩
    by_cases e : j = k
    · subst e
      rw [World.cell?_setCell_same _ _ _ a]
      simp [List.getD_eq_getElem?_getD, ← hk]
    · rw [World.cell?_setCell_other _ _ _ _ (by intro e2; injection e2 with _ e2; omega), a]
      have : acc.getD j 0 = (acc ++ [v]).getD j 0 := by
        rw [List.getD_eq_getElem?_getD, List.getD_eq_getElem?_getD]
        by_cases hl : j < acc.length
        · rw [List.getElem?_append_left hl]
        · rw [List.getElem?_append_right (by omega), List.getElem?_eq_none (by omega), List.getElem?_eq_none (by simp; omega)]
      rw [this]
theorem Mem.zero {w wr : World} {acc : List Int} (h : Mem w wr acc) :
    wr.cell? ⟨w.heap.size, 0, none⟩ = some (.int .u8 0) ∧ wr.cell? ⟨w.heap.size, 1, none⟩ = some (.int .u8 0) ∧ wr.cell? ⟨w.heap.size, 2, none⟩ = some (.int .u8 0) ∧ wr.cell? ⟨w.heap.size, 3, none⟩ = some (.int .u8 0) ∧
    wr.frozen? ⟨w.heap.size, 0, none⟩ = false ∧ wr.frozen? ⟨w.heap.size, 1, none⟩ = false ∧ wr.frozen? ⟨w.heap.size, 2, none⟩ = false ∧ wr.frozen? ⟨w.heap.size, 3, none⟩ = false ∧
    wr.setCell ⟨w.heap.size, 0, none⟩ (.int .u8 0) = wr ∧ wr.setCell ⟨w.heap.size, 1, none⟩ (.int .u8 0) = wr ∧ wr.setCell ⟨w.heap.size, 2, none⟩ (.int .u8 0) = wr ∧ wr.setCell ⟨w.heap.size, 3, none⟩ (.int .u8 0) = wr := by
  have g := h.1
  exact ⟨(g 0 (by decide)).1, (g 1 (by decide)).1, (g 2 (by decide)).1, (g 3 (by decide)).1, (g 0 (by decide)).2, (g 1 (by decide)).2, (g 2 (by decide)).2, (g 3 (by decide)).2,
    setCell_id _ _ _ _ (g 0 (by decide)).1, setCell_id _ _ _ _ (g 1 (by decide)).1, setCell_id _ _ _ _ (g 2 (by decide)).1, setCell_id _ _ _ _ (g 3 (by decide)).1⟩
end Go.Proofs.YtaakgjbdknobbaaGreatDoor.E


namespace Go.Proofs.YtaakgjbdknobbaaGreatDoor.E
open Go.RowKit Go.Proofs.YtaakgjbdknobbaaGreatDoorW.PrintWords Go.Proofs.YtaakgjbdknobbaaGreatDoorW.PrintLast
set_option linter.unusedVariables false
set_option linter.unusedSimpArgs false
def numOkP (l : List UInt8) : Bool := match Lib.atoiAll l with | .ok v => (Lib.itoa v == l) && decide (0 ≤ v) | _ => false
theorem numOkP_canon (l : List UInt8) (hc : Num.canon l = true) (hv : Num.val l < 9223372036854775808) : numOkP l = true ∧ atoiV l = (Num.val l : Int) := by
  unfold numOkP atoiV
  rw [Num.atoi_canon l hc hv]
  simp only [Bool.and_eq_true, decide_eq_true_eq, beq_iff_eq, and_true]
  exact ⟨Num.itoa_val l hc, by omega⟩
end Go.Proofs.YtaakgjbdknobbaaGreatDoor.E


namespace Go.Proofs.YtaakgjbdknobbaaGreatDoor.E
open Go.RowKit Go.Proofs.YtaakgjbdknobbaaGreatDoorW.PrintWords Go.Proofs.YtaakgjbdknobbaaGreatDoorW.PrintLast
set_option linter.unusedVariables false
set_option linter.unusedSimpArgs false
def printDestB (a b c d : Int) (n : ByteArray) (po : Int) : ByteArray := if (printB a b c d n).size = 0 ∨ po < 1 ∨ 65535 < po then ⟨#[]⟩ else printB a b c d n ++ ⟨#[58]⟩ ++ it po
set_option maxRecDepth 100000 in
set_option maxHeartbeats 4000000 in
theorem printDest_any (a b c d : Int) (n : ByteArray) (po : Int) (ha0 : 0 ≤ a) (ha1 : a ≤ 255) (hb0 : 0 ≤ b) (hb1 : b ≤ 255) (hc0 : 0 ≤ c) (hc1 : c ≤ 255) (hd0 : 0 ≤ d) (hd1 : d ≤ 255) (hs : n.size ≤ 281474976710656) (hps : (printB a b c d n).size ≤ 281474976710656) (w : World) (hS : StdW w) :
    Calls Tryz.prog 64 #[.agg #[.int .u8 a, .int .u8 b, .int .u8 c, .int .u8 d, .string n, .int .i64 po]] w fun e w' => e = .returned (.string (printDestB a b c d n po)) ∧ Below w.heap.size w w' := by
  have HP := Lib.hid (fun W h => print_any a b c d n ha0 ha1 hb0 hb1 hc0 hc1 hd0 hd1 hs W h)
  have HS := Lib.hid hS
  clear hS hs ha0 ha1 hb0 hb1 hc0 hc1 hd0 hd1
  unfold printDestB
  generalize printB a b c d n = t at HP hps
  by_cases h0 : t.size = 0
  · have h1 : t.toList.isEmpty = true := by rw [size_zero]; simpa using h0
    rw [if_pos (.inl h0)]
    go_enter Tryz.func64, Tryz.ntmps64
    go_wp2_with (go_at_call 115; refine (HP.out _ (StdW.below HS.out (below_alloc (Below.refl _ _) _))).mono ?_; rintro e w1 ⟨rfl, hb⟩)
    go_ret
    exact ⟨rfl, below_then (below_alloc (Below.refl _ _) _) (below_alloc (Below.refl _ _) _).size hb⟩
  · have h1 : t.toList.isEmpty = false := by rw [size_zero]; simpa using h0
    by_cases h2 : po < 1
    · rw [if_pos (.inr (.inl h2))]
      go_enter Tryz.func64, Tryz.ntmps64
      go_wp2_with (go_at_call 115; refine (HP.out _ (StdW.below HS.out (below_alloc (Below.refl _ _) _))).mono ?_; rintro e w1 ⟨rfl, hb⟩; have c5 := boxCell hb 5 _ rfl)
      go_ret
      exact ⟨rfl, below_then (below_alloc (Below.refl _ _) _) (below_alloc (Below.refl _ _) _).size hb⟩
    · by_cases h3 : 65535 < po
      · rw [if_pos (.inr (.inr h3))]
        have h2' : decide (po < 1) = false := decide_eq_false h2
        go_enter Tryz.func64, Tryz.ntmps64
        go_wp2_with (go_at_call 115; refine (HP.out _ (StdW.below HS.out (below_alloc (Below.refl _ _) _))).mono ?_; rintro e w1 ⟨rfl, hb⟩; have c5 := boxCell hb 5 _ rfl)
        go_ret
        exact ⟨rfl, below_then (below_alloc (Below.refl _ _) _) (below_alloc (Below.refl _ _) _).size hb⟩
      · rw [if_neg (fun h => h.elim h0 (fun h => h.elim h2 h3))]
        have h2' : decide (po < 1) = false := decide_eq_false h2
        have h3' : decide (65535 < po) = false := decide_eq_false h3
        have HI := Lib.hid (Itoa.calls po (it po))
        have HF := Lib.hid (show Itoa.f po = some (it po) by unfold Itoa.f; rw [if_pos ⟨by omega, by omega⟩]; rfl)
        have hil : (it po).size ≤ 5 := by
          show (Lib.itoa po).length ≤ 5
          unfold Lib.itoa
          rw [if_neg (by omega), Lib.decDigits_length]
          exact Num.nDigits_le 5 _ (by omega) (by decide)
        go_enter Tryz.func64, Tryz.ntmps64
        go_wp2_with (first | (go_at_call 115; refine (HP.out _ (StdW.below HS.out (below_alloc (Below.refl _ _) _))).mono ?_; rintro e w1 ⟨rfl, hb⟩; have c5 := boxCell hb 5 _ rfl) | (go_at_call 116; refine (HI.out _ (StdW.below (StdW.below HS.out (below_alloc (Below.refl _ _) _)) hb) HF.out).mono ?_; rintro e w2 ⟨rfl, hb2⟩))
        go_ret
        exact ⟨rfl, below_then (below_then (below_alloc (Below.refl _ _) _) (below_alloc (Below.refl _ _) _).size hb) (below_then (below_alloc (Below.refl _ _) _) (below_alloc (Below.refl _ _) _).size hb).size hb2⟩
theorem addrS_size (a b c d : Int) (ha0 : 0 ≤ a) (ha1 : a ≤ 255) (hb0 : 0 ≤ b) (hb1 : b ≤ 255) (hc0 : 0 ≤ c) (hc1 : c ≤ 255) (hd0 : 0 ≤ d) (hd1 : d ≤ 255) : (addrS a b c d).size ≤ 15 := by
  have la := it_len a ha0 ha1
  have lb := it_len b hb0 hb1
  have lc := it_len c hc0 hc1
  have ld := it_len d hd0 hd1
  show (Lib.join ([it a, it b, it c, it d].map (·.data.toList)) [46]).length ≤ 15
  simp only [Lib.join, List.intercalate, List.map_cons, List.map_nil, List.intersperse, List.flatten_cons, List.flatten_nil, List.length_append, it, List.append_nil]
  simp only [List.length_cons, List.length_nil]
  omega
theorem printB_size (a b c d : Int) (n : ByteArray) (ha0 : 0 ≤ a) (ha1 : a ≤ 255) (hb0 : 0 ≤ b) (hb1 : b ≤ 255) (hc0 : 0 ≤ c) (hc1 : c ≤ 255) (hd0 : 0 ≤ d) (hd1 : d ≤ 255) (hs : n.size ≤ 281474976710656) : (printB a b c d n).size ≤ 281474976710656 := by
  have := addrS_size a b c d ha0 ha1 hb0 hb1 hc0 hc1 hd0 hd1
  unfold printB
  split
  · split
    · omega
    · exact hs
  · decide
def hPrintDest.f (a b c d : Int) (n : ByteArray) (po : Int) : Option ByteArray := if (0 ≤ a ∧ a ≤ 255) ∧ (0 ≤ b ∧ b ≤ 255) ∧ (0 ≤ c ∧ c ≤ 255) ∧ (0 ≤ d ∧ d ≤ 255) ∧ n.size ≤ 281474976710656 then some (printDestB a b c d n po) else none
theorem hPrintDest.calls (a b c d : Int) (n : ByteArray) (po : Int) (r : ByteArray) (w : World) (hS_ : StdW w) (h : hPrintDest.f a b c d n po = some r) :
    Calls Tryz.prog 64 #[.agg #[.int .u8 a, .int .u8 b, .int .u8 c, .int .u8 d, .string n, .int .i64 po]] w fun e w' => e = .returned (.string r) ∧ Below w.heap.size w w' := by
  unfold hPrintDest.f at h
  split at h
  · rename_i hc
    obtain rfl := Option.some.inj h
    exact printDest_any a b c d n po hc.1.1 hc.1.2 hc.2.1.1 hc.2.1.2 hc.2.2.1.1 hc.2.2.1.2 hc.2.2.2.1.1 hc.2.2.2.1.2 hc.2.2.2.2 (printB_size a b c d n hc.1.1 hc.1.2 hc.2.1.1 hc.2.1.2 hc.2.2.1.1 hc.2.2.1.2 hc.2.2.2.1.1 hc.2.2.2.1.2 hc.2.2.2.2) w hS_
  · cases h
end Go.Proofs.YtaakgjbdknobbaaGreatDoor.E


namespace Go.Proofs.YtaakgjbdknobbaaGreatDoor.E
open Go.RowKit Go.Proofs.YtaakgjbdknobbaaGreatDoorW.PrintWords Go.Proofs.YtaakgjbdknobbaaGreatDoorW.PrintLast
set_option linter.unusedVariables false
set_option linter.unusedSimpArgs false
def Blk (w : World) (R : Nat) (C : Array Value) (T : TypeId) : Prop := w.heap[R]? = some (.cells C T (0, 0))
theorem Blk.cell {w : World} {R : Nat} {C : Array Value} {T : TypeId} (h : Blk w R C T) (j : Nat) (v : Value) (hj : C[j]? = some v) : w.cell? ⟨R, j, none⟩ = some v := by
  unfold World.cell?; rw [show w.heap[R]? = _ from h]; exact hj
theorem Blk.free {w : World} {R : Nat} {C : Array Value} {T : TypeId} (h : Blk w R C T) (j : Nat) : w.frozen? ⟨R, j, none⟩ = false := by
  unfold World.frozen?; rw [show w.heap[R]? = _ from h]; simp
theorem Blk.lt {w : World} {R : Nat} {C : Array Value} {T : TypeId} (h : Blk w R C T) : R < w.heap.size := (Array.getElem?_eq_some_iff.1 h).1
theorem Blk.below {w w1 : World} {R : Nat} {C : Array Value} {T : TypeId} (h : Blk w R C T) (hb : Below w.heap.size w w1) : Blk w1 R C T := (hb.block R h.lt).trans h
theorem Blk.set {w : World} {R : Nat} {C : Array Value} {T : TypeId} (h : Blk w R C T) (j : Nat) (v : Value) : Blk (w.setCell ⟨R, j, none⟩ v) R (C.setIfInBounds j v) T := by
  unfold Blk World.setCell
  simp only [Option.isSome_none, Bool.false_eq_true, if_false]
  rw [Array.getElem?_modify, if_pos rfl, show w.heap[R]? = _ from h]; rfl
theorem Blk.new (w : World) (C : Array Value) (T : TypeId) : Blk (w.alloc (.cells C T)) w.heap.size C T := heap_alloc_new w _
theorem Blk.old {w : World} {R : Nat} {C : Array Value} {T : TypeId} (h : Blk w R C T) (o : Obj) : Blk (w.alloc o) R C T := (Below.heap_alloc _ _ _ h.lt).trans h
end Go.Proofs.YtaakgjbdknobbaaGreatDoor.E
