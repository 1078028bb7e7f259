/- What the cards of this seat rest on: the walks and plain laws, part 2. -/
import Derived.Shelf.Strings.Builder1
import Derived.Shelf.Strings.Builder2
import Derived.Shelf.Strings.OnBuilder
import Derived.Shelf.Strings.Trim
import Derived.Shelf.Small.Utf8
import Derived.Shelf.Small.Strs
import Derived.Shelf.Small.Wraps
import Derived.Shelf.Strings.BuilderF
import Derived.Shelf.Strings.BuilderK
import Derived.Shelf.Strings.BuilderRune
import Derived.Shelf.Utf8.AppendRune
import Derived.Shelf.Utf8.RuneCount
import Derived.Shelf.Strconv.Atoi
import Derived.Shelf.Strconv.Itoa0
import Derived.Shelf.Strconv.Itoa1
import Derived.Shelf.LaysM
import Derived.Shelf.Strconv.Itoa2
import Derived.Shelf.Strconv.Itoa3
import Derived.Shelf.Bytes.Len
import Derived.Shelf.Bytes.TryGrow
import Derived.Shelf.Bytes.GrowSliceCatch
import Derived.Shelf.Bytes.GrowSlice
import Derived.Shelf.Bytes.Bytes
import Derived.Shelf.Strconv.AtoiErrFast
import Derived.Shelf.Strconv.ParseIntEmpty
import Derived.Shelf.Strconv.AtoiFail
import Derived.Shelf.Strconv.Clone
import Derived.Shelf.Strconv.SyntaxError
import Derived.Shelf.LaysC
import Derived.Shelf.Strconv.ToError
import Derived.Shelf.Strconv.AtoiErr
import Derived.Shelf.Strconv.ErrVar
import Derived.Shelf.Strconv.Lower
import Derived.Shelf.Strconv.ParseUint10
import Derived.Shelf.Strconv.ParseUint10Empty
import Derived.Shelf.Strconv.ParseUint10Any
import Derived.Shelf.Strconv.ParseInt10
import Derived.Shelf.Strconv.AtoiLong
import Derived.Shelf.Strconv.AtoiInnerAll
import Derived.Shelf.Strconv.RangeError
import Derived.Shelf.Strconv.ToErrorRange
import Derived.Shelf.Strconv.AtoiAll
import Derived.Shelf.Strconv.ErrVarAll
import Derived.Shelf.Strconv.ParseUintEmpty
import Derived.Shelf.Strconv.ParseUint10b64
import Derived.Shelf.Strconv.ParseUint10b32
import Derived.Shelf.Strconv.ParseUint10b16
import Derived.Shelf.Strconv.ParseUint10b8
import Derived.Shelf.Strconv.ParseUint10At
import Derived.Shelf.Strconv.ParseInt10At64
import Derived.Shelf.Strconv.ParseInt10At32
import Derived.Shelf.Strconv.ParseInt10At16
import Derived.Shelf.Strconv.ParseInt10At8
import Derived.Shelf.Strconv.ParseInt10All
import Derived.Shelf.Strings.Search1
import Derived.Shelf.Bytes.GrowRow0Kept
import Derived.Shelf.Strings.Search2
import Derived.Shelf.Bytes.GrowRowKept
import Derived.Shelf.Strings.Search3
import Derived.Shelf.Bytes.GrowNilKept
import Derived.Shelf.Strings.Cut
import Derived.Shelf.Bytes.GrowKept
import Derived.Shelf.Strings.Count
import Derived.Shelf.Strings.Shaped
import Derived.Shelf.Bytes.WriteStringKept
import Derived.Shelf.Bytes.ResetKept
import Derived.Shelf.Strings.LastIndex
import Derived.Shelf.Bytes.BufferK
import Derived.Shelf.Strings.Prefix
import Derived.Shelf.Strings.Split
import Derived.Shelf.Strings.Replace
import Derived.Shelf.Strings.SplitShaped
import Derived.Shelf.Unicode.Latin
import Derived.Shelf.Unicode.Decode
import Derived.Shelf.Strings.Runes
import Derived.Shelf.Strings.RuneCount
import Derived.Shelf.Strings.IndexAny
import Derived.Shelf.Strings.AsciiSet
import Derived.Shelf.Strings.IndexAnyAll
import Derived.Shelf.Strings.Explode
import Derived.Shelf.Unicode.DecodeSlow
import Derived.Shelf.Unicode.DecodeAny
import Derived.Shelf.Unicode.DecodeLast
import Derived.Shelf.Unicode.CaseLookup
import Derived.Shelf.Unicode.CaseConvert
import Derived.Shelf.Unicode.CaseTo
import Derived.Shelf.Unicode.CaseLaid
import Derived.Shelf.Strings.MapAny
import Derived.Shelf.Strings.CaseAny
import Derived.Shelf.Bytes.SlIndexSmall
import Derived.Shelf.Bytes.SlIndexAt
import Derived.Shelf.Bytes.SlSearch0
import Derived.Shelf.Bytes.SlSearch1
import Derived.Shelf.Bytes.SlSearch2
import Derived.Shelf.Bytes.SlIndexWhole
import Derived.Ground.SlgfProg
import Derived.Shelf.SlicesE.IndexFunc
import Derived.Shelf.SlicesE.DeleteFunc
import Derived.Shelf.Bytes.SlSmallAll
import Derived.Ground.PaProg
import Derived.Shelf.Path.Small
import Derived.Shelf.Bytes.Small
import Derived.Shelf.Bytes.IndexByte
import Derived.Test.YtaakgjbdknobbaaGreatDoorProg
import Derived.Lib.LaidTab
import Derived.WalkSmall
import Derived.Sort.Grow
import Derived.Below
import Derived.Lib.Hide
import Derived.WalkKit
import Derived.Outline
import Derived.Lib.ItoaNum
import Derived.Lib.AtoiAll
import Derived.Test.YtaakgjbdknobbaaGreatDoorFA1
import Derived.WalkLawsBesides
import Derived.Lib.SplitLaws
import Derived.Lib.CutLaws
import Derived.Laws.IdiomStrings
import Derived.Lib.Case
import Derived.Lib.ConvBytes
import Derived.Lib.SlBytesRow
import Derived.Deep.RegionWith
import Derived.Deep.Draws
import Derived.Deep.AppendLies
import Derived.Maps.AppendAt
import Derived.OwnWalk
import Derived.Laws.BytesArg
import Derived.Laws.MakeOwn
import Derived.Laws.OwnMore
import Derived.Deep.OwnRows
import Derived.Tactics
import Derived.Laws.Slices
import Derived.KernelRfl
import Derived.RowKit3
import Derived.Deep.LoopGhost
import Derived.Deep.QuietTactic
import Derived.BigQuiet
import Derived.WideLaws
import Derived.Deep.DeepCutAuto
import Derived.Deep.CutBlock
import Derived.Deep.RegionHeld3
import Derived.Laws.Rows
import Derived.Lib.AppendStr
import Derived.ArgAppend
import Derived.Laws.IdiomCopy
import Derived.OrdersHeld
import Derived.Laws.BitsLemmas
import Derived.RowKit


namespace Go.Proofs
open Go.Shelf
def Tryz.lays159_ren : Go.Shelf.Ren := ⟨fun | 159 => 218 | 165 => 185 | 166 => 151 | 167 => 241 | 169 => 153 | 230 => 242 | 204 => 243 | 240 => 198 | 241 => 220 | 197 => 186 | 118 => 256 | 168 => 257 | 270 => 258 | 262 => 259 | 276 => 230 | 277 => 244 | 260 => 221 | 242 => 264 | 313 => 265 | 278 => 266 | 274 => 267 | 275 => 268 | n => n, fun | 9 => 9 | 4 => 4 | 3 => 3 | 5 => 5 | 72 => 198 | 0 => 0 | 76 => 44 | 75 => 43 | 107 => 283 | 70 => 196 | 20 => 20 | 37 => 41 | 127 => 245 | 21 => 21 | 105 => 224 | 164 => 251 | 162 => 309 | 203 => 307 | 119 => 284 | 46 => 158 | 139 => 287 | 138 => 286 | 51 => 214 | 160 => 312 | 208 => 318 | 206 => 316 | 80 => 200 | n => n, fun | 13 => 8 | 3 => 3 | 4 => 4 | n => n⟩
theorem Tryz.lays159 : Go.Proofs.Lays.n159 Tryz.prog Tryz.lays159_ren := {
  mixed := by kernel_rfl
  f118 := Tryz.func256.trans (congrArg some (by kernel_rfl))
  f159 := Tryz.func218.trans (congrArg some (by kernel_rfl))
  f165 := Tryz.func185.trans (congrArg some (by kernel_rfl))
  f166 := Tryz.func151.trans (congrArg some (by kernel_rfl))
  f167 := Tryz.func241.trans (congrArg some (by kernel_rfl))
  f168 := Tryz.func257.trans (congrArg some (by kernel_rfl))
  f169 := Tryz.func153.trans (congrArg some (by kernel_rfl))
  f197 := Tryz.func186.trans (congrArg some (by kernel_rfl))
  f204 := Tryz.func243.trans (congrArg some (by kernel_rfl))
  f230 := Tryz.func242.trans (congrArg some (by kernel_rfl))
  f240 := Tryz.func198.trans (congrArg some (by kernel_rfl))
  f241 := Tryz.func220.trans (congrArg some (by kernel_rfl))
  f242 := Tryz.func264.trans (congrArg some (by kernel_rfl))
  f260 := Tryz.func221.trans (congrArg some (by kernel_rfl))
  f262 := Tryz.func259.trans (congrArg some (by kernel_rfl))
  f270 := Tryz.func258.trans (congrArg some (by kernel_rfl))
  f274 := Tryz.func267.trans (congrArg some (by kernel_rfl))
  f275 := Tryz.func268.trans (congrArg some (by kernel_rfl))
  f276 := Tryz.func230.trans (congrArg some (by kernel_rfl))
  f277 := Tryz.func244.trans (congrArg some (by kernel_rfl))
  f278 := Tryz.func266.trans (congrArg some (by kernel_rfl))
  f313 := Tryz.func265.trans (congrArg some (by kernel_rfl))
  t0 := Tryz.underlying0
  a0 := Tryz.isAgg0
  z0 := Tryz.sizeOf0
  v0 := Tryz.zeroValue0
  t3 := Tryz.underlying3
  a3 := Tryz.isAgg3
  z3 := Tryz.sizeOf3
  v3 := Tryz.zeroValue3
  t4 := Tryz.underlying4
  a4 := Tryz.isAgg4
  z4 := Tryz.sizeOf4
  v4 := Tryz.zeroValue4
  t5 := Tryz.underlying5
  a5 := Tryz.isAgg5
  z5 := Tryz.sizeOf5
  v5 := Tryz.zeroValue5
  t9 := Tryz.underlying9
  a9 := Tryz.isAgg9
  z9 := Tryz.sizeOf9
  v9 := Tryz.zeroValue9
  t20 := Tryz.underlying20
  a20 := Tryz.isAgg20
  z20 := Tryz.sizeOf20
  v20 := Tryz.zeroValue20
  t21 := Tryz.underlying21
  a21 := Tryz.isAgg21
  z21 := Tryz.sizeOf21
  v21 := Tryz.zeroValue21
  t37 := Tryz.underlying41
  a37 := Tryz.isAgg41
  z37 := Tryz.sizeOf41
  v37 := Tryz.zeroValue41
  t46 := Tryz.underlying158
  a46 := Tryz.isAgg158
  z46 := Tryz.sizeOf158
  v46 := Tryz.zeroValue158
  t51 := Tryz.underlying214
  a51 := Tryz.isAgg214
  z51 := Tryz.sizeOf214
  v51 := Tryz.zeroValue214
  t70 := Tryz.underlying196
  a70 := Tryz.isAgg196
  z70 := Tryz.sizeOf196
  v70 := Tryz.zeroValue196
  t72 := Tryz.underlying198
  a72 := Tryz.isAgg198
  z72 := Tryz.sizeOf198
  v72 := Tryz.zeroValue198
  t75 := Tryz.underlying43
  a75 := Tryz.isAgg43
  z75 := Tryz.sizeOf43
  v75 := Tryz.zeroValue43
  t76 := Tryz.underlying44
  a76 := Tryz.isAgg44
  z76 := Tryz.sizeOf44
  v76 := Tryz.zeroValue44
  t105 := Tryz.underlying224
  a105 := Tryz.isAgg224
  z105 := Tryz.sizeOf224
  v105 := Tryz.zeroValue224
  t107 := Tryz.underlying283
  a107 := Tryz.isAgg283
  z107 := Tryz.sizeOf283
  v107 := Tryz.zeroValue283
  t119 := Tryz.underlying284
  a119 := Tryz.isAgg284
  z119 := Tryz.sizeOf284
  t127 := Tryz.underlying245
  a127 := Tryz.isAgg245
  z127 := Tryz.sizeOf245
  v127 := Tryz.zeroValue245
  t138 := Tryz.underlying286
  a138 := Tryz.isAgg286
  z138 := Tryz.sizeOf286
  v138 := Tryz.zeroValue286
  t139 := Tryz.underlying287
  a139 := Tryz.isAgg287
  z139 := Tryz.sizeOf287
  v139 := Tryz.zeroValue287
  t160 := Tryz.underlying312
  a160 := Tryz.isAgg312
  z160 := Tryz.sizeOf312
  v160 := Tryz.zeroValue312
  t162 := Tryz.underlying309
  a162 := Tryz.isAgg309
  z162 := Tryz.sizeOf309
  v162 := Tryz.zeroValue309
  t164 := Tryz.underlying251
  a164 := Tryz.isAgg251
  z164 := Tryz.sizeOf251
  v164 := Tryz.zeroValue251
  t203 := Tryz.underlying307
  a203 := Tryz.isAgg307
  z203 := Tryz.sizeOf307
  v203 := Tryz.zeroValue307
  t206 := Tryz.underlying316
  a206 := Tryz.isAgg316
  z206 := Tryz.sizeOf316
  v206 := Tryz.zeroValue316
  t208 := Tryz.underlying318
  a208 := Tryz.isAgg318
  z208 := Tryz.sizeOf318
  v208 := Tryz.zeroValue318
  g3 := by kernel_rfl
  g4 := by kernel_rfl
  g13 := by kernel_rfl }
theorem Tryz.Builder_Extra_159 : Builder.Extra Tryz.prog Tryz.lays159_ren := {
  sizeBuilder := by kernel_rfl
  liesBuilder := by kernel_rfl
  t5 := Tryz.underlying5
  a5 := Tryz.isAgg5
  z5 := Tryz.sizeOf5
  v5 := Tryz.zeroValue5
  infoByte := by kernel_rfl
  cellsByte := by kernel_rfl
  sizeByte := by kernel_rfl
  neB5 := by decide }
open Go.RowKit in

theorem Tryz.strings_ToLower_ascii (s : ByteArray) (w : World) (hs : s.size ≤ 140737488355328) (hascii : ∀ (j : Nat) (b : UInt8), s.data.toList[j]? = some b → b.toNat < 128) :
    Calls Tryz.prog 218 #[.string s] w fun e w' => e = .returned (.string ⟨(Lib.toLowerA s.data.toList).toArray⟩) ∧ Below w.heap.size w w' := Any.strings_ToLower_ascii Tryz.lays159 Tryz.Builder_Extra_159 s w hs hascii
def Tryz.lays156_ren : Go.Shelf.Ren := ⟨fun | 156 => 167 | 165 => 185 | 166 => 151 | 169 => 153 | 240 => 198 | 241 => 220 | 276 => 230 | 277 => 244 | n => n, fun | 31 => 117 | 9 => 9 | 3 => 3 | 4 => 4 | 0 => 0 | 20 => 20 | 72 => 198 | 76 => 44 | 70 => 196 | 37 => 41 | 75 => 43 | 127 => 245 | 164 => 251 | 5 => 5 | 80 => 200 | n => n, fun | n => n⟩
theorem Tryz.lays156 : Go.Proofs.Lays.n156 Tryz.prog Tryz.lays156_ren := {
  mixed := by kernel_rfl
  f156 := Tryz.func167.trans (congrArg some (by kernel_rfl))
  f165 := Tryz.func185.trans (congrArg some (by kernel_rfl))
  f166 := Tryz.func151.trans (congrArg some (by kernel_rfl))
  f169 := Tryz.func153.trans (congrArg some (by kernel_rfl))
  f240 := Tryz.func198.trans (congrArg some (by kernel_rfl))
  f241 := Tryz.func220.trans (congrArg some (by kernel_rfl))
  f276 := Tryz.func230.trans (congrArg some (by kernel_rfl))
  f277 := Tryz.func244.trans (congrArg some (by kernel_rfl))
  t0 := Tryz.underlying0
  a0 := Tryz.isAgg0
  z0 := Tryz.sizeOf0
  v0 := Tryz.zeroValue0
  t3 := Tryz.underlying3
  a3 := Tryz.isAgg3
  z3 := Tryz.sizeOf3
  v3 := Tryz.zeroValue3
  t4 := Tryz.underlying4
  a4 := Tryz.isAgg4
  z4 := Tryz.sizeOf4
  v4 := Tryz.zeroValue4
  t9 := Tryz.underlying9
  a9 := Tryz.isAgg9
  z9 := Tryz.sizeOf9
  v9 := Tryz.zeroValue9
  t20 := Tryz.underlying20
  a20 := Tryz.isAgg20
  z20 := Tryz.sizeOf20
  v20 := Tryz.zeroValue20
  t31 := Tryz.underlying117
  a31 := Tryz.isAgg117
  z31 := Tryz.sizeOf117
  v31 := Tryz.zeroValue117
  t37 := Tryz.underlying41
  a37 := Tryz.isAgg41
  z37 := Tryz.sizeOf41
  v37 := Tryz.zeroValue41
  t70 := Tryz.underlying196
  a70 := Tryz.isAgg196
  z70 := Tryz.sizeOf196
  v70 := Tryz.zeroValue196
  t72 := Tryz.underlying198
  a72 := Tryz.isAgg198
  z72 := Tryz.sizeOf198
  v72 := Tryz.zeroValue198
  t75 := Tryz.underlying43
  a75 := Tryz.isAgg43
  z75 := Tryz.sizeOf43
  v75 := Tryz.zeroValue43
  t76 := Tryz.underlying44
  a76 := Tryz.isAgg44
  z76 := Tryz.sizeOf44
  v76 := Tryz.zeroValue44
  t127 := Tryz.underlying245
  a127 := Tryz.isAgg245
  z127 := Tryz.sizeOf245
  v127 := Tryz.zeroValue245
  t164 := Tryz.underlying251
  a164 := Tryz.isAgg251
  z164 := Tryz.sizeOf251
  v164 := Tryz.zeroValue251 }
theorem Tryz.Builder_Extra_156 : Builder.Extra Tryz.prog Tryz.lays156_ren := {
  sizeBuilder := by kernel_rfl
  liesBuilder := by kernel_rfl
  t5 := Tryz.underlying5
  a5 := Tryz.isAgg5
  z5 := Tryz.sizeOf5
  v5 := Tryz.zeroValue5
  infoByte := by kernel_rfl
  cellsByte := by kernel_rfl
  sizeByte := by kernel_rfl
  neB5 := by decide }
open Go.RowKit in

theorem Tryz.strings_Join_none (a : Option Addr) (c : Nat) (sep : ByteArray) (w : World) :
    Calls Tryz.prog 167 #[.slice a 0 c, .string sep] w fun e w' => e = .returned (.string ⟨#[]⟩) ∧ w' = w := Any.strings_Join_none Tryz.lays156 Tryz.Builder_Extra_156 a c sep w
open Go.RowKit in

theorem Tryz.strings_Join (bk o c : Nat) (xs : List ByteArray) (sep : ByteArray) (w : World) (hcells : ∀ (j : Nat) x, xs[j]? = some x → w.cell? ⟨bk, o + j, none⟩ = some (.string x)) (hbk : bk < w.heap.size) (hN : xs.length ≤ 140737488355328) (hcap : xs.length ≤ c) (hlen : (Lib.join (xs.map (·.data.toList)) sep.data.toList).length ≤ 140737488355328) :
    Calls Tryz.prog 167 #[.slice (some ⟨bk, o, none⟩) xs.length c, .string sep] w fun e w' => e = .returned (.string ⟨(Lib.join (xs.map (·.data.toList)) sep.data.toList).toArray⟩) ∧ Below w.heap.size w w' := Any.strings_Join Tryz.lays156 Tryz.Builder_Extra_156 bk o c xs sep w hcells hbk hN hcap hlen
def Tryz.lays160_ren : Go.Shelf.Ren := ⟨fun | 160 => 85 | 232 => 135 | 231 => 134 | 227 => 136 | 234 => 138 | 233 => 137 | 236 => 140 | 235 => 139 | 228 => 187 | 271 => 189 | 151 => 188 | 197 => 186 | 120 => 222 | 152 => 209 | 260 => 221 | 137 => 132 | 119 => 238 | 224 => 123 | 225 => 232 | 217 => 184 | 266 => 219 | n => n, fun | 9 => 9 | 4 => 4 | 3 => 3 | 5 => 5 | 117 => 178 | 116 => 177 | 0 => 0 | 124 => 181 | 21 => 21 | 105 => 224 | 46 => 158 | 119 => 284 | 139 => 287 | 138 => 286 | n => n, fun | 3 => 3 | 4 => 4 | n => n⟩
theorem Tryz.lays160 : Go.Proofs.Lays.n160 Tryz.prog Tryz.lays160_ren := {
  mixed := by kernel_rfl
  f119 := Tryz.func238.trans (congrArg some (by kernel_rfl))
  f120 := Tryz.func222.trans (congrArg some (by kernel_rfl))
  f137 := Tryz.func132.trans (congrArg some (by kernel_rfl))
  f151 := Tryz.func188.trans (congrArg some (by kernel_rfl))
  f152 := Tryz.func209.trans (congrArg some (by kernel_rfl))
  f160 := Tryz.func85.trans (congrArg some (by kernel_rfl))
  f197 := Tryz.func186.trans (congrArg some (by kernel_rfl))
  f217 := Tryz.func184.trans (congrArg some (by kernel_rfl))
  f224 := Tryz.func123.trans (congrArg some (by kernel_rfl))
  f225 := Tryz.func232.trans (congrArg some (by kernel_rfl))
  f227 := Tryz.func136.trans (congrArg some (by kernel_rfl))
  f228 := Tryz.func187.trans (congrArg some (by kernel_rfl))
  f231 := Tryz.func134.trans (congrArg some (by kernel_rfl))
  f232 := Tryz.func135.trans (congrArg some (by kernel_rfl))
  f233 := Tryz.func137.trans (congrArg some (by kernel_rfl))
  f234 := Tryz.func138.trans (congrArg some (by kernel_rfl))
  f235 := Tryz.func139.trans (congrArg some (by kernel_rfl))
  f236 := Tryz.func140.trans (congrArg some (by kernel_rfl))
  f260 := Tryz.func221.trans (congrArg some (by kernel_rfl))
  f266 := Tryz.func219.trans (congrArg some (by kernel_rfl))
  f271 := Tryz.func189.trans (congrArg some (by kernel_rfl))
  t0 := Tryz.underlying0
  a0 := Tryz.isAgg0
  z0 := Tryz.sizeOf0
  v0 := Tryz.zeroValue0
  t3 := Tryz.underlying3
  a3 := Tryz.isAgg3
  z3 := Tryz.sizeOf3
  v3 := Tryz.zeroValue3
  t4 := Tryz.underlying4
  a4 := Tryz.isAgg4
  z4 := Tryz.sizeOf4
  v4 := Tryz.zeroValue4
  t5 := Tryz.underlying5
  a5 := Tryz.isAgg5
  z5 := Tryz.sizeOf5
  v5 := Tryz.zeroValue5
  t9 := Tryz.underlying9
  a9 := Tryz.isAgg9
  z9 := Tryz.sizeOf9
  v9 := Tryz.zeroValue9
  t21 := Tryz.underlying21
  a21 := Tryz.isAgg21
  z21 := Tryz.sizeOf21
  v21 := Tryz.zeroValue21
  t46 := Tryz.underlying158
  a46 := Tryz.isAgg158
  z46 := Tryz.sizeOf158
  v46 := Tryz.zeroValue158
  t105 := Tryz.underlying224
  a105 := Tryz.isAgg224
  z105 := Tryz.sizeOf224
  v105 := Tryz.zeroValue224
  t116 := Tryz.underlying177
  a116 := Tryz.isAgg177
  z116 := Tryz.sizeOf177
  t117 := Tryz.underlying178
  a117 := Tryz.isAgg178
  z117 := Tryz.sizeOf178
  v117 := Tryz.zeroValue178
  t119 := Tryz.underlying284
  a119 := Tryz.isAgg284
  z119 := Tryz.sizeOf284
  t124 := Tryz.underlying181
  a124 := Tryz.isAgg181
  z124 := Tryz.sizeOf181
  v124 := Tryz.zeroValue181
  t138 := Tryz.underlying286
  a138 := Tryz.isAgg286
  z138 := Tryz.sizeOf286
  v138 := Tryz.zeroValue286
  t139 := Tryz.underlying287
  a139 := Tryz.isAgg287
  z139 := Tryz.sizeOf287
  v139 := Tryz.zeroValue287
  g3 := by kernel_rfl
  g4 := by kernel_rfl }
def Tryz.lays137_ren : Go.Shelf.Ren := ⟨fun | 137 => 132 | 217 => 184 | 266 => 219 | n => n, fun | 9 => 9 | 5 => 5 | 3 => 3 | n => n, fun | n => n⟩
theorem Tryz.lays137 : Go.Proofs.Lays.n137 Tryz.prog Tryz.lays137_ren := {
  mixed := by kernel_rfl
  f137 := Tryz.func132.trans (congrArg some (by kernel_rfl))
  f217 := Tryz.func184.trans (congrArg some (by kernel_rfl))
  f266 := Tryz.func219.trans (congrArg some (by kernel_rfl))
  t3 := Tryz.underlying3
  a3 := Tryz.isAgg3
  z3 := Tryz.sizeOf3
  v3 := Tryz.zeroValue3
  t5 := Tryz.underlying5
  a5 := Tryz.isAgg5
  z5 := Tryz.sizeOf5
  v5 := Tryz.zeroValue5
  t9 := Tryz.underlying9
  a9 := Tryz.isAgg9
  z9 := Tryz.sizeOf9
  v9 := Tryz.zeroValue9 }
open Go.RowKit in

theorem Tryz.strings_IndexByte (s : ByteArray) (c : Int) (w : World) :
    Calls Tryz.prog 132 #[.string s, .int .u8 c] w fun e w' => e = .returned (.int .i64 (Lib.indexByte s.data.toList c.toNat.toUInt8)) ∧ w' = w := Any.strings_IndexByte Tryz.lays137 s c w
def Tryz.laysM171_ren : Go.Shelf.Ren := ⟨fun | 171 => 116 | 243 => 168 | 246 => 204 | 283 => 234 | 284 => 235 | 285 => 236 | 286 => 237 | 129 => 252 | 317 => 251 | 318 => 253 | 319 => 254 | 320 => 255 | 337 => 262 | 338 => 263 | n => n, fun | 3 => 3 | 9 => 9 | 2 => 2 | 4 => 4 | 171 => 270 | 0 => 0 | 53 => 125 | 37 => 41 | 5 => 5 | 173 => 273 | 212 => 295 | 51 => 214 | 20 => 20 | 213 => 296 | 46 => 158 | 232 => 310 | 233 => 311 | n => n, fun | 17 => 7 | 18 => 9 | 19 => 10 | n => n⟩
theorem Tryz.laysM171 : Go.Proofs.LaysM.n171 Tryz.prog Tryz.laysM171_ren := {
  mixed := by kernel_rfl
  f129 := Tryz.func252.trans (congrArg some (by kernel_rfl))
  f171 := Tryz.func116.trans (congrArg some (by kernel_rfl))
  f243 := Tryz.func168.trans (congrArg some (by kernel_rfl))
  f246 := Tryz.func204.trans (congrArg some (by kernel_rfl))
  f283 := Tryz.func234.trans (congrArg some (by kernel_rfl))
  f284 := Tryz.func235.trans (congrArg some (by kernel_rfl))
  f285 := Tryz.func236.trans (congrArg some (by kernel_rfl))
  f286 := Tryz.func237.trans (congrArg some (by kernel_rfl))
  f317 := Tryz.func251.trans (congrArg some (by kernel_rfl))
  f318 := Tryz.func253.trans (congrArg some (by kernel_rfl))
  f319 := Tryz.func254.trans (congrArg some (by kernel_rfl))
  f320 := Tryz.func255.trans (congrArg some (by kernel_rfl))
  f337 := Tryz.func262.trans (congrArg some (by kernel_rfl))
  f338 := Tryz.func263.trans (congrArg some (by kernel_rfl))
  t0 := Tryz.underlying0
  a0 := Tryz.isAgg0
  z0 := Tryz.sizeOf0
  v0 := Tryz.zeroValue0
  t2 := Tryz.underlying2
  a2 := Tryz.isAgg2
  z2 := Tryz.sizeOf2
  v2 := Tryz.zeroValue2
  t3 := Tryz.underlying3
  a3 := Tryz.isAgg3
  z3 := Tryz.sizeOf3
  v3 := Tryz.zeroValue3
  t4 := Tryz.underlying4
  a4 := Tryz.isAgg4
  z4 := Tryz.sizeOf4
  v4 := Tryz.zeroValue4
  t5 := Tryz.underlying5
  a5 := Tryz.isAgg5
  z5 := Tryz.sizeOf5
  v5 := Tryz.zeroValue5
  t9 := Tryz.underlying9
  a9 := Tryz.isAgg9
  z9 := Tryz.sizeOf9
  v9 := Tryz.zeroValue9
  t20 := Tryz.underlying20
  a20 := Tryz.isAgg20
  z20 := Tryz.sizeOf20
  v20 := Tryz.zeroValue20
  t37 := Tryz.underlying41
  a37 := Tryz.isAgg41
  z37 := Tryz.sizeOf41
  v37 := Tryz.zeroValue41
  t46 := Tryz.underlying158
  a46 := Tryz.isAgg158
  z46 := Tryz.sizeOf158
  v46 := Tryz.zeroValue158
  t51 := Tryz.underlying214
  a51 := Tryz.isAgg214
  z51 := Tryz.sizeOf214
  v51 := Tryz.zeroValue214
  t53 := Tryz.underlying125
  a53 := Tryz.isAgg125
  z53 := Tryz.sizeOf125
  v53 := Tryz.zeroValue125
  t171 := Tryz.underlying270
  a171 := Tryz.isAgg270
  z171 := Tryz.sizeOf270
  v171 := Tryz.zeroValue270
  t173 := Tryz.underlying273
  a173 := Tryz.isAgg273
  z173 := Tryz.sizeOf273
  v173 := Tryz.zeroValue273
  t212 := Tryz.underlying295
  a212 := Tryz.isAgg295
  z212 := Tryz.sizeOf295
  v212 := Tryz.zeroValue295
  t213 := Tryz.underlying296
  a213 := Tryz.isAgg296
  z213 := Tryz.sizeOf296
  t232 := Tryz.underlying310
  a232 := Tryz.isAgg310
  z232 := Tryz.sizeOf310
  v232 := Tryz.zeroValue310
  t233 := Tryz.underlying311
  a233 := Tryz.isAgg311
  z233 := Tryz.sizeOf311
  v233 := Tryz.zeroValue311
  g17 := by kernel_rfl
  g18 := by kernel_rfl
  g19 := by kernel_rfl
  i0 := by kernel_rfl
  i2 := by kernel_rfl
  i3 := by kernel_rfl
  i4 := by kernel_rfl
  i5 := by kernel_rfl
  i9 := by kernel_rfl
  i20 := by kernel_rfl
  i37 := by kernel_rfl
  i46 := by kernel_rfl
  i51 := by kernel_rfl
  i53 := by kernel_rfl
  i171 := by kernel_rfl
  i173 := by kernel_rfl
  i212 := by kernel_rfl
  i232 := by kernel_rfl
  i233 := by kernel_rfl
  m17 := by kernel_rfl
  m18 := by kernel_rfl
  m19 := by kernel_rfl }
open Go.RowKit Go.Sort Go.Lib in

theorem Tryz.strconv_Itoa (n : Int) (h0 : -9223372036854775808 ≤ n) (h1 : n ≤ 9223372036854775807) (w : World) (htab : Lib.TabIs Tryz.prog w "internal/strconv.uint64pow10" .u64 Lib.pow10Tab) :
    Calls Tryz.prog 116 #[.int .i64 n] w fun e w' => e = .returned (.string ⟨(Lib.itoa n).toArray⟩) ∧ ∃ k os, w' = grow (w.drewN k) os := Any.strconv_Itoa Tryz.laysM171 n h0 h1 w htab
def Tryz.laysM181_ren : Go.Shelf.Ren := ⟨fun | 181 => 146 | n => n, fun | 130 => 231 | 3 => 3 | 0 => 0 | 93 => 190 | 37 => 41 | 91 => 188 | 5 => 5 | n => n, fun | n => n⟩
theorem Tryz.laysM181 : Go.Proofs.LaysM.n181 Tryz.prog Tryz.laysM181_ren := {
  mixed := by kernel_rfl
  f181 := Tryz.func146.trans (congrArg some (by kernel_rfl))
  t0 := Tryz.underlying0
  a0 := Tryz.isAgg0
  z0 := Tryz.sizeOf0
  v0 := Tryz.zeroValue0
  t3 := Tryz.underlying3
  a3 := Tryz.isAgg3
  z3 := Tryz.sizeOf3
  v3 := Tryz.zeroValue3
  t37 := Tryz.underlying41
  a37 := Tryz.isAgg41
  z37 := Tryz.sizeOf41
  v37 := Tryz.zeroValue41
  t93 := Tryz.underlying190
  a93 := Tryz.isAgg190
  z93 := Tryz.sizeOf190
  v93 := Tryz.zeroValue190
  t130 := Tryz.underlying231
  a130 := Tryz.isAgg231
  z130 := Tryz.sizeOf231
  v130 := Tryz.zeroValue231
  t5 := Tryz.underlying5
  a5 := Tryz.isAgg5
  z5 := Tryz.sizeOf5
  v5 := Tryz.zeroValue5
  t91 := Tryz.underlying188
  a91 := Tryz.isAgg188
  z91 := Tryz.sizeOf188
  v91 := Tryz.zeroValue188
  i0 := by kernel_rfl
  i3 := by kernel_rfl
  i5 := by kernel_rfl
  i37 := by kernel_rfl
  i91 := by kernel_rfl
  i93 := by kernel_rfl
  i130 := by kernel_rfl }
open Go.RowKit in

theorem Tryz.Buffer_Len (B b : Nat) (bs : List Value) (w : World) (h : Lib.IsBuffer 190 5 B b bs w) :
    Calls Tryz.prog 146 #[.pointer (some ⟨b, 0, none⟩)] w fun e w' => e = .returned (.int .i64 bs.length) ∧ ∃ n, w' = w.drewN n := Any.Buffer_Len Tryz.laysM181 B b bs w h
def Tryz.laysM183_ren : Go.Shelf.Ren := ⟨fun | 183 => 147 | n => n, fun | 130 => 231 | 37 => 41 | 0 => 0 | 93 => 190 | 3 => 3 | 5 => 5 | 91 => 188 | n => n, fun | n => n⟩
theorem Tryz.laysM183 : Go.Proofs.LaysM.n183 Tryz.prog Tryz.laysM183_ren := {
  mixed := by kernel_rfl
  f183 := Tryz.func147.trans (congrArg some (by kernel_rfl))
  t0 := Tryz.underlying0
  a0 := Tryz.isAgg0
  z0 := Tryz.sizeOf0
  v0 := Tryz.zeroValue0
  t3 := Tryz.underlying3
  a3 := Tryz.isAgg3
  z3 := Tryz.sizeOf3
  v3 := Tryz.zeroValue3
  t37 := Tryz.underlying41
  a37 := Tryz.isAgg41
  z37 := Tryz.sizeOf41
  v37 := Tryz.zeroValue41
  t93 := Tryz.underlying190
  a93 := Tryz.isAgg190
  z93 := Tryz.sizeOf190
  v93 := Tryz.zeroValue190
  t130 := Tryz.underlying231
  a130 := Tryz.isAgg231
  z130 := Tryz.sizeOf231
  v130 := Tryz.zeroValue231
  t5 := Tryz.underlying5
  a5 := Tryz.isAgg5
  z5 := Tryz.sizeOf5
  v5 := Tryz.zeroValue5
  t91 := Tryz.underlying188
  a91 := Tryz.isAgg188
  z91 := Tryz.sizeOf188
  v91 := Tryz.zeroValue188
  i0 := by kernel_rfl
  i3 := by kernel_rfl
  i5 := by kernel_rfl
  i37 := by kernel_rfl
  i91 := by kernel_rfl
  i93 := by kernel_rfl
  i130 := by kernel_rfl }
open Go.RowKit in

theorem Tryz.Buffer_Bytes (B b : Nat) (bs : List Value) (w : World) (h : Lib.IsBuffer 190 5 B b bs w) :
    Calls Tryz.prog 147 #[.pointer (some ⟨b, 0, none⟩)] w fun e w' => ∃ v, e = .returned v ∧ w'.ownsRow B 5 1 v bs.length bs ∧ ∃ n, w' = w.drewN n := Any.Buffer_Bytes Tryz.laysM183 B b bs w h
def Tryz.laysC172_ren : Go.Shelf.Ren := ⟨fun | 172 => 143 | 244 => 194 | 245 => 195 | 247 => 223 | 279 => 224 | 280 => 225 | 281 => 226 | 282 => 227 | 287 => 245 | 316 => 246 | 171 => 116 | 205 => 247 | 321 => 260 | 322 => 261 | 243 => 168 | 246 => 204 | 283 => 234 | 284 => 235 | 285 => 236 | 286 => 237 | 129 => 252 | 317 => 251 | 318 => 253 | 319 => 254 | 320 => 255 | 337 => 262 | 338 => 263 | n => n, fun | 9 => 9 | 3 => 3 | 75 => 43 | 76 => 44 | 4 => 4 | 5 => 5 | 167 => 262 | 37 => 41 | 0 => 0 | 85 => 263 | 2 => 2 | 168 => 265 | 53 => 125 | 175 => 288 | 46 => 158 | 210 => 291 | 127 => 245 | 145 => 304 | 143 => 302 | 21 => 21 | 171 => 270 | 173 => 273 | 212 => 295 | 51 => 214 | 20 => 20 | 213 => 296 | 232 => 310 | 233 => 311 | 80 => 200 | n => n, fun | 15 => 5 | 16 => 6 | 17 => 7 | 18 => 9 | 19 => 10 | n => n⟩
theorem Tryz.laysC172 : Go.Proofs.LaysC.n172 Tryz.prog Tryz.laysC172_ren := {
  mixed := by kernel_rfl
  f129 := Tryz.func252.trans (congrArg some (by kernel_rfl))
  f171 := Tryz.func116.trans (congrArg some (by kernel_rfl))
  f172 := Tryz.func143.trans (congrArg some (by kernel_rfl))
  f205 := Tryz.func247.trans (congrArg some (by kernel_rfl))
  f243 := Tryz.func168.trans (congrArg some (by kernel_rfl))
  f244 := Tryz.func194.trans (congrArg some (by kernel_rfl))
  f245 := Tryz.func195.trans (congrArg some (by kernel_rfl))
  f246 := Tryz.func204.trans (congrArg some (by kernel_rfl))
  f247 := Tryz.func223.trans (congrArg some (by kernel_rfl))
  f279 := Tryz.func224.trans (congrArg some (by kernel_rfl))
  f280 := Tryz.func225.trans (congrArg some (by kernel_rfl))
  f281 := Tryz.func226.trans (congrArg some (by kernel_rfl))
  f282 := Tryz.func227.trans (congrArg some (by kernel_rfl))
  f283 := Tryz.func234.trans (congrArg some (by kernel_rfl))
  f284 := Tryz.func235.trans (congrArg some (by kernel_rfl))
  f285 := Tryz.func236.trans (congrArg some (by kernel_rfl))
  f286 := Tryz.func237.trans (congrArg some (by kernel_rfl))
  f287 := Tryz.func245.trans (congrArg some (by kernel_rfl))
  f316 := Tryz.func246.trans (congrArg some (by kernel_rfl))
  f317 := Tryz.func251.trans (congrArg some (by kernel_rfl))
  f318 := Tryz.func253.trans (congrArg some (by kernel_rfl))
  f319 := Tryz.func254.trans (congrArg some (by kernel_rfl))
  f320 := Tryz.func255.trans (congrArg some (by kernel_rfl))
  f321 := Tryz.func260.trans (congrArg some (by kernel_rfl))
  f322 := Tryz.func261.trans (congrArg some (by kernel_rfl))
  f337 := Tryz.func262.trans (congrArg some (by kernel_rfl))
  f338 := Tryz.func263.trans (congrArg some (by kernel_rfl))
  t0 := Tryz.underlying0
  a0 := Tryz.isAgg0
  z0 := Tryz.sizeOf0
  v0 := Tryz.zeroValue0
  t2 := Tryz.underlying2
  a2 := Tryz.isAgg2
  z2 := Tryz.sizeOf2
  v2 := Tryz.zeroValue2
  t3 := Tryz.underlying3
  a3 := Tryz.isAgg3
  z3 := Tryz.sizeOf3
  v3 := Tryz.zeroValue3
  t4 := Tryz.underlying4
  a4 := Tryz.isAgg4
  z4 := Tryz.sizeOf4
  v4 := Tryz.zeroValue4
  t5 := Tryz.underlying5
  a5 := Tryz.isAgg5
  z5 := Tryz.sizeOf5
  v5 := Tryz.zeroValue5
  t9 := Tryz.underlying9
  a9 := Tryz.isAgg9
  z9 := Tryz.sizeOf9
  v9 := Tryz.zeroValue9
  t20 := Tryz.underlying20
  a20 := Tryz.isAgg20
  z20 := Tryz.sizeOf20
  v20 := Tryz.zeroValue20
  t21 := Tryz.underlying21
  a21 := Tryz.isAgg21
  z21 := Tryz.sizeOf21
  v21 := Tryz.zeroValue21
  t37 := Tryz.underlying41
  a37 := Tryz.isAgg41
  z37 := Tryz.sizeOf41
  v37 := Tryz.zeroValue41
  t46 := Tryz.underlying158
  a46 := Tryz.isAgg158
  z46 := Tryz.sizeOf158
  v46 := Tryz.zeroValue158
  t51 := Tryz.underlying214
  a51 := Tryz.isAgg214
  z51 := Tryz.sizeOf214
  v51 := Tryz.zeroValue214
  t53 := Tryz.underlying125
  a53 := Tryz.isAgg125
  z53 := Tryz.sizeOf125
  v53 := Tryz.zeroValue125
  t75 := Tryz.underlying43
  a75 := Tryz.isAgg43
  z75 := Tryz.sizeOf43
  v75 := Tryz.zeroValue43
  t76 := Tryz.underlying44
  a76 := Tryz.isAgg44
  z76 := Tryz.sizeOf44
  v76 := Tryz.zeroValue44
  t85 := Tryz.underlying263
  a85 := Tryz.isAgg263
  z85 := Tryz.sizeOf263
  v85 := Tryz.zeroValue263
  t127 := Tryz.underlying245
  a127 := Tryz.isAgg245
  z127 := Tryz.sizeOf245
  v127 := Tryz.zeroValue245
  t143 := Tryz.underlying302
  a143 := Tryz.isAgg302
  z143 := Tryz.sizeOf302
  v143 := Tryz.zeroValue302
  t145 := Tryz.underlying304
  a145 := Tryz.isAgg304
  z145 := Tryz.sizeOf304
  v145 := Tryz.zeroValue304
  t167 := Tryz.underlying262
  a167 := Tryz.isAgg262
  z167 := Tryz.sizeOf262
  v167 := Tryz.zeroValue262
  t168 := Tryz.underlying265
  a168 := Tryz.isAgg265
  z168 := Tryz.sizeOf265
  v168 := Tryz.zeroValue265
  t171 := Tryz.underlying270
  a171 := Tryz.isAgg270
  z171 := Tryz.sizeOf270
  v171 := Tryz.zeroValue270
  t173 := Tryz.underlying273
  a173 := Tryz.isAgg273
  z173 := Tryz.sizeOf273
  v173 := Tryz.zeroValue273
  t175 := Tryz.underlying288
  a175 := Tryz.isAgg288
  z175 := Tryz.sizeOf288
  v175 := Tryz.zeroValue288
  t210 := Tryz.underlying291
  a210 := Tryz.isAgg291
  z210 := Tryz.sizeOf291
  v210 := Tryz.zeroValue291
  t212 := Tryz.underlying295
  a212 := Tryz.isAgg295
  z212 := Tryz.sizeOf295
  v212 := Tryz.zeroValue295
  t213 := Tryz.underlying296
  a213 := Tryz.isAgg296
  z213 := Tryz.sizeOf296
  t232 := Tryz.underlying310
  a232 := Tryz.isAgg310
  z232 := Tryz.sizeOf310
  v232 := Tryz.zeroValue310
  t233 := Tryz.underlying311
  a233 := Tryz.isAgg311
  z233 := Tryz.sizeOf311
  v233 := Tryz.zeroValue311
  g15 := by kernel_rfl
  g16 := by kernel_rfl
  g17 := by kernel_rfl
  g18 := by kernel_rfl
  g19 := by kernel_rfl
  t80 := Tryz.underlying200
  a80 := Tryz.isAgg200
  z80 := Tryz.sizeOf200
  v80 := Tryz.zeroValue200
  i0 := by kernel_rfl
  i2 := by kernel_rfl
  i3 := by kernel_rfl
  i4 := by kernel_rfl
  i5 := by kernel_rfl
  i9 := by kernel_rfl
  i20 := by kernel_rfl
  i21 := by kernel_rfl
  i37 := by kernel_rfl
  i46 := by kernel_rfl
  i51 := by kernel_rfl
  i53 := by kernel_rfl
  i75 := by kernel_rfl
  i76 := by kernel_rfl
  i80 := by kernel_rfl
  i85 := by kernel_rfl
  i127 := by kernel_rfl
  i143 := by kernel_rfl
  i145 := by kernel_rfl
  i167 := by kernel_rfl
  i168 := by kernel_rfl
  i171 := by kernel_rfl
  i173 := by kernel_rfl
  i175 := by kernel_rfl
  i210 := by kernel_rfl
  i212 := by kernel_rfl
  i232 := by kernel_rfl
  i233 := by kernel_rfl
  m15 := by kernel_rfl
  m16 := by kernel_rfl
  m17 := by kernel_rfl
  m18 := by kernel_rfl
  m19 := by kernel_rfl
  c0 := by kernel_rfl
  c2 := by kernel_rfl
  c3 := by kernel_rfl
  c4 := by kernel_rfl
  c5 := by kernel_rfl
  c9 := by kernel_rfl
  c20 := by kernel_rfl
  c21 := by kernel_rfl
  c37 := by kernel_rfl
  c46 := by kernel_rfl
  c51 := by kernel_rfl
  c53 := by kernel_rfl
  c75 := by kernel_rfl
  c76 := by kernel_rfl
  c80 := by kernel_rfl
  c85 := by kernel_rfl
  c127 := by kernel_rfl
  c143 := by kernel_rfl
  c145 := by kernel_rfl
  c167 := by kernel_rfl
  c168 := by kernel_rfl
  c171 := by kernel_rfl
  c173 := by kernel_rfl
  c175 := by kernel_rfl
  c210 := by kernel_rfl
  c212 := by kernel_rfl
  c213 := by kernel_rfl
  c232 := by kernel_rfl
  c233 := by kernel_rfl }
open Go.RowKit in

theorem Tryz.strconv_Atoi_ok (s : ByteArray) (hmax : s.size ≤ 9223372036854775806) (v : Int) (h : Lib.atoiAll s.data.toList = .ok v) (w : World) :
    Calls Tryz.prog 143 #[.string s] w fun e w' => e = .returned (.tuple #[.int .i64 v, .nilIface]) ∧ (w' = w ∨ ∃ t, w' = Lib.bytesWorld w 5 t) := Any.strconv_Atoi_ok Tryz.laysC172 s hmax v h w
open Go.RowKit in

theorem Tryz.strconv_Atoi_syntax (s : ByteArray) (hlim : s.size ≤ 281474976710656) (h : Lib.atoiAll s.data.toList = Lib.atoiAll []) (ev : Value) (w : World) (hv : w.cell? ⟨5, 0, none⟩ = some ev) (hev : ev = .nilIface ∨ ∃ te pe, ev = .iface te pe) :
    Calls Tryz.prog 143 #[.string s] w fun e w' => ∃ N, e = .returned (.tuple #[.int .i64 (0), .iface 265 (.pointer (some ⟨N, 0, none⟩))]) ∧ w.heap.size ≤ N ∧ w'.heap[N]? = some (.cells #[.string ⟨#[65, 116, 111, 105]⟩, .string s, ev] 291 (0, 0)) ∧ Below w.heap.size w w' := Any.strconv_Atoi_syntax Tryz.laysC172 s hlim h ev w hv hev
open Go.RowKit in

theorem Tryz.strconv_Atoi_range (s : ByteArray) (hlim : s.size ≤ 281474976710656) (h : Lib.atoiAll s.data.toList = .range) (ev : Value) (w : World) (hv : w.cell? ⟨6, 0, none⟩ = some ev) (hev : ev = .nilIface ∨ ∃ te pe, ev = .iface te pe) :
    Calls Tryz.prog 143 #[.string s] w fun e w' => ∃ N, e = .returned (.tuple #[.int .i64 (Lib.atoiSat s.data.toList), .iface 265 (.pointer (some ⟨N, 0, none⟩))]) ∧ w.heap.size ≤ N ∧ w'.heap[N]? = some (.cells #[.string ⟨#[65, 116, 111, 105]⟩, .string s, ev] 291 (0, 0)) ∧ Below w.heap.size w w' := Any.strconv_Atoi_range Tryz.laysC172 s hlim h ev w hv hev
def Tryz.lays145_ren : Go.Shelf.Ren := ⟨fun | 145 => 114 | 220 => 165 | 219 => 203 | 217 => 184 | 225 => 232 | 224 => 123 | 267 => 233 | 266 => 219 | 314 => 250 | n => n, fun | 9 => 9 | 4 => 4 | 59 => 152 | 3 => 3 | 5 => 5 | 46 => 158 | 146 => 215 | 51 => 214 | n => n, fun | 1 => 0 | n => n⟩
theorem Tryz.lays145 : Go.Proofs.Lays.n145 Tryz.prog Tryz.lays145_ren := {
  mixed := by kernel_rfl
  f145 := Tryz.func114.trans (congrArg some (by kernel_rfl))
  f217 := Tryz.func184.trans (congrArg some (by kernel_rfl))
  f219 := Tryz.func203.trans (congrArg some (by kernel_rfl))
  f220 := Tryz.func165.trans (congrArg some (by kernel_rfl))
  f224 := Tryz.func123.trans (congrArg some (by kernel_rfl))
  f225 := Tryz.func232.trans (congrArg some (by kernel_rfl))
  f266 := Tryz.func219.trans (congrArg some (by kernel_rfl))
  f267 := Tryz.func233.trans (congrArg some (by kernel_rfl))
  f314 := Tryz.func250.trans (congrArg some (by kernel_rfl))
  t3 := Tryz.underlying3
  a3 := Tryz.isAgg3
  z3 := Tryz.sizeOf3
  v3 := Tryz.zeroValue3
  t4 := Tryz.underlying4
  a4 := Tryz.isAgg4
  z4 := Tryz.sizeOf4
  v4 := Tryz.zeroValue4
  t5 := Tryz.underlying5
  a5 := Tryz.isAgg5
  z5 := Tryz.sizeOf5
  v5 := Tryz.zeroValue5
  t9 := Tryz.underlying9
  a9 := Tryz.isAgg9
  z9 := Tryz.sizeOf9
  v9 := Tryz.zeroValue9
  t46 := Tryz.underlying158
  a46 := Tryz.isAgg158
  z46 := Tryz.sizeOf158
  v46 := Tryz.zeroValue158
  t51 := Tryz.underlying214
  a51 := Tryz.isAgg214
  z51 := Tryz.sizeOf214
  v51 := Tryz.zeroValue214
  t59 := Tryz.underlying152
  a59 := Tryz.isAgg152
  z59 := Tryz.sizeOf152
  v59 := Tryz.zeroValue152
  t146 := Tryz.underlying215
  a146 := Tryz.isAgg215
  z146 := Tryz.sizeOf215
  v146 := Tryz.zeroValue215
  g1 := by kernel_rfl }
open Go.RowKit Go.Lib in

theorem Tryz.strings_Cut (s sep : ByteArray) (m : Int) (w : World) (hs : s.size < 4294967281) (hm : w.cell? ⟨0, 0, none⟩ = some (.int .i64 m)) :
    Calls Tryz.prog 114 #[.string s, .string sep] w fun e w' => e = .returned (.tuple #[.string ⟨(Lib.cut s.data.toList sep.data.toList).1.toArray⟩, .string ⟨(Lib.cut s.data.toList sep.data.toList).2.1.toArray⟩, .bool (Lib.cut s.data.toList sep.data.toList).2.2]) ∧ ∃ n, w' = w.drewN n := Any.strings_Cut Tryz.lays145 s sep m w hs hm
def Tryz.laysM178_ren : Go.Shelf.Ren := ⟨fun | 178 => 145 | 251 => 196 | 252 => 197 | 181 => 146 | 184 => 228 | 290 => 229 | 324 => 248 | n => n, fun | 130 => 231 | 9 => 9 | 3 => 3 | 75 => 43 | 0 => 0 | 93 => 190 | 91 => 188 | 131 => 93 | 4 => 4 | 37 => 41 | 20 => 20 | 80 => 200 | 5 => 5 | n => n, fun | 14 => 2 | n => n⟩
theorem Tryz.laysM178 : Go.Proofs.LaysM.n178 Tryz.prog Tryz.laysM178_ren := {
  mixed := by kernel_rfl
  f178 := Tryz.func145.trans (congrArg some (by kernel_rfl))
  f181 := Tryz.func146.trans (congrArg some (by kernel_rfl))
  f184 := Tryz.func228.trans (congrArg some (by kernel_rfl))
  f251 := Tryz.func196.trans (congrArg some (by kernel_rfl))
  f252 := Tryz.func197.trans (congrArg some (by kernel_rfl))
  f290 := Tryz.func229.trans (congrArg some (by kernel_rfl))
  f324 := Tryz.func248.trans (congrArg some (by kernel_rfl))
  t0 := Tryz.underlying0
  a0 := Tryz.isAgg0
  z0 := Tryz.sizeOf0
  v0 := Tryz.zeroValue0
  t3 := Tryz.underlying3
  a3 := Tryz.isAgg3
  z3 := Tryz.sizeOf3
  v3 := Tryz.zeroValue3
  t4 := Tryz.underlying4
  a4 := Tryz.isAgg4
  z4 := Tryz.sizeOf4
  v4 := Tryz.zeroValue4
  t9 := Tryz.underlying9
  a9 := Tryz.isAgg9
  z9 := Tryz.sizeOf9
  v9 := Tryz.zeroValue9
  t20 := Tryz.underlying20
  a20 := Tryz.isAgg20
  z20 := Tryz.sizeOf20
  v20 := Tryz.zeroValue20
  t37 := Tryz.underlying41
  a37 := Tryz.isAgg41
  z37 := Tryz.sizeOf41
  v37 := Tryz.zeroValue41
  t75 := Tryz.underlying43
  a75 := Tryz.isAgg43
  z75 := Tryz.sizeOf43
  v75 := Tryz.zeroValue43
  t91 := Tryz.underlying188
  a91 := Tryz.isAgg188
  z91 := Tryz.sizeOf188
  v91 := Tryz.zeroValue188
  t93 := Tryz.underlying190
  a93 := Tryz.isAgg190
  z93 := Tryz.sizeOf190
  v93 := Tryz.zeroValue190
  t130 := Tryz.underlying231
  a130 := Tryz.isAgg231
  z130 := Tryz.sizeOf231
  v130 := Tryz.zeroValue231
  t131 := Tryz.underlying93
  a131 := Tryz.isAgg93
  z131 := Tryz.sizeOf93
  v131 := Tryz.zeroValue93
  g14 := by kernel_rfl
  t5 := Tryz.underlying5
  a5 := Tryz.isAgg5
  z5 := Tryz.sizeOf5
  v5 := Tryz.zeroValue5
  t80 := Tryz.underlying200
  a80 := Tryz.isAgg200
  z80 := Tryz.sizeOf200
  v80 := Tryz.zeroValue200
  i0 := by kernel_rfl
  i3 := by kernel_rfl
  i4 := by kernel_rfl
  i5 := by kernel_rfl
  i9 := by kernel_rfl
  i20 := by kernel_rfl
  i37 := by kernel_rfl
  i75 := by kernel_rfl
  i80 := by kernel_rfl
  i91 := by kernel_rfl
  i93 := by kernel_rfl
  i130 := by kernel_rfl
  i131 := by kernel_rfl
  m14 := by kernel_rfl }
open Go.RowKit in
theorem Tryz.Buffer_WriteString_k (B b : Nat) (bs : List Value) (s : ByteArray) (w : World) (h : Lib.IsBuffer 190 5 B b bs w) (hBw : B ≤ w.heap.size) (h1 : ∀ v ∈ bs, v.oneCell' = true) (hlim : bs.length + s.size ≤ 140737488355328) :
    Calls Tryz.prog 145 #[.pointer (some ⟨b, 0, none⟩), .string s] w fun e w' => e = .returned (.tuple #[.int .i64 s.size, .nilIface]) ∧ Lib.IsBuffer 190 5 B b (bs ++ Lib.byteCells s.data.toList) w' ∧ Below B w w' ∧ Lib.OthersKept 5 (some b) w w' := Any.Buffer_WriteString_k Tryz.laysM178 B b bs s w h hBw h1 hlim
def Tryz.lays99_ren : Go.Shelf.Ren := ⟨fun | 99 => 98 | 206 => 144 | n => n, fun | 9 => 9 | 4 => 4 | 3 => 3 | n => n, fun | n => n⟩
theorem Tryz.lays99 : Go.Proofs.Lays.n99 Tryz.prog Tryz.lays99_ren := {
  mixed := by kernel_rfl
  f99 := Tryz.func98.trans (congrArg some (by kernel_rfl))
  f206 := Tryz.func144.trans (congrArg some (by kernel_rfl))
  t3 := Tryz.underlying3
  a3 := Tryz.isAgg3
  z3 := Tryz.sizeOf3
  v3 := Tryz.zeroValue3
  t4 := Tryz.underlying4
  a4 := Tryz.isAgg4
  z4 := Tryz.sizeOf4
  v4 := Tryz.zeroValue4
  t9 := Tryz.underlying9
  a9 := Tryz.isAgg9
  z9 := Tryz.sizeOf9
  v9 := Tryz.zeroValue9 }
open Go.RowKit Go.Lib in

theorem Tryz.strings_HasPrefix (s p : ByteArray) (w : World) :
    Calls Tryz.prog 98 #[.string s, .string p] w fun e w' => e = .returned (.bool (Lib.hasPrefix s.data.toList p.data.toList)) ∧ w' = w := Any.strings_HasPrefix Tryz.lays99 s p w
def Tryz.lays146_ren : Go.Shelf.Ren := ⟨fun | 146 => 74 | 221 => 125 | 268 => 172 | 138 => 173 | 143 => 174 | 195 => 207 | 197 => 186 | 218 => 208 | 219 => 203 | 260 => 221 | 217 => 184 | 225 => 232 | 224 => 123 | 267 => 233 | 266 => 219 | 314 => 250 | n => n, fun | 9 => 9 | 31 => 117 | 3 => 3 | 4 => 4 | 0 => 0 | 105 => 224 | 21 => 21 | 5 => 5 | 46 => 158 | 119 => 284 | 139 => 287 | 138 => 286 | 146 => 215 | 51 => 214 | n => n, fun | 1 => 0 | 3 => 3 | 4 => 4 | n => n⟩
theorem Tryz.lays146 : Go.Proofs.Lays.n146 Tryz.prog Tryz.lays146_ren := {
  mixed := by kernel_rfl
  f138 := Tryz.func173.trans (congrArg some (by kernel_rfl))
  f143 := Tryz.func174.trans (congrArg some (by kernel_rfl))
  f146 := Tryz.func74.trans (congrArg some (by kernel_rfl))
  f195 := Tryz.func207.trans (congrArg some (by kernel_rfl))
  f197 := Tryz.func186.trans (congrArg some (by kernel_rfl))
  f217 := Tryz.func184.trans (congrArg some (by kernel_rfl))
  f218 := Tryz.func208.trans (congrArg some (by kernel_rfl))
  f219 := Tryz.func203.trans (congrArg some (by kernel_rfl))
  f221 := Tryz.func125.trans (congrArg some (by kernel_rfl))
  f224 := Tryz.func123.trans (congrArg some (by kernel_rfl))
  f225 := Tryz.func232.trans (congrArg some (by kernel_rfl))
  f260 := Tryz.func221.trans (congrArg some (by kernel_rfl))
  f266 := Tryz.func219.trans (congrArg some (by kernel_rfl))
  f267 := Tryz.func233.trans (congrArg some (by kernel_rfl))
  f268 := Tryz.func172.trans (congrArg some (by kernel_rfl))
  f314 := Tryz.func250.trans (congrArg some (by kernel_rfl))
  t0 := Tryz.underlying0
  a0 := Tryz.isAgg0
  z0 := Tryz.sizeOf0
  v0 := Tryz.zeroValue0
  t3 := Tryz.underlying3
  a3 := Tryz.isAgg3
  z3 := Tryz.sizeOf3
  v3 := Tryz.zeroValue3
  t4 := Tryz.underlying4
  a4 := Tryz.isAgg4
  z4 := Tryz.sizeOf4
  v4 := Tryz.zeroValue4
  t5 := Tryz.underlying5
  a5 := Tryz.isAgg5
  z5 := Tryz.sizeOf5
  v5 := Tryz.zeroValue5
  t9 := Tryz.underlying9
  a9 := Tryz.isAgg9
  z9 := Tryz.sizeOf9
  v9 := Tryz.zeroValue9
  t21 := Tryz.underlying21
  a21 := Tryz.isAgg21
  z21 := Tryz.sizeOf21
  v21 := Tryz.zeroValue21
  t31 := Tryz.underlying117
  a31 := Tryz.isAgg117
  z31 := Tryz.sizeOf117
  v31 := Tryz.zeroValue117
  t46 := Tryz.underlying158
  a46 := Tryz.isAgg158
  z46 := Tryz.sizeOf158
  v46 := Tryz.zeroValue158
  t51 := Tryz.underlying214
  a51 := Tryz.isAgg214
  z51 := Tryz.sizeOf214
  v51 := Tryz.zeroValue214
  t105 := Tryz.underlying224
  a105 := Tryz.isAgg224
  z105 := Tryz.sizeOf224
  v105 := Tryz.zeroValue224
  t119 := Tryz.underlying284
  a119 := Tryz.isAgg284
  z119 := Tryz.sizeOf284
  t138 := Tryz.underlying286
  a138 := Tryz.isAgg286
  z138 := Tryz.sizeOf286
  v138 := Tryz.zeroValue286
  t139 := Tryz.underlying287
  a139 := Tryz.isAgg287
  z139 := Tryz.sizeOf287
  v139 := Tryz.zeroValue287
  t146 := Tryz.underlying215
  a146 := Tryz.isAgg215
  z146 := Tryz.sizeOf215
  v146 := Tryz.zeroValue215
  g1 := by kernel_rfl
  g3 := by kernel_rfl
  g4 := by kernel_rfl }
open Go.RowKit Go.Lib in

theorem Tryz.strings_Split (s sep : ByteArray) (m : Int) (w : World) (hs : s.size < 4294967281) (hm : w.cell? ⟨0, 0, none⟩ = some (.int .i64 m)) (h1 : 1 ≤ sep.size) :
    Calls Tryz.prog 74 #[.string s, .string sep] w fun e w' =>
      e = .returned (.slice (some ⟨w.heap.size, 0, none⟩) (Lib.countB s sep + 1) (Lib.countB s sep + 1)) ∧ w' = w.alloc (.cells ((Lib.splitB sep 0 (Lib.countB s sep) s).map Value.string).toArray 9) := Any.strings_Split Tryz.lays146 (by kernel_rfl) s sep m w hs hm h1
def Tryz.lays155_ren : Go.Shelf.Ren := ⟨fun | 155 => 84 | 154 => 133 | 138 => 173 | 165 => 185 | 143 => 174 | 166 => 151 | 197 => 186 | 169 => 153 | 195 => 207 | 218 => 208 | 240 => 198 | 241 => 220 | 219 => 203 | 260 => 221 | 276 => 230 | 277 => 244 | 217 => 184 | 225 => 232 | 224 => 123 | 267 => 233 | 266 => 219 | 314 => 250 | n => n, fun | 9 => 9 | 3 => 3 | 4 => 4 | 72 => 198 | 0 => 0 | 76 => 44 | 105 => 224 | 21 => 21 | 5 => 5 | 70 => 196 | 20 => 20 | 37 => 41 | 75 => 43 | 127 => 245 | 164 => 251 | 46 => 158 | 119 => 284 | 139 => 287 | 138 => 286 | 146 => 215 | 51 => 214 | 80 => 200 | n => n, fun | 1 => 0 | 3 => 3 | 4 => 4 | n => n⟩
theorem Tryz.lays155 : Go.Proofs.Lays.n155 Tryz.prog Tryz.lays155_ren := {
  mixed := by kernel_rfl
  f138 := Tryz.func173.trans (congrArg some (by kernel_rfl))
  f143 := Tryz.func174.trans (congrArg some (by kernel_rfl))
  f154 := Tryz.func133.trans (congrArg some (by kernel_rfl))
  f155 := Tryz.func84.trans (congrArg some (by kernel_rfl))
  f165 := Tryz.func185.trans (congrArg some (by kernel_rfl))
  f166 := Tryz.func151.trans (congrArg some (by kernel_rfl))
  f169 := Tryz.func153.trans (congrArg some (by kernel_rfl))
  f195 := Tryz.func207.trans (congrArg some (by kernel_rfl))
  f197 := Tryz.func186.trans (congrArg some (by kernel_rfl))
  f217 := Tryz.func184.trans (congrArg some (by kernel_rfl))
  f218 := Tryz.func208.trans (congrArg some (by kernel_rfl))
  f219 := Tryz.func203.trans (congrArg some (by kernel_rfl))
  f224 := Tryz.func123.trans (congrArg some (by kernel_rfl))
  f225 := Tryz.func232.trans (congrArg some (by kernel_rfl))
  f240 := Tryz.func198.trans (congrArg some (by kernel_rfl))
  f241 := Tryz.func220.trans (congrArg some (by kernel_rfl))
  f260 := Tryz.func221.trans (congrArg some (by kernel_rfl))
  f266 := Tryz.func219.trans (congrArg some (by kernel_rfl))
  f267 := Tryz.func233.trans (congrArg some (by kernel_rfl))
  f276 := Tryz.func230.trans (congrArg some (by kernel_rfl))
  f277 := Tryz.func244.trans (congrArg some (by kernel_rfl))
  f314 := Tryz.func250.trans (congrArg some (by kernel_rfl))
  t0 := Tryz.underlying0
  a0 := Tryz.isAgg0
  z0 := Tryz.sizeOf0
  v0 := Tryz.zeroValue0
  t3 := Tryz.underlying3
  a3 := Tryz.isAgg3
  z3 := Tryz.sizeOf3
  v3 := Tryz.zeroValue3
  t4 := Tryz.underlying4
  a4 := Tryz.isAgg4
  z4 := Tryz.sizeOf4
  v4 := Tryz.zeroValue4
  t5 := Tryz.underlying5
  a5 := Tryz.isAgg5
  z5 := Tryz.sizeOf5
  v5 := Tryz.zeroValue5
  t9 := Tryz.underlying9
  a9 := Tryz.isAgg9
  z9 := Tryz.sizeOf9
  v9 := Tryz.zeroValue9
  t20 := Tryz.underlying20
  a20 := Tryz.isAgg20
  z20 := Tryz.sizeOf20
  v20 := Tryz.zeroValue20
  t21 := Tryz.underlying21
  a21 := Tryz.isAgg21
  z21 := Tryz.sizeOf21
  v21 := Tryz.zeroValue21
  t37 := Tryz.underlying41
  a37 := Tryz.isAgg41
  z37 := Tryz.sizeOf41
  v37 := Tryz.zeroValue41
  t46 := Tryz.underlying158
  a46 := Tryz.isAgg158
  z46 := Tryz.sizeOf158
  v46 := Tryz.zeroValue158
  t51 := Tryz.underlying214
  a51 := Tryz.isAgg214
  z51 := Tryz.sizeOf214
  v51 := Tryz.zeroValue214
  t70 := Tryz.underlying196
  a70 := Tryz.isAgg196
  z70 := Tryz.sizeOf196
  v70 := Tryz.zeroValue196
  t72 := Tryz.underlying198
  a72 := Tryz.isAgg198
  z72 := Tryz.sizeOf198
  v72 := Tryz.zeroValue198
  t75 := Tryz.underlying43
  a75 := Tryz.isAgg43
  z75 := Tryz.sizeOf43
  v75 := Tryz.zeroValue43
  t76 := Tryz.underlying44
  a76 := Tryz.isAgg44
  z76 := Tryz.sizeOf44
  v76 := Tryz.zeroValue44
  t105 := Tryz.underlying224
  a105 := Tryz.isAgg224
  z105 := Tryz.sizeOf224
  v105 := Tryz.zeroValue224
  t119 := Tryz.underlying284
  a119 := Tryz.isAgg284
  z119 := Tryz.sizeOf284
  t127 := Tryz.underlying245
  a127 := Tryz.isAgg245
  z127 := Tryz.sizeOf245
  v127 := Tryz.zeroValue245
  t138 := Tryz.underlying286
  a138 := Tryz.isAgg286
  z138 := Tryz.sizeOf286
  v138 := Tryz.zeroValue286
  t139 := Tryz.underlying287
  a139 := Tryz.isAgg287
  z139 := Tryz.sizeOf287
  v139 := Tryz.zeroValue287
  t146 := Tryz.underlying215
  a146 := Tryz.isAgg215
  z146 := Tryz.sizeOf215
  v146 := Tryz.zeroValue215
  t164 := Tryz.underlying251
  a164 := Tryz.isAgg251
  z164 := Tryz.sizeOf251
  v164 := Tryz.zeroValue251
  g1 := by kernel_rfl
  g3 := by kernel_rfl
  g4 := by kernel_rfl }
theorem Tryz.Builder_Extra_155 : Builder.Extra Tryz.prog Tryz.lays155_ren := {
  sizeBuilder := by kernel_rfl
  liesBuilder := by kernel_rfl
  t5 := Tryz.underlying5
  a5 := Tryz.isAgg5
  z5 := Tryz.sizeOf5
  v5 := Tryz.zeroValue5
  infoByte := by kernel_rfl
  cellsByte := by kernel_rfl
  sizeByte := by kernel_rfl
  neB5 := by decide }
open Go.RowKit Go.Lib in

theorem Tryz.strings_ReplaceAll (s old new : ByteArray) (m : Int) (w : World) (hs : s.size < 4294967281) (hm : w.cell? ⟨0, 0, none⟩ = some (.int .i64 m)) (h1 : 1 ≤ old.size) (hlen : s.size + Lib.countB s old * new.size ≤ 140737488355328) :
    Calls Tryz.prog 84 #[.string s, .string old, .string new] w fun e w' =>
      e = .returned (.string ⟨(Lib.replaceAll s.data.toList old.data.toList new.data.toList).toArray⟩) ∧ Below w.heap.size w w' := Any.strings_ReplaceAll Tryz.lays155 Tryz.Builder_Extra_155 s old new m w hs hm h1 hlen
def Tryz.laysSlH10_f163_ren : Go.Shelf.Ren := ⟨fun | 10 => 163 | 6 => 202 | n => n, fun | 22 => 117 | 23 => 9 | 25 => 60 | 3 => 3 | 4 => 4 | 0 => 0 | n => n, fun | n => n⟩
theorem Tryz.laysSlH10_f163 : Go.Proofs.SlLaysH.n10 Tryz.prog Tryz.laysSlH10_f163_ren := {
  mixed := by kernel_rfl
  f6 := ⟨Tryz.f202.name, by decide, Tryz.func202.trans (congrArg some (by kernel_rfl))⟩
  f10 := ⟨Tryz.f163.name, by decide, Tryz.func163.trans (congrArg some (by kernel_rfl))⟩
  t0 := Tryz.underlying0
  a0 := Tryz.isAgg0
  z0 := Tryz.sizeOf0
  v0 := Tryz.zeroValue0
  t3 := Tryz.underlying3
  a3 := Tryz.isAgg3
  z3 := Tryz.sizeOf3
  v3 := Tryz.zeroValue3
  t4 := Tryz.underlying4
  a4 := Tryz.isAgg4
  z4 := Tryz.sizeOf4
  v4 := Tryz.zeroValue4
  t22 := Tryz.underlying117
  a22 := Tryz.isAgg117
  z22 := Tryz.sizeOf117
  v22 := Tryz.zeroValue117
  a23 := Tryz.isAgg9
  z23 := Tryz.sizeOf9
  t25 := Tryz.underlying60
  a25 := Tryz.isAgg60
  z25 := Tryz.sizeOf60
  v25 := Tryz.zeroValue60 }
open Go.RowKit Go.Lib Go.Sort in
theorem Tryz.slices_DeleteFunc {α : Type} [Inhabited α] (enc : α → Value) (hO : OneCell enc) (p : α → Bool) (g : Nat) (lb : Array Value) (eg : ∀ args w, (callFunc g args).run Tryz.prog w = .ok (.enter g args) w) (zr : α) (v23 : ∀ w, (zeroValue 9).run Tryz.prog w = .ok (enc zr) w) (blk off cap : Nat) (d : Array α) (w : World) (hp : PredAt Tryz.prog g lb enc p w) (hpo : PredOver Tryz.prog g lb enc p blk off d.size w) (hH : Holds enc w blk off d) (hsz : d.size ≤ 9223372036854775807) (hcap : d.size ≤ cap) :
    Calls Tryz.prog 163 #[.slice (some ⟨blk, off, none⟩) d.size cap, .func (.func g) #[] lb] w fun e w' => e = .returned (.slice (some ⟨blk, off, none⟩) (d.toList.filter fun x => !p x).length cap) ∧ ∃ q, w' = putRow enc (Sort.ahead w q) blk off ((d.toList.filter fun x => !p x) ++ List.replicate (d.size - (d.toList.filter fun x => !p x).length) zr).toArray := AnyE.slices_DeleteFunc Tryz.laysSlH10_f163 enc hO p g lb eg zr v23 blk off cap d w hp hpo hH hsz hcap
end Go.Proofs


namespace Go.Proofs.YtaakgjbdknobbaaGreatDoor
open Go.RowKit
structure StdW (w : World) : Prop where
  max : ∃ m, w.cell? ⟨0, 0, none⟩ = some (.int .i64 m)
  tab : Lib.TabIs Tryz.prog w "internal/strconv.uint64pow10" .u64 Lib.pow10Tab
  syn : ∃ tp p, w.cell? ⟨5, 0, none⟩ = some (.iface tp p)
  rng : ∃ tp p, w.cell? ⟨6, 0, none⟩ = some (.iface tp p)
  size : 7 < w.heap.size
theorem gPow : Tryz.prog.globalNamed "internal/strconv.uint64pow10" = some 7 := by kernel_rfl
theorem StdW.below {w w' : World} (h : StdW w) (hb : Below w.heap.size w w') : StdW w' := by
  obtain ⟨⟨m, hm⟩, ht, ⟨a, b, hs⟩, ⟨c, d, hr⟩, hz⟩ := h
  exact ⟨⟨m, (hb.cell (World.block_lt_of_cell? _ _ hm)).trans hm⟩, var?_below hb gPow hz ht, ⟨a, b, (hb.cell (World.block_lt_of_cell? _ _ hs)).trans hs⟩,
    ⟨c, d, (hb.cell (World.block_lt_of_cell? _ _ hr)).trans hr⟩, Nat.lt_of_lt_of_le hz hb.size⟩
theorem below_drewN (w : World) (n : Nat) : Below w.heap.size w (w.drewN n) := ⟨rfl, rfl, rfl, Nat.le_refl _, fun _ _ => rfl⟩
theorem below_grow (w : World) (os : Array Obj) : Below w.heap.size w (Sort.grow w os) :=
  ⟨rfl, rfl, rfl, by simp [Sort.grow], fun k hk => by simp [Sort.grow, Array.getElem?_append, hk]⟩
end Go.Proofs.YtaakgjbdknobbaaGreatDoor


namespace Go.Proofs.YtaakgjbdknobbaaGreatDoor.Num
open Go.Lib
def val (l : List UInt8) : Nat := l.foldl (fun a c => a * 10 + (c.toNat - 48)) 0
theorem val_snoc (l : List UInt8) (c : UInt8) : val (l ++ [c]) = val l * 10 + (c.toNat - 48) := by simp [val]
def canon (l : List UInt8) : Bool := l == decDigits (val l)
def dig (c : UInt8) : Bool := decide (48 ≤ c.toNat) && decide (c.toNat ≤ 57)
theorem dig_iff (c : UInt8) : dig c = true ↔ 48 ≤ c.toNat ∧ c.toNat ≤ 57 := by simp [dig]
theorem ofNat_toNat (k : Nat) (h : k < 10) : (UInt8.ofNat (48 + k)).toNat = 48 + k := by
  rw [UInt8.toNat_ofNat']; omega
theorem val_dec (n : Nat) : val (decDigits n) = n := by
  induction n using Nat.strongRecOn with
  | _ n ih =>
    by_cases h : n < 10
    · rw [decDigits, dif_pos h]
      simp only [val, List.foldl_cons, List.foldl_nil]
      rw [ofNat_toNat n h]; omega
    · rw [decDigits, dif_neg h, val_snoc, ih (n / 10) (by omega), ofNat_toNat _ (by omega)]; omega
theorem canon_dec (n : Nat) : canon (decDigits n) = true := by simp [canon, val_dec]
theorem canon_iff (l : List UInt8) : canon l = true ↔ l = decDigits (val l) := by simp [canon]
theorem dec_digits (n : Nat) : ∀ c ∈ decDigits n, dig c = true := by
  induction n using Nat.strongRecOn with
  | _ n ih =>
    intro c hc
    by_cases h : n < 10
    · rw [decDigits, dif_pos h] at hc
      simp only [List.mem_cons, List.not_mem_nil, or_false] at hc
      subst hc; rw [dig_iff, ofNat_toNat n h]; omega
    · rw [decDigits, dif_neg h, List.mem_append] at hc
      rcases hc with hc | hc
      · exact ih (n / 10) (by omega) c hc
      · simp only [List.mem_cons, List.not_mem_nil, or_false] at hc
        subst hc; rw [dig_iff, ofNat_toNat _ (by omega)]; omega
theorem dec_ne (n : Nat) : decDigits n ≠ [] := by
  intro h
  have := decDigits_length n
  rw [h] at this
  have := nDigits_pos n
  simp at *; omega
def whole (l : List UInt8) (d : Nat) : Option Nat :=
  if l = [] ∨ d < l.length ∨ (1 < l.length ∧ l.head?.map (·.toNat) = some 48) then none
  else if l.all dig then some (val l) else none
theorem nDigits_le (k n : Nat) (h : n < 10 ^ k) (hk : 1 ≤ k) : nDigits n ≤ k := by
  induction k generalizing n with
  | zero => omega
  | succ k ih =>
    by_cases h10 : n < 10
    · rw [nDigits_small h10]; omega
    · rw [nDigits_big h10]
      have : 1 ≤ k := by
        rcases Nat.eq_zero_or_pos k with rfl | h
        · simp at h; omega
        · exact h
      have := ih (n / 10) (by rw [Nat.pow_succ] at h; omega) this
      omega
theorem parse_digits : ∀ (l : List UInt8) (acc : Nat), l.all dig = true → l.foldl (fun a c => a * 10 + (c.toNat - 48)) acc < 9223372036854775808 → parseUint10 acc l = .ok (l.foldl (fun a c => a * 10 + (c.toNat - 48)) acc) := by
  intro l
  induction l with
  | nil => intro acc _ _; rfl
  | cons c r ih =>
    intro acc hall hlt
    simp only [List.all_cons, Bool.and_eq_true] at hall
    have hd := (dig_iff c).1 hall.1
    have mono : ∀ (r : List UInt8) (a : Nat), a ≤ r.foldl (fun a c => a * 10 + (c.toNat - 48)) a := by
      intro r
      induction r with
      | nil => intro a; exact Nat.le_refl _
      | cons x t ih => intro a; exact Nat.le_trans (show a ≤ a * 10 + (x.toNat - 48) by omega) (ih _)
    simp only [List.foldl_cons] at hlt ⊢
    have := mono r (acc * 10 + (c.toNat - 48))
    rw [parseUint10, if_pos hd, if_neg (by omega), if_neg (by omega)]
    exact ih _ hall.2 hlt
theorem atoi_canon (l : List UInt8) (hc : canon l = true) (hv : val l < 9223372036854775808) : atoiAll l = .ok (val l : Int) := by
  have e := (canon_iff l).1 hc
  have hall : l.all dig = true := by rw [e, List.all_eq_true]; exact dec_digits _
  cases l with
  | nil => exact absurd e.symm (dec_ne _)
  | cons c r =>
    have hd : dig c = true := by simp at hall; exact hall.1
    rw [dig_iff] at hd
    have hp := parse_digits (c :: r) 0 hall (by exact hv)
    unfold atoiAll
    simp only
    rw [if_neg (by omega)]
    unfold parseMag
    rw [if_neg (by simp), hp]
    simp only
    have hv' : (c :: r).foldl (fun a c => a * 10 + (c.toNat - 48)) 0 < 9223372036854775808 := hv
    rw [if_neg (by omega), if_neg (by omega), if_neg (by omega)]
    rfl
theorem itoa_val (l : List UInt8) (hc : canon l = true) : itoa (val l : Int) = l := by
  unfold itoa; rw [if_neg (by omega)]; exact ((canon_iff l).1 hc).symm
end Go.Proofs.YtaakgjbdknobbaaGreatDoor.Num


namespace Go.Proofs.YtaakgjbdknobbaaGreatDoor.E
open Go.RowKit Go.Proofs.YtaakgjbdknobbaaGreatDoorW.PrintWords Go.Proofs.YtaakgjbdknobbaaGreatDoorW.PrintLast
set_option linter.unusedVariables false
set_option linter.unusedSimpArgs false
theorem addAt (b o j : Nat) : (⟨b, o, none⟩ : Addr).add j = ⟨b, o + j, none⟩ := by unfold Addr.add; split <;> simp_all
def Itoa.f (a : Int) : Option ByteArray := if -9223372036854775808 ≤ a ∧ a ≤ 9223372036854775807 then some ⟨(Lib.itoa a).toArray⟩ else none
theorem Itoa.calls (a : Int) (r : ByteArray) (w : World) (hS_ : StdW w) (h : Itoa.f a = some r) :
    Calls Tryz.prog 116 #[.int .i64 a] w fun e w' => e = .returned (.string r) ∧ Below w.heap.size w w' := by
  unfold Itoa.f at h
  split at h
  · rename_i hc
    obtain rfl := Option.some.inj h
    refine (Tryz.strconv_Itoa a hc.1 hc.2 w hS_.tab).mono ?_
    rintro e w' ⟨rfl, k, os, rfl⟩
    exact ⟨rfl, below_then (below_drewN w k) (Nat.le_refl _) (below_grow (w.drewN k) os)⟩
  · cases h
def Cut.f (s sep : ByteArray) : Option (ByteArray × ByteArray × Bool) :=
  if s.size < 4294967281 then some (⟨(Lib.cut s.data.toList sep.data.toList).1.toArray⟩, ⟨(Lib.cut s.data.toList sep.data.toList).2.1.toArray⟩, (Lib.cut s.data.toList sep.data.toList).2.2) else none
theorem Cut.calls (s sep : ByteArray) (r1 r2 : ByteArray) (r3 : Bool) (w : World) (hS_ : StdW w) (h : Cut.f s sep = some (r1, r2, r3)) :
    Calls Tryz.prog 114 #[.string s, .string sep] w fun e w' => e = .returned (.tuple #[.string r1, .string r2, .bool r3]) ∧ Below w.heap.size w w' := by
  unfold Cut.f at h
  split at h
  · rename_i hc
    simp only [Option.some.injEq, Prod.mk.injEq] at h
    obtain ⟨rfl, rfl, rfl⟩ := h
    obtain ⟨m, hm⟩ := hS_.max
    refine (Tryz.strings_Cut s sep m w hc hm).mono ?_
    rintro e w' ⟨rfl, n, rfl⟩
    exact ⟨rfl, below_drewN w n⟩
  · cases h
end Go.Proofs.YtaakgjbdknobbaaGreatDoor.E


namespace Go.Proofs.YtaakgjbdknobbaaGreatDoor.E
open Go.RowKit Go.Proofs.YtaakgjbdknobbaaGreatDoorW.PrintWords Go.Proofs.YtaakgjbdknobbaaGreatDoorW.PrintLast
set_option linter.unusedVariables false
set_option linter.unusedSimpArgs false
def atoiV (l : List UInt8) : Int := match Lib.atoiAll l with | .ok v => v | .range => Lib.atoiSat l | _ => 0
def numOk (l : List UInt8) (most : Int) : Bool := match Lib.atoiAll l with | .ok v => decide (0 ≤ v) && (decide (v ≤ most) && (Lib.itoa v == l)) | _ => false
theorem atoi_any (s : ByteArray) (hs : s.size ≤ 281474976710656) (w : World) (hS : StdW w) :
    Calls Tryz.prog 143 #[.string s] w fun e w' => ∃ er : Value, e = .returned (.tuple #[.int .i64 (atoiV s.data.toList), er]) ∧ (match Lib.atoiAll s.data.toList with | .ok _ => er = .nilIface | _ => ∃ N, er = .iface 265 (.pointer (some ⟨N, 0, none⟩))) ∧ Below w.heap.size w w' := by
  unfold atoiV
  rcases h : Lib.atoiAll s.data.toList with v | _ | _
  ·
    refine (Tryz.strconv_Atoi_ok s (by omega) v h w).mono ?_
    rintro e w' ⟨rfl, hw⟩
    refine ⟨_, rfl, rfl, ?_⟩
    rcases hw with rfl | ⟨t, rfl⟩
    · exact Below.refl _ _
    · exact Lib.bytesWorld_below _ _ _
  ·
    obtain ⟨a, b, hs1⟩ := hS.syn
    refine (Tryz.strconv_Atoi_syntax s hs h _ w hs1 (.inr ⟨_, _, rfl⟩)).mono ?_
    rintro e w' ⟨N, rfl, -, -, hb⟩
    exact ⟨_, rfl, ⟨N, rfl⟩, hb⟩
  ·
    obtain ⟨a, b, hs1⟩ := hS.rng
    refine (Tryz.strconv_Atoi_range s hs h _ w hs1 (.inr ⟨_, _, rfl⟩)).mono ?_
    rintro e w' ⟨N, rfl, -, -, hb⟩
    exact ⟨_, rfl, ⟨N, rfl⟩, hb⟩
theorem atoiAll_bounds (l : List UInt8) (v : Int) (h : Lib.atoiAll l = .ok v) : -9223372036854775808 ≤ v ∧ v ≤ 9223372036854775807 := by
  unfold Lib.atoiAll at h
  cases l with
  | nil => cases h
  | cons c r =>
    simp only at h
    split at h
    · cases h
    · cases h
    · rename_i u hu
      have := Lib.parseMag_lt hu
      split at h
      · cases h
      · split at h
        · cases h
        · injection h with h
          split at h <;> omega
end Go.Proofs.YtaakgjbdknobbaaGreatDoor.E


namespace Go.Proofs.YtaakgjbdknobbaaGreatDoor.E
open Go.RowKit Go.Proofs.YtaakgjbdknobbaaGreatDoorW.PrintWords Go.Proofs.YtaakgjbdknobbaaGreatDoorW.PrintLast
set_option linter.unusedVariables false
set_option linter.unusedSimpArgs false
def Join.f (l : List ByteArray) (sep : ByteArray) : Option ByteArray :=
  if (Lib.join (l.map (·.data.toList)) sep.data.toList).length ≤ 140737488355328 ∧ l.length ≤ 140737488355328 then some ⟨(Lib.join (l.map (·.data.toList)) sep.data.toList).toArray⟩ else none
theorem Join.calls (A0 : Option Addr) (c0 : Nat) (l0 : List ByteArray) (sep : ByteArray) (r : ByteArray) (w : World) (hr0 : Kd.C Kd.string w A0 l0.length l0) (hc0 : l0.length ≤ c0) (hS_ : StdW w) (h : Join.f l0 sep = some r) :
    Calls Tryz.prog 167 #[.slice A0 l0.length c0, .string sep] w fun e w' => e = .returned (.string r) ∧ Below w.heap.size w w' := by
  unfold Join.f at h
  split at h
  · rename_i hc
    obtain rfl := Option.some.inj h
    cases l0 with
    | nil =>
      refine (Tryz.strings_Join_none A0 c0 sep w).mono ?_
      rintro e w' ⟨rfl, rfl⟩
      exact ⟨rfl, Below.refl _ _⟩
    | cons x l =>
      obtain ⟨ad, rfl, h0⟩ := Kd.at_string hr0 0 (Int.le_refl _) (by simp)
      have hsp := World.cell?_spot h0
      obtain ⟨b, o, sp⟩ := ad
      have hsp2 : sp = none := by simpa [Addr.add] using hsp
      subst hsp2
      refine Tryz.strings_Join b o c0 (x :: l) sep w (fun j y hj => ?_) ?_ hc.2 hc0 hc.1
      · have hj2 : j < (x :: l).length := (List.getElem?_eq_some_iff.1 hj).1
        obtain ⟨ad2, e2, h2⟩ := Kd.at_string hr0 (j : Int) (by omega) (by omega)
        cases e2
        have hr : rdOf ByteArray.empty (x :: l) (j : Int) = y := by
          unfold rdOf; rw [Int.toNat_natCast, List.getD_eq_getElem?_getD, hj]; rfl
        rw [hr, Int.toNat_natCast, addAt] at h2
        exact h2
      · have := World.block_lt_of_cell? w _ h0
        simpa [Addr.add] using this
  · cases h
def ToLower.f (s : ByteArray) : Option ByteArray := if s.size ≤ 140737488355328 ∧ s.data.toList.all (fun b => decide (b.toNat < 128)) = true then some ⟨(Lib.toLowerA s.data.toList).toArray⟩ else none
theorem ToLower.calls (s r : ByteArray) (w : World) (hS_ : StdW w) (h : ToLower.f s = some r) :
    Calls Tryz.prog 218 #[.string s] w fun e w' => e = .returned (.string r) ∧ Below w.heap.size w w' := by
  unfold ToLower.f at h
  split at h
  · rename_i hc
    obtain rfl := Option.some.inj h
    exact Tryz.strings_ToLower_ascii s w hc.1 (fun j b hb => by
      have := List.all_eq_true.1 hc.2 b (List.mem_of_getElem? hb)
      simpa using this)
  · cases h
end Go.Proofs.YtaakgjbdknobbaaGreatDoor.E


namespace Go.Proofs.YtaakgjbdknobbaaGreatDoor
open Go.RowKit
def kindZ (c : Int) : Int :=
  if c = 46 then 1 else if 48 ≤ c ∧ c ≤ 57 then 2 else if c = 45 then 3 else if 65 ≤ c ∧ c ≤ 90 then 4 else if 97 ≤ c ∧ c ≤ 122 then 4 else 0
theorem kind_any (c : Int) (w : World) (h0 : 0 ≤ c) (h1 : c ≤ 255) :
    Calls Tryz.prog 217 #[.int .u8 c] w fun e w' => e = .returned (.int .i64 (kindZ c)) ∧ w = w' := by
  go_enter Tryz.func217, Tryz.ntmps217
  go_wp2
  all_goals
    go_ret
    refine ⟨?_, rfl⟩
    unfold kindZ
    simp_all
    try omega
end Go.Proofs.YtaakgjbdknobbaaGreatDoor


namespace Go.Proofs.YtaakgjbdknobbaaGreatDoor.E
open Go.RowKit Go.Proofs.YtaakgjbdknobbaaGreatDoorW.PrintWords Go.Proofs.YtaakgjbdknobbaaGreatDoorW.PrintLast
set_option linter.unusedVariables false
set_option linter.unusedSimpArgs false
def onlyZ (ks : List Int) (l : List UInt8) : Bool := l.all fun c => ks.contains (kindZ (c.toNat : Int))
theorem take_snoc (s : ByteArray) (k : Nat) (h : k < s.size) : s.data.toList.take (k + 1) = s.data.toList.take k ++ [s[k]] := by
  rw [List.take_succ_eq_append_getElem (by simpa using h)]; rfl
theorem all_snoc (p : UInt8 → Bool) (l : List UInt8) (c : UInt8) : (l ++ [c]).all p = (l.all p && p c) := by simp [List.all_append]
theorem any_take (ks : List Int) (j : Nat) (h : j < ks.length) (q : Int) : (ks.take (j + 1)).contains q = ((ks.take j).contains q || (q == ks[j])) := by
  rw [List.take_succ_eq_append_getElem h]
  rw [List.contains_eq_any_beq, List.any_append, ← List.contains_eq_any_beq]
  simp
theorem all_false (p : UInt8 → Bool) (s : ByteArray) (k : Nat) (h : k < s.size) (hp : p s[k] = false) : s.data.toList.all p = false := by
  rw [List.all_eq_false]
  exact ⟨s[k], by
    have : s[k] = s.data.toList[k]'(by simpa using h) := rfl
    rw [this]; exact List.getElem_mem _, by simp [hp]⟩
set_option maxRecDepth 100000 in
set_option maxHeartbeats 1000000 in
theorem only_any (s : ByteArray) (ks : List Int) (bk c : Nat) (w : World) (hs : s.size ≤ 281474976710656) (hl : ks.length ≤ 1000)
    (hks : ∀ j, j < ks.length → w.cell? ⟨bk, j, none⟩ = some (.int .i64 (ks.getD j 0))) :
    Calls Tryz.prog 181 #[.string s, .slice (some ⟨bk, 0, none⟩) ks.length c] w fun e w' => e = .returned (.bool (onlyZ ks s.data.toList)) ∧ w = w' := by
  have HK := Lib.hid hks
  clear hks
  go_enter Tryz.func181, Tryz.ntmps181
  go_wp2
  go_loop [11] (fun i => ∃ k : Nat, k ≤ s.size ∧ i = .int .i64 k ∧ Hid (onlyZ ks (s.data.toList.take k) = true)) (fun i => s.size - (intOf i).toNat)
  case atStart => exact ⟨0, Nat.zero_le _, rfl, by simp [Hid, onlyZ]⟩
  case round =>
    obtain ⟨k, hk, rfl, HO⟩ := hrel
    by_cases hlt : k < s.size
    · have hk0 : (0 : Int) ≤ (k : Int) := Int.natCast_nonneg _
      have hk1 : (k : Int) < (s.size : Int) := by omega
      go_wp2
      go_loop [6, 16] (fun b j => ∃ (m : Nat), m ≤ ks.length ∧ j = .int .i64 m ∧ b = .bool ((ks.take m).contains (kindZ (s[k].toNat : Int)))) (fun _ j => ks.length - (intOf j).toNat)
      case atStart => exact ⟨0, Nat.zero_le _, rfl, by simp⟩
      case round =>
        obtain ⟨m, hm, rfl, rfl⟩ := hrel
        by_cases hmt : m < ks.length
        · have hc := HK.out m hmt
          have hm0 : (0 : Int) ≤ (m : Int) := Int.natCast_nonneg _
          have hat := Lib.hid (any_take ks m hmt (kindZ (s[k].toNat : Int)))
          have KC := Lib.hid (fun W => kind_any (s[k].toNat : Int) W (by omega) (by have := s[k].toNat_lt; omega))
          cases hb : (ks.take m).contains (kindZ (s[k].toNat : Int))
          · have HB := Lib.hid hb
            clear hb
            go_wp2_with (go_at_call 217; refine (KC.out _).mono ?_; rintro e w' ⟨rfl, rfl⟩)
            all_goals
              go_round
              case rel => exact ⟨m + 1, by omega, by go_num, by first | (rw [hat.out, HB.out]; rfl) | (rw [hat.out, HB.out, Bool.false_or])⟩
              case measure => simp [intOf]; omega
          · have HB := Lib.hid hb
            clear hb
            go_wp2_with (go_at_call 217; refine (KC.out _).mono ?_; rintro e w' ⟨rfl, rfl⟩)
            all_goals
              go_round
              case rel => exact ⟨m + 1, by omega, by go_num, by first | (rw [hat.out, HB.out]; rfl) | (rw [hat.out, HB.out, Bool.false_or])⟩
              case measure => simp [intOf]; omega
        · have hme : m = ks.length := by omega
          subst hme
          rw [List.take_length]
          have hts := take_snoc s k hlt
          have HS : Hid (onlyZ ks (s.data.toList.take (k + 1)) = ks.contains (kindZ (s[k].toNat : Int))) := by
            have := HO.out
            unfold onlyZ at this ⊢
            rw [hts, all_snoc, this, Bool.true_and]; rfl
          clear hts
          cases hb : ks.contains (kindZ (s[k].toNat : Int))
          · have HB := Lib.hid hb
            clear hb
            go_wp2
            go_ret
            have hf : onlyZ ks s.data.toList = false := all_false _ s k hlt HB.out
            exact ⟨by rw [hf]; rfl, rfl⟩
          · have HB := Lib.hid hb
            clear hb
            go_wp2
            go_round
            case rel => exact ⟨k + 1, by omega, by go_num, by rw [HB.out] at HS; exact HS⟩
            case measure => simp [intOf]; omega
    · go_wp2
      go_ret
      have hke : k = s.size := by omega
      subst hke
      refine ⟨?_, rfl⟩
      have := HO.out
      rw [List.take_of_length_le (by simp)] at this
      rw [this]
      rfl
end Go.Proofs.YtaakgjbdknobbaaGreatDoor.E


namespace Go.Proofs.YtaakgjbdknobbaaGreatDoor.E
open Go.RowKit Go.Proofs.YtaakgjbdknobbaaGreatDoorW.PrintWords Go.Proofs.YtaakgjbdknobbaaGreatDoorW.PrintLast
set_option linter.unusedVariables false
set_option linter.unusedSimpArgs false
def ErrIs (w : World) : Value → List (ByteArray × Int) → Int → Prop
  | v, [], c => v = .iface 32 (.int .i64 c)
  | v, (l, a) :: r, c => ∃ b u, v = .iface 159 (.pointer (some ⟨b, 0, none⟩)) ∧ w.cell? ⟨b, 0, none⟩ = some (.string l) ∧ w.cell? ⟨b, 1, none⟩ = some (.int .i64 a) ∧ w.cell? ⟨b, 2, none⟩ = some u ∧ ErrIs w u r c
theorem ErrIs.below {w w' : World} (hb : Below w.heap.size w w') : ∀ {v : Value} {r : List (ByteArray × Int)} {c : Int}, ErrIs w v r c → ErrIs w' v r c
  | _, [], _, h => h
  | _, (l, a) :: r, c, h => by
    obtain ⟨b, u, e, h0, h1, h2, hr⟩ := h
    exact ⟨b, u, e, pw_cell_below hb h0, pw_cell_below hb h1, pw_cell_below hb h2, ErrIs.below hb hr⟩
def hostS : ByteArray := ⟨#[104, 111, 115, 116]⟩
theorem ErrIs.iface {w : World} : ∀ {v : Value} {r : List (ByteArray × Int)} {c : Int}, ErrIs w v r c → ∃ t x, v = .iface t x
  | _, [], _, h => ⟨_, _, h⟩
  | _, (l, a) :: r, c, h => by obtain ⟨b, u, e, _⟩ := h; exact ⟨_, _, e⟩
theorem wrong_walk (at_ : Int) (t : TypeId) (x : Value) (w : World) :
    Calls Tryz.prog 176 #[.int .i64 at_, .iface t x] w fun e w' => e = .returned (.iface 159 (.pointer (some ⟨w.heap.size, 0, none⟩))) ∧ w' = w.alloc (.cells #[.string hostS, .int .i64 at_, .iface t x] 161) := by
  go_enter Tryz.func176, Tryz.ntmps176
  go_wp2
  go_ret
  exact ⟨rfl, rfl⟩
theorem wrong_any (at_ : Int) (er : Value) (r : List (ByteArray × Int)) (c : Int) (w : World) (h : ErrIs w er r c) :
    Calls Tryz.prog 176 #[.int .i64 at_, er] w fun e w' => ∃ v, e = .returned v ∧ ErrIs w' v ((hostS, at_) :: r) c ∧ Below w.heap.size w w' := by
  obtain ⟨t, x, rfl⟩ := h.iface
  refine (wrong_walk at_ t x w).mono ?_
  rintro e w' ⟨rfl, rfl⟩
  have hb : Below w.heap.size w (w.alloc (.cells #[.string hostS, .int .i64 at_, .iface t x] 161)) := (Below.refl _ _).alloc (Nat.le_refl _) _
  exact ⟨_, rfl, ⟨w.heap.size, .iface t x, rfl, by simp, by simp, by simp, ErrIs.below hb h⟩, hb⟩
def parts (s : ByteArray) : List ByteArray := Lib.splitB ⟨#[46]⟩ 0 (Lib.countB s ⟨#[46]⟩) s
theorem parts_pos (s : ByteArray) : 0 < (parts s).length := by
  unfold parts; rw [Lib.splitB_all ⟨#[46]⟩ (Nat.le_refl _) 0 _ s rfl]; omega
theorem split_dots (s : ByteArray) (hs : s.size < 4294967281) (w : World) (hS : StdW w) :
    Calls Tryz.prog 74 #[.string s, .string ⟨#[46]⟩] w fun e w' => e = .returned (.slice (some ⟨w.heap.size, 0, none⟩) (parts s).length (parts s).length) ∧ (∀ j, (h : j < (parts s).length) → w'.cell? ⟨w.heap.size, j, none⟩ = some (.string (parts s)[j])) ∧ w.heap.size < w'.heap.size ∧ Below w.heap.size w w' := by
  obtain ⟨m, hm⟩ := hS.max
  refine (Tryz.strings_Split s ⟨#[46]⟩ m w hs hm (Nat.le_refl _)).mono ?_
  rintro e w' ⟨rfl, rfl⟩
  have hl := Lib.splitB_all ⟨#[46]⟩ (Nat.le_refl _) 0 _ s rfl
  refine ⟨by unfold parts; rw [hl], fun j hj => ?_, by simp, (Below.refl _ _).alloc (Nat.le_refl _) _⟩
  unfold parts at hj ⊢
  rw [World.cell?_alloc_new, List.getElem?_toArray, List.getElem?_map, List.getElem?_eq_getElem hj]
  rfl
end Go.Proofs.YtaakgjbdknobbaaGreatDoor.E


namespace Go.Proofs.YtaakgjbdknobbaaGreatDoor.E
open Go.RowKit Go.Proofs.YtaakgjbdknobbaaGreatDoorW.PrintWords Go.Proofs.YtaakgjbdknobbaaGreatDoorW.PrintLast
set_option linter.unusedVariables false
set_option linter.unusedSimpArgs false
def lblOk (p : List UInt8) : Bool :=
  !p.isEmpty && (decide (p.length ≤ 63) && (onlyZ [2, 3, 4] p && (!((p.headD 0).toNat == 45) && !((p.getLastD 0).toNat == 45))))
def badAt : Nat → List ByteArray → Option Nat
  | _, [] => none
  | at_, p :: r => if lblOk p.data.toList then badAt (at_ + p.size + 1) r else some at_
def sumAt : Nat → List ByteArray → Nat
  | at_, [] => at_
  | at_, p :: r => sumAt (at_ + p.size + 1) r
theorem badAt_append (l : List ByteArray) (p : ByteArray) : ∀ a, badAt a (l ++ [p]) = match badAt a l with | some x => some x | none => if lblOk p.data.toList then none else some (sumAt a l) := by
  induction l with
  | nil => intro a; simp [badAt, sumAt]
  | cons q r ih =>
    intro a
    simp only [List.cons_append, badAt, sumAt]
    split
    · exact ih _
    · rfl
theorem sumAt_append (l : List ByteArray) (p : ByteArray) : ∀ a, sumAt a (l ++ [p]) = sumAt a l + p.size + 1 := by
  induction l with
  | nil => intro a; rfl
  | cons q r ih => intro a; exact ih _
theorem badAt_some (l r : List ByteArray) (x : Nat) : ∀ a, badAt a l = some x → badAt a (l ++ r) = some x := by
  induction l with
  | nil => intro a h; cases h
  | cons q t ih =>
    intro a h
    simp only [List.cons_append, badAt] at h ⊢
    split
    · rename_i hq; rw [if_pos hq] at h; exact ih _ h
    · rename_i hq; rw [if_neg hq] at h; exact h
set_option maxRecDepth 100000 in
set_option maxHeartbeats 2000000 in
theorem parseName_long (s : ByteArray) (hs : 253 < s.size) (hs2 : s.size ≤ 281474976710656) (w : World) :
    Calls Tryz.prog 183 #[.string s] w fun e w' => ∃ v, e = .returned (.tuple #[.string ⟨#[]⟩, v]) ∧ ErrIs w' v [(hostS, 253)] 3 ∧ Below w.heap.size w w' := by
  have HE : ∀ W, ErrIs W (.iface 32 (.int .i64 3)) [] 3 := fun W => rfl
  have HW := Lib.hid (fun W => wrong_any 253 _ [] 3 W (HE W))
  clear HE
  go_enter Tryz.func183, Tryz.ntmps183
  go_wp2_with (go_at_call 176; refine (HW.out _).mono ?_; rintro e w1 ⟨v, rfl, he, hb⟩)
  go_ret2
  exact ⟨v, rfl, he, hb⟩
theorem only3 (p : ByteArray) (hp : p.size ≤ 281474976710656) (W : World) :
    Calls Tryz.prog 181 #[.string p, .slice (some ⟨W.heap.size, 0, none⟩) 3 3] (W.alloc (.cells #[.int .i64 2, .int .i64 3, .int .i64 4] 3)) fun e w' => e = .returned (.bool (onlyZ [2, 3, 4] p.data.toList)) ∧ W.alloc (.cells #[.int .i64 2, .int .i64 3, .int .i64 4] 3) = w' :=
  only_any p [2, 3, 4] W.heap.size 3 _ hp (by decide) (fun j hj => by
    rw [World.cell?_alloc_new]
    match j, hj with
    | 0, _ => rfl
    | 1, _ => rfl
    | 2, _ => rfl)
theorem only1 (p : ByteArray) (hp : p.size ≤ 281474976710656) (W : World) :
    Calls Tryz.prog 181 #[.string p, .slice (some ⟨W.heap.size, 0, none⟩) 1 1] (W.alloc (.cells #[.int .i64 2] 3)) fun e w' => e = .returned (.bool (onlyZ [2] p.data.toList)) ∧ W.alloc (.cells #[.int .i64 2] 3) = w' :=
  only_any p [2] W.heap.size 1 _ hp (by decide) (fun j hj => by
    rw [World.cell?_alloc_new]
    match j, hj with
    | 0, _ => rfl)
def pnRes (s : ByteArray) : (Int × Int) ⊕ ByteArray :=
  if 253 < s.size then .inl (253, 3) else match badAt 0 (parts s) with
    | some a => .inl ((a : Int), 61)
    | none => if onlyZ [2] ((parts s).getLastD ⟨#[]⟩).data.toList then .inl ((sumAt 0 (parts s) : Int) - 1 - ((parts s).getLastD ⟨#[]⟩).size, 63) else .inr ⟨(Lib.toLowerA s.data.toList).toArray⟩
def PNPost (r : (Int × Int) ⊕ ByteArray) (w : World) (e : Ending) (w' : World) : Prop :=
  Below w.heap.size w w' ∧ match r with
    | .inl (a, c) => ∃ v, e = .returned (.tuple #[.string ⟨#[]⟩, v]) ∧ ErrIs w' v [(hostS, a)] c
    | .inr t => e = .returned (.tuple #[.string t, .nilIface])
theorem parts_le (s : ByteArray) : (parts s).length ≤ s.size + 1 := by
  unfold parts; rw [Lib.splitB_all ⟨#[46]⟩ (Nat.le_refl _) 0 _ s rfl]
  have := Lib.countB_le ⟨#[46]⟩ (Nat.le_refl _) s.size s (Nat.le_refl _); omega
theorem size_zero (p : ByteArray) : p.toList.isEmpty = decide (p.size = 0) := by
  rw [ByteArray.toList_eq]
  obtain ⟨⟨l⟩⟩ := p
  cases l <;> rfl
theorem getLast_take (l : List ByteArray) (k : Nat) (h : k < l.length) : (l.take (k + 1)).getLastD ⟨#[]⟩ = l[k] := by
  rw [List.take_succ_eq_append_getElem h, List.getLastD_eq_getLast?, List.getLast?_append]; rfl
theorem head_eq (p : ByteArray) (h : 0 < p.size) : p.data.toList.headD 0 = p[0] := by
  obtain ⟨⟨l⟩⟩ := p
  cases l with
  | nil => simp [ByteArray.size] at h
  | cons c r => rfl
theorem last_eq (p : ByteArray) (h : p.size - 1 < p.size) : p.data.toList.getLastD 0 = p[p.size - 1] := by
  obtain ⟨⟨l⟩⟩ := p
  have hl : l ≠ [] := by rintro rfl; simp [ByteArray.size] at h
  show l.getLastD 0 = l[l.length - 1]
  rw [List.getLastD_eq_getLast?, List.getLast?_eq_some_getLast hl, Option.getD_some, List.getLast_eq_getElem]
set_option maxRecDepth 100000 in
set_option maxHeartbeats 8000000 in
theorem parseName_short (s : ByteArray) (hs : s.size ≤ 253) (hasc : badAt 0 (parts s) = none → s.data.toList.all (fun b => decide (b.toNat < 128)) = true) (hsz : ∀ p ∈ parts s, p.size ≤ 253) (hsum : ∀ k, sumAt 0 ((parts s).take k) ≤ 254) (w : World) (hS : StdW w) :
    Calls Tryz.prog 183 #[.string s] w (PNPost (pnRes s) w) := by
  have HSP := Lib.hid (split_dots s (by omega) w hS)
  have HS := Lib.hid hS
  have HPN := Lib.hid (show pnRes s = _ by unfold pnRes; rw [if_neg (show ¬ 253 < s.size by omega)])
  have HLOW := Lib.hid hasc
  have HSZ := Lib.hid hsz
  have HSUM := Lib.hid hsum
  clear hS hasc hsz hsum
  have HW := Lib.hid (fun a c W => wrong_any a _ [] c W (show ErrIs W (.iface 32 (.int .i64 c)) [] c from rfl))
  have hn0 := parts_pos s
  have hn1 := parts_le s
  go_enter Tryz.func183, Tryz.ntmps183
  go_wp2_with (go_at_call 74; refine HSP.out.mono ?_; rintro e w1 ⟨rfl, hc, hlt1, hb1⟩)
  have HC := Lib.hid hc
  have HB1 := Lib.hid hb1
  clear hc hb1
  generalize hl : parts s = l at HC hn0 hn1 HPN HLOW HSZ HSUM ⊢
  have HL := Lib.hid hl
  clear hl
  go_loopw [4, 5, 16] (fun a z i wr => ∃ (k q : Nat) (y : ByteArray), k ≤ l.length ∧ i = .int .i64 k ∧ a = .int .i64 q ∧ q ≤ 254 ∧ y.size ≤ 253 ∧ z = .string y ∧ Hid (q = sumAt 0 (l.take k)) ∧ Hid (y = (l.take k).getLastD ⟨#[]⟩) ∧ Hid (badAt 0 (l.take k) = none) ∧ Hid (Below w1.heap.size w1 wr)) (fun _ _ i _ => l.length - (intOf i).toNat)
  case atStart => exact ⟨0, 0, ⟨#[]⟩, Nat.zero_le _, rfl, rfl, by omega, by decide, rfl, rfl, rfl, rfl, Lib.hid (Below.refl _ _)⟩
  case round =>
    obtain ⟨k, q, y, hk, rfl, rfl, hq, hy, rfl, HQ, HY, HBA, HBW⟩ := hrel
    by_cases hlt : k < l.length
    · have hk0 : (0 : Int) ≤ (k : Int) := Int.natCast_nonneg _
      have hk1 : (k : Int) < (l.length : Int) := by omega
      have hcell : wr.cell? ⟨w.heap.size, k, none⟩ = some (.string l[k]) := (HBW.out.cell (p := ⟨w.heap.size, k, none⟩) hlt1).trans (HC.out k hlt)
      have hpsz : l[k].size ≤ 253 := HSZ.out _ (List.getElem_mem _)
      have hq1 := HSUM.out (k + 1)
      rw [List.take_succ_eq_append_getElem hlt, sumAt_append, ← HQ.out] at hq1
      have HNX : Hid (badAt 0 (l.take (k + 1)) = if lblOk l[k].data.toList then none else some q) := by
        rw [List.take_succ_eq_append_getElem hlt, badAt_append, HBA.out, ← HQ.out]; exact rfl
      have HQ1 : Hid (q + l[k].size + 1 = sumAt 0 (l.take (k + 1))) := by
        rw [List.take_succ_eq_append_getElem hlt, sumAt_append, ← HQ.out]; exact rfl
      have HY1 : Hid (l[k] = (l.take (k + 1)).getLastD ⟨#[]⟩) := by rw [getLast_take l k hlt]; exact rfl
      generalize l[k] = p at hcell hpsz hq1 HNX HQ1 HY1
      have HBAD : lblOk p.data.toList = false → ∀ (v : Value) (wx : World), ErrIs wx v [(hostS, (q : Int))] 61 → Below w.heap.size w wx → PNPost (pnRes s) w (.returned (.tuple #[.string ⟨#[]⟩, v])) wx := by
        intro hb v wx he hbx
        have h1 := HNX.out
        rw [hb] at h1
        have h2 := badAt_some (l.take (k + 1)) (l.drop (k + 1)) q 0 h1
        rw [List.take_append_drop] at h2
        refine ⟨hbx, ?_⟩
        rw [HPN.out, h2]
        exact ⟨v, rfl, he⟩
      have HBAD' := Lib.hid HBAD
      clear HBAD
      have HBW' : Hid (Below w.heap.size w wr) := Lib.hid (below_then HB1.out (Nat.le_of_lt hlt1) (HBW.out.mono (Nat.le_refl _)))
      by_cases hA : p.size = 0
      · have hA1 : p.toList.isEmpty = true := by rw [size_zero]; simpa using hA
        have HLB := Lib.hid (show lblOk p.data.toList = false by unfold lblOk; rw [← ByteArray.toList_eq, hA1]; rfl)
        clear hA
        go_wp2_with (go_at_call 176; refine (HW.out _ _ _).mono ?_; rintro e w2 ⟨v, rfl, he, hb2⟩)
        go_ret2
        exact HBAD'.out HLB.out v _ he (below_then HBW'.out HBW'.out.size hb2)
      · have hA1 : p.toList.isEmpty = false := by rw [size_zero]; simpa using hA
        have hp0 : (0 : Int) < (p.size : Int) := by omega
        by_cases hB : 63 < p.size
        · have hB1 : (63 : Int) < (p.size : Int) := by omega
          have HLB := Lib.hid (show lblOk p.data.toList = false by
            unfold lblOk; rw [show decide (p.data.toList.length ≤ 63) = false from decide_eq_false (by rw [← Lib.size_eq]; omega)]; simp)
          go_wp2_with (go_at_call 176; refine (HW.out _ _ _).mono ?_; rintro e w2 ⟨v, rfl, he, hb2⟩)
          go_ret2
          exact HBAD'.out HLB.out v _ he (below_then HBW'.out HBW'.out.size hb2)
        · have hB1 : (p.size : Int) ≤ 63 := by omega
          have HO3 := Lib.hid (only3 p (by omega))
          cases hC : onlyZ [2, 3, 4] p.data.toList
          · have HLB := Lib.hid (show lblOk p.data.toList = false by unfold lblOk; rw [hC]; simp)
            rw [hC] at HO3
            clear hC
            go_wp2_with (first | (go_at_call 181; refine (HO3.out _).mono ?_; rintro e w2 ⟨rfl, rfl⟩) | (go_at_call 176; refine (HW.out _ _ _).mono ?_; rintro e w2 ⟨v, rfl, he, hb2⟩))
            go_ret2
            exact HBAD'.out HLB.out v _ he (below_then (below_alloc HBW'.out _) (below_alloc HBW'.out _).size hb2)
          · rw [hC] at HO3
            have HC3 := Lib.hid hC
            clear hC
            have hp1 : p.size - 1 < p.size := by omega
            have hp2 : (0 : Int) ≤ (p.size : Int) - 1 := by omega
            have hp3 : (p.size : Int) - 1 < (p.size : Int) := by omega
            have hpp : 0 < p.size := by omega
            have HHE := Lib.hid (head_eq p hpp)
            have HLE := Lib.hid (last_eq p hp1)
            cases hD : (((p[0]).toNat : Int) == 45)
            · cases hE : (((p[p.size - 1]).toNat : Int) == 45)
              · have HLB := Lib.hid (show lblOk p.data.toList = true by
                  unfold lblOk; rw [HLE.out, HHE.out, HC3.out]
                  have e1 : ((p[0]).toNat == 45) = false := by rw [beq_eq_false_iff_ne] at hD ⊢; omega
                  have e2 : ((p[p.size - 1]).toNat == 45) = false := by rw [beq_eq_false_iff_ne] at hE ⊢; omega
                  have e3 : p.data.toList.isEmpty = false := by rw [← ByteArray.toList_eq]; exact hA1
                  rw [e1, e2, e3, show decide (p.data.toList.length ≤ 63) = true from decide_eq_true (by rw [← Lib.size_eq]; omega)]; rfl)
                clear hA
                go_wp2_with (go_at_call 181; refine (HO3.out _).mono ?_; rintro e w2 ⟨rfl, rfl⟩)
                go_roundw
                case rel => exact ⟨k + 1, q + p.size + 1, p, by omega, by go_num, by go_num, by omega, by omega, rfl, HQ1, HY1, by rw [HLB.out] at HNX; exact HNX, Lib.hid (below_then HBW.out HBW.out.size (by exact below_alloc (Below.refl _ _) _))⟩
                case measure => simp [intOf]; omega
              · have HLB := Lib.hid (show lblOk p.data.toList = false by
                  unfold lblOk; rw [HLE.out]
                  have : ((p[p.size - 1]).toNat == 45) = true := by rw [beq_iff_eq] at hE ⊢; omega
                  rw [this]; simp)
                clear hA
                go_wp2_with (first | (go_at_call 181; refine (HO3.out _).mono ?_; rintro e w2 ⟨rfl, rfl⟩) | (go_at_call 176; refine (HW.out _ _ _).mono ?_; rintro e w2 ⟨v, rfl, he, hb2⟩))
                go_ret2
                exact HBAD'.out HLB.out v _ he (below_then (below_alloc HBW'.out _) (below_alloc HBW'.out _).size hb2)
            · have HLB := Lib.hid (show lblOk p.data.toList = false by
                unfold lblOk; rw [HHE.out]
                have : ((p[0]).toNat == 45) = true := by rw [beq_iff_eq] at hD ⊢; omega
                rw [this]; simp)
              clear hA
              go_wp2_with (first | (go_at_call 181; refine (HO3.out _).mono ?_; rintro e w2 ⟨rfl, rfl⟩) | (go_at_call 176; refine (HW.out _ _ _).mono ?_; rintro e w2 ⟨v, rfl, he, hb2⟩))
              go_ret2
              exact HBAD'.out HLB.out v _ he (below_then (below_alloc HBW'.out _) (below_alloc HBW'.out _).size hb2)
    · have hke : k = l.length := by omega
      subst hke
      rw [List.take_length] at HQ HY HBA
      have HBW' : Hid (Below w.heap.size w wr) := Lib.hid (below_then HB1.out (Nat.le_of_lt hlt1) (HBW.out.mono (Nat.le_refl _)))
      have HO1 := Lib.hid (only1 y (by omega))
      have hend : pnRes s = if onlyZ [2] y.data.toList then .inl ((q : Int) - 1 - y.size, 63) else .inr ⟨(Lib.toLowerA s.data.toList).toArray⟩ := by
        rw [HPN.out, HBA.out]
        simp only [← HY.out, ← HQ.out]
      have HEND := Lib.hid hend
      clear hend
      cases hC : onlyZ [2] y.data.toList
      · rw [hC] at HO1 HEND
        clear hC
        have HLW := Lib.hid (ToLower.calls s ⟨(Lib.toLowerA s.data.toList).toArray⟩)
        have HF := Lib.hid (show ToLower.f s = some ⟨(Lib.toLowerA s.data.toList).toArray⟩ by unfold ToLower.f; rw [if_pos ⟨by omega, HLOW.out HBA.out⟩])
        go_wp2_with (first | (go_at_call 181; refine (HO1.out _).mono ?_; rintro e w2 ⟨rfl, rfl⟩) | (go_at_call 218; refine (HLW.out _ (StdW.below HS.out (below_alloc HBW'.out _)) HF.out).mono ?_; rintro e w3 ⟨rfl, hb3⟩))
        go_ret2
        refine ⟨below_then (below_alloc HBW'.out _) (below_alloc HBW'.out _).size hb3, ?_⟩
        rw [HEND.out]
        rfl
      · rw [hC] at HO1 HEND
        clear hC
        go_wp2_with (first | (go_at_call 181; refine (HO1.out _).mono ?_; rintro e w2 ⟨rfl, rfl⟩) | (go_at_call 176; refine (HW.out _ _ _).mono ?_; rintro e w2 ⟨v, rfl, he, hb2⟩))
        go_ret2
        refine ⟨below_then (below_alloc HBW'.out _) (below_alloc HBW'.out _).size hb2, ?_⟩
        rw [HEND.out]
        exact ⟨v, rfl, he⟩
end Go.Proofs.YtaakgjbdknobbaaGreatDoor.E


namespace Go.Proofs.YtaakgjbdknobbaaGreatDoor.Pt
open Go.Lib
def cutOn (c : UInt8) : List UInt8 → List (List UInt8)
  | [] => [[]]
  | x :: l => if x = c then [] :: cutOn c l else match cutOn c l with
    | [] => [[x]]
    | p :: r => (x :: p) :: r
theorem cutOn_ne (c : UInt8) (l : List UInt8) : cutOn c l ≠ [] := by
  cases l with
  | nil => simp [cutOn]
  | cons x l => unfold cutOn; split; simp; split <;> simp
theorem cutOn_cons (c : UInt8) (l : List UInt8) : ∃ p r, cutOn c l = p :: r := by
  cases h : cutOn c l with
  | nil => exact absurd h (cutOn_ne c l)
  | cons p r => exact ⟨p, r, rfl⟩
theorem splitK_cutOn (c : UInt8) : ∀ s : List UInt8, splitK [c] 0 (count s [c]) s = cutOn c s
  | [] => by
    rw [count_miss (by simp [index])]; rfl
  | b :: l => by
    have ih := splitK_cutOn c l
    by_cases h : b = c
    · subst h
      have hix : index (b :: l) [b] = 0 := by rw [index]; simp [List.isPrefixOf]
      rw [count_cons_eq, Nat.add_comm, splitK, hix]
      simp only [cutOn, if_true]
      rw [← ih]; rfl
    · rw [count_cons_ne b c l h]
      simp only [cutOn, if_neg h]
      have hp : ([c] : List UInt8).isPrefixOf (b :: l) = false := by simp [List.isPrefixOf, Ne.symm h]
      have hix : index (b :: l) [c] = if index l [c] == -1 then -1 else index l [c] + 1 := by rw [index, hp]; simp
      cases hn : count l [c] with
      | zero =>
        rw [hn] at ih
        rw [← ih]; rfl
      | succ m =>
        rw [hn] at ih
        have hm : ¬ index l [c] = -1 := fun e => by rw [count_miss e] at hn; cases hn
        have hge := index_ge l [c]
        obtain ⟨j, hj⟩ : ∃ j : Nat, index l [c] = j := ⟨(index l [c]).toNat, by omega⟩
        have hb : (index l [c] == -1) = false := by rw [beq_eq_false_iff_ne]; exact hm
        rw [← ih]
        unfold splitK
        rw [hix, hb]
        have hb2 : ((index l [c] + 1 : Int) == -1) = false := by rw [beq_eq_false_iff_ne]; omega
        simp only [Bool.false_eq_true, if_false, hb2]
        rw [hj]
        have e1 : ((j : Int) + 1).toNat = j + 1 := by omega
        have e2 : ((j : Int)).toNat = j := by omega
        rw [e1, e2]
        simp
def tot (l : List (List UInt8)) : Nat := (l.map (fun p => p.length + 1)).sum
theorem tot_cutOn (c : UInt8) : ∀ s : List UInt8, tot (cutOn c s) = s.length + 1
  | [] => rfl
  | x :: l => by
    have ih := tot_cutOn c l
    obtain ⟨p, r, e⟩ := cutOn_cons c l
    unfold cutOn
    split
    · show _ + tot (cutOn c l) = _; rw [ih]; simp; omega
    · rw [e] at ih ⊢
      simp only [tot, List.map_cons, List.sum_cons, List.length_cons] at ih ⊢
      omega
theorem cutOn_all (c : UInt8) (P : UInt8 → Bool) (hc : P c = true) : ∀ s : List UInt8, (∀ p ∈ cutOn c s, p.all P = true) → s.all P = true
  | [], _ => rfl
  | x :: l, h => by
    have ih := cutOn_all c P hc l
    obtain ⟨p, r, e⟩ := cutOn_cons c l
    unfold cutOn at h
    split at h
    · rename_i hx
      rw [List.all_cons, hx, hc, Bool.true_and]
      exact ih (fun q hq => h q (List.mem_cons_of_mem _ hq))
    · rw [e] at h ih
      have h1 := h (x :: p) List.mem_cons_self
      rw [List.all_cons, Bool.and_eq_true] at h1 ⊢
      refine ⟨h1.1, ih (fun q hq => ?_)⟩
      rcases List.mem_cons.1 hq with rfl | hq
      · exact h1.2
      · exact h q (List.mem_cons_of_mem _ hq)
theorem cutOn_not_mem (c : UInt8) : ∀ s : List UInt8, ∀ p ∈ cutOn c s, c ∉ p
  | [], p, h => by simp [cutOn] at h; simp [h]
  | x :: l, q, h => by
    have ih := cutOn_not_mem c l
    obtain ⟨p, r, e⟩ := cutOn_cons c l
    unfold cutOn at h
    split at h
    · rcases List.mem_cons.1 h with rfl | h
      · simp
      · exact ih q h
    · rename_i hx
      rw [e] at h ih
      rcases List.mem_cons.1 h with rfl | h
      · intro hm
        rcases List.mem_cons.1 hm with h2 | h2
        · exact hx h2.symm
        · exact ih p List.mem_cons_self h2
      · exact ih q (List.mem_cons_of_mem _ h)
theorem join_cutOn (c : UInt8) : ∀ s : List UInt8, [c].intercalate (cutOn c s) = s
  | [] => rfl
  | x :: l => by
    have ih := join_cutOn c l
    obtain ⟨p, r, e⟩ := cutOn_cons c l
    unfold cutOn
    split
    · rename_i hx
      rw [e] at ih ⊢
      rw [hx, ← ih]
      simp [List.intercalate, List.intersperse]
    · rw [e] at ih ⊢
      rw [← ih]
      cases r <;> simp [List.intercalate, List.intersperse]
end Go.Proofs.YtaakgjbdknobbaaGreatDoor.Pt


namespace Go.Proofs.YtaakgjbdknobbaaGreatDoor.E
open Go.RowKit Go.Proofs.YtaakgjbdknobbaaGreatDoorW.PrintWords Go.Proofs.YtaakgjbdknobbaaGreatDoorW.PrintLast
set_option linter.unusedVariables false
set_option linter.unusedSimpArgs false
theorem parts_data (s : ByteArray) : (parts s).map (·.data.toList) = Pt.cutOn 46 s.data.toList := by
  unfold parts
  rw [Lib.splitB_data, ← Pt.splitK_cutOn]
  first | done | rfl
theorem sumAt_eq (l : List ByteArray) : ∀ a, sumAt a l = a + Pt.tot (l.map (·.data.toList)) := by
  induction l with
  | nil => intro a; rfl
  | cons p r ih =>
    intro a
    rw [sumAt, ih]
    have : (p.data.toList).length = p.size := (Lib.size_eq p).symm
    simp only [Pt.tot, List.map_cons, List.sum_cons, this]; omega
theorem sumAt_parts (s : ByteArray) : sumAt 0 (parts s) = s.size + 1 := by
  rw [sumAt_eq, parts_data, Pt.tot_cutOn, Lib.size_eq]; omega
theorem sumAt_take (l : List ByteArray) (k : Nat) : sumAt 0 (l.take k) ≤ sumAt 0 l := by
  rw [sumAt_eq, sumAt_eq]
  conv => rhs; rw [← List.take_append_drop k l]
  simp only [Pt.tot, List.map_append, List.sum_append]; omega
theorem size_mem (l : List ByteArray) (p : ByteArray) (h : p ∈ l) : p.size + 1 ≤ sumAt 0 l := by
  rw [sumAt_eq]
  induction l with
  | nil => cases h
  | cons q r ih =>
    have hq : (q.data.toList).length = q.size := (Lib.size_eq q).symm
    simp only [Pt.tot, List.map_cons, List.sum_cons, hq] at ih ⊢
    rcases List.mem_cons.1 h with rfl | h
    · omega
    · have := ih h; omega
theorem badAt_none (l : List ByteArray) : ∀ a, badAt a l = none ↔ ∀ p ∈ l, lblOk p.data.toList = true := by
  induction l with
  | nil => intro a; simp [badAt]
  | cons q r ih =>
    intro a
    unfold badAt
    split
    · rename_i h; rw [ih]; simp [h]
    · rename_i h; simp [h]
theorem kind_ascii (c : UInt8) (h : ([2, 3, 4] : List Int).contains (kindZ (c.toNat : Int)) = true) : c.toNat < 128 := by
  unfold kindZ at h
  split at h
  · simp at h
  · split at h
    · omega
    · split at h
      · omega
      · split at h
        · omega
        · split at h
          · omega
          · simp at h
theorem ok_ascii (s : ByteArray) (h : badAt 0 (parts s) = none) : s.data.toList.all (fun b => decide (b.toNat < 128)) = true := by
  refine Pt.cutOn_all 46 _ (by decide) _ fun p hp => ?_
  rw [← parts_data] at hp
  obtain ⟨q, hq, rfl⟩ := List.mem_map.1 hp
  have := (badAt_none _ 0).1 h q hq
  unfold lblOk at this
  simp only [Bool.and_eq_true] at this
  have h2 := this.2.2.1
  unfold onlyZ at h2
  rw [List.all_eq_true] at h2 ⊢
  intro c hc
  exact decide_eq_true (kind_ascii c (h2 c hc))
theorem parseName_any (s : ByteArray) (hs : s.size ≤ 281474976710656) (w : World) (hS : StdW w) :
    Calls Tryz.prog 183 #[.string s] w (PNPost (pnRes s) w) := by
  by_cases h : s.size ≤ 253
  · refine parseName_short s h (ok_ascii s) (fun p hp => ?_) (fun k => ?_) w hS
    · have := size_mem _ p hp; rw [sumAt_parts] at this; omega
    · have := sumAt_take (parts s) k; rw [sumAt_parts] at this; omega
  · refine (parseName_long s (by omega) hs w).mono ?_
    rintro e w' ⟨v, rfl, he, hb⟩
    refine ⟨hb, ?_⟩
    have : pnRes s = .inl (253, 3) := by unfold pnRes; rw [if_pos (by omega)]
    rw [this]
    exact ⟨v, rfl, he⟩
theorem boxCell {w w1 : World} {C : Array Value} {T : TypeId} (hb : Below (w.alloc (.cells C T)).heap.size (w.alloc (.cells C T)) w1) (j : Nat) (v : Value) (h : C[j]? = some v) : w1.cell? ⟨w.heap.size, j, none⟩ = some v :=
  (hb.cell (p := ⟨w.heap.size, j, none⟩) (by simp)).trans ((World.cell?_alloc_new ..).trans h)
def checkB (a b c d : Int) (n : ByteArray) : Bool :=
  if n.size = 0 then true else match pnRes n with
    | .inr t => (t.toList == n.toList) && (a == 0 && (b == 0 && (c == 0 && d == 0)))
    | .inl _ => false
set_option maxRecDepth 100000 in
set_option maxHeartbeats 2000000 in
theorem check_any (a b c d : Int) (n : ByteArray) (hs : n.size ≤ 281474976710656) (w : World) (hS : StdW w) :
    Calls Tryz.prog 166 #[.agg #[.int .u8 a, .int .u8 b, .int .u8 c, .int .u8 d, .string n]] w fun e w' => e = .returned (.bool (checkB a b c d n)) ∧ Below w.heap.size w w' := by
  unfold checkB
  by_cases h0 : n.size = 0
  · have h1 : n.toList.isEmpty = true := by rw [size_zero]; simpa using h0
    rw [if_pos h0]
    go_enter Tryz.func166, Tryz.ntmps166
    go_wp2_with fail
    go_ret
    exact ⟨rfl, below_alloc (Below.refl _ _) _⟩
  · have h1 : n.toList.isEmpty = false := by rw [size_zero]; simpa using h0
    rw [if_neg h0]
    have HPN := Lib.hid (parseName_any n hs)
    have HS := Lib.hid hS
    clear hS
    cases hr : pnRes n with
    | inl x =>
      obtain ⟨xa, xc⟩ := x
      rw [hr] at HPN
      clear hr
      go_enter Tryz.func166, Tryz.ntmps166
      go_wp2_with (go_at_call 183; refine (HPN.out _ (StdW.below HS.out (below_alloc (Below.refl _ _) _))).mono ?_; rintro e w1 ⟨hb, v, rfl, b, u, rfl, -⟩)
      go_ret
      exact ⟨rfl, below_then (below_alloc (Below.refl _ _) _) (below_alloc (Below.refl _ _) _).size hb⟩
    | inr t =>
      rw [hr] at HPN
      clear hr
      go_enter Tryz.func166, Tryz.ntmps166
      go_wp2_with (go_at_call 183; refine (HPN.out _ (StdW.below HS.out (below_alloc (Below.refl _ _) _))).mono ?_; rintro e w1 ⟨hb, rfl⟩; have c0 := boxCell hb 0 _ rfl; have c1 := boxCell hb 1 _ rfl; have c2 := boxCell hb 2 _ rfl; have c3 := boxCell hb 3 _ rfl; have c4 := boxCell hb 4 _ rfl)
      all_goals
        clear c0 c1 c2 c3 c4
        go_ret
        refine ⟨?_, below_then (below_alloc (Below.refl _ _) _) (below_alloc (Below.refl _ _) _).size hb⟩
        clear hb
        first | rfl | (simp [*]; done) | (simp_all; done)
end Go.Proofs.YtaakgjbdknobbaaGreatDoor.E


namespace Go.Proofs.YtaakgjbdknobbaaGreatDoor.E
open Go.RowKit Go.Proofs.YtaakgjbdknobbaaGreatDoorW.PrintWords Go.Proofs.YtaakgjbdknobbaaGreatDoorW.PrintLast
set_option linter.unusedVariables false
set_option linter.unusedSimpArgs false
theorem info_str : (Tryz.prog.info? 9).map (fun i => (i.zero, i.size, i.bytes)) = some (some (.string ⟨#[]⟩), 1, 16) := by kernel_rfl
def it (a : Int) : ByteArray := ⟨(Lib.itoa a).toArray⟩
def addrS (a b c d : Int) : ByteArray := ⟨(Lib.join ([it a, it b, it c, it d].map (·.data.toList)) [46]).toArray⟩
def printB (a b c d : Int) (n : ByteArray) : ByteArray := if checkB a b c d n then (if n.size = 0 then addrS a b c d else n) else ⟨#[]⟩
theorem it_len (a : Int) (h0 : 0 ≤ a) (h1 : a ≤ 255) : (Lib.itoa a).length ≤ 3 := by
  unfold Lib.itoa
  rw [if_neg (by omega), Lib.decDigits_length]
  exact Num.nDigits_le 3 _ (by omega) (by decide)
theorem it_calls (a : Int) (h0 : 0 ≤ a) (h1 : a ≤ 255) (w : World) (hS : StdW w) :
    Calls Tryz.prog 116 #[.int .i64 a] w fun e w' => e = .returned (.string (it a)) ∧ Below w.heap.size w w' :=
  Itoa.calls a (it a) w hS (by unfold Itoa.f; rw [if_pos ⟨by omega, by omega⟩]; rfl)
set_option maxRecDepth 100000 in
set_option maxHeartbeats 4000000 in
theorem print_addr (a b c d : Int) (n : ByteArray) (ha0 : 0 ≤ a) (ha1 : a ≤ 255) (hb0 : 0 ≤ b) (hb1 : b ≤ 255) (hc0 : 0 ≤ c) (hc1 : c ≤ 255) (hd0 : 0 ≤ d) (hd1 : d ≤ 255) (hn : n.size = 0) (w : World) (hS : StdW w) :
    Calls Tryz.prog 115 #[.agg #[.int .u8 a, .int .u8 b, .int .u8 c, .int .u8 d, .string n]] w fun e w' => e = .returned (.string (addrS a b c d)) ∧ Below w.heap.size w w' := by
  have HCK := Lib.hid (fun W (h : StdW W) => check_any a b c d n (by omega) W h)
  have hck : checkB a b c d n = true := by unfold checkB; rw [if_pos hn]
  rw [hck] at HCK
  have hn1 : n.toList.isEmpty = true := by rw [size_zero]; simpa using hn
  have HS := Lib.hid hS
  clear hS hck hn
  have HA := Lib.hid (it_calls a ha0 ha1)
  have HB := Lib.hid (it_calls b hb0 hb1)
  have HC := Lib.hid (it_calls c hc0 hc1)
  have HD := Lib.hid (it_calls d hd0 hd1)
  have i0 : ∀ w, (Instr.index 210 (.agg #[.int .u8 a, .int .u8 b, .int .u8 c, .int .u8 d]) (.int .i64 0)).run Tryz.prog w = .ok (.int .u8 a) w := fun _ => by kernel_rfl
  have i1 : ∀ w, (Instr.index 210 (.agg #[.int .u8 a, .int .u8 b, .int .u8 c, .int .u8 d]) (.int .i64 1)).run Tryz.prog w = .ok (.int .u8 b) w := fun _ => by kernel_rfl
  have i2 : ∀ w, (Instr.index 210 (.agg #[.int .u8 a, .int .u8 b, .int .u8 c, .int .u8 d]) (.int .i64 2)).run Tryz.prog w = .ok (.int .u8 c) w := fun _ => by kernel_rfl
  have i3 : ∀ w, (Instr.index 210 (.agg #[.int .u8 a, .int .u8 b, .int .u8 c, .int .u8 d]) (.int .i64 3)).run Tryz.prog w = .ok (.int .u8 d) w := fun _ => by kernel_rfl
  go_enter Tryz.func115, Tryz.ntmps115
  go_wp2_with (go_at_call 166; refine (HCK.out _ (StdW.below HS.out (below_alloc (Below.refl _ _) _))).mono ?_; rintro e w1 ⟨rfl, hb⟩; have c0 := boxCell hb 0 _ rfl; have c1 := boxCell hb 1 _ rfl; have c2 := boxCell hb 2 _ rfl; have c3 := boxCell hb 3 _ rfl; have c4 := boxCell hb 4 _ rfl)
  have HW1 : Hid (Below w.heap.size w w1) := Lib.hid (below_then (below_alloc (Below.refl _ _) _) (below_alloc (Below.refl _ _) _).size hb)
  clear hb c0 c1 c2 c3 c4
  go_loopw [3, 29] (fun l i wr => ∃ k : Int, 0 ≤ k ∧ k ≤ 4 ∧ i = .int .i64 k ∧ Hid (Kd.R Kd.string 9 wr w.heap.size (fun _ => True) l ([it a, it b, it c, it d].take k.toNat)) ∧ Hid (Below w.heap.size w wr)) (fun _ i _ => 4 - (intOf i).toNat)
  case atStart => exact ⟨0, by omega, by omega, rfl, Lib.hid (Kd.R_nil _ _ _ _ _), HW1⟩
  case round =>
    obtain ⟨k, hk0, hk4, rfl, HR, HWR⟩ := hrel
    by_cases hlt : k < 4
    · have hkk : k = 0 ∨ k = 1 ∨ k = 2 ∨ k = 3 := by omega
      clear hk0 hk4 hlt
      rcases hkk with rfl | rfl | rfl | rfl
      · go_wp2_with (first | (go_at_call 116; refine (HA.out _ (StdW.below HS.out HWR.out)).mono ?_; rintro e w2 ⟨rfl, hb2⟩) | (at_builtin; refine Kd.R_append Kd.string (w0 := w) w.heap.size rfl (.tmp 32) (.tmp 36) 117 9 (.string ⟨#[]⟩) 16 rfl Tryz.underlying117 info_str rfl (by decide) (by omega) u3 ([it a, it b, it c, it d].take 0) (it a) [.string (it a)] (fun _ => True) (fun _ => False) rfl rfl ?aP0 (fun _ hk => hk.elim) ?aF0 ?aO0 ?aB0 ?aS0 ?aL0 ?_; (case aP0 => exact rfl); (case aF0 => exact (fun _ _ => trivial)); (case aO0 => exact Kd.R_below HR.out hb2); (case aB0 => exact below_then HWR.out HWR.out.size hb2); (case aS0 => exact (below_then HWR.out HWR.out.size hb2).size); (case aL0 => simp); intro v3 w3 ho hb3 hg3 hat3))
        go_roundw
        case rel => exact ⟨0 + 1, by omega, by omega, by go_num, Lib.hid (by simpa using ho), Lib.hid hb3⟩
        case measure => simp [intOf]
      · go_wp2_with (first | (go_at_call 116; refine (HB.out _ (StdW.below HS.out HWR.out)).mono ?_; rintro e w2 ⟨rfl, hb2⟩) | (at_builtin; refine Kd.R_append Kd.string (w0 := w) w.heap.size rfl (.tmp 32) (.tmp 36) 117 9 (.string ⟨#[]⟩) 16 rfl Tryz.underlying117 info_str rfl (by decide) (by omega) u3 ([it a, it b, it c, it d].take 1) (it b) [.string (it b)] (fun _ => True) (fun _ => False) rfl rfl ?aP1 (fun _ hk => hk.elim) ?aF1 ?aO1 ?aB1 ?aS1 ?aL1 ?_; (case aP1 => exact rfl); (case aF1 => exact (fun _ _ => trivial)); (case aO1 => exact Kd.R_below HR.out hb2); (case aB1 => exact below_then HWR.out HWR.out.size hb2); (case aS1 => exact (below_then HWR.out HWR.out.size hb2).size); (case aL1 => simp); intro v3 w3 ho hb3 hg3 hat3))
        go_roundw
        case rel => exact ⟨1 + 1, by omega, by omega, by go_num, Lib.hid (by simpa using ho), Lib.hid hb3⟩
        case measure => simp [intOf]
      · go_wp2_with (first | (go_at_call 116; refine (HC.out _ (StdW.below HS.out HWR.out)).mono ?_; rintro e w2 ⟨rfl, hb2⟩) | (at_builtin; refine Kd.R_append Kd.string (w0 := w) w.heap.size rfl (.tmp 32) (.tmp 36) 117 9 (.string ⟨#[]⟩) 16 rfl Tryz.underlying117 info_str rfl (by decide) (by omega) u3 ([it a, it b, it c, it d].take 2) (it c) [.string (it c)] (fun _ => True) (fun _ => False) rfl rfl ?aP2 (fun _ hk => hk.elim) ?aF2 ?aO2 ?aB2 ?aS2 ?aL2 ?_; (case aP2 => exact rfl); (case aF2 => exact (fun _ _ => trivial)); (case aO2 => exact Kd.R_below HR.out hb2); (case aB2 => exact below_then HWR.out HWR.out.size hb2); (case aS2 => exact (below_then HWR.out HWR.out.size hb2).size); (case aL2 => simp); intro v3 w3 ho hb3 hg3 hat3))
        go_roundw
        case rel => exact ⟨2 + 1, by omega, by omega, by go_num, Lib.hid (by simpa using ho), Lib.hid hb3⟩
        case measure => simp [intOf]
      · go_wp2_with (first | (go_at_call 116; refine (HD.out _ (StdW.below HS.out HWR.out)).mono ?_; rintro e w2 ⟨rfl, hb2⟩) | (at_builtin; refine Kd.R_append Kd.string (w0 := w) w.heap.size rfl (.tmp 32) (.tmp 36) 117 9 (.string ⟨#[]⟩) 16 rfl Tryz.underlying117 info_str rfl (by decide) (by omega) u3 ([it a, it b, it c, it d].take 3) (it d) [.string (it d)] (fun _ => True) (fun _ => False) rfl rfl ?aP3 (fun _ hk => hk.elim) ?aF3 ?aO3 ?aB3 ?aS3 ?aL3 ?_; (case aP3 => exact rfl); (case aF3 => exact (fun _ _ => trivial)); (case aO3 => exact Kd.R_below HR.out hb2); (case aB3 => exact below_then HWR.out HWR.out.size hb2); (case aS3 => exact (below_then HWR.out HWR.out.size hb2).size); (case aL3 => simp); intro v3 w3 ho hb3 hg3 hat3))
        go_roundw
        case rel => exact ⟨3 + 1, by omega, by omega, by go_num, Lib.hid (by simpa using ho), Lib.hid hb3⟩
        case measure => simp [intOf]
    · have hk : k = 4 := by omega
      subst hk
      obtain ⟨A0, c0, rfl, hlc, hC⟩ := Kd.R_reads HR.out
      clear HR
      have HCC := Lib.hid hC
      clear hC
      have hx : ([it a, it b, it c, it d].take (4 : Int).toNat) = [it a, it b, it c, it d] := rfl
      rw [hx] at HCC hlc ⊢
      have HJ := Lib.hid (Join.calls A0 c0 [it a, it b, it c, it d] ⟨#[46]⟩ (addrS a b c d))
      have HF := Lib.hid (show Join.f [it a, it b, it c, it d] ⟨#[46]⟩ = some (addrS a b c d) by
        unfold Join.f
        have la := it_len a ha0 ha1
        have lb := it_len b hb0 hb1
        have lc := it_len c hc0 hc1
        have ld := it_len d hd0 hd1
        rw [if_pos]
        · rfl
        · refine ⟨?_, by simp⟩
          simp only [Lib.join, List.intercalate, List.map_cons, List.map_nil, List.intersperse, List.flatten_cons, List.flatten_nil, List.length_append, it, List.append_nil]
          simp only [List.length_cons, List.length_nil]
          omega)
      clear i0 i1 i2 i3 hx
      go_wp2_with (go_at_call 167; refine (HJ.out _ HCC.out hlc (StdW.below HS.out HWR.out) HF.out).mono ?_; rintro e w2 ⟨rfl, hb2⟩)
      go_ret
      exact ⟨rfl, below_then HWR.out HWR.out.size hb2⟩
set_option maxRecDepth 100000 in
set_option maxHeartbeats 4000000 in
theorem print_any (a b c d : Int) (n : ByteArray) (ha0 : 0 ≤ a) (ha1 : a ≤ 255) (hb0 : 0 ≤ b) (hb1 : b ≤ 255) (hc0 : 0 ≤ c) (hc1 : c ≤ 255) (hd0 : 0 ≤ d) (hd1 : d ≤ 255) (hs : n.size ≤ 281474976710656) (w : World) (hS : StdW w) :
    Calls Tryz.prog 115 #[.agg #[.int .u8 a, .int .u8 b, .int .u8 c, .int .u8 d, .string n]] w fun e w' => e = .returned (.string (printB a b c d n)) ∧ Below w.heap.size w w' := by
  by_cases hn : n.size = 0
  · have : printB a b c d n = addrS a b c d := by unfold printB checkB; rw [if_pos hn, if_pos hn]; rfl
    rw [this]
    exact print_addr a b c d n ha0 ha1 hb0 hb1 hc0 hc1 hd0 hd1 hn w hS
  · have hn1 : n.toList.isEmpty = false := by rw [size_zero]; simpa using hn
    have HCK := Lib.hid (fun W (h : StdW W) => check_any a b c d n hs W h)
    have HS := Lib.hid hS
    have HP := Lib.hid (show printB a b c d n = if checkB a b c d n then n else ⟨#[]⟩ by unfold printB; rw [if_neg hn])
    clear hS hn
    cases hb : checkB a b c d n
    all_goals
      rw [hb] at HCK HP
      clear hb
      go_enter Tryz.func115, Tryz.ntmps115
      go_wp2_with (go_at_call 166; refine (HCK.out _ (StdW.below HS.out (below_alloc (Below.refl _ _) _))).mono ?_; rintro e w1 ⟨rfl, hb⟩; have c0 := boxCell hb 0 _ rfl; have c1 := boxCell hb 1 _ rfl; have c2 := boxCell hb 2 _ rfl; have c3 := boxCell hb 3 _ rfl; have c4 := boxCell hb 4 _ rfl)
      go_ret
      exact ⟨by rw [HP.out]; rfl, below_then (below_alloc (Below.refl _ _) _) (below_alloc (Below.refl _ _) _).size hb⟩
end Go.Proofs.YtaakgjbdknobbaaGreatDoor.E


namespace Go.Proofs.YtaakgjbdknobbaaGreatDoor.E
open Go.RowKit Go.Proofs.YtaakgjbdknobbaaGreatDoorW.PrintWords Go.Proofs.YtaakgjbdknobbaaGreatDoorW.PrintLast
set_option linter.unusedVariables false
set_option linter.unusedSimpArgs false
theorem setCell_id (w : World) (b j : Nat) (v : Value) (h : w.cell? ⟨b, j, none⟩ = some v) : w.setCell ⟨b, j, none⟩ v = w := by
  have hh : w.heap.modify b (fun o => match o with
      | .cells c elem frozen => .cells (c.setIfInBounds j v) elem frozen
      | o => o) = w.heap := by
    apply Array.ext_getElem?
    intro k
    rw [Array.getElem?_modify]
    split
    · rename_i e
      subst e
      unfold World.cell? at h
      cases hk : w.heap[b]? with
      | none => rfl
      | some o =>
        rw [hk] at h
        cases o with
        | cells c t fr =>
          simp only [Option.isSome_none, Bool.false_eq_true, if_false] at h
          simp only [Option.map_some, Option.some.injEq, Obj.cells.injEq, and_true]
          apply Array.ext_getElem?
          intro i
          rw [Array.getElem?_setIfInBounds]
          split
          · rename_i e; subst e
            split
            · exact h.symm
            · rename_i hb
              rw [Array.getElem?_eq_none (by omega)] at h; cases h
          · rfl
        | _ => rfl
    · rfl
  exact congrArg (fun h => ({ w with heap := h } : World)) hh
def paLoop (sz : Int) : Int → Int → List ByteArray → List Int → (Int × Int) ⊕ List Int
  | _, _, [], acc => .inr acc
  | i, a, p :: r, acc => if i = 4 then .inl (a, 63) else if numOk p.data.toList 255 = false then .inl (a, 60)
    else if sz < a + p.size + 1 ∧ i < 3 then .inl (sz, 63) else paLoop sz (i + 1) (a + p.size + 1) r (acc ++ [atoiV p.data.toList])
def paRes (s : ByteArray) : (Int × Int) ⊕ List Int := if 253 < s.size then .inl (253, 3) else paLoop s.size 0 0 (parts s) []
def Mem (w wr : World) (acc : List Int) : Prop :=
  (∀ j, j < 4 → wr.cell? ⟨w.heap.size, j, none⟩ = some (.int .u8 0) ∧ wr.frozen? ⟨w.heap.size, j, none⟩ = false) ∧
  (∀ j, j < 4 → wr.cell? ⟨w.heap.size + 1, j, none⟩ = some (.int .u8 (acc.getD j 0)) ∧ wr.frozen? ⟨w.heap.size + 1, j, none⟩ = false) ∧ w.heap.size + 1 < wr.heap.size
theorem Mem.below {w wr w1 : World} {acc : List Int} (h : Mem w wr acc) (hb : Below wr.heap.size wr w1) : Mem w w1 acc := by
  obtain ⟨h0, h1, h2⟩ := h
  refine ⟨fun j hj => ?_, fun j hj => ?_, Nat.lt_of_lt_of_le h2 hb.size⟩
  · obtain ⟨a, b⟩ := h0 j hj
    exact ⟨pw_cell_below hb a, (hb.frozen (p := ⟨w.heap.size, j, none⟩) (by show w.heap.size < _; omega)).trans b⟩
  · obtain ⟨a, b⟩ := h1 j hj
    exact ⟨pw_cell_below hb a, (hb.frozen (p := ⟨w.heap.size + 1, j, none⟩) (by show w.heap.size + 1 < _; omega)).trans b⟩
theorem Mem.put {w wr : World} {acc : List Int} {k : Nat} (h : Mem w wr acc) (hk : acc.length = k) (h4 : k < 4) (v : Int) : Mem w (wr.setCell ⟨w.heap.size + 1, k, none⟩ (.int .u8 v)) (acc ++ [v]) := by
  obtain ⟨h0, h1, h2⟩ := h
  refine ⟨fun j hj => ?_, fun j hj => ?_, by simpa [World.setCell] using h2⟩
  · obtain ⟨a, b⟩ := h0 j hj
    rw [World.frozen?_setCell, World.cell?_setCell_other _ _ _ _ (by intro e; injection e with e; omega)]
    exact ⟨a, b⟩
  · obtain ⟨a, b⟩ := h1 j hj
    rw [World.frozen?_setCell]
    refine ⟨?_, b⟩
    by_cases e : j = k
    · subst e
      rw [World.cell?_setCell_same _ _ _ a]
      simp [List.getD_eq_getElem?_getD, ← hk]
    · rw [World.cell?_setCell_other _ _ _ _ (by intro e2; injection e2 with _ e2; omega), a]
      have : acc.getD j 0 = (acc ++ [v]).getD j 0 := by
        rw [List.getD_eq_getElem?_getD, List.getD_eq_getElem?_getD]
        by_cases hl : j < acc.length
        · rw [List.getElem?_append_left hl]
        · rw [List.getElem?_append_right (by omega), List.getElem?_eq_none (by omega), List.getElem?_eq_none (by simp; omega)]
      rw [this]
theorem Mem.zero {w wr : World} {acc : List Int} (h : Mem w wr acc) :
    wr.cell? ⟨w.heap.size, 0, none⟩ = some (.int .u8 0) ∧ wr.cell? ⟨w.heap.size, 1, none⟩ = some (.int .u8 0) ∧ wr.cell? ⟨w.heap.size, 2, none⟩ = some (.int .u8 0) ∧ wr.cell? ⟨w.heap.size, 3, none⟩ = some (.int .u8 0) ∧
    wr.frozen? ⟨w.heap.size, 0, none⟩ = false ∧ wr.frozen? ⟨w.heap.size, 1, none⟩ = false ∧ wr.frozen? ⟨w.heap.size, 2, none⟩ = false ∧ wr.frozen? ⟨w.heap.size, 3, none⟩ = false ∧
    wr.setCell ⟨w.heap.size, 0, none⟩ (.int .u8 0) = wr ∧ wr.setCell ⟨w.heap.size, 1, none⟩ (.int .u8 0) = wr ∧ wr.setCell ⟨w.heap.size, 2, none⟩ (.int .u8 0) = wr ∧ wr.setCell ⟨w.heap.size, 3, none⟩ (.int .u8 0) = wr := by
  have g := h.1
  exact ⟨(g 0 (by decide)).1, (g 1 (by decide)).1, (g 2 (by decide)).1, (g 3 (by decide)).1, (g 0 (by decide)).2, (g 1 (by decide)).2, (g 2 (by decide)).2, (g 3 (by decide)).2,
    setCell_id _ _ _ _ (g 0 (by decide)).1, setCell_id _ _ _ _ (g 1 (by decide)).1, setCell_id _ _ _ _ (g 2 (by decide)).1, setCell_id _ _ _ _ (g 3 (by decide)).1⟩
end Go.Proofs.YtaakgjbdknobbaaGreatDoor.E


namespace Go.Proofs.YtaakgjbdknobbaaGreatDoor.E
open Go.RowKit Go.Proofs.YtaakgjbdknobbaaGreatDoorW.PrintWords Go.Proofs.YtaakgjbdknobbaaGreatDoorW.PrintLast
set_option linter.unusedVariables false
set_option linter.unusedSimpArgs false
def numOkP (l : List UInt8) : Bool := match Lib.atoiAll l with | .ok v => (Lib.itoa v == l) && decide (0 ≤ v) | _ => false
theorem numOkP_canon (l : List UInt8) (hc : Num.canon l = true) (hv : Num.val l < 9223372036854775808) : numOkP l = true ∧ atoiV l = (Num.val l : Int) := by
  unfold numOkP atoiV
  rw [Num.atoi_canon l hc hv]
  simp only [Bool.and_eq_true, decide_eq_true_eq, beq_iff_eq, and_true]
  exact ⟨Num.itoa_val l hc, by omega⟩
end Go.Proofs.YtaakgjbdknobbaaGreatDoor.E


namespace Go.Proofs.YtaakgjbdknobbaaGreatDoor.E
open Go.RowKit Go.Proofs.YtaakgjbdknobbaaGreatDoorW.PrintWords Go.Proofs.YtaakgjbdknobbaaGreatDoorW.PrintLast
set_option linter.unusedVariables false
set_option linter.unusedSimpArgs false
def printDestB (a b c d : Int) (n : ByteArray) (po : Int) : ByteArray := if (printB a b c d n).size = 0 ∨ po < 1 ∨ 65535 < po then ⟨#[]⟩ else printB a b c d n ++ ⟨#[58]⟩ ++ it po
set_option maxRecDepth 100000 in
set_option maxHeartbeats 4000000 in
theorem printDest_any (a b c d : Int) (n : ByteArray) (po : Int) (ha0 : 0 ≤ a) (ha1 : a ≤ 255) (hb0 : 0 ≤ b) (hb1 : b ≤ 255) (hc0 : 0 ≤ c) (hc1 : c ≤ 255) (hd0 : 0 ≤ d) (hd1 : d ≤ 255) (hs : n.size ≤ 281474976710656) (hps : (printB a b c d n).size ≤ 281474976710656) (w : World) (hS : StdW w) :
    Calls Tryz.prog 64 #[.agg #[.int .u8 a, .int .u8 b, .int .u8 c, .int .u8 d, .string n, .int .i64 po]] w fun e w' => e = .returned (.string (printDestB a b c d n po)) ∧ Below w.heap.size w w' := by
  have HP := Lib.hid (fun W h => print_any a b c d n ha0 ha1 hb0 hb1 hc0 hc1 hd0 hd1 hs W h)
  have HS := Lib.hid hS
  clear hS hs ha0 ha1 hb0 hb1 hc0 hc1 hd0 hd1
  unfold printDestB
  generalize printB a b c d n = t at HP hps
  by_cases h0 : t.size = 0
  · have h1 : t.toList.isEmpty = true := by rw [size_zero]; simpa using h0
    rw [if_pos (.inl h0)]
    go_enter Tryz.func64, Tryz.ntmps64
    go_wp2_with (go_at_call 115; refine (HP.out _ (StdW.below HS.out (below_alloc (Below.refl _ _) _))).mono ?_; rintro e w1 ⟨rfl, hb⟩)
    go_ret
    exact ⟨rfl, below_then (below_alloc (Below.refl _ _) _) (below_alloc (Below.refl _ _) _).size hb⟩
  · have h1 : t.toList.isEmpty = false := by rw [size_zero]; simpa using h0
    by_cases h2 : po < 1
    · rw [if_pos (.inr (.inl h2))]
      go_enter Tryz.func64, Tryz.ntmps64
      go_wp2_with (go_at_call 115; refine (HP.out _ (StdW.below HS.out (below_alloc (Below.refl _ _) _))).mono ?_; rintro e w1 ⟨rfl, hb⟩; have c5 := boxCell hb 5 _ rfl)
      go_ret
      exact ⟨rfl, below_then (below_alloc (Below.refl _ _) _) (below_alloc (Below.refl _ _) _).size hb⟩
    · by_cases h3 : 65535 < po
      · rw [if_pos (.inr (.inr h3))]
        have h2' : decide (po < 1) = false := decide_eq_false h2
        go_enter Tryz.func64, Tryz.ntmps64
        go_wp2_with (go_at_call 115; refine (HP.out _ (StdW.below HS.out (below_alloc (Below.refl _ _) _))).mono ?_; rintro e w1 ⟨rfl, hb⟩; have c5 := boxCell hb 5 _ rfl)
        go_ret
        exact ⟨rfl, below_then (below_alloc (Below.refl _ _) _) (below_alloc (Below.refl _ _) _).size hb⟩
      · rw [if_neg (fun h => h.elim h0 (fun h => h.elim h2 h3))]
        have h2' : decide (po < 1) = false := decide_eq_false h2
        have h3' : decide (65535 < po) = false := decide_eq_false h3
        have HI := Lib.hid (Itoa.calls po (it po))
        have HF := Lib.hid (show Itoa.f po = some (it po) by unfold Itoa.f; rw [if_pos ⟨by omega, by omega⟩]; rfl)
        have hil : (it po).size ≤ 5 := by
          show (Lib.itoa po).length ≤ 5
          unfold Lib.itoa
          rw [if_neg (by omega), Lib.decDigits_length]
          exact Num.nDigits_le 5 _ (by omega) (by decide)
        go_enter Tryz.func64, Tryz.ntmps64
        go_wp2_with (first | (go_at_call 115; refine (HP.out _ (StdW.below HS.out (below_alloc (Below.refl _ _) _))).mono ?_; rintro e w1 ⟨rfl, hb⟩; have c5 := boxCell hb 5 _ rfl) | (go_at_call 116; refine (HI.out _ (StdW.below (StdW.below HS.out (below_alloc (Below.refl _ _) _)) hb) HF.out).mono ?_; rintro e w2 ⟨rfl, hb2⟩))
        go_ret
        exact ⟨rfl, below_then (below_then (below_alloc (Below.refl _ _) _) (below_alloc (Below.refl _ _) _).size hb) (below_then (below_alloc (Below.refl _ _) _) (below_alloc (Below.refl _ _) _).size hb).size hb2⟩
theorem addrS_size (a b c d : Int) (ha0 : 0 ≤ a) (ha1 : a ≤ 255) (hb0 : 0 ≤ b) (hb1 : b ≤ 255) (hc0 : 0 ≤ c) (hc1 : c ≤ 255) (hd0 : 0 ≤ d) (hd1 : d ≤ 255) : (addrS a b c d).size ≤ 15 := by
  have la := it_len a ha0 ha1
  have lb := it_len b hb0 hb1
  have lc := it_len c hc0 hc1
  have ld := it_len d hd0 hd1
  show (Lib.join ([it a, it b, it c, it d].map (·.data.toList)) [46]).length ≤ 15
  simp only [Lib.join, List.intercalate, List.map_cons, List.map_nil, List.intersperse, List.flatten_cons, List.flatten_nil, List.length_append, it, List.append_nil]
  simp only [List.length_cons, List.length_nil]
  omega
theorem printB_size (a b c d : Int) (n : ByteArray) (ha0 : 0 ≤ a) (ha1 : a ≤ 255) (hb0 : 0 ≤ b) (hb1 : b ≤ 255) (hc0 : 0 ≤ c) (hc1 : c ≤ 255) (hd0 : 0 ≤ d) (hd1 : d ≤ 255) (hs : n.size ≤ 281474976710656) : (printB a b c d n).size ≤ 281474976710656 := by
  have := addrS_size a b c d ha0 ha1 hb0 hb1 hc0 hc1 hd0 hd1
  unfold printB
  split
  · split
    · omega
    · exact hs
  · decide
def hPrintDest.f (a b c d : Int) (n : ByteArray) (po : Int) : Option ByteArray := if (0 ≤ a ∧ a ≤ 255) ∧ (0 ≤ b ∧ b ≤ 255) ∧ (0 ≤ c ∧ c ≤ 255) ∧ (0 ≤ d ∧ d ≤ 255) ∧ n.size ≤ 281474976710656 then some (printDestB a b c d n po) else none
theorem hPrintDest.calls (a b c d : Int) (n : ByteArray) (po : Int) (r : ByteArray) (w : World) (hS_ : StdW w) (h : hPrintDest.f a b c d n po = some r) :
    Calls Tryz.prog 64 #[.agg #[.int .u8 a, .int .u8 b, .int .u8 c, .int .u8 d, .string n, .int .i64 po]] w fun e w' => e = .returned (.string r) ∧ Below w.heap.size w w' := by
  unfold hPrintDest.f at h
  split at h
  · rename_i hc
    obtain rfl := Option.some.inj h
    exact printDest_any a b c d n po hc.1.1 hc.1.2 hc.2.1.1 hc.2.1.2 hc.2.2.1.1 hc.2.2.1.2 hc.2.2.2.1.1 hc.2.2.2.1.2 hc.2.2.2.2 (printB_size a b c d n hc.1.1 hc.1.2 hc.2.1.1 hc.2.1.2 hc.2.2.1.1 hc.2.2.1.2 hc.2.2.2.1.1 hc.2.2.2.1.2 hc.2.2.2.2) w hS_
  · cases h
end Go.Proofs.YtaakgjbdknobbaaGreatDoor.E


namespace Go.Proofs.YtaakgjbdknobbaaGreatDoor.E
open Go.RowKit Go.Proofs.YtaakgjbdknobbaaGreatDoorW.PrintWords Go.Proofs.YtaakgjbdknobbaaGreatDoorW.PrintLast
set_option linter.unusedVariables false
set_option linter.unusedSimpArgs false
def lowI (x : Int) : Int := if 65 ≤ x ∧ x ≤ 90 then x + 32 else x
def lowAt (s : ByteArray) (k j : Nat) : Int := if j < k then lowI (s.data.toList.getD j 0).toNat else (s.data.toList.getD j 0).toNat
theorem lowI_byte (b : UInt8) : lowI b.toNat = (Lib.lowerB b).toNat := by
  have h : ∀ n : Fin 256, lowI (UInt8.ofNat n.1).toNat = (Lib.lowerB (UInt8.ofNat n.1)).toNat := by decide +kernel
  have := h ⟨b.toNat, b.toNat_lt⟩
  simpa using this
def LowMem (s : ByteArray) (R k : Nat) (w : World) : Prop := ∀ j, j < s.size → w.cell? ⟨R, j, none⟩ = some (.int .u8 (lowAt s k j)) ∧ w.frozen? ⟨R, j, none⟩ = false
theorem LowMem.keep {s : ByteArray} {R k : Nat} {w : World} (h : LowMem s R k w) (hk : lowI (s.data.toList.getD k 0).toNat = (s.data.toList.getD k 0).toNat) : LowMem s R (k + 1) w := fun j hj => by
  have e : lowAt s (k + 1) j = lowAt s k j := by
    unfold lowAt
    by_cases h1 : j < k
    · rw [if_pos h1, if_pos (by omega)]
    · by_cases h2 : j = k
      · subst h2; rw [if_pos (by omega), if_neg h1, hk]
      · rw [if_neg (by omega), if_neg h1]
  rw [e]; exact h j hj
theorem LowMem.put {s : ByteArray} {R k : Nat} {w : World} (h : LowMem s R k w) (hk : k < s.size) : LowMem s R (k + 1) (w.setCell ⟨R, k, none⟩ (.int .u8 (lowI (s.data.toList.getD k 0).toNat))) := fun j hj => by
  obtain ⟨a, b⟩ := h j hj
  rw [World.frozen?_setCell]
  refine ⟨?_, b⟩
  by_cases e : j = k
  · subst e
    rw [World.cell?_setCell_same _ _ _ a]
    unfold lowAt
    rw [if_pos (by omega)]
  · rw [World.cell?_setCell_other _ _ _ _ (by intro e2; injection e2 with _ e2; omega), a]
    unfold lowAt
    by_cases h1 : j < k
    · rw [if_pos h1, if_pos (by omega)]
    · rw [if_neg h1, if_neg (by omega)]
set_option maxRecDepth 100000 in
set_option maxHeartbeats 4000000 in
theorem lower_any (s : ByteArray) (hs : s.size ≤ 281474976710656) (w : World) :
    Calls Tryz.prog 51 #[.string s] w fun e w' => e = .returned (.string ⟨(Lib.toLowerA s.data.toList).toArray⟩) ∧ Below w.heap.size w w' := by
  have hcv := Lib.run_convert_string_bytes (P := Tryz.prog) w 9 41 5 s Tryz.underlying9 Tryz.underlying41 Tryz.underlying5
  generalize hcap : grownCap w s.size 0 5 = cap at hcv
  generalize hW : Lib.bytesWorld w 5 s = W at hcv
  have HB0 : Hid (Below w.heap.size w W) := Lib.hid (hW ▸ Lib.bytesWorld_below _ _ _)
  have HM0 : Hid (LowMem s w.heap.size 0 W) := Lib.hid (fun j hj => by
    subst hW
    refine ⟨?_, ?_⟩
    · rw [Lib.bytesWorld_cell _ _ _ _ hj]
      unfold lowAt
      rw [if_neg (by omega)]
    · unfold World.frozen?
      rw [Lib.bytesWorld_at_new]
      have hc : s.size ≤ (Lib.bytesCells w 5 s).size := by
        unfold Lib.bytesCells
        rw [Array.size_append, Array.size_map]; exact Nat.le_add_right _ _
      simp
      omega)
  clear hW hcap
  have HS := Lib.hid hs
  clear hs
  go_enter Tryz.func51, Tryz.ntmps51
  go_wp2
  go_loopw [4] (fun i wr => ∃ k : Nat, k ≤ s.size ∧ i = .int .i64 k ∧ Hid (LowMem s w.heap.size k wr) ∧ Hid (Below w.heap.size w wr)) (fun i _ => s.size - (intOf i).toNat)
  case atStart => exact ⟨0, Nat.zero_le _, rfl, HM0, HB0⟩
  case round =>
    obtain ⟨k, hk, rfl, HM, HB⟩ := hrel
    clear HM0 HB0
    have hs1 : (s.size : Int) ≤ 281474976710656 := by have := HS.out; omega
    by_cases hlt : k < s.size
    · have hk0 : (0 : Int) ≤ (k : Int) := Int.natCast_nonneg _
      have hk1 : (k : Int) < (s.size : Int) := by omega
      obtain ⟨hc, hf⟩ := HM.out k hlt
      have hR := World.block_lt_of_cell? _ _ hc
      have hx : lowAt s k k = ((s.data.toList.getD k 0).toNat : Int) := by unfold lowAt; rw [if_neg (by omega)]
      rw [hx] at hc
      have HKP := Lib.hid (fun h => HM.out.keep (k := k) h)
      have HPT := Lib.hid (HM.out.put hlt)
      have hb := (s.data.toList.getD k 0).toNat_lt
      generalize (s.data.toList.getD k 0).toNat = x at hc HKP HPT hb
      have hb' : (x : Int) < 256 := by omega
      have hb0 : (0 : Int) ≤ (x : Int) := by omega
      by_cases h1 : (65 : Int) ≤ (x : Int)
      · by_cases h2 : (x : Int) ≤ 90
        · have he : lowI (x : Int) = (x : Int) + 32 := by unfold lowI; rw [if_pos ⟨h1, h2⟩]
          rw [he] at HPT
          go_wp2
          go_roundw
          case rel => exact ⟨k + 1, by omega, by go_num, HPT, Lib.hid (HB.out.setCell (Nat.le_refl _) _)⟩
          case measure => simp [intOf]; omega
        · have he : lowI (x : Int) = (x : Int) := by unfold lowI; rw [if_neg (fun h => h2 h.2)]
          have h2' : decide ((x : Int) ≤ 90) = false := decide_eq_false h2
          have hm := HKP.out he
          go_wp2
          go_roundw
          case rel => exact ⟨k + 1, by omega, by go_num, Lib.hid hm, HB⟩
          case measure => simp [intOf]; omega
      · have he : lowI (x : Int) = (x : Int) := by unfold lowI; rw [if_neg (fun h => h1 h.1)]
        have h1' : decide ((65 : Int) ≤ (x : Int)) = false := decide_eq_false h1
        have hm := HKP.out he
        go_wp2
        go_roundw
        case rel => exact ⟨k + 1, by omega, by go_num, Lib.hid hm, HB⟩
        case measure => simp [intOf]; omega
    · have hk1 : (k : Int) = (s.size : Int) := by omega
      have hkn : k = s.size := by omega
      subst hkn
      have hz : (⟨(Lib.toLowerA s.data.toList).toArray⟩ : ByteArray).size = s.size := by
        show (Lib.toLowerA s.data.toList).toArray.size = _
        rw [List.size_toArray, Lib.toLowerA, List.length_map, Array.length_toList]; rfl
      have hB : Lib.Bytes wr w.heap.size 0 ⟨(Lib.toLowerA s.data.toList).toArray⟩ := fun i hi => by
        have hi' : i < s.size := by rw [hz] at hi; exact hi
        rw [Nat.zero_add, (HM.out i hi').1]
        unfold lowAt
        rw [if_pos hi', lowI_byte]
        have hl : i < s.data.toList.length := by rw [Array.length_toList]; exact hi'
        have hg : s.data.toList.getD i 0 = s.data.toList[i] := by rw [List.getD_eq_getElem?_getD, List.getElem?_eq_getElem hl]; rfl
        have hm : (⟨(Lib.toLowerA s.data.toList).toArray⟩ : ByteArray)[i]'hi = Lib.lowerB s.data.toList[i] := by
          exact List.getElem_map (l := s.data.toList) Lib.lowerB (i := i) (h := by rw [List.length_map]; exact hl)
        rw [hm, hg]
      have hcv2 := Lib.run_convert_whole (P := Tryz.prog) wr 41 5 9 Tryz.underlying41 Tryz.underlying5 Tryz.underlying9 w.heap.size 0 _ hB cap
      rw [hz] at hcv2
      go_wp2
      go_ret
      exact ⟨rfl, HB.out⟩
def Lower.f (s : ByteArray) : Option ByteArray := if s.size ≤ 281474976710656 then some ⟨(Lib.toLowerA s.data.toList).toArray⟩ else none
theorem Lower.calls (s : ByteArray) (r : ByteArray) (w : World) (hS_ : StdW w) (h : Lower.f s = some r) :
    Calls Tryz.prog 51 #[.string s] w fun e w' => e = .returned (.string r) ∧ Below w.heap.size w w' := by
  unfold Lower.f at h
  split at h
  · rename_i hc
    obtain rfl := Option.some.inj h
    exact lower_any s hc w
  · cases h
end Go.Proofs.YtaakgjbdknobbaaGreatDoor.E


namespace Go.Proofs.YtaakgjbdknobbaaGreatDoor.E
open Go.RowKit Go.Proofs.YtaakgjbdknobbaaGreatDoorW.PrintWords Go.Proofs.YtaakgjbdknobbaaGreatDoorW.PrintLast
set_option linter.unusedVariables false
set_option linter.unusedSimpArgs false
def Blk (w : World) (R : Nat) (C : Array Value) (T : TypeId) : Prop := w.heap[R]? = some (.cells C T (0, 0))
theorem Blk.cell {w : World} {R : Nat} {C : Array Value} {T : TypeId} (h : Blk w R C T) (j : Nat) (v : Value) (hj : C[j]? = some v) : w.cell? ⟨R, j, none⟩ = some v := by
  unfold World.cell?; rw [show w.heap[R]? = _ from h]; exact hj
theorem Blk.free {w : World} {R : Nat} {C : Array Value} {T : TypeId} (h : Blk w R C T) (j : Nat) : w.frozen? ⟨R, j, none⟩ = false := by
  unfold World.frozen?; rw [show w.heap[R]? = _ from h]; simp
theorem Blk.lt {w : World} {R : Nat} {C : Array Value} {T : TypeId} (h : Blk w R C T) : R < w.heap.size := (Array.getElem?_eq_some_iff.1 h).1
theorem Blk.below {w w1 : World} {R : Nat} {C : Array Value} {T : TypeId} (h : Blk w R C T) (hb : Below w.heap.size w w1) : Blk w1 R C T := (hb.block R h.lt).trans h
theorem Blk.set {w : World} {R : Nat} {C : Array Value} {T : TypeId} (h : Blk w R C T) (j : Nat) (v : Value) : Blk (w.setCell ⟨R, j, none⟩ v) R (C.setIfInBounds j v) T := by
  unfold Blk World.setCell
  simp only [Option.isSome_none, Bool.false_eq_true, if_false]
  rw [Array.getElem?_modify, if_pos rfl, show w.heap[R]? = _ from h]; rfl
theorem Blk.new (w : World) (C : Array Value) (T : TypeId) : Blk (w.alloc (.cells C T)) w.heap.size C T := heap_alloc_new w _
theorem Blk.old {w : World} {R : Nat} {C : Array Value} {T : TypeId} (h : Blk w R C T) (o : Obj) : Blk (w.alloc o) R C T := (Below.heap_alloc _ _ _ h.lt).trans h
end Go.Proofs.YtaakgjbdknobbaaGreatDoor.E


namespace Go.Proofs.YtaakgjbdknobbaaGreatDoor.E
open Go.RowKit Go.Proofs.YtaakgjbdknobbaaGreatDoorW.PrintWords Go.Proofs.YtaakgjbdknobbaaGreatDoorW.PrintLast
set_option linter.unusedVariables false
set_option linter.unusedSimpArgs false
set_option maxRecDepth 100000 in
set_option maxHeartbeats 4000000 in
theorem fail_any (s : ByteArray) (at_ co : Int) (w : World) :
    Calls Tryz.prog 28 #[.string s, .int .i64 at_, .int .i64 co] w fun e w' => e = .returned (.agg #[.int .i64 1, .string s, .string ⟨#[]⟩, .string ⟨#[]⟩, .string ⟨#[]⟩, .int .i64 at_, .int .i64 0, .int .i64 0, .int .i64 0, .int .i64 co]) ∧ Below w.heap.size w w' := by
  go_enter Tryz.func28, Tryz.ntmps28
  go_wp2
  refine bodyPost_ret (v := .agg #[.int .i64 1, .string s, .string ⟨#[]⟩, .string ⟨#[]⟩, .string ⟨#[]⟩, .int .i64 at_, .int .i64 0, .int .i64 0, .int .i64 0, .int .i64 co]) (by simp [results, Tryz.results28, go_sem]) rfl ⟨rfl, below_alloc (below_alloc (Below.refl _ _) _) _⟩
def Fail.f (s : ByteArray) (at_ co : Int) : Option (Int × ByteArray × ByteArray × ByteArray × ByteArray × Int × Int × Int × Int × Int) := some (1, s, ⟨#[]⟩, ⟨#[]⟩, ⟨#[]⟩, at_, 0, 0, 0, co)
theorem Fail.calls (s : ByteArray) (at_ co : Int) (r1 : Int) (r2 r3 r4 r5 : ByteArray) (r6 r7 r8 r9 r10 : Int) (w : World) (hS_ : StdW w) (h : Fail.f s at_ co = some (r1, r2, r3, r4, r5, r6, r7, r8, r9, r10)) :
    Calls Tryz.prog 28 #[.string s, .int .i64 at_, .int .i64 co] w fun e w' => e = .returned (.agg #[.int .i64 r1, .string r2, .string r3, .string r4, .string r5, .int .i64 r6, .int .i64 r7, .int .i64 r8, .int .i64 r9, .int .i64 r10]) ∧ Below w.heap.size w w' := by
  cases h
  exact fail_any s at_ co w
end Go.Proofs.YtaakgjbdknobbaaGreatDoor.E


namespace Go.Proofs.YtaakgjbdknobbaaGreatDoor.XR
open Go.RowKit Go.Proofs.YtaakgjbdknobbaaGreatDoorW.PrintWords Go.Proofs.YtaakgjbdknobbaaGreatDoorW.PrintLast Go.Proofs.YtaakgjbdknobbaaGreatDoorW.PrintMore
attribute [local go_sem] max2_int min2_int max_two min_two max_three min_three max_four min_four
set_option linter.unusedVariables false
set_option linter.unusedSimpArgs false
def errW : Option Int → Value
 | none => .nilIface
 | some c => .iface 0 (.int .i64 c)
theorem errW_none : errW none = .nilIface := rfl
theorem errW_some (c : Int) : errW (some c) = .iface 0 (.int .i64 c) := rfl
theorem info3 : (Tryz.prog.info? 3).map (fun i => (i.zero, i.size, i.bytes)) = some (some (.int .i64 0), 1, 8) := by kernel_rfl
theorem info9 : (Tryz.prog.info? 9).map (fun i => (i.zero, i.size, i.bytes)) = some (some (.string ⟨#[]⟩), 1, 16) := by kernel_rfl
structure S53 where
 f0 : Int
 f1 : Int
 f2 : Int
 f3 : Int
def z53 : S53 := ⟨(0 : Int), (0 : Int), (0 : Int), (0 : Int)⟩
end Go.Proofs.YtaakgjbdknobbaaGreatDoor.XR


namespace Go.Proofs.YtaakgjbdknobbaaGreatDoor.XR
open Go.RowKit Go.Proofs.YtaakgjbdknobbaaGreatDoorW.PrintWords Go.Proofs.YtaakgjbdknobbaaGreatDoorW.PrintLast Go.Proofs.YtaakgjbdknobbaaGreatDoorW.PrintMore
attribute [local go_sem] max2_int min2_int max_two min_two max_three min_three max_four min_four
set_option linter.unusedVariables false
set_option linter.unusedSimpArgs false
def sallyportref06_fault.f (a0 : Int) (a1 : Int) : Option (Int × ByteArray × ByteArray × ByteArray × ByteArray × Int × Int × Int × Int × Int) := (E.Fail.f (⟨#[104, 111, 115, 116]⟩ : ByteArray) a0 a1).bind fun bt102 => (some (bt102.1, bt102.2.1, bt102.2.2.1, bt102.2.2.2.1, bt102.2.2.2.2.1, bt102.2.2.2.2.2.1, bt102.2.2.2.2.2.2.1, bt102.2.2.2.2.2.2.2.1, bt102.2.2.2.2.2.2.2.2.1, bt102.2.2.2.2.2.2.2.2.2))
set_option maxHeartbeats 8000000 in
set_option maxRecDepth 100000 in
theorem sallyportref06_fault.calls (a0 : Int) (a1 : Int) (r1 : Int) (r2 : ByteArray) (r3 : ByteArray) (r4 : ByteArray) (r5 : ByteArray) (r6 : Int) (r7 : Int) (r8 : Int) (r9 : Int) (r10 : Int) (w : World) (hS_ : StdW w) (h : sallyportref06_fault.f a0 a1 = some (r1, r2, r3, r4, r5, r6, r7, r8, r9, r10)) :
  Calls Tryz.prog 190 #[.int .i64 a0, .int .i64 a1] w fun e w' => e = .returned (.agg #[.int .i64 r1, .string r2, .string r3, .string r4, .string r5, .int .i64 r6, .int .i64 r7, .int .i64 r8, .int .i64 r9, .int .i64 r10]) ∧ Below w.heap.size w w' := by
 have hu55 := Tryz.underlying55
 have HS_ := Aside0.mk hS_
 clear hS_
 have HB := Aside0.mk (Below.refl w.heap.size w)
 have H : ((E.Fail.f (⟨#[104, 111, 115, 116]⟩ : ByteArray) a0 a1).bind fun bt102 => (some (bt102.1, bt102.2.1, bt102.2.2.1, bt102.2.2.2.1, bt102.2.2.2.2.1, bt102.2.2.2.2.2.1, bt102.2.2.2.2.2.2.1, bt102.2.2.2.2.2.2.2.1, bt102.2.2.2.2.2.2.2.2.1, bt102.2.2.2.2.2.2.2.2.2))) = some (r1, r2, r3, r4, r5, r6, r7, r8, r9, r10) := h
 clear h
 replace H := Option.bind_eq_some_iff.mp H
 obtain ⟨⟨t102, t103, t104, t105, t106, t107, t108, t109, t110, t111⟩, A30, H⟩ := H
 replace H : (some (t102, t103, t104, t105, t106, t107, t108, t109, t110, t111)) = some (r1, r2, r3, r4, r5, r6, r7, r8, r9, r10) := H
 have A3 := Aside0.mk A30
 clear A30
 simp only [Option.some.injEq, Prod.mk.injEq] at H
 obtain ⟨rfl, rfl, rfl, rfl, rfl, rfl, rfl, rfl, rfl, rfl⟩ := H
 go_enter Tryz.func190, Tryz.ntmps190
 go_wp2_with (first | ((with_reducible refine gate_dst (N := 4) rfl ?_); refine box_event ?hg (N := 4) ?hd (cs := #[.int .i64 0, .string (⟨#[]⟩ : ByteArray), .string (⟨#[]⟩ : ByteArray), .string (⟨#[]⟩ : ByteArray), .string (⟨#[]⟩ : ByteArray), .int .i64 0, .int .i64 0, .int .i64 0, .int .i64 0, .int .i64 0]) (t := 55) ?hr ?_; (case hd => rfl); (case hg => rfl); (case hr => first | (go_simp; done) | (go_simp; rfl)); intro gb101 hg w4 hbox hb; have n0_ := Aside0.mk (below_step (by repeat (first | (with_reducible first | exact HB.out | apply below_alloc | apply pw_below_drewN | apply below_drew1) | exact HB.out)) hb); have n1_ := Aside0.mk (hbox); have n2_ := Aside0.mk ((by rw [hg]; exact (below_size (by repeat (first | (with_reducible first | exact HB.out | apply below_alloc | apply pw_below_drewN | apply below_drew1) | exact HB.out))) : w.heap.size ≤ gb101)); have n3_ := Aside0.mk ((by rw [hg]; exact (below_size (by repeat (first | (with_reducible first | exact HB.out | apply below_alloc | apply pw_below_drewN | apply below_drew1) | exact HB.out))) : w.heap.size ≤ gb101)); clear HB; have HB := n0_; have BK101 := n1_; have GW101 := n2_; have GE101 := n3_; clear n0_ n1_ n2_ n3_; clear hb hbox hg) | ((with_reducible refine gate_callee (f := 28) rfl ?_); refine goesL_ (some 7) rfl rfl Tryz.func28 (by kernel_rfl) rfl #[.string (⟨#[104, 111, 115, 116]⟩ : ByteArray), .int .i64 a0, .int .i64 a1] rfl (by (try simp only [List.map_toArray, List.map_cons, List.map_nil]); first | done | rfl | (simp only [List.length_drop, List.length_take]; rfl)) ?_; (with_reducible refine (E.Fail.calls (⟨#[104, 111, 115, 116]⟩ : ByteArray) a0 a1 t102 t103 t104 t105 t106 t107 t108 t109 t110 t111 _ ?side1 A3.out).mono ?_); (case side1 => exact StdW.below HS_.out (by repeat (first | (with_reducible first | exact HB.out | apply below_alloc | apply pw_below_drewN | apply below_drew1 | refine below_set ?_ GE101.out) | exact HB.out))); rintro e w5 ⟨rfl, hb⟩; refine ⟨_, rfl, ?_⟩; have n0_ := Aside0.mk (blk_below (g := gb101) (o := .cells #[.int .i64 0, .string (⟨#[]⟩ : ByteArray), .string (⟨#[]⟩ : ByteArray), .string (⟨#[]⟩ : ByteArray), .string (⟨#[]⟩ : ByteArray), .int .i64 0, .int .i64 0, .int .i64 0, .int .i64 0, .int .i64 0] 55 (0, 0)) (by (with_reducible repeat (first | refine blk_drewN ?_ _ | refine blk_drew ?_ | refine blk_alloc ?_ _)); exact BK101.out) hb); have n1_ := Aside0.mk (below_step (by repeat (first | (with_reducible first | exact HB.out | apply below_alloc | apply pw_below_drewN | apply below_drew1 | refine below_set ?_ GE101.out) | exact HB.out)) hb); clear BK101; clear HB; have BK101 := n0_; have HB := n1_; clear n0_ n1_; (try clear hb); (try clear hb2); (try clear hk); (try clear hi); have hcz6_0 : w5.cell? ⟨gb101, 0, none⟩ = some (.int .i64 0) := (blk_cell BK101.out 0).trans rfl; have hcz6_1 : w5.cell? ⟨gb101, 1, none⟩ = some (.string (⟨#[]⟩ : ByteArray)) := (blk_cell BK101.out 1).trans rfl; have hcz6_2 : w5.cell? ⟨gb101, 2, none⟩ = some (.string (⟨#[]⟩ : ByteArray)) := (blk_cell BK101.out 2).trans rfl; have hcz6_3 : w5.cell? ⟨gb101, 3, none⟩ = some (.string (⟨#[]⟩ : ByteArray)) := (blk_cell BK101.out 3).trans rfl; have hcz6_4 : w5.cell? ⟨gb101, 4, none⟩ = some (.string (⟨#[]⟩ : ByteArray)) := (blk_cell BK101.out 4).trans rfl; have hcz6_5 : w5.cell? ⟨gb101, 5, none⟩ = some (.int .i64 0) := (blk_cell BK101.out 5).trans rfl; have hcz6_6 : w5.cell? ⟨gb101, 6, none⟩ = some (.int .i64 0) := (blk_cell BK101.out 6).trans rfl; have hcz6_7 : w5.cell? ⟨gb101, 7, none⟩ = some (.int .i64 0) := (blk_cell BK101.out 7).trans rfl; have hcz6_8 : w5.cell? ⟨gb101, 8, none⟩ = some (.int .i64 0) := (blk_cell BK101.out 8).trans rfl; have hcz6_9 : w5.cell? ⟨gb101, 9, none⟩ = some (.int .i64 0) := (blk_cell BK101.out 9).trans rfl; have hfz6_0 := blk_frozen BK101.out 0; have hfz6_1 := blk_frozen BK101.out 1; have hfz6_2 := blk_frozen BK101.out 2; have hfz6_3 := blk_frozen BK101.out 3; have hfz6_4 := blk_frozen BK101.out 4; have hfz6_5 := blk_frozen BK101.out 5; have hfz6_6 := blk_frozen BK101.out 6; have hfz6_7 := blk_frozen BK101.out 7; have hfz6_8 := blk_frozen BK101.out 8; have hfz6_9 := blk_frozen BK101.out 9))
 refine bodyPost_ret (results_cell_row rfl _ _ gb101 55 #[.int .i64 t102, .string t103, .string t104, .string t105, .string t106, .int .i64 t107, .int .i64 t108, .int .i64 t109, .int .i64 t110, .int .i64 t111] (0, 0) _ rfl (by (with_reducible repeat (first | refine blk_drewN ?_ _ | refine blk_drew ?_ | refine blk_alloc ?_ _)); refine blk_put (cs := #[.int .i64 t102, .string t103, .string t104, .string t105, .string t106, .int .i64 t107, .int .i64 t108, .int .i64 t109, .int .i64 t110, .int .i64 0]) ?_ 9 _ rfl; (with_reducible repeat (first | refine blk_drewN ?_ _ | refine blk_drew ?_ | refine blk_alloc ?_ _)); refine blk_put (cs := #[.int .i64 t102, .string t103, .string t104, .string t105, .string t106, .int .i64 t107, .int .i64 t108, .int .i64 t109, .int .i64 0, .int .i64 0]) ?_ 8 _ rfl; (with_reducible repeat (first | refine blk_drewN ?_ _ | refine blk_drew ?_ | refine blk_alloc ?_ _)); refine blk_put (cs := #[.int .i64 t102, .string t103, .string t104, .string t105, .string t106, .int .i64 t107, .int .i64 t108, .int .i64 0, .int .i64 0, .int .i64 0]) ?_ 7 _ rfl; (with_reducible repeat (first | refine blk_drewN ?_ _ | refine blk_drew ?_ | refine blk_alloc ?_ _)); refine blk_put (cs := #[.int .i64 t102, .string t103, .string t104, .string t105, .string t106, .int .i64 t107, .int .i64 0, .int .i64 0, .int .i64 0, .int .i64 0]) ?_ 6 _ rfl; (with_reducible repeat (first | refine blk_drewN ?_ _ | refine blk_drew ?_ | refine blk_alloc ?_ _)); refine blk_put (cs := #[.int .i64 t102, .string t103, .string t104, .string t105, .string t106, .int .i64 0, .int .i64 0, .int .i64 0, .int .i64 0, .int .i64 0]) ?_ 5 _ rfl; (with_reducible repeat (first | refine blk_drewN ?_ _ | refine blk_drew ?_ | refine blk_alloc ?_ _)); refine blk_put (cs := #[.int .i64 t102, .string t103, .string t104, .string t105, .string (⟨#[]⟩ : ByteArray), .int .i64 0, .int .i64 0, .int .i64 0, .int .i64 0, .int .i64 0]) ?_ 4 _ rfl; (with_reducible repeat (first | refine blk_drewN ?_ _ | refine blk_drew ?_ | refine blk_alloc ?_ _)); refine blk_put (cs := #[.int .i64 t102, .string t103, .string t104, .string (⟨#[]⟩ : ByteArray), .string (⟨#[]⟩ : ByteArray), .int .i64 0, .int .i64 0, .int .i64 0, .int .i64 0, .int .i64 0]) ?_ 3 _ rfl; (with_reducible repeat (first | refine blk_drewN ?_ _ | refine blk_drew ?_ | refine blk_alloc ?_ _)); refine blk_put (cs := #[.int .i64 t102, .string t103, .string (⟨#[]⟩ : ByteArray), .string (⟨#[]⟩ : ByteArray), .string (⟨#[]⟩ : ByteArray), .int .i64 0, .int .i64 0, .int .i64 0, .int .i64 0, .int .i64 0]) ?_ 2 _ rfl; (with_reducible repeat (first | refine blk_drewN ?_ _ | refine blk_drew ?_ | refine blk_alloc ?_ _)); refine blk_put (cs := #[.int .i64 t102, .string (⟨#[]⟩ : ByteArray), .string (⟨#[]⟩ : ByteArray), .string (⟨#[]⟩ : ByteArray), .string (⟨#[]⟩ : ByteArray), .int .i64 0, .int .i64 0, .int .i64 0, .int .i64 0, .int .i64 0]) ?_ 1 _ rfl; (with_reducible repeat (first | refine blk_drewN ?_ _ | refine blk_drew ?_ | refine blk_alloc ?_ _)); refine blk_put (cs := #[.int .i64 0, .string (⟨#[]⟩ : ByteArray), .string (⟨#[]⟩ : ByteArray), .string (⟨#[]⟩ : ByteArray), .string (⟨#[]⟩ : ByteArray), .int .i64 0, .int .i64 0, .int .i64 0, .int .i64 0, .int .i64 0]) ?_ 0 _ rfl; (with_reducible repeat (first | refine blk_drewN ?_ _ | refine blk_drew ?_ | refine blk_alloc ?_ _)); exact BK101.out) Tryz.underlying55 rfl (by kernel_rfl)) rfl ?_
 exact ⟨by first | rfl | (simp [errW_none, errW_some] <;> rfl) | (simp [*, errW_none, errW_some] <;> rfl), by repeat (first | (with_reducible first | exact HB.out | apply below_alloc | apply pw_below_drewN | apply below_drew1 | refine below_set ?_ GE101.out) | exact HB.out)⟩
def sallyportref06_digit.f (a0 : Int) : Option (Bool) := if a0 ≥ 48 then (some (decide (a0 ≤ 57))) else (some false)
set_option maxHeartbeats 8000000 in
set_option maxRecDepth 100000 in
theorem sallyportref06_digit.calls (a0 : Int) (r : Bool) (w : World) (h : sallyportref06_digit.f a0 = some r) :
  Calls Tryz.prog 192 #[.int .u8 a0] w fun e w' => e = .returned (.bool r) ∧ Drawn0 w w' := by
 have H : (if a0 ≥ 48 then (some (decide (a0 ≤ 57))) else (some false)) = some r := h
 clear h
 by_cases c2 : a0 ≥ 48
 ·rw [if_pos c2] at H
  have c2b0 : decide (48 ≤ a0) = true := decide_eq_true c2
  clear c2
  obtain rfl := Option.some.inj H
  go_enter Tryz.func192, Tryz.ntmps192
  go_wp2
  go_ret
  exact ⟨by first | rfl | (simp; done) | (simp [*]; done), by repeat (first | exact Drawn0.refl _ | apply Drawn0.step)⟩
 ·rw [if_neg c2] at H
  have c2b0 : decide (48 ≤ a0) = false := decide_eq_false c2
  clear c2
  obtain rfl := Option.some.inj H
  go_enter Tryz.func192, Tryz.ntmps192
  go_wp2
  go_ret
  exact ⟨by first | rfl | (simp; done) | (simp [*]; done), by repeat (first | exact Drawn0.refl _ | apply Drawn0.step)⟩
def sallyportref06_parts.l0 : Nat → ByteArray → List ByteArray → List Int → Int → Option (List ByteArray × List Int)
 | 0, _, _, _, _ => none
 | k + 1, x0, x4, x5, x6 => if x6 < (x0.size : Int) then (if 0 ≤ x6 then (if (bt x0 x6) = 46 then (if x4.length < 8796093022208 then (if x5.length < 17592186044416 then (sallyportref06_parts.l0 k x0 (x4 ++ [(⟨#[]⟩ : ByteArray)]) (x5 ++ [wrap64 (x6 + 1)]) (wrap64 (x6 + 1))) else (none)) else (none)) else (if 0 ≤ (wrap64 ((x4.length : Int) - 1)) then (if (wrap64 ((x4.length : Int) - 1)) < (x4.length : Int) then (if x6 ≤ (wrap64 (x6 + 1)) then (if (wrap64 (x6 + 1)) ≤ (x0.size : Int) then (if (rdOf ByteArray.empty x4 (wrap64 ((x4.length : Int) - 1))).size + (x0.extract (x6 : Int).toNat ((wrap64 (x6 + 1)) : Int).toNat).size ≤ 9223372036854775807 then (sallyportref06_parts.l0 k x0 (x4.set ((wrap64 ((x4.length : Int) - 1)) : Int).toNat ((rdOf ByteArray.empty x4 (wrap64 ((x4.length : Int) - 1))) ++ (x0.extract (x6 : Int).toNat ((wrap64 (x6 + 1)) : Int).toNat))) x5 (wrap64 (x6 + 1))) else (none)) else (none)) else (none)) else (none)) else (none))) else (none)) else (some (x4, x5))
def sallyportref06_parts.f (k : Nat) (a0 : ByteArray) : Option (List ByteArray × List Int) := sallyportref06_parts.l0 k a0 (([(⟨#[]⟩ : ByteArray)] : List ByteArray)) (([0] : List Int)) 0
theorem sallyportref06_parts.mono_l : ∀ k, (∀ y0 y1 y2 y3, LeO (sallyportref06_parts.l0 k y0 y1 y2 y3) (sallyportref06_parts.l0 (k + 1) y0 y1 y2 y3))
 | 0 => fun _ _ _ _ r h => by simp [sallyportref06_parts.l0] at h
 | k + 1 => by
  have ih0 := sallyportref06_parts.mono_l k
  ·intro y0 y1 y2 y3
   unfold sallyportref06_parts.l0
   repeat' first
   | (with_reducible exact ih0 _ _ _ _)
   | (with_reducible exact LeO.refl _)
   | (with_reducible exact LeO.none _)
   | (with_reducible refine LeO.ite ?_ ?_)
   | (with_reducible refine LeO.bind ?_ (fun _ => ?_))
   | exact ih0 _ _ _ _
   | exact LeO.none _
   | refine LeO.ite ?_ ?_
   | refine LeO.bind ?_ (fun _ => ?_)
theorem sallyportref06_parts.mono : ∀ a0 k, LeO (sallyportref06_parts.f k a0) (sallyportref06_parts.f (k + 1) a0) := by
 intro a0 k
 have ih0 := sallyportref06_parts.mono_l k
 unfold sallyportref06_parts.f
 repeat' first
   | (with_reducible exact ih0 _ _ _ _)
   | (with_reducible exact LeO.refl _)
   | (with_reducible exact LeO.none _)
   | (with_reducible refine LeO.ite ?_ ?_)
   | (with_reducible refine LeO.bind ?_ (fun _ => ?_))
   | exact ih0 _ _ _ _
   | exact LeO.none _
   | refine LeO.ite ?_ ?_
   | refine LeO.bind ?_ (fun _ => ?_)
def sallyportref06_parts.T8 : Bool × List (List Nat × List Nat) := (true, [([], []), ([], []), ([1], [1]), ([2], [2]), ([0, 3], [0, 3]), ([4], [4]), ([], []), ([], []), ([], []), ([8], [8]), ([6, 7, 9], [6, 7, 9]), ([5, 10], [5, 10]), ([0, 3, 0, 1, 2, 3, 4, 5, 6, 7, 8, 9, 10, 11], [0, 3]), ([12, 11, 0, 1, 2, 3, 4, 5, 6, 7, 8, 9, 10, 11], [11, 12])])
def sallyportref06_parts.B8 : List Nat := [0, 0, 2, 6, 15, 31, 0, 0, 0, 256, 960, 2047, 4095, 8191]
theorem sallyportref06_parts.tab8 : rtab .any (opsOf Tryz.f205 8) = sallyportref06_parts.T8 := by kernel_rfl
theorem sallyportref06_parts.bits8 : waitsOk sallyportref06_parts.T8.2 sallyportref06_parts.B8 = true := by kernel_rfl
set_option maxHeartbeats 8000000 in
set_option maxRecDepth 100000 in
theorem sallyportref06_parts.calls (k : Nat) (a0 : ByteArray) (r1 : List ByteArray) (r2 : List Int) (w : World) (h : sallyportref06_parts.f k a0 = some (r1, r2)) :
  Calls Tryz.prog 205 #[.string a0] w fun e w' => ∃ v0_ v1_ : Value, e = .returned (.tuple #[v0_, v1_]) ∧ Kd.R Kd.string 9 w' w.heap.size (fun _ => True) v0_ r1 ∧ Kd.R (Kd.int .i64) 3 w' w.heap.size (fun _ => True) v1_ r2 ∧ Below w.heap.size w w' := by
 have HB := Aside0.mk (Below.refl w.heap.size w)
 have H : (sallyportref06_parts.l0 k a0 (([(⟨#[]⟩ : ByteArray)] : List ByteArray)) (([0] : List Int)) 0) = some (r1, r2) := h
 clear h
 obtain ⟨y112, hy112⟩ : ∃ y_ : List ByteArray, y_ = (([(⟨#[]⟩ : ByteArray)] : List ByteArray)) := ⟨_, rfl⟩
 replace H : (sallyportref06_parts.l0 k a0 y112 (([0] : List Int)) 0) = some (r1, r2) := by first | (rw [hy112]; with_reducible exact H) | (have H2_ := (Option.bind_some _ _).symm.trans H; rw [hy112]; with_reducible exact H2_) | (have H2_ := (Option.bind_some _ _).symm.trans H; with_reducible exact H2_) | with_reducible exact H | (rw [hy112]; exact H) | exact H
 have Ny112 := Aside0.mk hy112
 clear hy112
 obtain ⟨y115, hy115⟩ : ∃ y_ : List Int, y_ = (([0] : List Int)) := ⟨_, rfl⟩
 replace H : (sallyportref06_parts.l0 k a0 y112 y115 0) = some (r1, r2) := by first | (rw [hy115]; with_reducible exact H) | (have H2_ := (Option.bind_some _ _).symm.trans H; rw [hy115]; with_reducible exact H2_) | (have H2_ := (Option.bind_some _ _).symm.trans H; with_reducible exact H2_) | with_reducible exact H | (rw [hy115]; exact H) | exact H
 have Ny115 := Aside0.mk hy115
 clear hy115
 have H' := Aside0.mk H
 clear H
 go_enter Tryz.func205, Tryz.ntmps205
 go_wp2_with (first | ((with_reducible refine gate_dst (N := 7) rfl ?_); refine Kd.R_lit Kd.string _ 9 ?hg (N := 7) ?hd (xs := ([(⟨#[]⟩ : ByteArray)] : List ByteArray)) (inner := [.string (⟨#[]⟩ : ByteArray)]) (ok := fun _ => True) (okp := fun _ => True) ?hr ?hp (fun _ hk => hk) trivial (Below.refl _ _) (Nat.le_refl _) (by simp) ?_; (case hd => rfl); (case hg => rfl); (case hr => first | (go_simp; done) | (go_simp; rfl)); (case hp => exact (Reps.one (show Kd.M Kd.string _ _ _ (⟨#[]⟩ : ByteArray) [.string (⟨#[]⟩ : ByteArray)] from rfl) (Reps.none _ _))); intro v113 w2 ho3 hb hg_ hnew_; clear hg_ hnew_; (first | rw [← Ny112.out] at ho3 | (simp only [Int.reduceToNat] at ho3; rw [← Ny112.out] at ho3)); have n0_ := Aside0.mk (Kd.R_lower ho3 (below_size (by repeat (first | (with_reducible first | exact HB.out | apply below_alloc | apply pw_below_drewN | apply below_drew1) | exact HB.out)))); have n1_ := Aside0.mk (below_step (by repeat (first | (with_reducible first | exact HB.out | apply below_alloc | apply pw_below_drewN | apply below_drew1) | exact HB.out)) hb); clear HB; have HO114 := n0_; have HB := n1_; clear n0_ n1_; clear hb ho3) | ((with_reducible refine gate_dst (N := 8) rfl ?_); refine Kd.R_lit (Kd.int .i64) _ 3 ?hg (N := 8) ?hd (xs := ([0] : List Int)) (inner := [.int .i64 0]) (ok := fun _ => True) (okp := fun _ => True) ?hr ?hp (fun _ hk => hk) trivial (Below.refl _ _) (Nat.le_refl _) (by simp) ?_; (case hd => rfl); (case hg => rfl); (case hr => first | (go_simp; done) | (go_simp; rfl)); (case hp => exact (Reps.one (show Kd.M (Kd.int .i64) _ _ _ 0 [.int .i64 0] from rfl) (Reps.none _ _))); intro v116 w4 ho5 hb hg_ hnew_; clear hg_ hnew_; (first | rw [← Ny115.out] at ho5 | (simp only [Int.reduceToNat] at ho5; rw [← Ny115.out] at ho5)); have n0_ := Aside0.mk (Kd.R_below (by (with_reducible repeat (first | apply Kd.R_alloc | apply Kd.R_drewN | apply Kd.R_drew)); exact HO114.out) hb); have n1_ := Aside0.mk (Kd.R_lower ho5 (below_size (by repeat (first | (with_reducible first | exact HB.out | apply below_alloc | apply pw_below_drewN | apply below_drew1) | exact HB.out)))); have n2_ := Aside0.mk (below_step (by repeat (first | (with_reducible first | exact HB.out | apply below_alloc | apply pw_below_drewN | apply below_drew1) | exact HB.out)) hb); clear HO114; clear HB; have HO114 := n0_; have HO117 := n1_; have HB := n2_; clear n0_ n1_ n2_; clear hb ho5))
 go_loopg [4, 5, 6] k (fun kq v4 v5 v6 w' => ∃ (x4_1 : List ByteArray) (x5_1 : List Int) (x6_1 : Int), v6 = .int .i64 x6_1 ∧ Aside0 (sallyportref06_parts.l0 kq a0 x4_1 x5_1 x6_1 = some (r1, r2)) ∧ Aside0 (kq ≤ k) ∧ Aside0 (Kd.R Kd.string 9 w' w.heap.size (fun _ => True) v4 x4_1) ∧ Aside0 (Kd.R (Kd.int .i64) 3 w' w.heap.size (fun _ => True) v5 x5_1) ∧ Aside0 (Below w.heap.size w w'))
 case atStart => exact ⟨(y112), (y115), (0), (by first | rfl | (simp; done) | (simp [*]; done)), H', ⟨Nat.le_refl _⟩, ⟨by (with_reducible repeat (first | apply Kd.R_alloc | apply Kd.R_drewN | apply Kd.R_drew)); exact HO114.out⟩, ⟨by (with_reducible repeat (first | apply Kd.R_alloc | apply Kd.R_drewN | apply Kd.R_drew)); exact HO117.out⟩, ⟨by repeat (first | (with_reducible first | exact HB.out | apply below_alloc | apply pw_below_drewN | apply below_drew1) | exact HB.out)⟩⟩
 case round =>
  clear H'
  try clear c2
  try clear p2
  obtain ⟨x4_1, x5_1, x6_1, rfl, HA, HK1, HO_4, HO_5, HB⟩ := hrel
  cases gk with
  | zero => exact absurd HA.out (by simp [sallyportref06_parts.l0])
  | succ k1 =>
   have H := HA.out
   clear HA
   simp only [sallyportref06_parts.l0] at H
   by_cases c6 : x6_1 < (a0.size : Int)
   ·rw [if_pos c6] at H
    have c6b0 : decide (x6_1 < (a0.size : Int)) = true := decide_eq_true c6
    clear c6
    by_cases c7 : 0 ≤ x6_1
    ·rw [if_pos c7] at H
     have c7b0 : decide (0 ≤ x6_1) = true := decide_eq_true c7
     clear c7
     by_cases c9 : (bt a0 x6_1) = 46
     ·rw [if_pos c9] at H
      have c9b0 : ((bt a0 x6_1) == 46) = true := beq_iff_eq.mpr c9
      have c9b1 : ((bt a0 x6_1) != 46) = false := bne_eq_false_iff_eq.mpr c9
      clear c9
      by_cases c10 : x4_1.length < 8796093022208
      ·rw [if_pos c10] at H
       have LMc10 := Aside0.mk c10
       clear c10
       obtain ⟨y118, hy118⟩ : ∃ y_ : List ByteArray, y_ = (x4_1 ++ [(⟨#[]⟩ : ByteArray)]) := ⟨_, rfl⟩
       replace H : (if x5_1.length < 17592186044416 then (sallyportref06_parts.l0 k1 a0 y118 (x5_1 ++ [wrap64 (x6_1 + 1)]) (wrap64 (x6_1 + 1))) else (none)) = some (r1, r2) := by first | (rw [hy118]; with_reducible exact H) | (have H2_ := (Option.bind_some _ _).symm.trans H; rw [hy118]; with_reducible exact H2_) | (have H2_ := (Option.bind_some _ _).symm.trans H; with_reducible exact H2_) | with_reducible exact H | (rw [hy118]; exact H) | exact H
       have Ny118 := Aside0.mk hy118
       clear hy118
       by_cases c11 : x5_1.length < 17592186044416
       ·rw [if_pos c11] at H
        have LMc11 := Aside0.mk c11
        clear c11
        obtain ⟨y121, hy121⟩ : ∃ y_ : List Int, y_ = (x5_1 ++ [wrap64 (x6_1 + 1)]) := ⟨_, rfl⟩
        replace H : (sallyportref06_parts.l0 k1 a0 y118 y121 (wrap64 (x6_1 + 1))) = some (r1, r2) := by first | (rw [hy121]; with_reducible exact H) | (have H2_ := (Option.bind_some _ _).symm.trans H; rw [hy121]; with_reducible exact H2_) | (have H2_ := (Option.bind_some _ _).symm.trans H; with_reducible exact H2_) | with_reducible exact H | (rw [hy121]; exact H) | exact H
        have Ny121 := Aside0.mk hy121
        clear hy121
        have H' := Aside0.mk H
        clear H
        have p8 : 0 ≤ (x6_1 : Int) := of_decide_eq_true (by first | (with_reducible assumption) | assumption)
        have q8 : x6_1 < (a0.size : Int) := of_decide_eq_true (by first | (with_reducible assumption) | assumption)
        have hx8 := bt_at a0 x6_1
        replace p8 := eq_true p8
        replace q8 := eq_true q8
        go_wp2_with (first | ((with_reducible refine gate_builtin (b := .append) (xs := #[.tmp 19, .tmp 20]) rfl ?_); at_builtin; refine Kd.R_append Kd.string (w0 := w) w.heap.size rfl (.tmp 19) (.tmp 20) 117 9 (.string ⟨#[]⟩) 16 rfl Tryz.underlying117 info9 rfl (by decide) (by omega) u4 x4_1 (⟨#[]⟩ : ByteArray) [.string (⟨#[]⟩ : ByteArray)] (fun _ => True) (fun _ => False) rfl rfl ?aP (fun _ hk => hk.elim) ?aF ?aO ?aB ?aS ?aL ?_; (case aP => exact rfl); (case aB => exact (by repeat (first | (with_reducible first | exact HB.out | apply below_alloc | apply pw_below_drewN | apply below_drew1) | exact HB.out))); (case aF => exact (fun _ _ => trivial)); (case aO => exact (by (with_reducible repeat (first | apply Kd.R_alloc | apply Kd.R_drewN | apply Kd.R_drew)); exact HO_4.out)); (case aS => exact (below_size (by repeat (first | (with_reducible first | exact HB.out | apply below_alloc | apply pw_below_drewN | apply below_drew1) | exact HB.out)))); (case aL => have := LMc10.out; omega); intro v119 w12 ho hb hg hat; rw [← Ny118.out] at ho; have n0_ := Aside0.mk (Kd.R_over' (by (with_reducible repeat (first | apply Kd.R_alloc | apply Kd.R_drewN | apply Kd.R_drew)); exact HO_5.out) (Kd.R_typed (by (with_reducible repeat (first | apply Kd.R_alloc | apply Kd.R_drewN | apply Kd.R_drew)); exact HO_4.out)) (by decide) hg); have n1_ := Aside0.mk (hb); have n2_ := Aside0.mk (ho); clear HO_5; clear HB; clear HO_4; have HO_5 := n0_; have HB := n1_; have HO120 := n2_; clear n0_ n1_ n2_; clear ho hb hg hat) | ((with_reducible refine gate_builtin (b := .append) (xs := #[.tmp 22, .tmp 25]) rfl ?_); at_builtin; refine Kd.R_append (Kd.int .i64) (w0 := w) w.heap.size rfl (.tmp 22) (.tmp 25) 90 3 (.int .i64 0) 8 rfl Tryz.underlying90 info3 rfl (by decide) (by omega) u5 x5_1 (wrap64 (x6_1 + 1)) [.int .i64 (wrap64 (x6_1 + 1))] (fun _ => True) (fun _ => False) rfl rfl ?aP (fun _ hk => hk.elim) ?aF ?aO ?aB ?aS ?aL ?_; (case aP => exact rfl); (case aB => exact (by repeat (first | (with_reducible first | exact HB.out | apply below_alloc | apply pw_below_drewN | apply below_drew1) | exact HB.out))); (case aF => exact (fun _ _ => trivial)); (case aO => exact (by (with_reducible repeat (first | apply Kd.R_alloc | apply Kd.R_drewN | apply Kd.R_drew)); exact HO_5.out)); (case aS => exact (below_size (by repeat (first | (with_reducible first | exact HB.out | apply below_alloc | apply pw_below_drewN | apply below_drew1) | exact HB.out)))); (case aL => have := LMc11.out; omega); intro v122 w13 ho hb hg hat; rw [← Ny121.out] at ho; have n0_ := Aside0.mk (Kd.R_over' (by (with_reducible repeat (first | apply Kd.R_alloc | apply Kd.R_drewN | apply Kd.R_drew)); exact HO120.out) (Kd.R_typed (by (with_reducible repeat (first | apply Kd.R_alloc | apply Kd.R_drewN | apply Kd.R_drew)); exact HO_5.out)) (by decide) hg); have n1_ := Aside0.mk (hb); have n2_ := Aside0.mk (ho); clear HO120; clear HB; clear HO_5; have HO120 := n0_; have HB := n1_; have HO123 := n2_; clear n0_ n1_ n2_; clear ho hb hg hat))
        go_roundg k1
        case measure => have := HK1.out; omega
        case rel => exact ⟨(y118), (y121), (wrap64 (x6_1 + 1)), (by first | rfl | (simp; done) | (simp [*]; done)), H', ⟨by have := HK1.out; omega⟩, ⟨by (with_reducible repeat (first | apply Kd.R_alloc | apply Kd.R_drewN | apply Kd.R_drew)); exact HO120.out⟩, ⟨by (with_reducible repeat (first | apply Kd.R_alloc | apply Kd.R_drewN | apply Kd.R_drew)); exact HO123.out⟩, ⟨by repeat (first | (with_reducible first | exact HB.out | apply below_alloc | apply pw_below_drewN | apply below_drew1) | exact HB.out)⟩⟩
       ·rw [if_neg c11] at H
        exact absurd H (by simp)
      ·rw [if_neg c10] at H
       exact absurd H (by simp)
     ·rw [if_neg c9] at H
      have c9b0 : ((bt a0 x6_1) == 46) = false := beq_eq_false_iff_ne.mpr c9
      have c9b1 : ((bt a0 x6_1) != 46) = true := bne_iff_ne.mpr c9
      obtain ⟨ji14, hji14⟩ : ∃ j_ : Int, (wrap64 ((x4_1.length : Int) - 1)) = j_ := ⟨_, rfl⟩
      replace H : (if 0 ≤ (ji14) then (if (ji14) < (x4_1.length : Int) then (if x6_1 ≤ (wrap64 (x6_1 + 1)) then (if (wrap64 (x6_1 + 1)) ≤ (a0.size : Int) then (if (rdOf ByteArray.empty x4_1 (ji14)).size + (a0.extract (x6_1 : Int).toNat ((wrap64 (x6_1 + 1)) : Int).toNat).size ≤ 9223372036854775807 then (sallyportref06_parts.l0 k1 a0 (x4_1.set ((ji14) : Int).toNat ((rdOf ByteArray.empty x4_1 (ji14)) ++ (a0.extract (x6_1 : Int).toNat ((wrap64 (x6_1 + 1)) : Int).toNat))) x5_1 (wrap64 (x6_1 + 1))) else (none)) else (none)) else (none)) else (none)) else (none)) = some (r1, r2) := by first | (rw [hji14] at H; exact H) | (simp only [hji14] at H ⊢; exact H)
      have hji14w : (IntKind.i64.wrap ((x4_1.length : Int) - 1)) = ji14 := (i64_w _).trans hji14
      by_cases c15 : 0 ≤ (ji14)
      ·rw [if_pos c15] at H
       have c15b0 : decide (0 ≤ (ji14)) = true := decide_eq_true c15
       clear c15
       by_cases c16 : (ji14) < (x4_1.length : Int)
       ·rw [if_pos c16] at H
        have c16b0 : decide ((ji14) < (x4_1.length : Int)) = true := decide_eq_true c16
        clear c16
        have c17b0 := eq_true (of_decide_eq_true (by first | (with_reducible assumption) | assumption) : 0 ≤ x6_1)
        by_cases c18 : x6_1 ≤ (wrap64 (x6_1 + 1))
        ·rw [if_pos c18] at H
         have c18b0 := eq_true c18
         have c18b1 : decide (x6_1 ≤ (wrap64 (x6_1 + 1))) = true := decide_eq_true c18
         by_cases c19 : (wrap64 (x6_1 + 1)) ≤ (a0.size : Int)
         ·rw [if_pos c19] at H
          have c19b0 := eq_true c19
          have c19b1 : decide ((wrap64 (x6_1 + 1)) ≤ (a0.size : Int)) = true := decide_eq_true c19
          by_cases c20 : (rdOf ByteArray.empty x4_1 (ji14)).size + (a0.extract (x6_1 : Int).toNat ((wrap64 (x6_1 + 1)) : Int).toNat).size ≤ 9223372036854775807
          ·rw [if_pos c20] at H
           have c20b0 := eq_true c20
           have c20b1 : decide ((rdOf ByteArray.empty x4_1 (ji14)).size + (a0.extract (x6_1 : Int).toNat ((wrap64 (x6_1 + 1)) : Int).toNat).size ≤ 9223372036854775807) = true := decide_eq_true c20
           try have c20b2 : (9223372036854775807 < (rdOf ByteArray.empty x4_1 (ji14)).size + (a0.extract (x6_1 : Int).toNat ((wrap64 (x6_1 + 1)) : Int).toNat).size) = False := eq_false (Nat.not_lt.2 c20)
           try have c20b3 : (9223372036854775807 < (rdOf ByteArray.empty x4_1 (ji14)).size + (((wrap64 (x6_1 + 1)) : Int).toNat - (x6_1 : Int).toNat)) = False := eq_false (Nat.not_lt.2 (Nat.le_trans (Nat.add_le_add_left (by have h_ := of_decide_eq_true (p := (wrap64 (x6_1 + 1)) ≤ (a0.size : Int)) (by assumption); rw [ByteArray.size_extract]; omega) _) c20))
           obtain ⟨y125, hy125⟩ : ∃ y_ : List ByteArray, y_ = (x4_1.set ((ji14) : Int).toNat ((rdOf ByteArray.empty x4_1 (ji14)) ++ (a0.extract (x6_1 : Int).toNat ((wrap64 (x6_1 + 1)) : Int).toNat))) := ⟨_, rfl⟩
           replace H : (sallyportref06_parts.l0 k1 a0 y125 x5_1 (wrap64 (x6_1 + 1))) = some (r1, r2) := by first | (rw [hy125]; with_reducible exact H) | (have H2_ := (Option.bind_some _ _).symm.trans H; rw [hy125]; with_reducible exact H2_) | (have H2_ := (Option.bind_some _ _).symm.trans H; with_reducible exact H2_) | with_reducible exact H | (rw [hy125]; exact H) | exact H
           have Ny125 := Aside0.mk hy125
           clear hy125
           have H' := Aside0.mk H
           clear H
           have p8 : 0 ≤ (x6_1 : Int) := of_decide_eq_true (by first | (with_reducible assumption) | assumption)
           have q8 : x6_1 < (a0.size : Int) := of_decide_eq_true (by first | (with_reducible assumption) | assumption)
           have hx8 := bt_at a0 x6_1
           replace p8 := eq_true p8
           replace q8 := eq_true q8
           try go_wp2
           have n0_ := Aside0.mk (Kd.R_drew HO_4.out)
           have n1_ := Aside0.mk (Kd.R_drew HO_5.out)
           have n2_ := Aside0.mk (below_drew1 HB.out)
           clear HO_4
           clear HO_5
           clear HB
           have HO_4 := n0_
           have HO_5 := n1_
           have HB := n2_
           clear n0_ n1_ n2_
           obtain ⟨Ao23, co23, eo23⟩ := Kd.R_slice HO_4.out
           (first | subst eo23 | (injection eo23 with f1_ f2_ f3_; have f4_ := f1_.symm; have f5_ := f3_.symm; clear f1_ f2_ f3_; subst f4_; subst f5_))
           have p124 : 0 ≤ ((ji14) : Int) := of_decide_eq_true (by first | (with_reducible assumption) | assumption)
           have q124 : (ji14) < (x4_1.length : Int) := of_decide_eq_true (by first | (with_reducible assumption) | assumption)
           obtain ⟨ad124, e124, hx124_0⟩ := Kd.at_string (Kd.R_reads' HO_4.out).2.2 (ji14) p124 q124
           cases e124
           replace p124 := eq_true p124
           replace q124 := eq_true q124
           have p21 : 0 ≤ ((ji14) : Int) := of_decide_eq_true (by first | (with_reducible assumption) | assumption)
           have q21 : ((ji14) : Int) < ((x4_1.length : Int) : Int) := of_decide_eq_true (by first | (with_reducible assumption) | assumption)
           obtain ⟨go21, co21, eo21, gb21, gl21, cl21, HG21⟩ := Kd.R_form HO_4.out (by omega)
           (first | cases eo21 | (injection eo21 with ea_ en_ ec_; (first | subst ea_ | (injection ea_ with ea_; subst ea_)); subst ec_; clear en_))
           have GB21 := Aside0.mk gb21
           have GG21 := Aside0.mk HG21
           clear gb21 gl21 HG21
           (first | simp only [add_plain] at hx124_0 | skip)
           obtain ⟨hx21_0, hf21_0⟩ := Kd.R_celln (⟨#[]⟩ : ByteArray) HO_4.out ((ji14) : Int) p21 q21
           replace p21 := eq_true p21
           replace q21 := eq_true q21
           have HP24 := Kd.R_putn HO_4.out ((ji14) : Int) ((rdOf ByteArray.empty x4_1 (ji14)) ++ (a0.extract (x6_1 : Int).toNat ((wrap64 (x6_1 + 1)) : Int).toNat))
           rw [← Ny125.out] at HP24
           have HQ24 := Aside0.mk HP24
           clear HP24
           refine start_ (n := 14) (S := fun w' => w'.cell? ⟨go21, ((ji14)).toNat, none⟩ = some (.string (rdOf ByteArray.empty x4_1 (ji14)))) (ds := [13]) #[false, false, false, false, false, false, false, false, false, false, false, false, false, false] (by kernel_rfl) rfl rfl (hx124_0) (fun hHeld => ?_); refine with_tabW sallyportref06_parts.tab8 sallyportref06_parts.bits8 (fun HT_ HW_ => ?_)
           generalize wr.drew = w22 at HO_4 HO_5 HB GG21 HQ24 hf21_0 hx124_0 hx21_0 hHeld ⊢
           refine pure_ (i := 0) (N := some 27) (v := ?_) (a' := ?_) #[true, false, false, false, false, false, false, false, false, false, false, false, false, false] rfl rfl (any_of HT_.out (by kernel_rfl)) (fun _ _ _ h => h) (Or.inl ⟨by rfl, ?_⟩) ?_ ?_
           rotate_left
           ·intro w'
            go_simp
            with_reducible rfl
           rotate_left
           ·simp only [Act.put, List.setIfInBounds_toArray, List.set_cons_zero, List.set_cons_succ, i64_w, i32_w]
            rfl
           refine pure_ (i := 1) (N := some 28) (v := ?_) (a' := ?_) #[true, true, false, false, false, false, false, false, false, false, false, false, false, false] rfl rfl (any_of HT_.out (by kernel_rfl)) (fun _ _ _ h => h) (Or.inl ⟨by rfl, ?_⟩) ?_ ?_
           rotate_left
           ·intro w'
            go_simp
            with_reducible rfl
           rotate_left
           ·simp only [Act.put, List.setIfInBounds_toArray, List.set_cons_zero, List.set_cons_succ, i64_w, i32_w]
            rfl
           refine pure_ (i := 2) (N := some 29) (v := ?_) (a' := ?_) #[true, true, true, false, false, false, false, false, false, false, false, false, false, false] rfl rfl (any_of HT_.out (by kernel_rfl)) (fun _ _ _ h => h) (Or.inl ⟨by rfl, ?_⟩) ?_ ?_
           rotate_left
           ·intro w'
            go_simp
            with_reducible rfl
           rotate_left
           ·simp only [Act.put, List.setIfInBounds_toArray, List.set_cons_zero, List.set_cons_succ, i64_w, i32_w]
            rfl
           refine pure_ (i := 3) (N := some 30) (v := ?_) (a' := ?_) #[true, true, true, true, false, false, false, false, false, false, false, false, false, false] rfl rfl (any_of HT_.out (by kernel_rfl)) (fun _ _ _ h => h) (Or.inl ⟨by rfl, ?_⟩) ?_ ?_
           rotate_left
           ·intro w'
            go_simp
            with_reducible rfl
           rotate_left
           ·simp only [Act.put, List.setIfInBounds_toArray, List.set_cons_zero, List.set_cons_succ, i64_w, i32_w]
            rfl
           refine pure_ (i := 4) (N := some 31) (v := ?_) (a' := ?_) #[true, true, true, true, true, false, false, false, false, false, false, false, false, false] rfl rfl (any_of HT_.out (by kernel_rfl)) (fun _ _ _ h => h) (Or.inl ⟨by rfl, ?_⟩) ?_ ?_
           rotate_left
           ·intro w'
            go_simp
            with_reducible rfl
           rotate_left
           ·simp only [Act.put, List.setIfInBounds_toArray, List.set_cons_zero, List.set_cons_succ, i64_w, i32_w]
            rfl
           refine pure_ (i := 6) (N := some 33) (v := ?_) (a' := ?_) #[true, true, true, true, true, false, true, false, false, false, false, false, false, false] rfl rfl (any_of HT_.out (by kernel_rfl)) (fun _ _ _ h => h) (Or.inl ⟨by rfl, ?_⟩) ?_ ?_
           rotate_left
           ·intro w'
            go_simp
            with_reducible rfl
           rotate_left
           ·simp only [Act.put, List.setIfInBounds_toArray, List.set_cons_zero, List.set_cons_succ, i64_w, i32_w]
            rfl
           refine pure_ (i := 7) (N := some 34) (v := ?_) (a' := ?_) #[true, true, true, true, true, false, true, true, false, false, false, false, false, false] rfl rfl (any_of HT_.out (by kernel_rfl)) (fun _ _ _ h => h) (Or.inl ⟨by rfl, ?_⟩) ?_ ?_
           rotate_left
           ·intro w'
            go_simp
            with_reducible rfl
           rotate_left
           ·simp only [Act.put, List.setIfInBounds_toArray, List.set_cons_zero, List.set_cons_succ, i64_w, i32_w]
            rfl
           refine pure_ (i := 8) (N := some 35) (v := ?_) (a' := ?_) #[true, true, true, true, true, false, true, true, true, false, false, false, false, false] rfl rfl (any_of HT_.out (by kernel_rfl)) (fun _ _ _ h => h) (Or.inl ⟨by rfl, ?_⟩) ?_ ?_
           rotate_left
           ·intro w'
            go_simp
            with_reducible rfl
           rotate_left
           ·simp only [Act.put, List.setIfInBounds_toArray, List.set_cons_zero, List.set_cons_succ, i64_w, i32_w]
            rfl
           refine pure_ (i := 9) (N := some 36) (v := ?_) (a' := ?_) #[true, true, true, true, true, false, true, true, true, true, false, false, false, false] rfl rfl (any_of HT_.out (by kernel_rfl)) (fun _ _ _ h => h) (Or.inl ⟨by rfl, ?_⟩) ?_ ?_
           rotate_left
           ·intro w'
            go_simp
            with_reducible rfl
           rotate_left
           ·simp only [Act.put, List.setIfInBounds_toArray, List.set_cons_zero, List.set_cons_succ, i64_w, i32_w]
            rfl
           refine pure_ (i := 10) (N := some 37) (v := ?_) (a' := ?_) #[true, true, true, true, true, false, true, true, true, true, true, false, false, false] rfl rfl (any_of HT_.out (by kernel_rfl)) (fun _ _ _ h => h) (Or.inl ⟨by rfl, ?_⟩) ?_ ?_
           rotate_left
           ·intro w'
            go_simp
            with_reducible rfl
           rotate_left
           ·simp only [Act.put, List.setIfInBounds_toArray, List.set_cons_zero, List.set_cons_succ, i64_w, i32_w]
            rfl
           refine take_ (i := 5) (N := some 32) (v := ?_) (a' := ?_) #[true, true, true, true, true, true, true, true, true, true, true, false, false, false] rfl rfl (take_ofW HT_.out HW_.out (by kernel_rfl)) (fun _ _ _ h => h) (Or.inl ⟨by rfl, ?_⟩) hHeld ?_ ?_
           rotate_left
           ·intro w' s0
            go_simp
            with_reducible rfl
           rotate_left
           ·simp only [Act.put, List.setIfInBounds_toArray, List.set_cons_zero, List.set_cons_succ, i64_w, i32_w]
            rfl
           refine pure_ (i := 11) (N := some 38) (v := ?_) (a' := ?_) #[true, true, true, true, true, true, true, true, true, true, true, true, false, false] rfl rfl (any_of HT_.out (by kernel_rfl)) (fun _ _ _ h => h) (Or.inl ⟨by rfl, ?_⟩) ?_ ?_
           rotate_left
           ·intro w'
            go_simp
            with_reducible rfl
           rotate_left
           ·simp only [Act.put, List.setIfInBounds_toArray, List.set_cons_zero, List.set_cons_succ, i64_w, i32_w]
            rfl
           refine pure_ (i := 12) (N := some 39) (v := ?_) (a' := ?_) #[true, true, true, true, true, true, true, true, true, true, true, true, true, false] rfl rfl (any_of HT_.out (by kernel_rfl)) (fun _ _ _ h => h) (Or.inl ⟨by rfl, ?_⟩) ?_ ?_
           rotate_left
           ·intro w'
            go_simp
            with_reducible rfl
           rotate_left
           ·simp only [Act.put, List.setIfInBounds_toArray, List.set_cons_zero, List.set_cons_succ, i64_w, i32_w]
            rfl
           refine last_ (i := 13) (N := none) #[true, true, true, true, true, true, true, true, true, true, true, true, true, true] rfl rfl (one_of HT_.out (by kernel_rfl)) (by decide) (fun K hK => ?_)
           refine skip_ (w1 := ?_) (by rfl) rfl ?_ ?_
           rotate_left
           ·go_simp
            rfl
           refine hK.out _ _ ?_
           clear hK K
           refine done_ (done_of HT_.out (by kernel_rfl)) ?_
           try go_wp2
           go_roundg k1
           case measure => have := HK1.out; omega
           case rel => exact ⟨(y125), (x5_1), (wrap64 (x6_1 + 1)), (by first | rfl | (simp; done) | (simp [*]; done)), H', ⟨by have := HK1.out; omega⟩, ⟨by (with_reducible repeat (first | apply Kd.R_alloc | apply Kd.R_drewN | apply Kd.R_drew)); exact HQ24.out⟩, ⟨by (with_reducible repeat (first | apply Kd.R_alloc | apply Kd.R_drewN | apply Kd.R_drew)); exact Kd.R_mono (Kd.R_far (p := ⟨go21, ((ji14) : Int).toNat, none⟩) (Kd.R_types HO_5.out GG21.out (by decide)) (fun _ hk => hk.2) (.string ((rdOf ByteArray.empty x4_1 (ji14)) ++ (a0.extract (x6_1 : Int).toNat ((wrap64 (x6_1 + 1)) : Int).toNat)))) (fun _ hk => trivial)⟩, ⟨by repeat (first | (with_reducible first | exact HB.out | apply below_alloc | apply pw_below_drewN | apply below_drew1 | refine below_set ?_ GB21.out) | exact HB.out)⟩⟩
          ·rw [if_neg c20] at H
           exact absurd H (by simp)
         ·rw [if_neg c19] at H
          exact absurd H (by simp)
        ·rw [if_neg c18] at H
         exact absurd H (by simp)
       ·rw [if_neg c16] at H
        exact absurd H (by simp)
      ·rw [if_neg c15] at H
       exact absurd H (by simp)
    ·rw [if_neg c7] at H
     exact absurd H (by simp)
   ·rw [if_neg c6] at H
    have c6b0 : decide (x6_1 < (a0.size : Int)) = false := decide_eq_false c6
    clear c6
    simp only [Option.some.injEq, Prod.mk.injEq] at H
    obtain ⟨rfl, rfl⟩ := H
    go_wp2
    go_ret2
    exact ⟨_, _, by first | rfl | (simp [errW_none, errW_some] <;> rfl) | (simp [*, errW_none, errW_some] <;> rfl), by (with_reducible repeat (first | apply Kd.R_alloc | apply Kd.R_drewN | apply Kd.R_drew)); exact HO_4.out, by (with_reducible repeat (first | apply Kd.R_alloc | apply Kd.R_drewN | apply Kd.R_drew)); exact HO_5.out, by repeat (first | (with_reducible first | exact HB.out | apply below_alloc | apply pw_below_drewN | apply below_drew1) | exact HB.out)⟩
mutual
def sallyportref06_label.j0 : Nat → ByteArray → Bool → Option (Bool)
 | 0, _, _ => none
 | k + 1, x0, x23 => if x23 = true then (some false) else (sallyportref06_label.l0 k x0 0)
def sallyportref06_label.l0 : Nat → ByteArray → Int → Option (Bool)
 | 0, _, _ => none
 | k + 1, x0, x3 => if x3 < (x0.size : Int) then (if 0 ≤ x3 then (if (bt x0 x3) = 45 then (sallyportref06_label.l0 k x0 (wrap64 (x3 + 1))) else ((sallyportref06_digit.f (bt x0 x3)).bind fun t126 => (if t126 = true then (sallyportref06_label.l0 k x0 (wrap64 (x3 + 1))) else (if (bt x0 x3) < 97 then (some false) else (if (bt x0 x3) > 122 then (some false) else (sallyportref06_label.l0 k x0 (wrap64 (x3 + 1)))))))) else (none)) else (some true)
end
def sallyportref06_label.f (k : Nat) (a0 : ByteArray) : Option (Bool) := if a0.toList = ([] : List UInt8) then (sallyportref06_label.j0 k a0 true) else (if (a0.size : Int) > 63 then (sallyportref06_label.j0 k a0 true) else (if 0 < (a0.size : Int) then (if (bt a0 0) = 45 then (sallyportref06_label.j0 k a0 true) else (if 0 ≤ (wrap64 ((a0.size : Int) - 1)) then (if (wrap64 ((a0.size : Int) - 1)) < (a0.size : Int) then (sallyportref06_label.j0 k a0 ((bt a0 (wrap64 ((a0.size : Int) - 1))) == 45)) else (none)) else (none))) else (none)))
theorem sallyportref06_label.mono_l : ∀ k, (∀ y0 y1, LeO (sallyportref06_label.j0 k y0 y1) (sallyportref06_label.j0 (k + 1) y0 y1)) ∧ (∀ y0 y1, LeO (sallyportref06_label.l0 k y0 y1) (sallyportref06_label.l0 (k + 1) y0 y1))
 | 0 => ⟨fun _ _ r h => by simp [sallyportref06_label.j0] at h, fun _ _ r h => by simp [sallyportref06_label.l0] at h⟩
 | k + 1 => by
  obtain ⟨ih0, ih1⟩ := sallyportref06_label.mono_l k
  refine ⟨?_, ?_⟩
  ·intro y0 y1
   unfold sallyportref06_label.j0
   repeat' first
   | (with_reducible exact ih0 _ _)
   | (with_reducible exact ih1 _ _)
   | (with_reducible exact LeO.refl _)
   | (with_reducible exact LeO.none _)
   | (with_reducible refine LeO.ite ?_ ?_)
   | (with_reducible refine LeO.bind ?_ (fun _ => ?_))
   | exact ih0 _ _
   | exact ih1 _ _
   | exact LeO.none _
   | refine LeO.ite ?_ ?_
   | refine LeO.bind ?_ (fun _ => ?_)
  ·intro y0 y1
   unfold sallyportref06_label.l0
   repeat' first
   | (with_reducible exact ih0 _ _)
   | (with_reducible exact ih1 _ _)
   | (with_reducible exact LeO.refl _)
   | (with_reducible exact LeO.none _)
   | (with_reducible refine LeO.ite ?_ ?_)
   | (with_reducible refine LeO.bind ?_ (fun _ => ?_))
   | exact ih0 _ _
   | exact ih1 _ _
   | exact LeO.none _
   | refine LeO.ite ?_ ?_
   | refine LeO.bind ?_ (fun _ => ?_)
theorem sallyportref06_label.mono : ∀ a0 k, LeO (sallyportref06_label.f k a0) (sallyportref06_label.f (k + 1) a0) := by
 intro a0 k
 obtain ⟨ih0, ih1⟩ := sallyportref06_label.mono_l k
 unfold sallyportref06_label.f
 repeat' first
   | (with_reducible exact ih0 _ _)
   | (with_reducible exact ih1 _ _)
   | (with_reducible exact LeO.refl _)
   | (with_reducible exact LeO.none _)
   | (with_reducible refine LeO.ite ?_ ?_)
   | (with_reducible refine LeO.bind ?_ (fun _ => ?_))
   | exact ih0 _ _
   | exact ih1 _ _
   | exact LeO.none _
   | refine LeO.ite ?_ ?_
   | refine LeO.bind ?_ (fun _ => ?_)
set_option maxHeartbeats 8000000 in
set_option maxRecDepth 100000 in
theorem sallyportref06_label.calls (k : Nat) (a0 : ByteArray) (r : Bool) (w : World) (h : sallyportref06_label.f k a0 = some r) :
  Calls Tryz.prog 206 #[.string a0] w fun e w' => e = .returned (.bool r) ∧ Drawn0 w w' := by
 have H : (if a0.toList = ([] : List UInt8) then (sallyportref06_label.j0 k a0 true) else (if (a0.size : Int) > 63 then (sallyportref06_label.j0 k a0 true) else (if 0 < (a0.size : Int) then (if (bt a0 0) = 45 then (sallyportref06_label.j0 k a0 true) else (if 0 ≤ (wrap64 ((a0.size : Int) - 1)) then (if (wrap64 ((a0.size : Int) - 1)) < (a0.size : Int) then (sallyportref06_label.j0 k a0 ((bt a0 (wrap64 ((a0.size : Int) - 1))) == 45)) else (none)) else (none))) else (none)))) = some r := h
 clear h
 have HC2 := Aside0.mk H
 clear H
 go_enter Tryz.func206, Tryz.ntmps206
 go_upto_region 1 with (fail)
 go_cut [23] (fun v23 wc => ∃ (kq : Nat) (x23_1 : Bool), v23 = .bool x23_1 ∧ Aside0 (sallyportref06_label.j0 kq a0 x23_1 = some r) ∧ Aside0 (kq ≤ k) ∧ Drawn0 w wc)
 case first =>
  have H := HC2.out
  clear HC2
  by_cases c3 : a0.toList = ([] : List UInt8)
  ·rw [if_pos c3] at H
   have c3b0 : (a0.toList == ([] : List UInt8)) = true := beq_iff_eq.mpr c3
   have c3b1 : (a0.toList != ([] : List UInt8)) = false := bne_eq_false_iff_eq.mpr c3
   clear c3
   (first | rw [c3b0] | (simp only [i64_w, i32_w]; rw [c3b0]) | skip)
   have H' := Aside0.mk H
   clear H
   go_wp2
   go_meet
   case rel => exact ⟨_, (true), (by first | rfl | (simp; done) | (simp [*]; done)), H', ⟨by first | omega | exact Nat.le_refl _⟩, by repeat (first | exact Drawn0.refl _ | apply Drawn0.step)⟩
  ·rw [if_neg c3] at H
   have c3b0 : (a0.toList == ([] : List UInt8)) = false := beq_eq_false_iff_ne.mpr c3
   have c3b1 : (a0.toList != ([] : List UInt8)) = true := bne_iff_ne.mpr c3
   (first | rw [c3b0] | (simp only [i64_w, i32_w]; rw [c3b0]) | skip)
   by_cases c4 : (a0.size : Int) > 63
   ·rw [if_pos c4] at H
    have c4b0 : decide (63 < (a0.size : Int)) = true := decide_eq_true c4
    have c4b1 : decide (63 < a0.size) = true := decide_eq_true (by omega)
    clear c4
    have H' := Aside0.mk H
    clear H
    go_wp2
    go_meet
    case rel => exact ⟨_, (true), (by first | rfl | (simp; done) | (simp [*]; done)), H', ⟨by first | omega | exact Nat.le_refl _⟩, by repeat (first | exact Drawn0.refl _ | apply Drawn0.step)⟩
   ·rw [if_neg c4] at H
    have c4b0 : decide (63 < (a0.size : Int)) = false := decide_eq_false c4
    have c4b1 : decide (63 < a0.size) = false := decide_eq_false (by omega)
    clear c4
    by_cases c5 : 0 < (a0.size : Int)
    ·rw [if_pos c5] at H
     have c5b0 : decide (0 < (a0.size : Int)) = true := decide_eq_true c5
     have c5b1 : decide (0 < a0.size) = true := decide_eq_true (by omega)
     clear c5
     by_cases c7 : (bt a0 0) = 45
     ·rw [if_pos c7] at H
      have c7b0 : ((bt a0 0) == 45) = true := beq_iff_eq.mpr c7
      have c7b1 : ((bt a0 0) != 45) = false := bne_eq_false_iff_eq.mpr c7
      clear c7
      have H' := Aside0.mk H
      clear H
      have p6 : 0 ≤ (0 : Int) := (by omega)
      have q6 : 0 < a0.size := (by have : (0 : Int) < (a0.size : Int) := of_decide_eq_true (by first | (with_reducible assumption) | assumption); omega)
      have hx6 : ∀ h : 0 < a0.size, ((a0[0]'h).toNat : Int) = bt a0 0 := bt_at a0 0
      clear p6
      have qi6 : (0 < (a0.size : Int)) = True := eq_true (of_decide_eq_true (by first | (with_reducible assumption) | assumption))
      replace q6 := eq_true q6
      go_wp2
      go_meet
      case rel => exact ⟨_, (true), (by first | rfl | (simp; done) | (simp [*]; done)), H', ⟨by first | omega | exact Nat.le_refl _⟩, by repeat (first | exact Drawn0.refl _ | apply Drawn0.step)⟩
     ·rw [if_neg c7] at H
      have c7b0 : ((bt a0 0) == 45) = false := beq_eq_false_iff_ne.mpr c7
      have c7b1 : ((bt a0 0) != 45) = true := bne_iff_ne.mpr c7
      obtain ⟨ji8, hji8⟩ : ∃ j_ : Int, (wrap64 ((a0.size : Int) - 1)) = j_ := ⟨_, rfl⟩
      replace H : (if 0 ≤ (ji8) then (if (ji8) < (a0.size : Int) then (sallyportref06_label.j0 k a0 ((bt a0 (ji8)) == 45)) else (none)) else (none)) = some r := by first | (rw [hji8] at H; exact H) | (simp only [hji8] at H ⊢; exact H)
      have hji8w : (IntKind.i64.wrap ((a0.size : Int) - 1)) = ji8 := (i64_w _).trans hji8
      by_cases c9 : 0 ≤ (ji8)
      ·rw [if_pos c9] at H
       have c9b0 : decide (0 ≤ (ji8)) = true := decide_eq_true c9
       clear c9
       by_cases c10 : (ji8) < (a0.size : Int)
       ·rw [if_pos c10] at H
        have c10b0 : decide ((ji8) < (a0.size : Int)) = true := decide_eq_true c10
        clear c10
        have H' := Aside0.mk H
        clear H
        have p6 : 0 ≤ (0 : Int) := (by omega)
        have q6 : 0 < a0.size := (by have : (0 : Int) < (a0.size : Int) := of_decide_eq_true (by first | (with_reducible assumption) | assumption); omega)
        have hx6 : ∀ h : 0 < a0.size, ((a0[0]'h).toNat : Int) = bt a0 0 := bt_at a0 0
        clear p6
        have qi6 : (0 < (a0.size : Int)) = True := eq_true (of_decide_eq_true (by first | (with_reducible assumption) | assumption))
        replace q6 := eq_true q6
        have p11 : 0 ≤ ((ji8) : Int) := of_decide_eq_true (by first | (with_reducible assumption) | assumption)
        have q11 : (ji8) < (a0.size : Int) := of_decide_eq_true (by first | (with_reducible assumption) | assumption)
        have hx11 := bt_at a0 (ji8)
        replace p11 := eq_true p11
        replace q11 := eq_true q11
        go_wp2
        go_meet
        case rel => exact ⟨_, (((bt a0 (ji8)) == 45)), (by first | rfl | (simp; done) | (simp only [← hji8] <;> (first | rfl | simp)) | (simp [*]; done)), H', ⟨by first | omega | exact Nat.le_refl _⟩, by repeat (first | exact Drawn0.refl _ | apply Drawn0.step)⟩
       ·rw [if_neg c10] at H
        exact absurd H (by simp)
      ·rw [if_neg c9] at H
       exact absurd H (by simp)
    ·rw [if_neg c5] at H
     exact absurd H (by simp)
 case rest =>
  clear HC2
  try clear c1
  try clear p1
  try clear q1
  try clear hx1
  try clear c2
  try clear p2
  try clear c3
  try clear c3b0
  try clear c3b1
  try clear c4
  try clear c4b0
  try clear c4b1
  try clear c5
  try clear c5b0
  try clear c5b1
  try clear p6
  try clear q6
  try clear hx6
  try clear qi6
  try clear c7
  try clear c7b0
  try clear c7b1
  try clear c9
  try clear c9b0
  try clear c10
  try clear c10b0
  try clear p11
  try clear q11
  try clear hx11
  try clear p11
  try clear p6
  try clear q11
  try clear q6
  obtain ⟨kq, x23_1, rfl, HA, HJ1, ⟨mc1, rfl⟩⟩ := hcut
  cases kq with
  | zero => exact absurd HA.out (by simp [sallyportref06_label.j0])
  | succ kj1 =>
   have H := HA.out
   clear HA
   simp only [sallyportref06_label.j0] at H
   by_cases c12 : x23_1 = true
   ·subst c12
    have H1 : (some false) = some r := by rw [if_pos rfl] at H; exact H
    clear H
    have H := H1
    clear H1
    obtain rfl := Option.some.inj H
    go_wp2
    go_ret
    exact ⟨by first | rfl | (simp; done) | (simp [*]; done), by repeat (first | exact Drawn0.refl _ | apply Drawn0.step)⟩
   ·replace c12 := Bool.eq_false_iff.mpr c12
    subst c12
    have H1 : (sallyportref06_label.l0 kj1 a0 0) = some r := by rw [if_neg (show ¬ (false = true) by decide)] at H; exact H
    clear H
    have H := H1
    clear H1
    have H' := Aside0.mk H
    clear H
    go_wp2
    go_loopg [3] kj1 (fun kq v3 w' => ∃ (x3_2 : Int), v3 = .int .i64 x3_2 ∧ Aside0 (sallyportref06_label.l0 kq a0 x3_2 = some r) ∧ Aside0 (kq ≤ kj1) ∧ Drawn0 w w')
    case atStart => exact ⟨(0), (by first | rfl | (simp; done) | (simp [*]; done)), H', ⟨Nat.le_refl _⟩, by repeat (first | exact Drawn0.refl _ | apply Drawn0.step)⟩
    case round =>
     clear H'
     try clear c1
     try clear p1
     try clear q1
     try clear hx1
     try clear c2
     try clear p2
     try clear c3
     try clear c3b0
     try clear c3b1
     try clear c4
     try clear c4b0
     try clear c4b1
     try clear c5
     try clear c5b0
     try clear c5b1
     try clear p6
     try clear q6
     try clear hx6
     try clear qi6
     try clear c7
     try clear c7b0
     try clear c7b1
     try clear c9
     try clear c9b0
     try clear c10
     try clear c10b0
     try clear p11
     try clear q11
     try clear hx11
     try clear c12
     try clear p1
     try clear p11
     try clear p2
     try clear p6
     try clear q1
     try clear q11
     try clear q6
     obtain ⟨x3_2, rfl, HA, HK2, ⟨m2, rfl⟩⟩ := hrel
     cases gk with
     | zero => exact absurd HA.out (by simp [sallyportref06_label.l0])
     | succ k2 =>
      have H := HA.out
      clear HA
      simp only [sallyportref06_label.l0] at H
      by_cases c13 : x3_2 < (a0.size : Int)
      ·rw [if_pos c13] at H
       have c13b0 : decide (x3_2 < (a0.size : Int)) = true := decide_eq_true c13
       clear c13
       by_cases c14 : 0 ≤ x3_2
       ·rw [if_pos c14] at H
        have c14b0 : decide (0 ≤ x3_2) = true := decide_eq_true c14
        clear c14
        by_cases c16 : (bt a0 x3_2) = 45
        ·rw [if_pos c16] at H
         have c16b0 : ((bt a0 x3_2) == 45) = true := beq_iff_eq.mpr c16
         have c16b1 : ((bt a0 x3_2) != 45) = false := bne_eq_false_iff_eq.mpr c16
         clear c16
         have H' := Aside0.mk H
         clear H
         have p15 : 0 ≤ (x3_2 : Int) := of_decide_eq_true (by first | (with_reducible assumption) | assumption)
         have q15 : x3_2 < (a0.size : Int) := of_decide_eq_true (by first | (with_reducible assumption) | assumption)
         have hx15 := bt_at a0 x3_2
         replace p15 := eq_true p15
         replace q15 := eq_true q15
         go_wp2
         go_roundg k2
         case measure => have := HJ1.out; have := HK2.out; omega
         case rel => exact ⟨(wrap64 (x3_2 + 1)), (by first | rfl | (simp; done) | (simp [*]; done)), H', ⟨by have := HJ1.out; have := HK2.out; omega⟩, by repeat (first | exact Drawn0.refl _ | apply Drawn0.step)⟩
        ·rw [if_neg c16] at H
         have c16b0 : ((bt a0 x3_2) == 45) = false := beq_eq_false_iff_ne.mpr c16
         have c16b1 : ((bt a0 x3_2) != 45) = true := bne_iff_ne.mpr c16
         replace H := Option.bind_eq_some_iff.mp H
         obtain ⟨t126, A180, H⟩ := H
         replace H : (if t126 = true then (sallyportref06_label.l0 k2 a0 (wrap64 (x3_2 + 1))) else (if (bt a0 x3_2) < 97 then (some false) else (if (bt a0 x3_2) > 122 then (some false) else (sallyportref06_label.l0 k2 a0 (wrap64 (x3_2 + 1)))))) = some r := H
         have A18 := Aside0.mk A180
         clear A180
         by_cases c19 : t126 = true
         ·subst c19
          have H1 : (sallyportref06_label.l0 k2 a0 (wrap64 (x3_2 + 1))) = some r := by rw [if_pos rfl] at H; exact H
          clear H
          have H := H1
          clear H1
          have H' := Aside0.mk H
          clear H
          have p15 : 0 ≤ (x3_2 : Int) := of_decide_eq_true (by first | (with_reducible assumption) | assumption)
          have q15 : x3_2 < (a0.size : Int) := of_decide_eq_true (by first | (with_reducible assumption) | assumption)
          have hx15 := bt_at a0 x3_2
          replace p15 := eq_true p15
          replace q15 := eq_true q15
          have p17 : 0 ≤ (x3_2 : Int) := of_decide_eq_true (by first | (with_reducible assumption) | assumption)
          have q17 : x3_2 < (a0.size : Int) := of_decide_eq_true (by first | (with_reducible assumption) | assumption)
          have hx17 := bt_at a0 x3_2
          replace p17 := eq_true p17
          replace q17 := eq_true q17
          go_wp2_with (first | (go_at_call 192; (with_reducible refine (sallyportref06_digit.calls (bt a0 x3_2) true _ A18.out).mono ?_); rintro e w' ⟨rfl, ⟨nd, rfl⟩⟩))
          go_roundg k2
          case measure => have := HJ1.out; have := HK2.out; omega
          case rel => exact ⟨(wrap64 (x3_2 + 1)), (by first | rfl | (simp; done) | (simp [*]; done)), H', ⟨by have := HJ1.out; have := HK2.out; omega⟩, by repeat (first | exact Drawn0.refl _ | apply Drawn0.step)⟩
         ·replace c19 := Bool.eq_false_iff.mpr c19
          subst c19
          have H1 : (if (bt a0 x3_2) < 97 then (some false) else (if (bt a0 x3_2) > 122 then (some false) else (sallyportref06_label.l0 k2 a0 (wrap64 (x3_2 + 1))))) = some r := by rw [if_neg (show ¬ (false = true) by decide)] at H; exact H
          clear H
          have H := H1
          clear H1
          by_cases c21 : (bt a0 x3_2) < 97
          ·rw [if_pos c21] at H
           have c21b0 : decide ((bt a0 x3_2) < 97) = true := decide_eq_true c21
           clear c21
           obtain rfl := Option.some.inj H
           have p15 : 0 ≤ (x3_2 : Int) := of_decide_eq_true (by first | (with_reducible assumption) | assumption)
           have q15 : x3_2 < (a0.size : Int) := of_decide_eq_true (by first | (with_reducible assumption) | assumption)
           have hx15 := bt_at a0 x3_2
           replace p15 := eq_true p15
           replace q15 := eq_true q15
           have p17 : 0 ≤ (x3_2 : Int) := of_decide_eq_true (by first | (with_reducible assumption) | assumption)
           have q17 : x3_2 < (a0.size : Int) := of_decide_eq_true (by first | (with_reducible assumption) | assumption)
           have hx17 := bt_at a0 x3_2
           replace p17 := eq_true p17
           replace q17 := eq_true q17
           go_wp2_with (first | (go_at_call 192; (with_reducible refine (sallyportref06_digit.calls (bt a0 x3_2) false _ A18.out).mono ?_); rintro e w' ⟨rfl, ⟨nd, rfl⟩⟩; have p20 : 0 ≤ (x3_2 : Int) := of_decide_eq_true (by first | (with_reducible assumption) | assumption); have q20 : x3_2 < (a0.size : Int) := of_decide_eq_true (by first | (with_reducible assumption) | assumption); have hx20 := bt_at a0 x3_2; replace p20 := eq_true p20; replace q20 := eq_true q20))
           go_ret
           exact ⟨by first | rfl | (simp; done) | (simp [*]; done), by repeat (first | exact Drawn0.refl _ | apply Drawn0.step)⟩
          ·rw [if_neg c21] at H
           have c21b0 : decide ((bt a0 x3_2) < 97) = false := decide_eq_false c21
           clear c21
           by_cases c23 : (bt a0 x3_2) > 122
           ·rw [if_pos c23] at H
            have c23b0 : decide (122 < (bt a0 x3_2)) = true := decide_eq_true c23
            clear c23
            obtain rfl := Option.some.inj H
            have p15 : 0 ≤ (x3_2 : Int) := of_decide_eq_true (by first | (with_reducible assumption) | assumption)
            have q15 : x3_2 < (a0.size : Int) := of_decide_eq_true (by first | (with_reducible assumption) | assumption)
            have hx15 := bt_at a0 x3_2
            replace p15 := eq_true p15
            replace q15 := eq_true q15
            have p17 : 0 ≤ (x3_2 : Int) := of_decide_eq_true (by first | (with_reducible assumption) | assumption)
            have q17 : x3_2 < (a0.size : Int) := of_decide_eq_true (by first | (with_reducible assumption) | assumption)
            have hx17 := bt_at a0 x3_2
            replace p17 := eq_true p17
            replace q17 := eq_true q17
            go_wp2_with (first | (go_at_call 192; (with_reducible refine (sallyportref06_digit.calls (bt a0 x3_2) false _ A18.out).mono ?_); rintro e w' ⟨rfl, ⟨nd, rfl⟩⟩; have p20 : 0 ≤ (x3_2 : Int) := of_decide_eq_true (by first | (with_reducible assumption) | assumption); have q20 : x3_2 < (a0.size : Int) := of_decide_eq_true (by first | (with_reducible assumption) | assumption); have hx20 := bt_at a0 x3_2; replace p20 := eq_true p20; replace q20 := eq_true q20; have p22 : 0 ≤ (x3_2 : Int) := of_decide_eq_true (by first | (with_reducible assumption) | assumption); have q22 : x3_2 < (a0.size : Int) := of_decide_eq_true (by first | (with_reducible assumption) | assumption); have hx22 := bt_at a0 x3_2; replace p22 := eq_true p22; replace q22 := eq_true q22))
            go_ret
            exact ⟨by first | rfl | (simp; done) | (simp [*]; done), by repeat (first | exact Drawn0.refl _ | apply Drawn0.step)⟩
           ·rw [if_neg c23] at H
            have c23b0 : decide (122 < (bt a0 x3_2)) = false := decide_eq_false c23
            clear c23
            have H' := Aside0.mk H
            clear H
            have p15 : 0 ≤ (x3_2 : Int) := of_decide_eq_true (by first | (with_reducible assumption) | assumption)
            have q15 : x3_2 < (a0.size : Int) := of_decide_eq_true (by first | (with_reducible assumption) | assumption)
            have hx15 := bt_at a0 x3_2
            replace p15 := eq_true p15
            replace q15 := eq_true q15
            have p17 : 0 ≤ (x3_2 : Int) := of_decide_eq_true (by first | (with_reducible assumption) | assumption)
            have q17 : x3_2 < (a0.size : Int) := of_decide_eq_true (by first | (with_reducible assumption) | assumption)
            have hx17 := bt_at a0 x3_2
            replace p17 := eq_true p17
            replace q17 := eq_true q17
            go_wp2_with (first | (go_at_call 192; (with_reducible refine (sallyportref06_digit.calls (bt a0 x3_2) false _ A18.out).mono ?_); rintro e w' ⟨rfl, ⟨nd, rfl⟩⟩; have p20 : 0 ≤ (x3_2 : Int) := of_decide_eq_true (by first | (with_reducible assumption) | assumption); have q20 : x3_2 < (a0.size : Int) := of_decide_eq_true (by first | (with_reducible assumption) | assumption); have hx20 := bt_at a0 x3_2; replace p20 := eq_true p20; replace q20 := eq_true q20; have p22 : 0 ≤ (x3_2 : Int) := of_decide_eq_true (by first | (with_reducible assumption) | assumption); have q22 : x3_2 < (a0.size : Int) := of_decide_eq_true (by first | (with_reducible assumption) | assumption); have hx22 := bt_at a0 x3_2; replace p22 := eq_true p22; replace q22 := eq_true q22))
            go_roundg k2
            case measure => have := HJ1.out; have := HK2.out; omega
            case rel => exact ⟨(wrap64 (x3_2 + 1)), (by first | rfl | (simp; done) | (simp [*]; done)), H', ⟨by have := HJ1.out; have := HK2.out; omega⟩, by repeat (first | exact Drawn0.refl _ | apply Drawn0.step)⟩
       ·rw [if_neg c14] at H
        exact absurd H (by simp)
      ·rw [if_neg c13] at H
       have c13b0 : decide (x3_2 < (a0.size : Int)) = false := decide_eq_false c13
       clear c13
       obtain rfl := Option.some.inj H
       go_wp2
       go_ret
       exact ⟨by first | rfl | (simp; done) | (simp [*]; done), by repeat (first | exact Drawn0.refl _ | apply Drawn0.step)⟩
end Go.Proofs.YtaakgjbdknobbaaGreatDoor.XR


namespace Go.Proofs.YtaakgjbdknobbaaGreatDoor.E
open Go.RowKit Go.Proofs.YtaakgjbdknobbaaGreatDoorW.PrintWords
theorem wrap64_id (x : Int) (h0 : -9223372036854775808 ≤ x) (h1 : x ≤ 9223372036854775807) : wrap64 x = x := by
  unfold wrap64; omega
end Go.Proofs.YtaakgjbdknobbaaGreatDoor.E


namespace Go.Proofs.YtaakgjbdknobbaaGreatDoor.E
open Go.RowKit Go.Proofs.YtaakgjbdknobbaaGreatDoorW.PrintWords Go.Proofs.YtaakgjbdknobbaaGreatDoorW.PrintLast Go.Proofs.YtaakgjbdknobbaaGreatDoorW.PrintMore Go.Proofs.YtaakgjbdknobbaaGreatDoor.XR
set_option linter.unusedVariables false
set_option linter.unusedSimpArgs false
theorem bt_get (s : ByteArray) (i : Nat) (h : i < s.data.toList.length) : bt s (i : Int) = ((s.data.toList[i]'h).toNat : Int) := by
  have h' : i < s.size := by rw [Array.length_toList] at h; exact h
  unfold bt
  rw [Int.toNat_natCast, dif_pos h']; rfl
theorem len_size (s : ByteArray) : s.data.toList.length = s.size := Array.length_toList
def digR (c : UInt8) : Bool := decide (48 ≤ c.toNat) && decide (c.toNat ≤ 57)
theorem digit_f (c : UInt8) : sallyportref06_digit.f (c.toNat : Int) = some (digR c) := by
  unfold sallyportref06_digit.f digR
  by_cases h : (c.toNat : Int) ≥ 48
  · rw [if_pos h, decide_eq_true (show 48 ≤ c.toNat by omega), Bool.true_and]
    congr 1
    exact decide_eq_decide.2 (by omega)
  · rw [if_neg h, decide_eq_false (show ¬ 48 ≤ c.toNat by omega), Bool.false_and]
def okr (c : UInt8) : Bool := c.toNat == 45 || digR c || (decide (97 ≤ c.toNat) && decide (c.toNat ≤ 122))
theorem okr_low (c : UInt8) : okr (Lib.lowerB c) = ([2, 3, 4] : List Int).contains (kindZ (c.toNat : Int)) := by
  have h : ∀ n : Fin 256, okr (Lib.lowerB (UInt8.ofNat n.1)) = ([2, 3, 4] : List Int).contains (kindZ ((UInt8.ofNat n.1).toNat : Int)) := by decide +kernel
  have := h ⟨c.toNat, c.toNat_lt⟩
  simpa using this
theorem digR_low (c : UInt8) : digR (Lib.lowerB c) = ([2] : List Int).contains (kindZ (c.toNat : Int)) := by
  have h : ∀ n : Fin 256, digR (Lib.lowerB (UInt8.ofNat n.1)) = ([2] : List Int).contains (kindZ ((UInt8.ofNat n.1).toNat : Int)) := by decide +kernel
  have := h ⟨c.toNat, c.toNat_lt⟩
  simpa using this
theorem dash_low (c : UInt8) : ((Lib.lowerB c).toNat == 45) = (c.toNat == 45) := by
  have h : ∀ n : Fin 256, ((Lib.lowerB (UInt8.ofNat n.1)).toNat == 45) = ((UInt8.ofNat n.1).toNat == 45) := by decide +kernel
  have := h ⟨c.toNat, c.toNat_lt⟩
  simpa using this
theorem dot_low (c : UInt8) : (Lib.lowerB c = 46) ↔ c = 46 := by
  have h : ∀ n : Fin 256, (Lib.lowerB (UInt8.ofNat n.1) = 46) ↔ (UInt8.ofNat n.1) = 46 := by decide +kernel
  have := h ⟨c.toNat, c.toNat_lt⟩
  simpa using this
theorem label_loop (s : ByteArray) (hs : s.size ≤ 281474976710656) : ∀ (m k i : Nat), i + m = s.size → m < k → sallyportref06_label.l0 k s (i : Int) = some ((s.data.toList.drop i).all okr)
  | 0, k + 1, i, hi, hk => by
    unfold sallyportref06_label.l0
    rw [if_neg (by omega), List.drop_of_length_le (by rw [len_size]; omega)]; rfl
  | m + 1, k + 1, i, hi, hk => by
    have hl : i < s.data.toList.length := by rw [len_size]; omega
    have ih := label_loop s hs m k (i + 1) (by omega) (by omega)
    have hw : wrap64 ((i : Int) + 1) = ((i + 1 : Nat) : Int) := by rw [wrap64_id _ (by omega) (by omega)]; omega
    unfold sallyportref06_label.l0
    rw [if_pos (by omega), if_pos (by omega), bt_get s i hl, hw, ih, List.drop_eq_getElem_cons hl, List.all_cons, digit_f, Option.bind_some]
    generalize s.data.toList[i] = c
    unfold okr
    by_cases h1 : (c.toNat : Int) = 45
    · rw [if_pos h1, beq_iff_eq.2 (show c.toNat = 45 by omega)]; simp
    · rw [if_neg h1, beq_eq_false_iff_ne.2 (show c.toNat ≠ 45 by omega), Bool.false_or]
      cases digR c
      · rw [if_neg (by simp), Bool.false_or]
        by_cases h2 : (c.toNat : Int) < 97
        · rw [if_pos h2, decide_eq_false (show ¬ 97 ≤ c.toNat by omega)]; simp
        · rw [if_neg h2, decide_eq_true (show 97 ≤ c.toNat by omega)]
          by_cases h3 : (c.toNat : Int) > 122
          · rw [if_pos h3, decide_eq_false (show ¬ c.toNat ≤ 122 by omega)]; simp
          · rw [if_neg h3, decide_eq_true (show c.toNat ≤ 122 by omega)]; simp
      · rw [if_pos rfl]; simp
def labR (l : List UInt8) : Bool := !l.isEmpty && (decide (l.length ≤ 63) && (l.all okr && (!((l.headD 0).toNat == 45) && !((l.getLastD 0).toNat == 45))))
theorem label_f (s : ByteArray) (hs : s.size ≤ 281474976710656) (k : Nat) (hk : s.size + 1 < k) : sallyportref06_label.f k s = some (labR s.data.toList) := by
  obtain ⟨j, rfl⟩ : ∃ j, k = j + 1 := ⟨k - 1, by omega⟩
  have jt : sallyportref06_label.j0 (j + 1) s true = some false := by simp only [sallyportref06_label.j0, if_true]
  have jf : sallyportref06_label.j0 (j + 1) s false = some (s.data.toList.all okr) := by
    have := label_loop s hs s.size j 0 (by omega) (by omega)
    rw [List.drop_zero] at this
    simp only [sallyportref06_label.j0, Bool.false_eq_true, if_false]
    exact this
  have hl := len_size s
  have htl : s.toList = s.data.toList := ByteArray.toList_eq s
  unfold sallyportref06_label.f labR
  rw [jt, htl]
  by_cases h0 : s.data.toList = []
  · rw [if_pos h0, h0]; rfl
  · rw [if_neg h0]
    have hpos : 0 < s.data.toList.length := List.length_pos_iff.2 h0
    have he : s.data.toList.isEmpty = false := by rw [List.isEmpty_eq_false_iff]; exact h0
    rw [he, Bool.not_false, Bool.true_and]
    by_cases h1 : (s.size : Int) > 63
    · rw [if_pos h1, decide_eq_false (show ¬ s.data.toList.length ≤ 63 by omega)]; rfl
    · rw [if_neg h1, decide_eq_true (show s.data.toList.length ≤ 63 by omega), Bool.true_and, if_pos (by omega)]
      have hb0 : bt s 0 = (s.data.toList[0].toNat : Int) := bt_get s 0 hpos
      have hh : s.data.toList.headD 0 = s.data.toList[0] := by
        rw [List.headD_eq_head?_getD, List.head?_eq_getElem?, List.getElem?_eq_getElem hpos]; rfl
      have hw : wrap64 ((s.size : Int) - 1) = ((s.data.toList.length - 1 : Nat) : Int) := by rw [wrap64_id _ (by omega) (by omega)]; omega
      have hgl : s.data.toList.getLastD 0 = s.data.toList[s.data.toList.length - 1] := by
        rw [List.getLastD_eq_getLast?, List.getLast?_eq_getElem?, List.getElem?_eq_getElem (by omega)]; rfl
      rw [hb0, hw, bt_get s _ (by omega), hh, hgl]
      by_cases h2 : (s.data.toList[0].toNat : Int) = 45
      · rw [if_pos h2, beq_iff_eq.2 (show s.data.toList[0].toNat = 45 by omega)]; simp
      · rw [if_neg h2, if_pos (by omega), if_pos (by omega), beq_eq_false_iff_ne.2 (show s.data.toList[0].toNat ≠ 45 by omega)]
        by_cases h3 : s.data.toList[s.data.toList.length - 1].toNat = 45
        · rw [show ((s.data.toList[s.data.toList.length - 1].toNat : Int) == 45) = true by rw [beq_iff_eq]; omega, jt, beq_iff_eq.2 h3]; simp
        · rw [show ((s.data.toList[s.data.toList.length - 1].toNat : Int) == 45) = false by rw [beq_eq_false_iff_ne]; omega, jf, beq_eq_false_iff_ne.2 h3]; simp
theorem labR_low (l : List UInt8) : labR (l.map Lib.lowerB) = lblOk l := by
  unfold labR lblOk onlyZ
  have h1 : (l.map Lib.lowerB).isEmpty = l.isEmpty := by cases l <;> rfl
  have h2 : ((l.map Lib.lowerB).all okr) = l.all fun c => ([2, 3, 4] : List Int).contains (kindZ (c.toNat : Int)) := by
    rw [List.all_map]
    congr 1
    funext c
    exact okr_low c
  rw [h1, h2, List.length_map]
  cases l with
  | nil => rfl
  | cons a r =>
    have h3 : ((((a :: r).map Lib.lowerB).headD 0).toNat == 45) = (((a :: r).headD 0).toNat == 45) := dash_low a
    have h4 : ((((a :: r).map Lib.lowerB).getLastD 0).toNat == 45) = (((a :: r).getLastD 0).toNat == 45) := by
      rw [List.getLastD_eq_getLast?, List.getLastD_eq_getLast?, List.getLast?_map]
      cases hq : (a :: r).getLast? with
      | none => rfl
      | some x => exact dash_low x
    rw [h3, h4]
end Go.Proofs.YtaakgjbdknobbaaGreatDoor.E


namespace Go.Proofs.YtaakgjbdknobbaaGreatDoor.XR
open Go.RowKit Go.Proofs.YtaakgjbdknobbaaGreatDoorW.PrintWords Go.Proofs.YtaakgjbdknobbaaGreatDoorW.PrintLast Go.Proofs.YtaakgjbdknobbaaGreatDoorW.PrintMore
attribute [local go_sem] max2_int min2_int max_two min_two max_three min_three max_four min_four
set_option linter.unusedVariables false
set_option linter.unusedSimpArgs false
theorem eqA23 (d : Nat) (w : World) (x0 y0 : Int) (x1 y1 : Int) (x2 y2 : Int) (x3 y3 : Int) :
  (Op.equalIn (d + 2) 23 (.agg #[.int .u8 x0, .int .u8 x1, .int .u8 x2, .int .u8 x3]) (.agg #[.int .u8 y0, .int .u8 y1, .int .u8 y2, .int .u8 y3])).run Tryz.prog w = .ok (x0 == y0 && (x1 == y1 && (x2 == y2 && (x3 == y3)))) w := by
 refine eqA_of Tryz.underlying23 (by kernel_rfl) ?_
 refine eqf_cons (by rfl) (by go_simp; rfl) (by go_simp; rfl) (by go_simp) ?_
 refine eqf_cons (by rfl) (by go_simp; rfl) (by go_simp; rfl) (by go_simp) ?_
 refine eqf_cons (by rfl) (by go_simp; rfl) (by go_simp; rfl) (by go_simp) ?_
 exact eqf_last (by rfl) (by go_simp; rfl) (by go_simp; rfl) (by go_simp)
end Go.Proofs.YtaakgjbdknobbaaGreatDoor.XR
