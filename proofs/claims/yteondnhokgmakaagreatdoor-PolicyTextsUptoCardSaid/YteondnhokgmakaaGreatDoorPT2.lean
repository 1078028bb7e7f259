/- What the cards of this seat rest on: the walks and plain laws, part 2. -/
import Derived.Shelf.Strings.Builder1
import Derived.Shelf.Strings.Builder2
import Derived.Shelf.Strings.OnBuilder
import Derived.Shelf.Small.Utf8
import Derived.Shelf.Small.Wraps
import Derived.Shelf.Strings.BuilderF
import Derived.Shelf.Strings.BuilderK
import Derived.Shelf.Strings.BuilderRune
import Derived.Shelf.Utf8.AppendRune
import Derived.Shelf.Strconv.Atoi
import Derived.Shelf.Strconv.Itoa0
import Derived.Shelf.Strconv.Itoa1
import Derived.Shelf.LaysM
import Derived.Shelf.Strconv.Itoa2
import Derived.Shelf.Strconv.Itoa3
import Derived.Shelf.Strconv.AtoiErrFast
import Derived.Shelf.Strconv.ParseIntEmpty
import Derived.Shelf.Strconv.AtoiFail
import Derived.Shelf.Strconv.Clone
import Derived.Shelf.Strconv.SyntaxError
import Derived.Shelf.LaysC
import Derived.Shelf.Strconv.ToError
import Derived.Shelf.Strconv.AtoiErr
import Derived.Shelf.Strconv.ErrVar
import Derived.Shelf.Strconv.Lower
import Derived.Shelf.Strconv.ParseUint10
import Derived.Shelf.Strconv.ParseUint10Empty
import Derived.Shelf.Strconv.ParseUint10Any
import Derived.Shelf.Strconv.ParseInt10
import Derived.Shelf.Strconv.AtoiLong
import Derived.Shelf.Strconv.AtoiInnerAll
import Derived.Shelf.Strconv.RangeError
import Derived.Shelf.Strconv.ToErrorRange
import Derived.Shelf.Strconv.AtoiAll
import Derived.Shelf.Strconv.ErrVarAll
import Derived.Shelf.Strconv.ParseUintEmpty
import Derived.Shelf.Strconv.ParseUint10b64
import Derived.Shelf.Strconv.ParseUint10b32
import Derived.Shelf.Strconv.ParseUint10b16
import Derived.Shelf.Strconv.ParseUint10b8
import Derived.Shelf.Strconv.ParseUint10At
import Derived.Shelf.Strconv.ParseInt10At64
import Derived.Shelf.Strconv.ParseInt10At32
import Derived.Shelf.Strconv.ParseInt10At16
import Derived.Shelf.Strconv.ParseInt10At8
import Derived.Shelf.Strconv.ParseInt10All
import Derived.Shelf.Strings.Search1
import Derived.Shelf.Strings.Search2
import Derived.Shelf.Strings.Search3
import Derived.Shelf.Strings.Cut
import Derived.Shelf.Strings.Count
import Derived.Shelf.Strings.Shaped
import Derived.Shelf.Strings.LastIndex
import Derived.Shelf.Strings.Prefix
import Derived.Shelf.Strings.Split
import Derived.Shelf.Strings.SplitShaped
import Derived.Shelf.Unicode.Latin
import Derived.Shelf.Unicode.DecodeSlow
import Derived.Shelf.Unicode.DecodeAny
import Derived.Shelf.Unicode.CaseLookup
import Derived.Shelf.Unicode.CaseConvert
import Derived.Shelf.Unicode.CaseTo
import Derived.Shelf.Unicode.CaseLaid
import Derived.Shelf.Strings.MapAny
import Derived.Shelf.Strings.CaseAny
import Derived.Ground.PaProg
import Derived.Shelf.Path.Small
import Derived.Test.YteondnhokgmakaaGreatDoorProg
import Derived.Lib.LaidTab
import Derived.WalkSmall
import Derived.Sort.Grow
import Derived.Below
import Derived.Lib.Hide
import Derived.WalkKit
import Derived.Outline
import Derived.Lib.ItoaNum
import Derived.Lib.AtoiAll
import Derived.Test.YteondnhokgmakaaGreatDoorPT1
import Derived.WalkLawsBesides
import Derived.Lib.SplitLaws
import Derived.Lib.CutLaws
import Derived.Laws.IdiomStrings
import Derived.Deep.Draws
import Derived.Deep.AppendLies
import Derived.Maps.AppendAt
import Derived.OwnWalk
import Derived.Laws.BytesArg
import Derived.Laws.MakeOwn
import Derived.Laws.OwnMore
import Derived.Deep.OwnRows
import Derived.Tactics
import Derived.Lib.ConvBytes
import Derived.Laws.Slices
import Derived.KernelRfl
import Derived.RowKit3
import Derived.Deep.LoopGhost
import Derived.Deep.QuietTactic
import Derived.BigQuiet
import Derived.WideLaws
import Derived.Deep.DeepCutAuto
import Derived.Deep.CutBlock
import Derived.Deep.RegionHeld3
import Derived.Laws.Rows
import Derived.Lib.AppendStr
import Derived.ArgAppend
import Derived.Laws.IdiomCopy
import Derived.OrdersHeld
import Derived.Laws.BitsLemmas
import Derived.RowKit


namespace Go.Proofs
open Go.Shelf
def Tryz.lays159_ren : Go.Shelf.Ren := ⟨fun | 159 => 82 | 165 => 69 | 166 => 70 | 167 => 100 | 169 => 71 | 230 => 101 | 204 => 102 | 240 => 91 | 241 => 92 | 197 => 113 | 118 => 124 | 168 => 125 | 270 => 126 | 262 => 127 | 276 => 110 | 277 => 111 | 260 => 133 | 242 => 139 | 313 => 140 | 278 => 145 | 274 => 146 | 275 => 147 | n => n, fun | 9 => 9 | 4 => 4 | 3 => 3 | 5 => 5 | 72 => 109 | 0 => 0 | 76 => 100 | 75 => 56 | 107 => 146 | 70 => 107 | 20 => 20 | 37 => 105 | 127 => 137 | 21 => 21 | 105 => 170 | 164 => 124 | 162 => 198 | 203 => 196 | 119 => 200 | 46 => 106 | 139 => 203 | 138 => 202 | 51 => 83 | 160 => 208 | 208 => 216 | 206 => 214 | 80 => 111 | n => n, fun | 13 => 5 | 3 => 6 | 4 => 7 | n => n⟩
theorem Tryz.lays159 : Go.Proofs.Lays.n159 Tryz.prog Tryz.lays159_ren := {
  mixed := by kernel_rfl
  f118 := Tryz.func124.trans (congrArg some (by kernel_rfl))
  f159 := Tryz.func82.trans (congrArg some (by kernel_rfl))
  f165 := Tryz.func69.trans (congrArg some (by kernel_rfl))
  f166 := Tryz.func70.trans (congrArg some (by kernel_rfl))
  f167 := Tryz.func100.trans (congrArg some (by kernel_rfl))
  f168 := Tryz.func125.trans (congrArg some (by kernel_rfl))
  f169 := Tryz.func71.trans (congrArg some (by kernel_rfl))
  f197 := Tryz.func113.trans (congrArg some (by kernel_rfl))
  f204 := Tryz.func102.trans (congrArg some (by kernel_rfl))
  f230 := Tryz.func101.trans (congrArg some (by kernel_rfl))
  f240 := Tryz.func91.trans (congrArg some (by kernel_rfl))
  f241 := Tryz.func92.trans (congrArg some (by kernel_rfl))
  f242 := Tryz.func139.trans (congrArg some (by kernel_rfl))
  f260 := Tryz.func133.trans (congrArg some (by kernel_rfl))
  f262 := Tryz.func127.trans (congrArg some (by kernel_rfl))
  f270 := Tryz.func126.trans (congrArg some (by kernel_rfl))
  f274 := Tryz.func146.trans (congrArg some (by kernel_rfl))
  f275 := Tryz.func147.trans (congrArg some (by kernel_rfl))
  f276 := Tryz.func110.trans (congrArg some (by kernel_rfl))
  f277 := Tryz.func111.trans (congrArg some (by kernel_rfl))
  f278 := Tryz.func145.trans (congrArg some (by kernel_rfl))
  f313 := Tryz.func140.trans (congrArg some (by kernel_rfl))
  t0 := Tryz.underlying0
  a0 := Tryz.isAgg0
  z0 := Tryz.sizeOf0
  v0 := Tryz.zeroValue0
  t3 := Tryz.underlying3
  a3 := Tryz.isAgg3
  z3 := Tryz.sizeOf3
  v3 := Tryz.zeroValue3
  t4 := Tryz.underlying4
  a4 := Tryz.isAgg4
  z4 := Tryz.sizeOf4
  v4 := Tryz.zeroValue4
  t5 := Tryz.underlying5
  a5 := Tryz.isAgg5
  z5 := Tryz.sizeOf5
  v5 := Tryz.zeroValue5
  t9 := Tryz.underlying9
  a9 := Tryz.isAgg9
  z9 := Tryz.sizeOf9
  v9 := Tryz.zeroValue9
  t20 := Tryz.underlying20
  a20 := Tryz.isAgg20
  z20 := Tryz.sizeOf20
  v20 := Tryz.zeroValue20
  t21 := Tryz.underlying21
  a21 := Tryz.isAgg21
  z21 := Tryz.sizeOf21
  v21 := Tryz.zeroValue21
  t37 := Tryz.underlying105
  a37 := Tryz.isAgg105
  z37 := Tryz.sizeOf105
  v37 := Tryz.zeroValue105
  t46 := Tryz.underlying106
  a46 := Tryz.isAgg106
  z46 := Tryz.sizeOf106
  v46 := Tryz.zeroValue106
  t51 := Tryz.underlying83
  a51 := Tryz.isAgg83
  z51 := Tryz.sizeOf83
  v51 := Tryz.zeroValue83
  t70 := Tryz.underlying107
  a70 := Tryz.isAgg107
  z70 := Tryz.sizeOf107
  v70 := Tryz.zeroValue107
  t72 := Tryz.underlying109
  a72 := Tryz.isAgg109
  z72 := Tryz.sizeOf109
  v72 := Tryz.zeroValue109
  t75 := Tryz.underlying56
  a75 := Tryz.isAgg56
  z75 := Tryz.sizeOf56
  v75 := Tryz.zeroValue56
  t76 := Tryz.underlying100
  a76 := Tryz.isAgg100
  z76 := Tryz.sizeOf100
  v76 := Tryz.zeroValue100
  t105 := Tryz.underlying170
  a105 := Tryz.isAgg170
  z105 := Tryz.sizeOf170
  v105 := Tryz.zeroValue170
  t107 := Tryz.underlying146
  a107 := Tryz.isAgg146
  z107 := Tryz.sizeOf146
  v107 := Tryz.zeroValue146
  t119 := Tryz.underlying200
  a119 := Tryz.isAgg200
  z119 := Tryz.sizeOf200
  t127 := Tryz.underlying137
  a127 := Tryz.isAgg137
  z127 := Tryz.sizeOf137
  v127 := Tryz.zeroValue137
  t138 := Tryz.underlying202
  a138 := Tryz.isAgg202
  z138 := Tryz.sizeOf202
  v138 := Tryz.zeroValue202
  t139 := Tryz.underlying203
  a139 := Tryz.isAgg203
  z139 := Tryz.sizeOf203
  v139 := Tryz.zeroValue203
  t160 := Tryz.underlying208
  a160 := Tryz.isAgg208
  z160 := Tryz.sizeOf208
  v160 := Tryz.zeroValue208
  t162 := Tryz.underlying198
  a162 := Tryz.isAgg198
  z162 := Tryz.sizeOf198
  v162 := Tryz.zeroValue198
  t164 := Tryz.underlying124
  a164 := Tryz.isAgg124
  z164 := Tryz.sizeOf124
  v164 := Tryz.zeroValue124
  t203 := Tryz.underlying196
  a203 := Tryz.isAgg196
  z203 := Tryz.sizeOf196
  v203 := Tryz.zeroValue196
  t206 := Tryz.underlying214
  a206 := Tryz.isAgg214
  z206 := Tryz.sizeOf214
  v206 := Tryz.zeroValue214
  t208 := Tryz.underlying216
  a208 := Tryz.isAgg216
  z208 := Tryz.sizeOf216
  v208 := Tryz.zeroValue216
  g3 := by kernel_rfl
  g4 := by kernel_rfl
  g13 := by kernel_rfl }
theorem Tryz.Builder_Extra_159 : Builder.Extra Tryz.prog Tryz.lays159_ren := {
  sizeBuilder := by kernel_rfl
  liesBuilder := by kernel_rfl
  t5 := Tryz.underlying5
  a5 := Tryz.isAgg5
  z5 := Tryz.sizeOf5
  v5 := Tryz.zeroValue5
  infoByte := by kernel_rfl
  cellsByte := by kernel_rfl
  sizeByte := by kernel_rfl
  neB5 := by decide }
open Go.RowKit in

theorem Tryz.strings_ToLower_ascii (s : ByteArray) (w : World) (hs : s.size ≤ 140737488355328) (hascii : ∀ (j : Nat) (b : UInt8), s.data.toList[j]? = some b → b.toNat < 128) :
    Calls Tryz.prog 82 #[.string s] w fun e w' => e = .returned (.string ⟨(Lib.toLowerA s.data.toList).toArray⟩) ∧ Below w.heap.size w w' := Any.strings_ToLower_ascii Tryz.lays159 Tryz.Builder_Extra_159 s w hs hascii
def Tryz.lays156_ren : Go.Shelf.Ren := ⟨fun | 156 => 43 | 165 => 69 | 166 => 70 | 169 => 71 | 240 => 91 | 241 => 92 | 276 => 110 | 277 => 111 | n => n, fun | 31 => 66 | 9 => 9 | 3 => 3 | 4 => 4 | 0 => 0 | 20 => 20 | 72 => 109 | 76 => 100 | 70 => 107 | 37 => 105 | 75 => 56 | 127 => 137 | 164 => 124 | 5 => 5 | 80 => 111 | n => n, fun | n => n⟩
theorem Tryz.lays156 : Go.Proofs.Lays.n156 Tryz.prog Tryz.lays156_ren := {
  mixed := by kernel_rfl
  f156 := Tryz.func43.trans (congrArg some (by kernel_rfl))
  f165 := Tryz.func69.trans (congrArg some (by kernel_rfl))
  f166 := Tryz.func70.trans (congrArg some (by kernel_rfl))
  f169 := Tryz.func71.trans (congrArg some (by kernel_rfl))
  f240 := Tryz.func91.trans (congrArg some (by kernel_rfl))
  f241 := Tryz.func92.trans (congrArg some (by kernel_rfl))
  f276 := Tryz.func110.trans (congrArg some (by kernel_rfl))
  f277 := Tryz.func111.trans (congrArg some (by kernel_rfl))
  t0 := Tryz.underlying0
  a0 := Tryz.isAgg0
  z0 := Tryz.sizeOf0
  v0 := Tryz.zeroValue0
  t3 := Tryz.underlying3
  a3 := Tryz.isAgg3
  z3 := Tryz.sizeOf3
  v3 := Tryz.zeroValue3
  t4 := Tryz.underlying4
  a4 := Tryz.isAgg4
  z4 := Tryz.sizeOf4
  v4 := Tryz.zeroValue4
  t9 := Tryz.underlying9
  a9 := Tryz.isAgg9
  z9 := Tryz.sizeOf9
  v9 := Tryz.zeroValue9
  t20 := Tryz.underlying20
  a20 := Tryz.isAgg20
  z20 := Tryz.sizeOf20
  v20 := Tryz.zeroValue20
  t31 := Tryz.underlying66
  a31 := Tryz.isAgg66
  z31 := Tryz.sizeOf66
  v31 := Tryz.zeroValue66
  t37 := Tryz.underlying105
  a37 := Tryz.isAgg105
  z37 := Tryz.sizeOf105
  v37 := Tryz.zeroValue105
  t70 := Tryz.underlying107
  a70 := Tryz.isAgg107
  z70 := Tryz.sizeOf107
  v70 := Tryz.zeroValue107
  t72 := Tryz.underlying109
  a72 := Tryz.isAgg109
  z72 := Tryz.sizeOf109
  v72 := Tryz.zeroValue109
  t75 := Tryz.underlying56
  a75 := Tryz.isAgg56
  z75 := Tryz.sizeOf56
  v75 := Tryz.zeroValue56
  t76 := Tryz.underlying100
  a76 := Tryz.isAgg100
  z76 := Tryz.sizeOf100
  v76 := Tryz.zeroValue100
  t127 := Tryz.underlying137
  a127 := Tryz.isAgg137
  z127 := Tryz.sizeOf137
  v127 := Tryz.zeroValue137
  t164 := Tryz.underlying124
  a164 := Tryz.isAgg124
  z164 := Tryz.sizeOf124
  v164 := Tryz.zeroValue124 }
theorem Tryz.Builder_Extra_156 : Builder.Extra Tryz.prog Tryz.lays156_ren := {
  sizeBuilder := by kernel_rfl
  liesBuilder := by kernel_rfl
  t5 := Tryz.underlying5
  a5 := Tryz.isAgg5
  z5 := Tryz.sizeOf5
  v5 := Tryz.zeroValue5
  infoByte := by kernel_rfl
  cellsByte := by kernel_rfl
  sizeByte := by kernel_rfl
  neB5 := by decide }
open Go.RowKit in

theorem Tryz.strings_Join_none (a : Option Addr) (c : Nat) (sep : ByteArray) (w : World) :
    Calls Tryz.prog 43 #[.slice a 0 c, .string sep] w fun e w' => e = .returned (.string ⟨#[]⟩) ∧ w' = w := Any.strings_Join_none Tryz.lays156 Tryz.Builder_Extra_156 a c sep w
open Go.RowKit in

theorem Tryz.strings_Join (bk o c : Nat) (xs : List ByteArray) (sep : ByteArray) (w : World) (hcells : ∀ (j : Nat) x, xs[j]? = some x → w.cell? ⟨bk, o + j, none⟩ = some (.string x)) (hbk : bk < w.heap.size) (hN : xs.length ≤ 140737488355328) (hcap : xs.length ≤ c) (hlen : (Lib.join (xs.map (·.data.toList)) sep.data.toList).length ≤ 140737488355328) :
    Calls Tryz.prog 43 #[.slice (some ⟨bk, o, none⟩) xs.length c, .string sep] w fun e w' => e = .returned (.string ⟨(Lib.join (xs.map (·.data.toList)) sep.data.toList).toArray⟩) ∧ Below w.heap.size w w' := Any.strings_Join Tryz.lays156 Tryz.Builder_Extra_156 bk o c xs sep w hcells hbk hN hcap hlen
def Tryz.lays211_ren : Go.Shelf.Ren := ⟨fun | 211 => 78 | 207 => 79 | n => n, fun | 9 => 9 | 4 => 4 | 3 => 3 | n => n, fun | n => n⟩
theorem Tryz.lays211 : Go.Proofs.Lays.n211 Tryz.prog Tryz.lays211_ren := {
  mixed := by kernel_rfl
  f207 := Tryz.func79.trans (congrArg some (by kernel_rfl))
  f211 := Tryz.func78.trans (congrArg some (by kernel_rfl))
  t3 := Tryz.underlying3
  a3 := Tryz.isAgg3
  z3 := Tryz.sizeOf3
  v3 := Tryz.zeroValue3
  t4 := Tryz.underlying4
  a4 := Tryz.isAgg4
  z4 := Tryz.sizeOf4
  v4 := Tryz.zeroValue4
  t9 := Tryz.underlying9
  a9 := Tryz.isAgg9
  z9 := Tryz.sizeOf9
  v9 := Tryz.zeroValue9 }
open Go.RowKit in

theorem Tryz.stringslite_CutSuffix (s p : ByteArray) (w : World) (hs : s.size ≤ 9223372036854775807) :
    Calls Tryz.prog 78 #[.string s, .string p] w fun e w' => e = .returned (.tuple #[.string ⟨(Lib.trimSuffix s.data.toList p.data.toList).toArray⟩, .bool (Lib.hasSuffix s.data.toList p.data.toList)]) ∧ w' = w := Any.stringslite_CutSuffix Tryz.lays211 s p w hs
def Tryz.lays104_ren : Go.Shelf.Ren := ⟨fun | 104 => 54 | 211 => 78 | 207 => 79 | n => n, fun | 9 => 9 | 4 => 4 | 24 => 86 | 3 => 3 | n => n, fun | n => n⟩
theorem Tryz.lays104 : Go.Proofs.Lays.n104 Tryz.prog Tryz.lays104_ren := {
  mixed := by kernel_rfl
  f104 := Tryz.func54.trans (congrArg some (by kernel_rfl))
  f207 := Tryz.func79.trans (congrArg some (by kernel_rfl))
  f211 := Tryz.func78.trans (congrArg some (by kernel_rfl))
  t3 := Tryz.underlying3
  a3 := Tryz.isAgg3
  z3 := Tryz.sizeOf3
  v3 := Tryz.zeroValue3
  t4 := Tryz.underlying4
  a4 := Tryz.isAgg4
  z4 := Tryz.sizeOf4
  v4 := Tryz.zeroValue4
  t9 := Tryz.underlying9
  a9 := Tryz.isAgg9
  z9 := Tryz.sizeOf9
  v9 := Tryz.zeroValue9
  t24 := Tryz.underlying86
  a24 := Tryz.isAgg86
  z24 := Tryz.sizeOf86
  v24 := Tryz.zeroValue86 }
open Go.RowKit in

theorem Tryz.strings_CutSuffix (s p : ByteArray) (w : World) (hs : s.size ≤ 9223372036854775807) :
    Calls Tryz.prog 54 #[.string s, .string p] w fun e w' => e = .returned (.tuple #[.string ⟨(Lib.trimSuffix s.data.toList p.data.toList).toArray⟩, .bool (Lib.hasSuffix s.data.toList p.data.toList)]) ∧ w' = w := Any.strings_CutSuffix Tryz.lays104 s p w hs
def Tryz.laysM171_ren : Go.Shelf.Ren := ⟨fun | 171 => 42 | 243 => 68 | 246 => 90 | 283 => 106 | 284 => 107 | 285 => 108 | 286 => 109 | 129 => 129 | 317 => 128 | 318 => 130 | 319 => 131 | 320 => 132 | 337 => 141 | 338 => 142 | n => n, fun | 3 => 3 | 9 => 9 | 2 => 2 | 4 => 4 | 171 => 161 | 0 => 0 | 53 => 162 | 37 => 105 | 5 => 5 | 173 => 165 | 212 => 184 | 51 => 83 | 20 => 20 | 213 => 185 | 46 => 106 | 232 => 211 | 233 => 212 | n => n, fun | 17 => 2 | 18 => 8 | 19 => 9 | n => n⟩
theorem Tryz.laysM171 : Go.Proofs.LaysM.n171 Tryz.prog Tryz.laysM171_ren := {
  mixed := by kernel_rfl
  f129 := Tryz.func129.trans (congrArg some (by kernel_rfl))
  f171 := Tryz.func42.trans (congrArg some (by kernel_rfl))
  f243 := Tryz.func68.trans (congrArg some (by kernel_rfl))
  f246 := Tryz.func90.trans (congrArg some (by kernel_rfl))
  f283 := Tryz.func106.trans (congrArg some (by kernel_rfl))
  f284 := Tryz.func107.trans (congrArg some (by kernel_rfl))
  f285 := Tryz.func108.trans (congrArg some (by kernel_rfl))
  f286 := Tryz.func109.trans (congrArg some (by kernel_rfl))
  f317 := Tryz.func128.trans (congrArg some (by kernel_rfl))
  f318 := Tryz.func130.trans (congrArg some (by kernel_rfl))
  f319 := Tryz.func131.trans (congrArg some (by kernel_rfl))
  f320 := Tryz.func132.trans (congrArg some (by kernel_rfl))
  f337 := Tryz.func141.trans (congrArg some (by kernel_rfl))
  f338 := Tryz.func142.trans (congrArg some (by kernel_rfl))
  t0 := Tryz.underlying0
  a0 := Tryz.isAgg0
  z0 := Tryz.sizeOf0
  v0 := Tryz.zeroValue0
  t2 := Tryz.underlying2
  a2 := Tryz.isAgg2
  z2 := Tryz.sizeOf2
  v2 := Tryz.zeroValue2
  t3 := Tryz.underlying3
  a3 := Tryz.isAgg3
  z3 := Tryz.sizeOf3
  v3 := Tryz.zeroValue3
  t4 := Tryz.underlying4
  a4 := Tryz.isAgg4
  z4 := Tryz.sizeOf4
  v4 := Tryz.zeroValue4
  t5 := Tryz.underlying5
  a5 := Tryz.isAgg5
  z5 := Tryz.sizeOf5
  v5 := Tryz.zeroValue5
  t9 := Tryz.underlying9
  a9 := Tryz.isAgg9
  z9 := Tryz.sizeOf9
  v9 := Tryz.zeroValue9
  t20 := Tryz.underlying20
  a20 := Tryz.isAgg20
  z20 := Tryz.sizeOf20
  v20 := Tryz.zeroValue20
  t37 := Tryz.underlying105
  a37 := Tryz.isAgg105
  z37 := Tryz.sizeOf105
  v37 := Tryz.zeroValue105
  t46 := Tryz.underlying106
  a46 := Tryz.isAgg106
  z46 := Tryz.sizeOf106
  v46 := Tryz.zeroValue106
  t51 := Tryz.underlying83
  a51 := Tryz.isAgg83
  z51 := Tryz.sizeOf83
  v51 := Tryz.zeroValue83
  t53 := Tryz.underlying162
  a53 := Tryz.isAgg162
  z53 := Tryz.sizeOf162
  v53 := Tryz.zeroValue162
  t171 := Tryz.underlying161
  a171 := Tryz.isAgg161
  z171 := Tryz.sizeOf161
  v171 := Tryz.zeroValue161
  t173 := Tryz.underlying165
  a173 := Tryz.isAgg165
  z173 := Tryz.sizeOf165
  v173 := Tryz.zeroValue165
  t212 := Tryz.underlying184
  a212 := Tryz.isAgg184
  z212 := Tryz.sizeOf184
  v212 := Tryz.zeroValue184
  t213 := Tryz.underlying185
  a213 := Tryz.isAgg185
  z213 := Tryz.sizeOf185
  t232 := Tryz.underlying211
  a232 := Tryz.isAgg211
  z232 := Tryz.sizeOf211
  v232 := Tryz.zeroValue211
  t233 := Tryz.underlying212
  a233 := Tryz.isAgg212
  z233 := Tryz.sizeOf212
  v233 := Tryz.zeroValue212
  g17 := by kernel_rfl
  g18 := by kernel_rfl
  g19 := by kernel_rfl
  i0 := by kernel_rfl
  i2 := by kernel_rfl
  i3 := by kernel_rfl
  i4 := by kernel_rfl
  i5 := by kernel_rfl
  i9 := by kernel_rfl
  i20 := by kernel_rfl
  i37 := by kernel_rfl
  i46 := by kernel_rfl
  i51 := by kernel_rfl
  i53 := by kernel_rfl
  i171 := by kernel_rfl
  i173 := by kernel_rfl
  i212 := by kernel_rfl
  i232 := by kernel_rfl
  i233 := by kernel_rfl
  m17 := by kernel_rfl
  m18 := by kernel_rfl
  m19 := by kernel_rfl }
open Go.RowKit Go.Sort Go.Lib in

theorem Tryz.strconv_Itoa (n : Int) (h0 : -9223372036854775808 ≤ n) (h1 : n ≤ 9223372036854775807) (w : World) (htab : Lib.TabIs Tryz.prog w "internal/strconv.uint64pow10" .u64 Lib.pow10Tab) :
    Calls Tryz.prog 42 #[.int .i64 n] w fun e w' => e = .returned (.string ⟨(Lib.itoa n).toArray⟩) ∧ ∃ k os, w' = grow (w.drewN k) os := Any.strconv_Itoa Tryz.laysM171 n h0 h1 w htab
def Tryz.laysC172_ren : Go.Shelf.Ren := ⟨fun | 172 => 74 | 244 => 97 | 245 => 98 | 247 => 119 | 279 => 120 | 280 => 121 | 281 => 122 | 282 => 123 | 287 => 136 | 316 => 137 | 171 => 42 | 205 => 138 | 321 => 143 | 322 => 144 | 243 => 68 | 246 => 90 | 283 => 106 | 284 => 107 | 285 => 108 | 286 => 109 | 129 => 129 | 317 => 128 | 318 => 130 | 319 => 131 | 320 => 132 | 337 => 141 | 338 => 142 | n => n, fun | 9 => 9 | 3 => 3 | 75 => 56 | 76 => 100 | 4 => 4 | 5 => 5 | 167 => 173 | 37 => 105 | 0 => 0 | 85 => 174 | 2 => 2 | 168 => 176 | 53 => 162 | 175 => 190 | 46 => 106 | 210 => 193 | 127 => 137 | 145 => 207 | 143 => 205 | 21 => 21 | 171 => 161 | 173 => 165 | 212 => 184 | 51 => 83 | 20 => 20 | 213 => 185 | 232 => 211 | 233 => 212 | 80 => 111 | n => n, fun | 15 => 3 | 16 => 4 | 17 => 2 | 18 => 8 | 19 => 9 | n => n⟩
theorem Tryz.laysC172 : Go.Proofs.LaysC.n172 Tryz.prog Tryz.laysC172_ren := {
  mixed := by kernel_rfl
  f129 := Tryz.func129.trans (congrArg some (by kernel_rfl))
  f171 := Tryz.func42.trans (congrArg some (by kernel_rfl))
  f172 := Tryz.func74.trans (congrArg some (by kernel_rfl))
  f205 := Tryz.func138.trans (congrArg some (by kernel_rfl))
  f243 := Tryz.func68.trans (congrArg some (by kernel_rfl))
  f244 := Tryz.func97.trans (congrArg some (by kernel_rfl))
  f245 := Tryz.func98.trans (congrArg some (by kernel_rfl))
  f246 := Tryz.func90.trans (congrArg some (by kernel_rfl))
  f247 := Tryz.func119.trans (congrArg some (by kernel_rfl))
  f279 := Tryz.func120.trans (congrArg some (by kernel_rfl))
  f280 := Tryz.func121.trans (congrArg some (by kernel_rfl))
  f281 := Tryz.func122.trans (congrArg some (by kernel_rfl))
  f282 := Tryz.func123.trans (congrArg some (by kernel_rfl))
  f283 := Tryz.func106.trans (congrArg some (by kernel_rfl))
  f284 := Tryz.func107.trans (congrArg some (by kernel_rfl))
  f285 := Tryz.func108.trans (congrArg some (by kernel_rfl))
  f286 := Tryz.func109.trans (congrArg some (by kernel_rfl))
  f287 := Tryz.func136.trans (congrArg some (by kernel_rfl))
  f316 := Tryz.func137.trans (congrArg some (by kernel_rfl))
  f317 := Tryz.func128.trans (congrArg some (by kernel_rfl))
  f318 := Tryz.func130.trans (congrArg some (by kernel_rfl))
  f319 := Tryz.func131.trans (congrArg some (by kernel_rfl))
  f320 := Tryz.func132.trans (congrArg some (by kernel_rfl))
  f321 := Tryz.func143.trans (congrArg some (by kernel_rfl))
  f322 := Tryz.func144.trans (congrArg some (by kernel_rfl))
  f337 := Tryz.func141.trans (congrArg some (by kernel_rfl))
  f338 := Tryz.func142.trans (congrArg some (by kernel_rfl))
  t0 := Tryz.underlying0
  a0 := Tryz.isAgg0
  z0 := Tryz.sizeOf0
  v0 := Tryz.zeroValue0
  t2 := Tryz.underlying2
  a2 := Tryz.isAgg2
  z2 := Tryz.sizeOf2
  v2 := Tryz.zeroValue2
  t3 := Tryz.underlying3
  a3 := Tryz.isAgg3
  z3 := Tryz.sizeOf3
  v3 := Tryz.zeroValue3
  t4 := Tryz.underlying4
  a4 := Tryz.isAgg4
  z4 := Tryz.sizeOf4
  v4 := Tryz.zeroValue4
  t5 := Tryz.underlying5
  a5 := Tryz.isAgg5
  z5 := Tryz.sizeOf5
  v5 := Tryz.zeroValue5
  t9 := Tryz.underlying9
  a9 := Tryz.isAgg9
  z9 := Tryz.sizeOf9
  v9 := Tryz.zeroValue9
  t20 := Tryz.underlying20
  a20 := Tryz.isAgg20
  z20 := Tryz.sizeOf20
  v20 := Tryz.zeroValue20
  t21 := Tryz.underlying21
  a21 := Tryz.isAgg21
  z21 := Tryz.sizeOf21
  v21 := Tryz.zeroValue21
  t37 := Tryz.underlying105
  a37 := Tryz.isAgg105
  z37 := Tryz.sizeOf105
  v37 := Tryz.zeroValue105
  t46 := Tryz.underlying106
  a46 := Tryz.isAgg106
  z46 := Tryz.sizeOf106
  v46 := Tryz.zeroValue106
  t51 := Tryz.underlying83
  a51 := Tryz.isAgg83
  z51 := Tryz.sizeOf83
  v51 := Tryz.zeroValue83
  t53 := Tryz.underlying162
  a53 := Tryz.isAgg162
  z53 := Tryz.sizeOf162
  v53 := Tryz.zeroValue162
  t75 := Tryz.underlying56
  a75 := Tryz.isAgg56
  z75 := Tryz.sizeOf56
  v75 := Tryz.zeroValue56
  t76 := Tryz.underlying100
  a76 := Tryz.isAgg100
  z76 := Tryz.sizeOf100
  v76 := Tryz.zeroValue100
  t85 := Tryz.underlying174
  a85 := Tryz.isAgg174
  z85 := Tryz.sizeOf174
  v85 := Tryz.zeroValue174
  t127 := Tryz.underlying137
  a127 := Tryz.isAgg137
  z127 := Tryz.sizeOf137
  v127 := Tryz.zeroValue137
  t143 := Tryz.underlying205
  a143 := Tryz.isAgg205
  z143 := Tryz.sizeOf205
  v143 := Tryz.zeroValue205
  t145 := Tryz.underlying207
  a145 := Tryz.isAgg207
  z145 := Tryz.sizeOf207
  v145 := Tryz.zeroValue207
  t167 := Tryz.underlying173
  a167 := Tryz.isAgg173
  z167 := Tryz.sizeOf173
  v167 := Tryz.zeroValue173
  t168 := Tryz.underlying176
  a168 := Tryz.isAgg176
  z168 := Tryz.sizeOf176
  v168 := Tryz.zeroValue176
  t171 := Tryz.underlying161
  a171 := Tryz.isAgg161
  z171 := Tryz.sizeOf161
  v171 := Tryz.zeroValue161
  t173 := Tryz.underlying165
  a173 := Tryz.isAgg165
  z173 := Tryz.sizeOf165
  v173 := Tryz.zeroValue165
  t175 := Tryz.underlying190
  a175 := Tryz.isAgg190
  z175 := Tryz.sizeOf190
  v175 := Tryz.zeroValue190
  t210 := Tryz.underlying193
  a210 := Tryz.isAgg193
  z210 := Tryz.sizeOf193
  v210 := Tryz.zeroValue193
  t212 := Tryz.underlying184
  a212 := Tryz.isAgg184
  z212 := Tryz.sizeOf184
  v212 := Tryz.zeroValue184
  t213 := Tryz.underlying185
  a213 := Tryz.isAgg185
  z213 := Tryz.sizeOf185
  t232 := Tryz.underlying211
  a232 := Tryz.isAgg211
  z232 := Tryz.sizeOf211
  v232 := Tryz.zeroValue211
  t233 := Tryz.underlying212
  a233 := Tryz.isAgg212
  z233 := Tryz.sizeOf212
  v233 := Tryz.zeroValue212
  g15 := by kernel_rfl
  g16 := by kernel_rfl
  g17 := by kernel_rfl
  g18 := by kernel_rfl
  g19 := by kernel_rfl
  t80 := Tryz.underlying111
  a80 := Tryz.isAgg111
  z80 := Tryz.sizeOf111
  v80 := Tryz.zeroValue111
  i0 := by kernel_rfl
  i2 := by kernel_rfl
  i3 := by kernel_rfl
  i4 := by kernel_rfl
  i5 := by kernel_rfl
  i9 := by kernel_rfl
  i20 := by kernel_rfl
  i21 := by kernel_rfl
  i37 := by kernel_rfl
  i46 := by kernel_rfl
  i51 := by kernel_rfl
  i53 := by kernel_rfl
  i75 := by kernel_rfl
  i76 := by kernel_rfl
  i80 := by kernel_rfl
  i85 := by kernel_rfl
  i127 := by kernel_rfl
  i143 := by kernel_rfl
  i145 := by kernel_rfl
  i167 := by kernel_rfl
  i168 := by kernel_rfl
  i171 := by kernel_rfl
  i173 := by kernel_rfl
  i175 := by kernel_rfl
  i210 := by kernel_rfl
  i212 := by kernel_rfl
  i232 := by kernel_rfl
  i233 := by kernel_rfl
  m15 := by kernel_rfl
  m16 := by kernel_rfl
  m17 := by kernel_rfl
  m18 := by kernel_rfl
  m19 := by kernel_rfl
  c0 := by kernel_rfl
  c2 := by kernel_rfl
  c3 := by kernel_rfl
  c4 := by kernel_rfl
  c5 := by kernel_rfl
  c9 := by kernel_rfl
  c20 := by kernel_rfl
  c21 := by kernel_rfl
  c37 := by kernel_rfl
  c46 := by kernel_rfl
  c51 := by kernel_rfl
  c53 := by kernel_rfl
  c75 := by kernel_rfl
  c76 := by kernel_rfl
  c80 := by kernel_rfl
  c85 := by kernel_rfl
  c127 := by kernel_rfl
  c143 := by kernel_rfl
  c145 := by kernel_rfl
  c167 := by kernel_rfl
  c168 := by kernel_rfl
  c171 := by kernel_rfl
  c173 := by kernel_rfl
  c175 := by kernel_rfl
  c210 := by kernel_rfl
  c212 := by kernel_rfl
  c213 := by kernel_rfl
  c232 := by kernel_rfl
  c233 := by kernel_rfl }
open Go.RowKit in

theorem Tryz.strconv_Atoi_ok (s : ByteArray) (hmax : s.size ≤ 9223372036854775806) (v : Int) (h : Lib.atoiAll s.data.toList = .ok v) (w : World) :
    Calls Tryz.prog 74 #[.string s] w fun e w' => e = .returned (.tuple #[.int .i64 v, .nilIface]) ∧ (w' = w ∨ ∃ t, w' = Lib.bytesWorld w 5 t) := Any.strconv_Atoi_ok Tryz.laysC172 s hmax v h w
open Go.RowKit in

theorem Tryz.strconv_Atoi_syntax (s : ByteArray) (hlim : s.size ≤ 281474976710656) (h : Lib.atoiAll s.data.toList = Lib.atoiAll []) (ev : Value) (w : World) (hv : w.cell? ⟨3, 0, none⟩ = some ev) (hev : ev = .nilIface ∨ ∃ te pe, ev = .iface te pe) :
    Calls Tryz.prog 74 #[.string s] w fun e w' => ∃ N, e = .returned (.tuple #[.int .i64 (0), .iface 176 (.pointer (some ⟨N, 0, none⟩))]) ∧ w.heap.size ≤ N ∧ w'.heap[N]? = some (.cells #[.string ⟨#[65, 116, 111, 105]⟩, .string s, ev] 193 (0, 0)) ∧ Below w.heap.size w w' := Any.strconv_Atoi_syntax Tryz.laysC172 s hlim h ev w hv hev
open Go.RowKit in

theorem Tryz.strconv_Atoi_range (s : ByteArray) (hlim : s.size ≤ 281474976710656) (h : Lib.atoiAll s.data.toList = .range) (ev : Value) (w : World) (hv : w.cell? ⟨4, 0, none⟩ = some ev) (hev : ev = .nilIface ∨ ∃ te pe, ev = .iface te pe) :
    Calls Tryz.prog 74 #[.string s] w fun e w' => ∃ N, e = .returned (.tuple #[.int .i64 (Lib.atoiSat s.data.toList), .iface 176 (.pointer (some ⟨N, 0, none⟩))]) ∧ w.heap.size ≤ N ∧ w'.heap[N]? = some (.cells #[.string ⟨#[65, 116, 111, 105]⟩, .string s, ev] 193 (0, 0)) ∧ Below w.heap.size w w' := Any.strconv_Atoi_range Tryz.laysC172 s hlim h ev w hv hev
def Tryz.lays145_ren : Go.Shelf.Ren := ⟨fun | 145 => 46 | 220 => 73 | 219 => 96 | 217 => 115 | 225 => 116 | 224 => 117 | 267 => 118 | 266 => 134 | 314 => 135 | n => n, fun | 9 => 9 | 4 => 4 | 59 => 68 | 3 => 3 | 5 => 5 | 46 => 106 | 146 => 188 | 51 => 83 | n => n, fun | 1 => 1 | n => n⟩
theorem Tryz.lays145 : Go.Proofs.Lays.n145 Tryz.prog Tryz.lays145_ren := {
  mixed := by kernel_rfl
  f145 := Tryz.func46.trans (congrArg some (by kernel_rfl))
  f217 := Tryz.func115.trans (congrArg some (by kernel_rfl))
  f219 := Tryz.func96.trans (congrArg some (by kernel_rfl))
  f220 := Tryz.func73.trans (congrArg some (by kernel_rfl))
  f224 := Tryz.func117.trans (congrArg some (by kernel_rfl))
  f225 := Tryz.func116.trans (congrArg some (by kernel_rfl))
  f266 := Tryz.func134.trans (congrArg some (by kernel_rfl))
  f267 := Tryz.func118.trans (congrArg some (by kernel_rfl))
  f314 := Tryz.func135.trans (congrArg some (by kernel_rfl))
  t3 := Tryz.underlying3
  a3 := Tryz.isAgg3
  z3 := Tryz.sizeOf3
  v3 := Tryz.zeroValue3
  t4 := Tryz.underlying4
  a4 := Tryz.isAgg4
  z4 := Tryz.sizeOf4
  v4 := Tryz.zeroValue4
  t5 := Tryz.underlying5
  a5 := Tryz.isAgg5
  z5 := Tryz.sizeOf5
  v5 := Tryz.zeroValue5
  t9 := Tryz.underlying9
  a9 := Tryz.isAgg9
  z9 := Tryz.sizeOf9
  v9 := Tryz.zeroValue9
  t46 := Tryz.underlying106
  a46 := Tryz.isAgg106
  z46 := Tryz.sizeOf106
  v46 := Tryz.zeroValue106
  t51 := Tryz.underlying83
  a51 := Tryz.isAgg83
  z51 := Tryz.sizeOf83
  v51 := Tryz.zeroValue83
  t59 := Tryz.underlying68
  a59 := Tryz.isAgg68
  z59 := Tryz.sizeOf68
  v59 := Tryz.zeroValue68
  t146 := Tryz.underlying188
  a146 := Tryz.isAgg188
  z146 := Tryz.sizeOf188
  v146 := Tryz.zeroValue188
  g1 := by kernel_rfl }
open Go.RowKit Go.Lib in

theorem Tryz.strings_Cut (s sep : ByteArray) (m : Int) (w : World) (hs : s.size < 4294967281) (hm : w.cell? ⟨1, 0, none⟩ = some (.int .i64 m)) :
    Calls Tryz.prog 46 #[.string s, .string sep] w fun e w' => e = .returned (.tuple #[.string ⟨(Lib.cut s.data.toList sep.data.toList).1.toArray⟩, .string ⟨(Lib.cut s.data.toList sep.data.toList).2.1.toArray⟩, .bool (Lib.cut s.data.toList sep.data.toList).2.2]) ∧ ∃ n, w' = w.drewN n := Any.strings_Cut Tryz.lays145 s sep m w hs hm
def Tryz.lays207_ren : Go.Shelf.Ren := ⟨fun | 207 => 79 | n => n, fun | 9 => 9 | 4 => 4 | 3 => 3 | n => n, fun | n => n⟩
theorem Tryz.lays207 : Go.Proofs.Lays.n207 Tryz.prog Tryz.lays207_ren := {
  mixed := by kernel_rfl
  f207 := Tryz.func79.trans (congrArg some (by kernel_rfl))
  t3 := Tryz.underlying3
  a3 := Tryz.isAgg3
  z3 := Tryz.sizeOf3
  v3 := Tryz.zeroValue3
  t4 := Tryz.underlying4
  a4 := Tryz.isAgg4
  z4 := Tryz.sizeOf4
  v4 := Tryz.zeroValue4
  t9 := Tryz.underlying9
  a9 := Tryz.isAgg9
  z9 := Tryz.sizeOf9
  v9 := Tryz.zeroValue9 }
open Go.RowKit Go.Lib in

theorem Tryz.stringslite_HasSuffix (s p : ByteArray) (w : World) (hs : s.size ≤ 9223372036854775807) :
    Calls Tryz.prog 79 #[.string s, .string p] w fun e w' => e = .returned (.bool (Lib.hasSuffix s.data.toList p.data.toList)) ∧ w' = w := Any.stringslite_HasSuffix Tryz.lays207 s p w hs
def Tryz.lays100_ren : Go.Shelf.Ren := ⟨fun | 100 => 55 | 207 => 79 | n => n, fun | 9 => 9 | 4 => 4 | 3 => 3 | n => n, fun | n => n⟩
theorem Tryz.lays100 : Go.Proofs.Lays.n100 Tryz.prog Tryz.lays100_ren := {
  mixed := by kernel_rfl
  f100 := Tryz.func55.trans (congrArg some (by kernel_rfl))
  f207 := Tryz.func79.trans (congrArg some (by kernel_rfl))
  t3 := Tryz.underlying3
  a3 := Tryz.isAgg3
  z3 := Tryz.sizeOf3
  v3 := Tryz.zeroValue3
  t4 := Tryz.underlying4
  a4 := Tryz.isAgg4
  z4 := Tryz.sizeOf4
  v4 := Tryz.zeroValue4
  t9 := Tryz.underlying9
  a9 := Tryz.isAgg9
  z9 := Tryz.sizeOf9
  v9 := Tryz.zeroValue9 }
open Go.RowKit Go.Lib in

theorem Tryz.strings_HasSuffix (s p : ByteArray) (w : World) (hs : s.size ≤ 9223372036854775807) :
    Calls Tryz.prog 55 #[.string s, .string p] w fun e w' => e = .returned (.bool (Lib.hasSuffix s.data.toList p.data.toList)) ∧ w' = w := Any.strings_HasSuffix Tryz.lays100 s p w hs
def Tryz.lays146_ren : Go.Shelf.Ren := ⟨fun | 146 => 45 | 221 => 72 | 268 => 93 | 138 => 94 | 143 => 95 | 195 => 112 | 197 => 113 | 218 => 114 | 219 => 96 | 260 => 133 | 217 => 115 | 225 => 116 | 224 => 117 | 267 => 118 | 266 => 134 | 314 => 135 | n => n, fun | 9 => 9 | 31 => 66 | 3 => 3 | 4 => 4 | 0 => 0 | 105 => 170 | 21 => 21 | 5 => 5 | 46 => 106 | 119 => 200 | 139 => 203 | 138 => 202 | 146 => 188 | 51 => 83 | n => n, fun | 1 => 1 | 3 => 6 | 4 => 7 | n => n⟩
theorem Tryz.lays146 : Go.Proofs.Lays.n146 Tryz.prog Tryz.lays146_ren := {
  mixed := by kernel_rfl
  f138 := Tryz.func94.trans (congrArg some (by kernel_rfl))
  f143 := Tryz.func95.trans (congrArg some (by kernel_rfl))
  f146 := Tryz.func45.trans (congrArg some (by kernel_rfl))
  f195 := Tryz.func112.trans (congrArg some (by kernel_rfl))
  f197 := Tryz.func113.trans (congrArg some (by kernel_rfl))
  f217 := Tryz.func115.trans (congrArg some (by kernel_rfl))
  f218 := Tryz.func114.trans (congrArg some (by kernel_rfl))
  f219 := Tryz.func96.trans (congrArg some (by kernel_rfl))
  f221 := Tryz.func72.trans (congrArg some (by kernel_rfl))
  f224 := Tryz.func117.trans (congrArg some (by kernel_rfl))
  f225 := Tryz.func116.trans (congrArg some (by kernel_rfl))
  f260 := Tryz.func133.trans (congrArg some (by kernel_rfl))
  f266 := Tryz.func134.trans (congrArg some (by kernel_rfl))
  f267 := Tryz.func118.trans (congrArg some (by kernel_rfl))
  f268 := Tryz.func93.trans (congrArg some (by kernel_rfl))
  f314 := Tryz.func135.trans (congrArg some (by kernel_rfl))
  t0 := Tryz.underlying0
  a0 := Tryz.isAgg0
  z0 := Tryz.sizeOf0
  v0 := Tryz.zeroValue0
  t3 := Tryz.underlying3
  a3 := Tryz.isAgg3
  z3 := Tryz.sizeOf3
  v3 := Tryz.zeroValue3
  t4 := Tryz.underlying4
  a4 := Tryz.isAgg4
  z4 := Tryz.sizeOf4
  v4 := Tryz.zeroValue4
  t5 := Tryz.underlying5
  a5 := Tryz.isAgg5
  z5 := Tryz.sizeOf5
  v5 := Tryz.zeroValue5
  t9 := Tryz.underlying9
  a9 := Tryz.isAgg9
  z9 := Tryz.sizeOf9
  v9 := Tryz.zeroValue9
  t21 := Tryz.underlying21
  a21 := Tryz.isAgg21
  z21 := Tryz.sizeOf21
  v21 := Tryz.zeroValue21
  t31 := Tryz.underlying66
  a31 := Tryz.isAgg66
  z31 := Tryz.sizeOf66
  v31 := Tryz.zeroValue66
  t46 := Tryz.underlying106
  a46 := Tryz.isAgg106
  z46 := Tryz.sizeOf106
  v46 := Tryz.zeroValue106
  t51 := Tryz.underlying83
  a51 := Tryz.isAgg83
  z51 := Tryz.sizeOf83
  v51 := Tryz.zeroValue83
  t105 := Tryz.underlying170
  a105 := Tryz.isAgg170
  z105 := Tryz.sizeOf170
  v105 := Tryz.zeroValue170
  t119 := Tryz.underlying200
  a119 := Tryz.isAgg200
  z119 := Tryz.sizeOf200
  t138 := Tryz.underlying202
  a138 := Tryz.isAgg202
  z138 := Tryz.sizeOf202
  v138 := Tryz.zeroValue202
  t139 := Tryz.underlying203
  a139 := Tryz.isAgg203
  z139 := Tryz.sizeOf203
  v139 := Tryz.zeroValue203
  t146 := Tryz.underlying188
  a146 := Tryz.isAgg188
  z146 := Tryz.sizeOf188
  v146 := Tryz.zeroValue188
  g1 := by kernel_rfl
  g3 := by kernel_rfl
  g4 := by kernel_rfl }
open Go.RowKit Go.Lib in

theorem Tryz.strings_Split (s sep : ByteArray) (m : Int) (w : World) (hs : s.size < 4294967281) (hm : w.cell? ⟨1, 0, none⟩ = some (.int .i64 m)) (h1 : 1 ≤ sep.size) :
    Calls Tryz.prog 45 #[.string s, .string sep] w fun e w' =>
      e = .returned (.slice (some ⟨w.heap.size, 0, none⟩) (Lib.countB s sep + 1) (Lib.countB s sep + 1)) ∧ w' = w.alloc (.cells ((Lib.splitB sep 0 (Lib.countB s sep) s).map Value.string).toArray 9) := Any.strings_Split Tryz.lays146 (by kernel_rfl) s sep m w hs hm h1
end Go.Proofs


namespace Go.Proofs.YteondnhokgmakaaGreatDoor
open Go.RowKit
structure StdW (w : World) : Prop where
  max : ∃ m, w.cell? ⟨1, 0, none⟩ = some (.int .i64 m)
  tab : Lib.TabIs Tryz.prog w "internal/strconv.uint64pow10" .u64 Lib.pow10Tab
  syn : ∃ tp p, w.cell? ⟨3, 0, none⟩ = some (.iface tp p)
  rng : ∃ tp p, w.cell? ⟨4, 0, none⟩ = some (.iface tp p)
  size : 2 < w.heap.size
theorem gPow : Tryz.prog.globalNamed "internal/strconv.uint64pow10" = some 2 := by kernel_rfl
theorem StdW.below {w w' : World} (h : StdW w) (hb : Below w.heap.size w w') : StdW w' := by
  obtain ⟨⟨m, hm⟩, ht, ⟨a, b, hs⟩, ⟨c, d, hr⟩, hz⟩ := h
  exact ⟨⟨m, (hb.cell (World.block_lt_of_cell? _ _ hm)).trans hm⟩, var?_below hb gPow hz ht, ⟨a, b, (hb.cell (World.block_lt_of_cell? _ _ hs)).trans hs⟩,
    ⟨c, d, (hb.cell (World.block_lt_of_cell? _ _ hr)).trans hr⟩, Nat.lt_of_lt_of_le hz hb.size⟩
theorem below_drewN (w : World) (n : Nat) : Below w.heap.size w (w.drewN n) := ⟨rfl, rfl, rfl, Nat.le_refl _, fun _ _ => rfl⟩
theorem below_grow (w : World) (os : Array Obj) : Below w.heap.size w (Sort.grow w os) :=
  ⟨rfl, rfl, rfl, by simp [Sort.grow], fun k hk => by simp [Sort.grow, Array.getElem?_append, hk]⟩
end Go.Proofs.YteondnhokgmakaaGreatDoor


namespace Go.Proofs.YteondnhokgmakaaGreatDoor.Num
open Go.Lib
def val (l : List UInt8) : Nat := l.foldl (fun a c => a * 10 + (c.toNat - 48)) 0
theorem val_snoc (l : List UInt8) (c : UInt8) : val (l ++ [c]) = val l * 10 + (c.toNat - 48) := by simp [val]
def canon (l : List UInt8) : Bool := l == decDigits (val l)
def dig (c : UInt8) : Bool := decide (48 ≤ c.toNat) && decide (c.toNat ≤ 57)
theorem dig_iff (c : UInt8) : dig c = true ↔ 48 ≤ c.toNat ∧ c.toNat ≤ 57 := by simp [dig]
theorem ofNat_toNat (k : Nat) (h : k < 10) : (UInt8.ofNat (48 + k)).toNat = 48 + k := by
  rw [UInt8.toNat_ofNat']; omega
theorem val_dec (n : Nat) : val (decDigits n) = n := by
  induction n using Nat.strongRecOn with
  | _ n ih =>
    by_cases h : n < 10
    · rw [decDigits, dif_pos h]
      simp only [val, List.foldl_cons, List.foldl_nil]
      rw [ofNat_toNat n h]; omega
    · rw [decDigits, dif_neg h, val_snoc, ih (n / 10) (by omega), ofNat_toNat _ (by omega)]; omega
theorem canon_dec (n : Nat) : canon (decDigits n) = true := by simp [canon, val_dec]
theorem canon_iff (l : List UInt8) : canon l = true ↔ l = decDigits (val l) := by simp [canon]
theorem dec_digits (n : Nat) : ∀ c ∈ decDigits n, dig c = true := by
  induction n using Nat.strongRecOn with
  | _ n ih =>
    intro c hc
    by_cases h : n < 10
    · rw [decDigits, dif_pos h] at hc
      simp only [List.mem_cons, List.not_mem_nil, or_false] at hc
      subst hc; rw [dig_iff, ofNat_toNat n h]; omega
    · rw [decDigits, dif_neg h, List.mem_append] at hc
      rcases hc with hc | hc
      · exact ih (n / 10) (by omega) c hc
      · simp only [List.mem_cons, List.not_mem_nil, or_false] at hc
        subst hc; rw [dig_iff, ofNat_toNat _ (by omega)]; omega
theorem dec_ne (n : Nat) : decDigits n ≠ [] := by
  intro h
  have := decDigits_length n
  rw [h] at this
  have := nDigits_pos n
  simp at *; omega
theorem dec_head (n : Nat) (h : 0 < n) : ∃ c r, decDigits n = c :: r ∧ 49 ≤ c.toNat := by
  induction n using Nat.strongRecOn with
  | _ n ih =>
    by_cases h10 : n < 10
    · exact ⟨_, [], by rw [decDigits, dif_pos h10], by rw [ofNat_toNat n h10]; omega⟩
    · obtain ⟨c, r, e, hc⟩ := ih (n / 10) (by omega) (by omega)
      exact ⟨c, r ++ [UInt8.ofNat (48 + n % 10)], by rw [decDigits, dif_neg h10, e]; rfl, hc⟩
def whole (l : List UInt8) (d : Nat) : Option Nat :=
  if l = [] ∨ d < l.length ∨ (1 < l.length ∧ l.head?.map (·.toNat) = some 48) then none
  else if l.all dig then some (val l) else none
theorem val_pos (l : List UInt8) (h : ∃ c r, l = c :: r ∧ 49 ≤ c.toNat) : 0 < val l := by
  obtain ⟨c, r, rfl, hc⟩ := h
  have : ∀ (r : List UInt8) (a : Nat), 0 < a → 0 < r.foldl (fun a c => a * 10 + (c.toNat - 48)) a := by
    intro r
    induction r with
    | nil => intro a h; exact h
    | cons x t ih => intro a h; exact ih _ (by show 0 < a * 10 + (x.toNat - 48); omega)
  exact this r _ (by show 0 < 0 * 10 + (c.toNat - 48); omega)
theorem dec_of_digits : ∀ (n : Nat) (l : List UInt8), l.length = n → l ≠ [] → l.all dig = true → (l.length = 1 ∨ ∃ c r, l = c :: r ∧ 49 ≤ c.toNat) → l = decDigits (val l) := by
  intro n
  induction n with
  | zero => intro l hl hne; exact absurd (List.eq_nil_of_length_eq_zero hl) hne
  | succ n ih =>
    intro l hl hne hall hh
    obtain ⟨l', c, rfl⟩ : ∃ l' c, l = l' ++ [c] := ⟨l.dropLast, l.getLast hne, (List.dropLast_concat_getLast hne).symm⟩
    rw [List.all_append, Bool.and_eq_true] at hall
    have hc : dig c = true := by simpa using hall.2
    rw [dig_iff] at hc
    have hcc : UInt8.ofNat (48 + (c.toNat - 48)) = c := by
      apply UInt8.toNat_inj.1; rw [UInt8.toNat_ofNat']; omega
    rw [val_snoc]
    by_cases hl' : l' = []
    · subst hl'
      rw [decDigits, dif_pos (by simp [val]; omega)]
      simp [val, hcc]
    · have hh' : ∃ c r, l' = c :: r ∧ 49 ≤ c.toNat := by
        rcases hh with hh | ⟨x, r, e, hx⟩
        · have : 0 < l'.length := List.length_pos_iff.2 hl'
          rw [List.length_append] at hh; simp only [List.length_cons, List.length_nil] at hh; omega
        · cases l' with
          | nil => exact absurd rfl hl'
          | cons y t => injection e with e1 e2; exact ⟨y, t, rfl, by rw [e1]; exact hx⟩
      have hp := val_pos l' hh'
      have := ih l' (by simp at hl; omega) hl' hall.1 (.inr hh')
      rw [decDigits, dif_neg (by omega), show (val l' * 10 + (c.toNat - 48)) / 10 = val l' by omega, show (val l' * 10 + (c.toNat - 48)) % 10 = c.toNat - 48 by omega, hcc, ← this]
theorem nDigits_le (k n : Nat) (h : n < 10 ^ k) (hk : 1 ≤ k) : nDigits n ≤ k := by
  induction k generalizing n with
  | zero => omega
  | succ k ih =>
    by_cases h10 : n < 10
    · rw [nDigits_small h10]; omega
    · rw [nDigits_big h10]
      have : 1 ≤ k := by
        rcases Nat.eq_zero_or_pos k with rfl | h
        · simp at h; omega
        · exact h
      have := ih (n / 10) (by rw [Nat.pow_succ] at h; omega) this
      omega
theorem whole_canon (l : List UInt8) (d : Nat) : whole l d = if canon l = true ∧ l.length ≤ d then some (val l) else none := by
  unfold whole
  by_cases hc : canon l = true
  · have e := (canon_iff l).1 hc
    have hne : l ≠ [] := by rw [e]; exact dec_ne _
    have hall : l.all dig = true := by rw [e, List.all_eq_true]; exact dec_digits _
    have hh : ¬ (1 < l.length ∧ l.head?.map (·.toNat) = some 48) := by
      rintro ⟨h1, h2⟩
      by_cases h0 : val l < 10
      · rw [e, decDigits, dif_pos h0] at h1; simp at h1
      · obtain ⟨c, r, e2, hc2⟩ := dec_head (val l) (by omega)
        rw [e, e2] at h2; simp at h2; omega
    by_cases hd : l.length ≤ d
    · have hn : ¬ (l = [] ∨ d < l.length ∨ (1 < l.length ∧ l.head?.map (·.toNat) = some 48)) := by
        rintro (h | h | h)
        · exact hne h
        · omega
        · exact hh h
      rw [if_neg hn, if_pos hall, if_pos ⟨hc, hd⟩]
    · rw [if_pos (.inr (.inl (by omega))), if_neg (by rintro ⟨_, h⟩; exact hd h)]
  · rw [if_neg (show ¬ (canon l = true ∧ l.length ≤ d) from fun h => hc h.1)]
    split
    · rfl
    · rename_i h
      rw [if_neg]
      intro hall
      apply hc
      rw [canon_iff]
      have hne : l ≠ [] := fun e => h (.inl e)
      refine dec_of_digits _ l rfl hne hall ?_
      cases l with
      | nil => exact absurd rfl hne
      | cons c r =>
        by_cases h1 : (c :: r).length = 1
        · exact .inl h1
        · refine .inr ⟨c, r, rfl, ?_⟩
          have hdc : dig c = true := by simp at hall; exact hall.1
          rw [dig_iff] at hdc
          have : c.toNat ≠ 48 := fun e => h (.inr (.inr ⟨Nat.lt_of_le_of_ne (Nat.succ_le_of_lt (List.length_pos_iff.2 hne)) (Ne.symm h1), by simp [e]⟩))
          omega
theorem canon_len (l : List UInt8) (k : Nat) (hk : 1 ≤ k) (hc : canon l = true) (hv : val l < 10 ^ k) : l.length ≤ k := by
  rw [(canon_iff l).1 hc, decDigits_length]; exact nDigits_le k _ hv hk
theorem parse_digits : ∀ (l : List UInt8) (acc : Nat), l.all dig = true → l.foldl (fun a c => a * 10 + (c.toNat - 48)) acc < 9223372036854775808 → parseUint10 acc l = .ok (l.foldl (fun a c => a * 10 + (c.toNat - 48)) acc) := by
  intro l
  induction l with
  | nil => intro acc _ _; rfl
  | cons c r ih =>
    intro acc hall hlt
    simp only [List.all_cons, Bool.and_eq_true] at hall
    have hd := (dig_iff c).1 hall.1
    have mono : ∀ (r : List UInt8) (a : Nat), a ≤ r.foldl (fun a c => a * 10 + (c.toNat - 48)) a := by
      intro r
      induction r with
      | nil => intro a; exact Nat.le_refl _
      | cons x t ih => intro a; exact Nat.le_trans (show a ≤ a * 10 + (x.toNat - 48) by omega) (ih _)
    simp only [List.foldl_cons] at hlt ⊢
    have := mono r (acc * 10 + (c.toNat - 48))
    rw [parseUint10, if_pos hd, if_neg (by omega), if_neg (by omega)]
    exact ih _ hall.2 hlt
theorem atoi_canon (l : List UInt8) (hc : canon l = true) (hv : val l < 9223372036854775808) : atoiAll l = .ok (val l : Int) := by
  have e := (canon_iff l).1 hc
  have hall : l.all dig = true := by rw [e, List.all_eq_true]; exact dec_digits _
  cases l with
  | nil => exact absurd e.symm (dec_ne _)
  | cons c r =>
    have hd : dig c = true := by simp at hall; exact hall.1
    rw [dig_iff] at hd
    have hp := parse_digits (c :: r) 0 hall (by exact hv)
    unfold atoiAll
    simp only
    rw [if_neg (by omega)]
    unfold parseMag
    rw [if_neg (by simp), hp]
    simp only
    have hv' : (c :: r).foldl (fun a c => a * 10 + (c.toNat - 48)) 0 < 9223372036854775808 := hv
    rw [if_neg (by omega), if_neg (by omega), if_neg (by omega)]
    rfl
theorem atoi_itoa (l : List UInt8) (v : Int) (h : atoiAll l = .ok v) (h0 : 0 ≤ v) (hi : itoa v = l) : canon l = true ∧ v = (val l : Int) := by
  unfold itoa at hi
  rw [if_neg (by omega)] at hi
  subst hi
  exact ⟨canon_dec _, by rw [val_dec]; omega⟩
theorem itoa_val (l : List UInt8) (hc : canon l = true) : itoa (val l : Int) = l := by
  unfold itoa; rw [if_neg (by omega)]; exact ((canon_iff l).1 hc).symm
end Go.Proofs.YteondnhokgmakaaGreatDoor.Num


namespace Go.Proofs.YteondnhokgmakaaGreatDoor.E
open Go.RowKit Go.Proofs.YteondnhokgmakaaGreatDoorW.PrintWords Go.Proofs.YteondnhokgmakaaGreatDoorW.PrintLast
set_option linter.unusedVariables false
set_option linter.unusedSimpArgs false
theorem addAt (b o j : Nat) : (⟨b, o, none⟩ : Addr).add j = ⟨b, o + j, none⟩ := by unfold Addr.add; split <;> simp_all
def Itoa.f (a : Int) : Option ByteArray := if -9223372036854775808 ≤ a ∧ a ≤ 9223372036854775807 then some ⟨(Lib.itoa a).toArray⟩ else none
theorem Itoa.calls (a : Int) (r : ByteArray) (w : World) (hS_ : StdW w) (h : Itoa.f a = some r) :
    Calls Tryz.prog 42 #[.int .i64 a] w fun e w' => e = .returned (.string r) ∧ Below w.heap.size w w' := by
  unfold Itoa.f at h
  split at h
  · rename_i hc
    obtain rfl := Option.some.inj h
    refine (Tryz.strconv_Itoa a hc.1 hc.2 w hS_.tab).mono ?_
    rintro e w' ⟨rfl, k, os, rfl⟩
    exact ⟨rfl, below_then (below_drewN w k) (Nat.le_refl _) (below_grow (w.drewN k) os)⟩
  · cases h
def Cut.f (s sep : ByteArray) : Option (ByteArray × ByteArray × Bool) :=
  if s.size < 4294967281 then some (⟨(Lib.cut s.data.toList sep.data.toList).1.toArray⟩, ⟨(Lib.cut s.data.toList sep.data.toList).2.1.toArray⟩, (Lib.cut s.data.toList sep.data.toList).2.2) else none
theorem Cut.calls (s sep : ByteArray) (r1 r2 : ByteArray) (r3 : Bool) (w : World) (hS_ : StdW w) (h : Cut.f s sep = some (r1, r2, r3)) :
    Calls Tryz.prog 46 #[.string s, .string sep] w fun e w' => e = .returned (.tuple #[.string r1, .string r2, .bool r3]) ∧ Below w.heap.size w w' := by
  unfold Cut.f at h
  split at h
  · rename_i hc
    simp only [Option.some.injEq, Prod.mk.injEq] at h
    obtain ⟨rfl, rfl, rfl⟩ := h
    obtain ⟨m, hm⟩ := hS_.max
    refine (Tryz.strings_Cut s sep m w hc hm).mono ?_
    rintro e w' ⟨rfl, n, rfl⟩
    exact ⟨rfl, below_drewN w n⟩
  · cases h
def Join.f (l : List ByteArray) (sep : ByteArray) : Option ByteArray :=
  if (Lib.join (l.map (·.data.toList)) sep.data.toList).length ≤ 140737488355328 ∧ l.length ≤ 140737488355328 then some ⟨(Lib.join (l.map (·.data.toList)) sep.data.toList).toArray⟩ else none
theorem Join.calls (A0 : Option Addr) (c0 : Nat) (l0 : List ByteArray) (sep : ByteArray) (r : ByteArray) (w : World) (hr0 : Kd.C Kd.string w A0 l0.length l0) (hc0 : l0.length ≤ c0) (hS_ : StdW w) (h : Join.f l0 sep = some r) :
    Calls Tryz.prog 43 #[.slice A0 l0.length c0, .string sep] w fun e w' => e = .returned (.string r) ∧ Below w.heap.size w w' := by
  unfold Join.f at h
  split at h
  · rename_i hc
    obtain rfl := Option.some.inj h
    cases l0 with
    | nil =>
      refine (Tryz.strings_Join_none A0 c0 sep w).mono ?_
      rintro e w' ⟨rfl, rfl⟩
      exact ⟨rfl, Below.refl _ _⟩
    | cons x l =>
      obtain ⟨ad, rfl, h0⟩ := Kd.at_string hr0 0 (Int.le_refl _) (by simp)
      have hsp := World.cell?_spot h0
      obtain ⟨b, o, sp⟩ := ad
      have hsp2 : sp = none := by simpa [Addr.add] using hsp
      subst hsp2
      refine Tryz.strings_Join b o c0 (x :: l) sep w (fun j y hj => ?_) ?_ hc.2 hc0 hc.1
      · have hj2 : j < (x :: l).length := (List.getElem?_eq_some_iff.1 hj).1
        obtain ⟨ad2, e2, h2⟩ := Kd.at_string hr0 (j : Int) (by omega) (by omega)
        cases e2
        have hr : rdOf ByteArray.empty (x :: l) (j : Int) = y := by
          unfold rdOf; rw [Int.toNat_natCast, List.getD_eq_getElem?_getD, hj]; rfl
        rw [hr, Int.toNat_natCast, addAt] at h2
        exact h2
      · have := World.block_lt_of_cell? w _ h0
        simpa [Addr.add] using this
  · cases h
def ToLower.f (s : ByteArray) : Option ByteArray := if s.size ≤ 140737488355328 ∧ s.data.toList.all (fun b => decide (b.toNat < 128)) = true then some ⟨(Lib.toLowerA s.data.toList).toArray⟩ else none
theorem ToLower.calls (s r : ByteArray) (w : World) (hS_ : StdW w) (h : ToLower.f s = some r) :
    Calls Tryz.prog 82 #[.string s] w fun e w' => e = .returned (.string r) ∧ Below w.heap.size w w' := by
  unfold ToLower.f at h
  split at h
  · rename_i hc
    obtain rfl := Option.some.inj h
    exact Tryz.strings_ToLower_ascii s w hc.1 (fun j b hb => by
      have := List.all_eq_true.1 hc.2 b (List.mem_of_getElem? hb)
      simpa using this)
  · cases h
end Go.Proofs.YteondnhokgmakaaGreatDoor.E


namespace Go.Proofs.YteondnhokgmakaaGreatDoor.E
open Go.RowKit Go.Proofs.YteondnhokgmakaaGreatDoorW.PrintWords Go.Proofs.YteondnhokgmakaaGreatDoorW.PrintLast
set_option linter.unusedVariables false
set_option linter.unusedSimpArgs false
def atoiV (l : List UInt8) : Int := match Lib.atoiAll l with | .ok v => v | .range => Lib.atoiSat l | _ => 0
def numOk (l : List UInt8) (most : Int) : Bool := match Lib.atoiAll l with | .ok v => decide (0 ≤ v) && (decide (v ≤ most) && (Lib.itoa v == l)) | _ => false
theorem atoi_any (s : ByteArray) (hs : s.size ≤ 281474976710656) (w : World) (hS : StdW w) :
    Calls Tryz.prog 74 #[.string s] w fun e w' => ∃ er : Value, e = .returned (.tuple #[.int .i64 (atoiV s.data.toList), er]) ∧ (match Lib.atoiAll s.data.toList with | .ok _ => er = .nilIface | _ => ∃ N, er = .iface 176 (.pointer (some ⟨N, 0, none⟩))) ∧ Below w.heap.size w w' := by
  unfold atoiV
  rcases h : Lib.atoiAll s.data.toList with v | _ | _
  ·
    refine (Tryz.strconv_Atoi_ok s (by omega) v h w).mono ?_
    rintro e w' ⟨rfl, hw⟩
    refine ⟨_, rfl, rfl, ?_⟩
    rcases hw with rfl | ⟨t, rfl⟩
    · exact Below.refl _ _
    · exact Lib.bytesWorld_below _ _ _
  ·
    obtain ⟨a, b, hs1⟩ := hS.syn
    refine (Tryz.strconv_Atoi_syntax s hs h _ w hs1 (.inr ⟨_, _, rfl⟩)).mono ?_
    rintro e w' ⟨N, rfl, -, -, hb⟩
    exact ⟨_, rfl, ⟨N, rfl⟩, hb⟩
  ·
    obtain ⟨a, b, hs1⟩ := hS.rng
    refine (Tryz.strconv_Atoi_range s hs h _ w hs1 (.inr ⟨_, _, rfl⟩)).mono ?_
    rintro e w' ⟨N, rfl, -, -, hb⟩
    exact ⟨_, rfl, ⟨N, rfl⟩, hb⟩
set_option maxHeartbeats 1000000 in
theorem hnumber_ok (s : ByteArray) (most v : Int) (hv0 : -9223372036854775808 ≤ v) (hv1 : v ≤ 9223372036854775807) (w : World)
    (A : Calls Tryz.prog 74 #[.string s] w fun e w' => e = .returned (.tuple #[.int .i64 v, .nilIface]) ∧ Below w.heap.size w w') (hS : StdW w) :
    Calls Tryz.prog 75 #[.string s, .int .i64 most] w fun e w' => e = .returned (.tuple #[.int .i64 v, .bool (decide (0 ≤ v) && (decide (v ≤ most) && (Lib.itoa v == s.toList)))]) ∧ Below w.heap.size w w' := by
  have HA := Lib.hid A
  have HS := Lib.hid hS
  clear A hS
  by_cases h0 : 0 ≤ v
  · by_cases h1 : v ≤ most
    · rw [decide_eq_true h0, decide_eq_true h1, Bool.true_and, Bool.true_and]
      go_enter Tryz.func75, Tryz.ntmps75
      go_wp2_with (first | (go_at_call 74; refine HA.out.mono ?_; rintro e w1 ⟨rfl, hb1⟩) | (go_at_call 42; refine (Itoa.calls v ⟨(Lib.itoa v).toArray⟩ _ (StdW.below HS.out hb1) (by unfold Itoa.f; rw [if_pos ⟨hv0, hv1⟩])).mono ?_; rintro e w2 ⟨rfl, hb2⟩))
      go_ret2
      exact ⟨rfl, below_then hb1 hb1.size hb2⟩
    · rw [decide_eq_true h0, decide_eq_false h1, Bool.true_and, Bool.false_and]
      have h1' : decide (v ≤ most) = false := decide_eq_false h1
      go_enter Tryz.func75, Tryz.ntmps75
      go_wp2_with (go_at_call 74; refine HA.out.mono ?_; rintro e w1 ⟨rfl, hb1⟩)
      go_ret2
      exact ⟨rfl, hb1⟩
  · rw [decide_eq_false h0, Bool.false_and]
    have h0' : decide (0 ≤ v) = false := decide_eq_false h0
    go_enter Tryz.func75, Tryz.ntmps75
    go_wp2_with (go_at_call 74; refine HA.out.mono ?_; rintro e w1 ⟨rfl, hb1⟩)
    go_ret2
    exact ⟨rfl, hb1⟩
set_option maxHeartbeats 1000000 in
theorem hnumber_no (s : ByteArray) (most v : Int) (w : World)
    (A : Calls Tryz.prog 74 #[.string s] w fun e w' => (∃ N, e = .returned (.tuple #[.int .i64 v, .iface 176 (.pointer (some ⟨N, 0, none⟩))])) ∧ Below w.heap.size w w') :
    Calls Tryz.prog 75 #[.string s, .int .i64 most] w fun e w' => e = .returned (.tuple #[.int .i64 v, .bool false]) ∧ Below w.heap.size w w' := by
  have HA := Lib.hid A
  clear A
  go_enter Tryz.func75, Tryz.ntmps75
  go_wp2_with (go_at_call 74; refine HA.out.mono ?_; rintro e w1 ⟨⟨N, rfl⟩, hb1⟩)
  go_ret2
  exact ⟨rfl, hb1⟩
theorem atoiAll_bounds (l : List UInt8) (v : Int) (h : Lib.atoiAll l = .ok v) : -9223372036854775808 ≤ v ∧ v ≤ 9223372036854775807 := by
  unfold Lib.atoiAll at h
  cases l with
  | nil => cases h
  | cons c r =>
    simp only at h
    split at h
    · cases h
    · cases h
    · rename_i u hu
      have := Lib.parseMag_lt hu
      split at h
      · cases h
      · split at h
        · cases h
        · injection h with h
          split at h <;> omega
theorem hnumber_any (s : ByteArray) (most : Int) (hs : s.size ≤ 281474976710656) (w : World) (hS : StdW w) :
    Calls Tryz.prog 75 #[.string s, .int .i64 most] w fun e w' => e = .returned (.tuple #[.int .i64 (atoiV s.data.toList), .bool (numOk s.data.toList most)]) ∧ Below w.heap.size w w' := by
  have A := atoi_any s hs w hS
  unfold numOk
  rcases h : Lib.atoiAll s.data.toList with v | _ | _
  ·
    have hv : atoiV s.data.toList = v := by unfold atoiV; rw [h]
    rw [hv] at A ⊢
    obtain ⟨b0, b1⟩ := atoiAll_bounds _ _ h
    have := hnumber_ok s most v b0 b1 w (A.mono fun e w' hh => by
      obtain ⟨er, rfl, he, hb⟩ := hh
      rw [h] at he
      subst he
      exact ⟨rfl, hb⟩) hS
    rw [ByteArray.toList_eq] at this
    exact this
  ·
    exact hnumber_no s most _ w (A.mono fun e w' hh => by
      obtain ⟨er, rfl, he, hb⟩ := hh
      rw [h] at he
      obtain ⟨N, rfl⟩ := he
      exact ⟨⟨N, rfl⟩, hb⟩)
  ·
    exact hnumber_no s most _ w (A.mono fun e w' hh => by
      obtain ⟨er, rfl, he, hb⟩ := hh
      rw [h] at he
      obtain ⟨N, rfl⟩ := he
      exact ⟨⟨N, rfl⟩, hb⟩)
theorem numOk_bounds (l : List UInt8) (most : Int) (h : numOk l most = true) : 0 ≤ atoiV l ∧ atoiV l ≤ most ∧ Num.canon l = true ∧ atoiV l = (Num.val l : Int) := by
  unfold numOk at h
  unfold atoiV
  rcases ha : Lib.atoiAll l with v | _ | _
  ·
    rw [ha] at h
    simp only [Bool.and_eq_true, decide_eq_true_eq, beq_iff_eq] at h
    have := Num.atoi_itoa l v ha h.1 h.2.2
    exact ⟨h.1, h.2.1, this.1, this.2⟩
  · rw [ha] at h; cases h
  · rw [ha] at h; cases h
end Go.Proofs.YteondnhokgmakaaGreatDoor.E


namespace Go.Proofs.YteondnhokgmakaaGreatDoor
open Go.RowKit
def kindZ (c : Int) : Int :=
  if c = 46 then 1 else if 48 ≤ c ∧ c ≤ 57 then 2 else if c = 45 then 3 else if 65 ≤ c ∧ c ≤ 90 then 4 else if 97 ≤ c ∧ c ≤ 122 then 4 else 0
theorem kind_any (c : Int) (w : World) (h0 : 0 ≤ c) (h1 : c ≤ 255) :
    Calls Tryz.prog 99 #[.int .u8 c] w fun e w' => e = .returned (.int .i64 (kindZ c)) ∧ w = w' := by
  go_enter Tryz.func99, Tryz.ntmps99
  go_wp2
  all_goals
    go_ret
    refine ⟨?_, rfl⟩
    unfold kindZ
    simp_all
    try omega
end Go.Proofs.YteondnhokgmakaaGreatDoor


namespace Go.Proofs.YteondnhokgmakaaGreatDoor.E
open Go.RowKit Go.Proofs.YteondnhokgmakaaGreatDoorW.PrintWords Go.Proofs.YteondnhokgmakaaGreatDoorW.PrintLast
set_option linter.unusedVariables false
set_option linter.unusedSimpArgs false
def onlyZ (ks : List Int) (l : List UInt8) : Bool := l.all fun c => ks.contains (kindZ (c.toNat : Int))
theorem take_snoc (s : ByteArray) (k : Nat) (h : k < s.size) : s.data.toList.take (k + 1) = s.data.toList.take k ++ [s[k]] := by
  rw [List.take_succ_eq_append_getElem (by simpa using h)]; rfl
theorem all_snoc (p : UInt8 → Bool) (l : List UInt8) (c : UInt8) : (l ++ [c]).all p = (l.all p && p c) := by simp [List.all_append]
theorem any_take (ks : List Int) (j : Nat) (h : j < ks.length) (q : Int) : (ks.take (j + 1)).contains q = ((ks.take j).contains q || (q == ks[j])) := by
  rw [List.take_succ_eq_append_getElem h]
  rw [List.contains_eq_any_beq, List.any_append, ← List.contains_eq_any_beq]
  simp
theorem all_false (p : UInt8 → Bool) (s : ByteArray) (k : Nat) (h : k < s.size) (hp : p s[k] = false) : s.data.toList.all p = false := by
  rw [List.all_eq_false]
  exact ⟨s[k], by
    have : s[k] = s.data.toList[k]'(by simpa using h) := rfl
    rw [this]; exact List.getElem_mem _, by simp [hp]⟩
set_option maxRecDepth 100000 in
set_option maxHeartbeats 1000000 in
theorem only_any (s : ByteArray) (ks : List Int) (bk c : Nat) (w : World) (hs : s.size ≤ 281474976710656) (hl : ks.length ≤ 1000)
    (hks : ∀ j, j < ks.length → w.cell? ⟨bk, j, none⟩ = some (.int .i64 (ks.getD j 0))) :
    Calls Tryz.prog 80 #[.string s, .slice (some ⟨bk, 0, none⟩) ks.length c] w fun e w' => e = .returned (.bool (onlyZ ks s.data.toList)) ∧ w = w' := by
  have HK := Lib.hid hks
  clear hks
  go_enter Tryz.func80, Tryz.ntmps80
  go_wp2
  go_loop [11] (fun i => ∃ k : Nat, k ≤ s.size ∧ i = .int .i64 k ∧ Hid (onlyZ ks (s.data.toList.take k) = true)) (fun i => s.size - (intOf i).toNat)
  case atStart => exact ⟨0, Nat.zero_le _, rfl, by simp [Hid, onlyZ]⟩
  case round =>
    obtain ⟨k, hk, rfl, HO⟩ := hrel
    by_cases hlt : k < s.size
    · have hk0 : (0 : Int) ≤ (k : Int) := Int.natCast_nonneg _
      have hk1 : (k : Int) < (s.size : Int) := by omega
      go_wp2
      go_loop [6, 16] (fun b j => ∃ (m : Nat), m ≤ ks.length ∧ j = .int .i64 m ∧ b = .bool ((ks.take m).contains (kindZ (s[k].toNat : Int)))) (fun _ j => ks.length - (intOf j).toNat)
      case atStart => exact ⟨0, Nat.zero_le _, rfl, by simp⟩
      case round =>
        obtain ⟨m, hm, rfl, rfl⟩ := hrel
        by_cases hmt : m < ks.length
        · have hc := HK.out m hmt
          have hm0 : (0 : Int) ≤ (m : Int) := Int.natCast_nonneg _
          have hat := Lib.hid (any_take ks m hmt (kindZ (s[k].toNat : Int)))
          have KC := Lib.hid (fun W => kind_any (s[k].toNat : Int) W (by omega) (by have := s[k].toNat_lt; omega))
          cases hb : (ks.take m).contains (kindZ (s[k].toNat : Int))
          · have HB := Lib.hid hb
            clear hb
            go_wp2_with (go_at_call 99; refine (KC.out _).mono ?_; rintro e w' ⟨rfl, rfl⟩)
            all_goals
              go_round
              case rel => exact ⟨m + 1, by omega, by go_num, by first | (rw [hat.out, HB.out]; rfl) | (rw [hat.out, HB.out, Bool.false_or])⟩
              case measure => simp [intOf]; omega
          · have HB := Lib.hid hb
            clear hb
            go_wp2_with (go_at_call 99; refine (KC.out _).mono ?_; rintro e w' ⟨rfl, rfl⟩)
            all_goals
              go_round
              case rel => exact ⟨m + 1, by omega, by go_num, by first | (rw [hat.out, HB.out]; rfl) | (rw [hat.out, HB.out, Bool.false_or])⟩
              case measure => simp [intOf]; omega
        · have hme : m = ks.length := by omega
          subst hme
          rw [List.take_length]
          have hts := take_snoc s k hlt
          have HS : Hid (onlyZ ks (s.data.toList.take (k + 1)) = ks.contains (kindZ (s[k].toNat : Int))) := by
            have := HO.out
            unfold onlyZ at this ⊢
            rw [hts, all_snoc, this, Bool.true_and]; rfl
          clear hts
          cases hb : ks.contains (kindZ (s[k].toNat : Int))
          · have HB := Lib.hid hb
            clear hb
            go_wp2
            go_ret
            have hf : onlyZ ks s.data.toList = false := all_false _ s k hlt HB.out
            exact ⟨by rw [hf]; rfl, rfl⟩
          · have HB := Lib.hid hb
            clear hb
            go_wp2
            go_round
            case rel => exact ⟨k + 1, by omega, by go_num, by rw [HB.out] at HS; exact HS⟩
            case measure => simp [intOf]; omega
    · go_wp2
      go_ret
      have hke : k = s.size := by omega
      subst hke
      refine ⟨?_, rfl⟩
      have := HO.out
      rw [List.take_of_length_le (by simp)] at this
      rw [this]
      rfl
end Go.Proofs.YteondnhokgmakaaGreatDoor.E


namespace Go.Proofs.YteondnhokgmakaaGreatDoor.E
open Go.RowKit Go.Proofs.YteondnhokgmakaaGreatDoorW.PrintWords Go.Proofs.YteondnhokgmakaaGreatDoorW.PrintLast
set_option linter.unusedVariables false
set_option linter.unusedSimpArgs false
def ErrIs (w : World) : Value → List (ByteArray × Int) → Int → Prop
  | v, [], c => v = .iface 30 (.int .i64 c)
  | v, (l, a) :: r, c => ∃ b u, v = .iface 102 (.pointer (some ⟨b, 0, none⟩)) ∧ w.cell? ⟨b, 0, none⟩ = some (.string l) ∧ w.cell? ⟨b, 1, none⟩ = some (.int .i64 a) ∧ w.cell? ⟨b, 2, none⟩ = some u ∧ ErrIs w u r c
theorem ErrIs.below {w w' : World} (hb : Below w.heap.size w w') : ∀ {v : Value} {r : List (ByteArray × Int)} {c : Int}, ErrIs w v r c → ErrIs w' v r c
  | _, [], _, h => h
  | _, (l, a) :: r, c, h => by
    obtain ⟨b, u, e, h0, h1, h2, hr⟩ := h
    exact ⟨b, u, e, pw_cell_below hb h0, pw_cell_below hb h1, pw_cell_below hb h2, ErrIs.below hb hr⟩
def hostS : ByteArray := ⟨#[104, 111, 115, 116]⟩
theorem ErrIs.iface {w : World} : ∀ {v : Value} {r : List (ByteArray × Int)} {c : Int}, ErrIs w v r c → ∃ t x, v = .iface t x
  | _, [], _, h => ⟨_, _, h⟩
  | _, (l, a) :: r, c, h => by obtain ⟨b, u, e, _⟩ := h; exact ⟨_, _, e⟩
theorem wrong_walk (at_ : Int) (t : TypeId) (x : Value) (w : World) :
    Calls Tryz.prog 63 #[.int .i64 at_, .iface t x] w fun e w' => e = .returned (.iface 102 (.pointer (some ⟨w.heap.size, 0, none⟩))) ∧ w' = w.alloc (.cells #[.string hostS, .int .i64 at_, .iface t x] 123) := by
  go_enter Tryz.func63, Tryz.ntmps63
  go_wp2
  go_ret
  exact ⟨rfl, rfl⟩
theorem wrong_any (at_ : Int) (er : Value) (r : List (ByteArray × Int)) (c : Int) (w : World) (h : ErrIs w er r c) :
    Calls Tryz.prog 63 #[.int .i64 at_, er] w fun e w' => ∃ v, e = .returned v ∧ ErrIs w' v ((hostS, at_) :: r) c ∧ Below w.heap.size w w' := by
  obtain ⟨t, x, rfl⟩ := h.iface
  refine (wrong_walk at_ t x w).mono ?_
  rintro e w' ⟨rfl, rfl⟩
  have hb : Below w.heap.size w (w.alloc (.cells #[.string hostS, .int .i64 at_, .iface t x] 123)) := (Below.refl _ _).alloc (Nat.le_refl _) _
  exact ⟨_, rfl, ⟨w.heap.size, .iface t x, rfl, by simp, by simp, by simp, ErrIs.below hb h⟩, hb⟩
def parts (s : ByteArray) : List ByteArray := Lib.splitB ⟨#[46]⟩ 0 (Lib.countB s ⟨#[46]⟩) s
theorem parts_pos (s : ByteArray) : 0 < (parts s).length := by
  unfold parts; rw [Lib.splitB_all ⟨#[46]⟩ (Nat.le_refl _) 0 _ s rfl]; omega
theorem split_dots (s : ByteArray) (hs : s.size < 4294967281) (w : World) (hS : StdW w) :
    Calls Tryz.prog 45 #[.string s, .string ⟨#[46]⟩] w fun e w' => e = .returned (.slice (some ⟨w.heap.size, 0, none⟩) (parts s).length (parts s).length) ∧ (∀ j, (h : j < (parts s).length) → w'.cell? ⟨w.heap.size, j, none⟩ = some (.string (parts s)[j])) ∧ w.heap.size < w'.heap.size ∧ Below w.heap.size w w' := by
  obtain ⟨m, hm⟩ := hS.max
  refine (Tryz.strings_Split s ⟨#[46]⟩ m w hs hm (Nat.le_refl _)).mono ?_
  rintro e w' ⟨rfl, rfl⟩
  have hl := Lib.splitB_all ⟨#[46]⟩ (Nat.le_refl _) 0 _ s rfl
  refine ⟨by unfold parts; rw [hl], fun j hj => ?_, by simp, (Below.refl _ _).alloc (Nat.le_refl _) _⟩
  unfold parts at hj ⊢
  rw [World.cell?_alloc_new, List.getElem?_toArray, List.getElem?_map, List.getElem?_eq_getElem hj]
  rfl
end Go.Proofs.YteondnhokgmakaaGreatDoor.E


namespace Go.Proofs.YteondnhokgmakaaGreatDoor.E
open Go.RowKit Go.Proofs.YteondnhokgmakaaGreatDoorW.PrintWords Go.Proofs.YteondnhokgmakaaGreatDoorW.PrintLast
set_option linter.unusedVariables false
set_option linter.unusedSimpArgs false
def lblOk (p : List UInt8) : Bool :=
  !p.isEmpty && (decide (p.length ≤ 63) && (onlyZ [2, 3, 4] p && (!((p.headD 0).toNat == 45) && !((p.getLastD 0).toNat == 45))))
def badAt : Nat → List ByteArray → Option Nat
  | _, [] => none
  | at_, p :: r => if lblOk p.data.toList then badAt (at_ + p.size + 1) r else some at_
def sumAt : Nat → List ByteArray → Nat
  | at_, [] => at_
  | at_, p :: r => sumAt (at_ + p.size + 1) r
theorem badAt_append (l : List ByteArray) (p : ByteArray) : ∀ a, badAt a (l ++ [p]) = match badAt a l with | some x => some x | none => if lblOk p.data.toList then none else some (sumAt a l) := by
  induction l with
  | nil => intro a; simp [badAt, sumAt]
  | cons q r ih =>
    intro a
    simp only [List.cons_append, badAt, sumAt]
    split
    · exact ih _
    · rfl
theorem sumAt_append (l : List ByteArray) (p : ByteArray) : ∀ a, sumAt a (l ++ [p]) = sumAt a l + p.size + 1 := by
  induction l with
  | nil => intro a; rfl
  | cons q r ih => intro a; exact ih _
theorem badAt_some (l r : List ByteArray) (x : Nat) : ∀ a, badAt a l = some x → badAt a (l ++ r) = some x := by
  induction l with
  | nil => intro a h; cases h
  | cons q t ih =>
    intro a h
    simp only [List.cons_append, badAt] at h ⊢
    split
    · rename_i hq; rw [if_pos hq] at h; exact ih _ h
    · rename_i hq; rw [if_neg hq] at h; exact h
set_option maxRecDepth 100000 in
set_option maxHeartbeats 2000000 in
theorem parseName_long (s : ByteArray) (hs : 253 < s.size) (hs2 : s.size ≤ 281474976710656) (w : World) :
    Calls Tryz.prog 61 #[.string s] w fun e w' => ∃ v, e = .returned (.tuple #[.string ⟨#[]⟩, v]) ∧ ErrIs w' v [(hostS, 253)] 3 ∧ Below w.heap.size w w' := by
  have HE : ∀ W, ErrIs W (.iface 30 (.int .i64 3)) [] 3 := fun W => rfl
  have HW := Lib.hid (fun W => wrong_any 253 _ [] 3 W (HE W))
  clear HE
  go_enter Tryz.func61, Tryz.ntmps61
  go_wp2_with (go_at_call 63; refine (HW.out _).mono ?_; rintro e w1 ⟨v, rfl, he, hb⟩)
  go_ret2
  exact ⟨v, rfl, he, hb⟩
theorem only3 (p : ByteArray) (hp : p.size ≤ 281474976710656) (W : World) :
    Calls Tryz.prog 80 #[.string p, .slice (some ⟨W.heap.size, 0, none⟩) 3 3] (W.alloc (.cells #[.int .i64 2, .int .i64 3, .int .i64 4] 3)) fun e w' => e = .returned (.bool (onlyZ [2, 3, 4] p.data.toList)) ∧ W.alloc (.cells #[.int .i64 2, .int .i64 3, .int .i64 4] 3) = w' :=
  only_any p [2, 3, 4] W.heap.size 3 _ hp (by decide) (fun j hj => by
    rw [World.cell?_alloc_new]
    match j, hj with
    | 0, _ => rfl
    | 1, _ => rfl
    | 2, _ => rfl)
theorem only1 (p : ByteArray) (hp : p.size ≤ 281474976710656) (W : World) :
    Calls Tryz.prog 80 #[.string p, .slice (some ⟨W.heap.size, 0, none⟩) 1 1] (W.alloc (.cells #[.int .i64 2] 3)) fun e w' => e = .returned (.bool (onlyZ [2] p.data.toList)) ∧ W.alloc (.cells #[.int .i64 2] 3) = w' :=
  only_any p [2] W.heap.size 1 _ hp (by decide) (fun j hj => by
    rw [World.cell?_alloc_new]
    match j, hj with
    | 0, _ => rfl)
def pnRes (s : ByteArray) : (Int × Int) ⊕ ByteArray :=
  if 253 < s.size then .inl (253, 3) else match badAt 0 (parts s) with
    | some a => .inl ((a : Int), 61)
    | none => if onlyZ [2] ((parts s).getLastD ⟨#[]⟩).data.toList then .inl ((sumAt 0 (parts s) : Int) - 1 - ((parts s).getLastD ⟨#[]⟩).size, 63) else .inr ⟨(Lib.toLowerA s.data.toList).toArray⟩
def PNPost (r : (Int × Int) ⊕ ByteArray) (w : World) (e : Ending) (w' : World) : Prop :=
  Below w.heap.size w w' ∧ match r with
    | .inl (a, c) => ∃ v, e = .returned (.tuple #[.string ⟨#[]⟩, v]) ∧ ErrIs w' v [(hostS, a)] c
    | .inr t => e = .returned (.tuple #[.string t, .nilIface])
theorem parts_le (s : ByteArray) : (parts s).length ≤ s.size + 1 := by
  unfold parts; rw [Lib.splitB_all ⟨#[46]⟩ (Nat.le_refl _) 0 _ s rfl]
  have := Lib.countB_le ⟨#[46]⟩ (Nat.le_refl _) s.size s (Nat.le_refl _); omega
theorem size_zero (p : ByteArray) : p.toList.isEmpty = decide (p.size = 0) := by
  rw [ByteArray.toList_eq]
  obtain ⟨⟨l⟩⟩ := p
  cases l <;> rfl
theorem getLast_take (l : List ByteArray) (k : Nat) (h : k < l.length) : (l.take (k + 1)).getLastD ⟨#[]⟩ = l[k] := by
  rw [List.take_succ_eq_append_getElem h, List.getLastD_eq_getLast?, List.getLast?_append]; rfl
theorem head_eq (p : ByteArray) (h : 0 < p.size) : p.data.toList.headD 0 = p[0] := by
  obtain ⟨⟨l⟩⟩ := p
  cases l with
  | nil => simp [ByteArray.size] at h
  | cons c r => rfl
theorem last_eq (p : ByteArray) (h : p.size - 1 < p.size) : p.data.toList.getLastD 0 = p[p.size - 1] := by
  obtain ⟨⟨l⟩⟩ := p
  have hl : l ≠ [] := by rintro rfl; simp [ByteArray.size] at h
  show l.getLastD 0 = l[l.length - 1]
  rw [List.getLastD_eq_getLast?, List.getLast?_eq_some_getLast hl, Option.getD_some, List.getLast_eq_getElem]
set_option maxRecDepth 100000 in
set_option maxHeartbeats 8000000 in
theorem parseName_short (s : ByteArray) (hs : s.size ≤ 253) (hasc : badAt 0 (parts s) = none → s.data.toList.all (fun b => decide (b.toNat < 128)) = true) (hsz : ∀ p ∈ parts s, p.size ≤ 253) (hsum : ∀ k, sumAt 0 ((parts s).take k) ≤ 254) (w : World) (hS : StdW w) :
    Calls Tryz.prog 61 #[.string s] w (PNPost (pnRes s) w) := by
  have HSP := Lib.hid (split_dots s (by omega) w hS)
  have HS := Lib.hid hS
  have HPN := Lib.hid (show pnRes s = _ by unfold pnRes; rw [if_neg (show ¬ 253 < s.size by omega)])
  have HLOW := Lib.hid hasc
  have HSZ := Lib.hid hsz
  have HSUM := Lib.hid hsum
  clear hS hasc hsz hsum
  have HW := Lib.hid (fun a c W => wrong_any a _ [] c W (show ErrIs W (.iface 30 (.int .i64 c)) [] c from rfl))
  have hn0 := parts_pos s
  have hn1 := parts_le s
  go_enter Tryz.func61, Tryz.ntmps61
  go_wp2_with (go_at_call 45; refine HSP.out.mono ?_; rintro e w1 ⟨rfl, hc, hlt1, hb1⟩)
  have HC := Lib.hid hc
  have HB1 := Lib.hid hb1
  clear hc hb1
  generalize hl : parts s = l at HC hn0 hn1 HPN HLOW HSZ HSUM ⊢
  have HL := Lib.hid hl
  clear hl
  go_loopw [4, 5, 16] (fun a z i wr => ∃ (k q : Nat) (y : ByteArray), k ≤ l.length ∧ i = .int .i64 k ∧ a = .int .i64 q ∧ q ≤ 254 ∧ y.size ≤ 253 ∧ z = .string y ∧ Hid (q = sumAt 0 (l.take k)) ∧ Hid (y = (l.take k).getLastD ⟨#[]⟩) ∧ Hid (badAt 0 (l.take k) = none) ∧ Hid (Below w1.heap.size w1 wr)) (fun _ _ i _ => l.length - (intOf i).toNat)
  case atStart => exact ⟨0, 0, ⟨#[]⟩, Nat.zero_le _, rfl, rfl, by omega, by decide, rfl, rfl, rfl, rfl, Lib.hid (Below.refl _ _)⟩
  case round =>
    obtain ⟨k, q, y, hk, rfl, rfl, hq, hy, rfl, HQ, HY, HBA, HBW⟩ := hrel
    by_cases hlt : k < l.length
    · have hk0 : (0 : Int) ≤ (k : Int) := Int.natCast_nonneg _
      have hk1 : (k : Int) < (l.length : Int) := by omega
      have hcell : wr.cell? ⟨w.heap.size, k, none⟩ = some (.string l[k]) := (HBW.out.cell (p := ⟨w.heap.size, k, none⟩) hlt1).trans (HC.out k hlt)
      have hpsz : l[k].size ≤ 253 := HSZ.out _ (List.getElem_mem _)
      have hq1 := HSUM.out (k + 1)
      rw [List.take_succ_eq_append_getElem hlt, sumAt_append, ← HQ.out] at hq1
      have HNX : Hid (badAt 0 (l.take (k + 1)) = if lblOk l[k].data.toList then none else some q) := by
        rw [List.take_succ_eq_append_getElem hlt, badAt_append, HBA.out, ← HQ.out]; exact rfl
      have HQ1 : Hid (q + l[k].size + 1 = sumAt 0 (l.take (k + 1))) := by
        rw [List.take_succ_eq_append_getElem hlt, sumAt_append, ← HQ.out]; exact rfl
      have HY1 : Hid (l[k] = (l.take (k + 1)).getLastD ⟨#[]⟩) := by rw [getLast_take l k hlt]; exact rfl
      generalize l[k] = p at hcell hpsz hq1 HNX HQ1 HY1
      have HBAD : lblOk p.data.toList = false → ∀ (v : Value) (wx : World), ErrIs wx v [(hostS, (q : Int))] 61 → Below w.heap.size w wx → PNPost (pnRes s) w (.returned (.tuple #[.string ⟨#[]⟩, v])) wx := by
        intro hb v wx he hbx
        have h1 := HNX.out
        rw [hb] at h1
        have h2 := badAt_some (l.take (k + 1)) (l.drop (k + 1)) q 0 h1
        rw [List.take_append_drop] at h2
        refine ⟨hbx, ?_⟩
        rw [HPN.out, h2]
        exact ⟨v, rfl, he⟩
      have HBAD' := Lib.hid HBAD
      clear HBAD
      have HBW' : Hid (Below w.heap.size w wr) := Lib.hid (below_then HB1.out (Nat.le_of_lt hlt1) (HBW.out.mono (Nat.le_refl _)))
      by_cases hA : p.size = 0
      · have hA1 : p.toList.isEmpty = true := by rw [size_zero]; simpa using hA
        have HLB := Lib.hid (show lblOk p.data.toList = false by unfold lblOk; rw [← ByteArray.toList_eq, hA1]; rfl)
        clear hA
        go_wp2_with (go_at_call 63; refine (HW.out _ _ _).mono ?_; rintro e w2 ⟨v, rfl, he, hb2⟩)
        go_ret2
        exact HBAD'.out HLB.out v _ he (below_then HBW'.out HBW'.out.size hb2)
      · have hA1 : p.toList.isEmpty = false := by rw [size_zero]; simpa using hA
        have hp0 : (0 : Int) < (p.size : Int) := by omega
        by_cases hB : 63 < p.size
        · have hB1 : (63 : Int) < (p.size : Int) := by omega
          have HLB := Lib.hid (show lblOk p.data.toList = false by
            unfold lblOk; rw [show decide (p.data.toList.length ≤ 63) = false from decide_eq_false (by rw [← Lib.size_eq]; omega)]; simp)
          go_wp2_with (go_at_call 63; refine (HW.out _ _ _).mono ?_; rintro e w2 ⟨v, rfl, he, hb2⟩)
          go_ret2
          exact HBAD'.out HLB.out v _ he (below_then HBW'.out HBW'.out.size hb2)
        · have hB1 : (p.size : Int) ≤ 63 := by omega
          have HO3 := Lib.hid (only3 p (by omega))
          cases hC : onlyZ [2, 3, 4] p.data.toList
          · have HLB := Lib.hid (show lblOk p.data.toList = false by unfold lblOk; rw [hC]; simp)
            rw [hC] at HO3
            clear hC
            go_wp2_with (first | (go_at_call 80; refine (HO3.out _).mono ?_; rintro e w2 ⟨rfl, rfl⟩) | (go_at_call 63; refine (HW.out _ _ _).mono ?_; rintro e w2 ⟨v, rfl, he, hb2⟩))
            go_ret2
            exact HBAD'.out HLB.out v _ he (below_then (below_alloc HBW'.out _) (below_alloc HBW'.out _).size hb2)
          · rw [hC] at HO3
            have HC3 := Lib.hid hC
            clear hC
            have hp1 : p.size - 1 < p.size := by omega
            have hp2 : (0 : Int) ≤ (p.size : Int) - 1 := by omega
            have hp3 : (p.size : Int) - 1 < (p.size : Int) := by omega
            have hpp : 0 < p.size := by omega
            have HHE := Lib.hid (head_eq p hpp)
            have HLE := Lib.hid (last_eq p hp1)
            cases hD : (((p[0]).toNat : Int) == 45)
            · cases hE : (((p[p.size - 1]).toNat : Int) == 45)
              · have HLB := Lib.hid (show lblOk p.data.toList = true by
                  unfold lblOk; rw [HLE.out, HHE.out, HC3.out]
                  have e1 : ((p[0]).toNat == 45) = false := by rw [beq_eq_false_iff_ne] at hD ⊢; omega
                  have e2 : ((p[p.size - 1]).toNat == 45) = false := by rw [beq_eq_false_iff_ne] at hE ⊢; omega
                  have e3 : p.data.toList.isEmpty = false := by rw [← ByteArray.toList_eq]; exact hA1
                  rw [e1, e2, e3, show decide (p.data.toList.length ≤ 63) = true from decide_eq_true (by rw [← Lib.size_eq]; omega)]; rfl)
                clear hA
                go_wp2_with (go_at_call 80; refine (HO3.out _).mono ?_; rintro e w2 ⟨rfl, rfl⟩)
                go_roundw
                case rel => exact ⟨k + 1, q + p.size + 1, p, by omega, by go_num, by go_num, by omega, by omega, rfl, HQ1, HY1, by rw [HLB.out] at HNX; exact HNX, Lib.hid (below_then HBW.out HBW.out.size (by exact below_alloc (Below.refl _ _) _))⟩
                case measure => simp [intOf]; omega
              · have HLB := Lib.hid (show lblOk p.data.toList = false by
                  unfold lblOk; rw [HLE.out]
                  have : ((p[p.size - 1]).toNat == 45) = true := by rw [beq_iff_eq] at hE ⊢; omega
                  rw [this]; simp)
                clear hA
                go_wp2_with (first | (go_at_call 80; refine (HO3.out _).mono ?_; rintro e w2 ⟨rfl, rfl⟩) | (go_at_call 63; refine (HW.out _ _ _).mono ?_; rintro e w2 ⟨v, rfl, he, hb2⟩))
                go_ret2
                exact HBAD'.out HLB.out v _ he (below_then (below_alloc HBW'.out _) (below_alloc HBW'.out _).size hb2)
            · have HLB := Lib.hid (show lblOk p.data.toList = false by
                unfold lblOk; rw [HHE.out]
                have : ((p[0]).toNat == 45) = true := by rw [beq_iff_eq] at hD ⊢; omega
                rw [this]; simp)
              clear hA
              go_wp2_with (first | (go_at_call 80; refine (HO3.out _).mono ?_; rintro e w2 ⟨rfl, rfl⟩) | (go_at_call 63; refine (HW.out _ _ _).mono ?_; rintro e w2 ⟨v, rfl, he, hb2⟩))
              go_ret2
              exact HBAD'.out HLB.out v _ he (below_then (below_alloc HBW'.out _) (below_alloc HBW'.out _).size hb2)
    · have hke : k = l.length := by omega
      subst hke
      rw [List.take_length] at HQ HY HBA
      have HBW' : Hid (Below w.heap.size w wr) := Lib.hid (below_then HB1.out (Nat.le_of_lt hlt1) (HBW.out.mono (Nat.le_refl _)))
      have HO1 := Lib.hid (only1 y (by omega))
      have hend : pnRes s = if onlyZ [2] y.data.toList then .inl ((q : Int) - 1 - y.size, 63) else .inr ⟨(Lib.toLowerA s.data.toList).toArray⟩ := by
        rw [HPN.out, HBA.out]
        simp only [← HY.out, ← HQ.out]
      have HEND := Lib.hid hend
      clear hend
      cases hC : onlyZ [2] y.data.toList
      · rw [hC] at HO1 HEND
        clear hC
        have HLW := Lib.hid (ToLower.calls s ⟨(Lib.toLowerA s.data.toList).toArray⟩)
        have HF := Lib.hid (show ToLower.f s = some ⟨(Lib.toLowerA s.data.toList).toArray⟩ by unfold ToLower.f; rw [if_pos ⟨by omega, HLOW.out HBA.out⟩])
        go_wp2_with (first | (go_at_call 80; refine (HO1.out _).mono ?_; rintro e w2 ⟨rfl, rfl⟩) | (go_at_call 82; refine (HLW.out _ (StdW.below HS.out (below_alloc HBW'.out _)) HF.out).mono ?_; rintro e w3 ⟨rfl, hb3⟩))
        go_ret2
        refine ⟨below_then (below_alloc HBW'.out _) (below_alloc HBW'.out _).size hb3, ?_⟩
        rw [HEND.out]
        rfl
      · rw [hC] at HO1 HEND
        clear hC
        go_wp2_with (first | (go_at_call 80; refine (HO1.out _).mono ?_; rintro e w2 ⟨rfl, rfl⟩) | (go_at_call 63; refine (HW.out _ _ _).mono ?_; rintro e w2 ⟨v, rfl, he, hb2⟩))
        go_ret2
        refine ⟨below_then (below_alloc HBW'.out _) (below_alloc HBW'.out _).size hb2, ?_⟩
        rw [HEND.out]
        exact ⟨v, rfl, he⟩
end Go.Proofs.YteondnhokgmakaaGreatDoor.E


namespace Go.Proofs.YteondnhokgmakaaGreatDoor.Pt
open Go.Lib
def cutOn (c : UInt8) : List UInt8 → List (List UInt8)
  | [] => [[]]
  | x :: l => if x = c then [] :: cutOn c l else match cutOn c l with
    | [] => [[x]]
    | p :: r => (x :: p) :: r
theorem cutOn_ne (c : UInt8) (l : List UInt8) : cutOn c l ≠ [] := by
  cases l with
  | nil => simp [cutOn]
  | cons x l => unfold cutOn; split; simp; split <;> simp
theorem cutOn_cons (c : UInt8) (l : List UInt8) : ∃ p r, cutOn c l = p :: r := by
  cases h : cutOn c l with
  | nil => exact absurd h (cutOn_ne c l)
  | cons p r => exact ⟨p, r, rfl⟩
theorem splitK_cutOn (c : UInt8) : ∀ s : List UInt8, splitK [c] 0 (count s [c]) s = cutOn c s
  | [] => by
    rw [count_miss (by simp [index])]; rfl
  | b :: l => by
    have ih := splitK_cutOn c l
    by_cases h : b = c
    · subst h
      have hix : index (b :: l) [b] = 0 := by rw [index]; simp [List.isPrefixOf]
      rw [count_cons_eq, Nat.add_comm, splitK, hix]
      simp only [cutOn, if_true]
      rw [← ih]; rfl
    · rw [count_cons_ne b c l h]
      simp only [cutOn, if_neg h]
      have hp : ([c] : List UInt8).isPrefixOf (b :: l) = false := by simp [List.isPrefixOf, Ne.symm h]
      have hix : index (b :: l) [c] = if index l [c] == -1 then -1 else index l [c] + 1 := by rw [index, hp]; simp
      cases hn : count l [c] with
      | zero =>
        rw [hn] at ih
        rw [← ih]; rfl
      | succ m =>
        rw [hn] at ih
        have hm : ¬ index l [c] = -1 := fun e => by rw [count_miss e] at hn; cases hn
        have hge := index_ge l [c]
        obtain ⟨j, hj⟩ : ∃ j : Nat, index l [c] = j := ⟨(index l [c]).toNat, by omega⟩
        have hb : (index l [c] == -1) = false := by rw [beq_eq_false_iff_ne]; exact hm
        rw [← ih]
        unfold splitK
        rw [hix, hb]
        have hb2 : ((index l [c] + 1 : Int) == -1) = false := by rw [beq_eq_false_iff_ne]; omega
        simp only [Bool.false_eq_true, if_false, hb2]
        rw [hj]
        have e1 : ((j : Int) + 1).toNat = j + 1 := by omega
        have e2 : ((j : Int)).toNat = j := by omega
        rw [e1, e2]
        simp
def tot (l : List (List UInt8)) : Nat := (l.map (fun p => p.length + 1)).sum
theorem tot_cutOn (c : UInt8) : ∀ s : List UInt8, tot (cutOn c s) = s.length + 1
  | [] => rfl
  | x :: l => by
    have ih := tot_cutOn c l
    obtain ⟨p, r, e⟩ := cutOn_cons c l
    unfold cutOn
    split
    · show _ + tot (cutOn c l) = _; rw [ih]; simp; omega
    · rw [e] at ih ⊢
      simp only [tot, List.map_cons, List.sum_cons, List.length_cons] at ih ⊢
      omega
theorem cutOn_all (c : UInt8) (P : UInt8 → Bool) (hc : P c = true) : ∀ s : List UInt8, (∀ p ∈ cutOn c s, p.all P = true) → s.all P = true
  | [], _ => rfl
  | x :: l, h => by
    have ih := cutOn_all c P hc l
    obtain ⟨p, r, e⟩ := cutOn_cons c l
    unfold cutOn at h
    split at h
    · rename_i hx
      rw [List.all_cons, hx, hc, Bool.true_and]
      exact ih (fun q hq => h q (List.mem_cons_of_mem _ hq))
    · rw [e] at h ih
      have h1 := h (x :: p) List.mem_cons_self
      rw [List.all_cons, Bool.and_eq_true] at h1 ⊢
      refine ⟨h1.1, ih (fun q hq => ?_)⟩
      rcases List.mem_cons.1 hq with rfl | hq
      · exact h1.2
      · exact h q (List.mem_cons_of_mem _ hq)
theorem join_cutOn (c : UInt8) : ∀ s : List UInt8, [c].intercalate (cutOn c s) = s
  | [] => rfl
  | x :: l => by
    have ih := join_cutOn c l
    obtain ⟨p, r, e⟩ := cutOn_cons c l
    unfold cutOn
    split
    · rename_i hx
      rw [e] at ih ⊢
      rw [hx, ← ih]
      simp [List.intercalate, List.intersperse]
    · rw [e] at ih ⊢
      rw [← ih]
      cases r <;> simp [List.intercalate, List.intersperse]
end Go.Proofs.YteondnhokgmakaaGreatDoor.Pt


namespace Go.Proofs.YteondnhokgmakaaGreatDoor.E
open Go.RowKit Go.Proofs.YteondnhokgmakaaGreatDoorW.PrintWords Go.Proofs.YteondnhokgmakaaGreatDoorW.PrintLast
set_option linter.unusedVariables false
set_option linter.unusedSimpArgs false
theorem parts_data (s : ByteArray) : (parts s).map (·.data.toList) = Pt.cutOn 46 s.data.toList := by
  unfold parts
  rw [Lib.splitB_data, ← Pt.splitK_cutOn]
  first | done | rfl
theorem sumAt_eq (l : List ByteArray) : ∀ a, sumAt a l = a + Pt.tot (l.map (·.data.toList)) := by
  induction l with
  | nil => intro a; rfl
  | cons p r ih =>
    intro a
    rw [sumAt, ih]
    have : (p.data.toList).length = p.size := (Lib.size_eq p).symm
    simp only [Pt.tot, List.map_cons, List.sum_cons, this]; omega
theorem sumAt_parts (s : ByteArray) : sumAt 0 (parts s) = s.size + 1 := by
  rw [sumAt_eq, parts_data, Pt.tot_cutOn, Lib.size_eq]; omega
theorem sumAt_take (l : List ByteArray) (k : Nat) : sumAt 0 (l.take k) ≤ sumAt 0 l := by
  rw [sumAt_eq, sumAt_eq]
  conv => rhs; rw [← List.take_append_drop k l]
  simp only [Pt.tot, List.map_append, List.sum_append]; omega
theorem size_mem (l : List ByteArray) (p : ByteArray) (h : p ∈ l) : p.size + 1 ≤ sumAt 0 l := by
  rw [sumAt_eq]
  induction l with
  | nil => cases h
  | cons q r ih =>
    have hq : (q.data.toList).length = q.size := (Lib.size_eq q).symm
    simp only [Pt.tot, List.map_cons, List.sum_cons, hq] at ih ⊢
    rcases List.mem_cons.1 h with rfl | h
    · omega
    · have := ih h; omega
theorem badAt_none (l : List ByteArray) : ∀ a, badAt a l = none ↔ ∀ p ∈ l, lblOk p.data.toList = true := by
  induction l with
  | nil => intro a; simp [badAt]
  | cons q r ih =>
    intro a
    unfold badAt
    split
    · rename_i h; rw [ih]; simp [h]
    · rename_i h; simp [h]
theorem kind_ascii (c : UInt8) (h : ([2, 3, 4] : List Int).contains (kindZ (c.toNat : Int)) = true) : c.toNat < 128 := by
  unfold kindZ at h
  split at h
  · simp at h
  · split at h
    · omega
    · split at h
      · omega
      · split at h
        · omega
        · split at h
          · omega
          · simp at h
theorem ok_ascii (s : ByteArray) (h : badAt 0 (parts s) = none) : s.data.toList.all (fun b => decide (b.toNat < 128)) = true := by
  refine Pt.cutOn_all 46 _ (by decide) _ fun p hp => ?_
  rw [← parts_data] at hp
  obtain ⟨q, hq, rfl⟩ := List.mem_map.1 hp
  have := (badAt_none _ 0).1 h q hq
  unfold lblOk at this
  simp only [Bool.and_eq_true] at this
  have h2 := this.2.2.1
  unfold onlyZ at h2
  rw [List.all_eq_true] at h2 ⊢
  intro c hc
  exact decide_eq_true (kind_ascii c (h2 c hc))
theorem parseName_any (s : ByteArray) (hs : s.size ≤ 281474976710656) (w : World) (hS : StdW w) :
    Calls Tryz.prog 61 #[.string s] w (PNPost (pnRes s) w) := by
  by_cases h : s.size ≤ 253
  · refine parseName_short s h (ok_ascii s) (fun p hp => ?_) (fun k => ?_) w hS
    · have := size_mem _ p hp; rw [sumAt_parts] at this; omega
    · have := sumAt_take (parts s) k; rw [sumAt_parts] at this; omega
  · refine (parseName_long s (by omega) hs w).mono ?_
    rintro e w' ⟨v, rfl, he, hb⟩
    refine ⟨hb, ?_⟩
    have : pnRes s = .inl (253, 3) := by unfold pnRes; rw [if_pos (by omega)]
    rw [this]
    exact ⟨v, rfl, he⟩
theorem boxCell {w w1 : World} {C : Array Value} {T : TypeId} (hb : Below (w.alloc (.cells C T)).heap.size (w.alloc (.cells C T)) w1) (j : Nat) (v : Value) (h : C[j]? = some v) : w1.cell? ⟨w.heap.size, j, none⟩ = some v :=
  (hb.cell (p := ⟨w.heap.size, j, none⟩) (by simp)).trans ((World.cell?_alloc_new ..).trans h)
def checkB (a b c d : Int) (n : ByteArray) : Bool :=
  if n.size = 0 then true else match pnRes n with
    | .inr t => (t.toList == n.toList) && (a == 0 && (b == 0 && (c == 0 && d == 0)))
    | .inl _ => false
set_option maxRecDepth 100000 in
set_option maxHeartbeats 2000000 in
theorem check_any (a b c d : Int) (n : ByteArray) (hs : n.size ≤ 281474976710656) (w : World) (hS : StdW w) :
    Calls Tryz.prog 30 #[.agg #[.int .u8 a, .int .u8 b, .int .u8 c, .int .u8 d, .string n]] w fun e w' => e = .returned (.bool (checkB a b c d n)) ∧ Below w.heap.size w w' := by
  unfold checkB
  by_cases h0 : n.size = 0
  · have h1 : n.toList.isEmpty = true := by rw [size_zero]; simpa using h0
    rw [if_pos h0]
    go_enter Tryz.func30, Tryz.ntmps30
    go_wp2_with fail
    go_ret
    exact ⟨rfl, below_alloc (Below.refl _ _) _⟩
  · have h1 : n.toList.isEmpty = false := by rw [size_zero]; simpa using h0
    rw [if_neg h0]
    have HPN := Lib.hid (parseName_any n hs)
    have HS := Lib.hid hS
    clear hS
    cases hr : pnRes n with
    | inl x =>
      obtain ⟨xa, xc⟩ := x
      rw [hr] at HPN
      clear hr
      go_enter Tryz.func30, Tryz.ntmps30
      go_wp2_with (go_at_call 61; refine (HPN.out _ (StdW.below HS.out (below_alloc (Below.refl _ _) _))).mono ?_; rintro e w1 ⟨hb, v, rfl, b, u, rfl, -⟩)
      go_ret
      exact ⟨rfl, below_then (below_alloc (Below.refl _ _) _) (below_alloc (Below.refl _ _) _).size hb⟩
    | inr t =>
      rw [hr] at HPN
      clear hr
      go_enter Tryz.func30, Tryz.ntmps30
      go_wp2_with (go_at_call 61; refine (HPN.out _ (StdW.below HS.out (below_alloc (Below.refl _ _) _))).mono ?_; rintro e w1 ⟨hb, rfl⟩; have c0 := boxCell hb 0 _ rfl; have c1 := boxCell hb 1 _ rfl; have c2 := boxCell hb 2 _ rfl; have c3 := boxCell hb 3 _ rfl; have c4 := boxCell hb 4 _ rfl)
      all_goals
        clear c0 c1 c2 c3 c4
        go_ret
        refine ⟨?_, below_then (below_alloc (Below.refl _ _) _) (below_alloc (Below.refl _ _) _).size hb⟩
        clear hb
        first | rfl | (simp [*]; done) | (simp_all; done)
def hCheck.f (a b c d : Int) (n : ByteArray) : Option Bool := if n.size ≤ 281474976710656 then some (checkB a b c d n) else none
theorem hCheck.calls (a b c d : Int) (n : ByteArray) (r : Bool) (w : World) (hS_ : StdW w) (h : hCheck.f a b c d n = some r) :
    Calls Tryz.prog 30 #[.agg #[.int .u8 a, .int .u8 b, .int .u8 c, .int .u8 d, .string n]] w fun e w' => e = .returned (.bool r) ∧ Below w.heap.size w w' := by
  unfold hCheck.f at h
  split at h
  · rename_i hc
    obtain rfl := Option.some.inj h
    exact check_any a b c d n hc w hS_
  · cases h
end Go.Proofs.YteondnhokgmakaaGreatDoor.E


namespace Go.Proofs.YteondnhokgmakaaGreatDoor.E
open Go.RowKit Go.Proofs.YteondnhokgmakaaGreatDoorW.PrintWords Go.Proofs.YteondnhokgmakaaGreatDoorW.PrintLast
set_option linter.unusedVariables false
set_option linter.unusedSimpArgs false
theorem info_str : (Tryz.prog.info? 9).map (fun i => (i.zero, i.size, i.bytes)) = some (some (.string ⟨#[]⟩), 1, 16) := by kernel_rfl
def it (a : Int) : ByteArray := ⟨(Lib.itoa a).toArray⟩
def addrS (a b c d : Int) : ByteArray := ⟨(Lib.join ([it a, it b, it c, it d].map (·.data.toList)) [46]).toArray⟩
def printB (a b c d : Int) (n : ByteArray) : ByteArray := if checkB a b c d n then (if n.size = 0 then addrS a b c d else n) else ⟨#[]⟩
theorem it_len (a : Int) (h0 : 0 ≤ a) (h1 : a ≤ 255) : (Lib.itoa a).length ≤ 3 := by
  unfold Lib.itoa
  rw [if_neg (by omega), Lib.decDigits_length]
  exact Num.nDigits_le 3 _ (by omega) (by decide)
theorem it_calls (a : Int) (h0 : 0 ≤ a) (h1 : a ≤ 255) (w : World) (hS : StdW w) :
    Calls Tryz.prog 42 #[.int .i64 a] w fun e w' => e = .returned (.string (it a)) ∧ Below w.heap.size w w' :=
  Itoa.calls a (it a) w hS (by unfold Itoa.f; rw [if_pos ⟨by omega, by omega⟩]; rfl)
set_option maxRecDepth 100000 in
set_option maxHeartbeats 4000000 in
theorem print_addr (a b c d : Int) (n : ByteArray) (ha0 : 0 ≤ a) (ha1 : a ≤ 255) (hb0 : 0 ≤ b) (hb1 : b ≤ 255) (hc0 : 0 ≤ c) (hc1 : c ≤ 255) (hd0 : 0 ≤ d) (hd1 : d ≤ 255) (hn : n.size = 0) (w : World) (hS : StdW w) :
    Calls Tryz.prog 32 #[.agg #[.int .u8 a, .int .u8 b, .int .u8 c, .int .u8 d, .string n]] w fun e w' => e = .returned (.string (addrS a b c d)) ∧ Below w.heap.size w w' := by
  have HCK := Lib.hid (fun W (h : StdW W) => check_any a b c d n (by omega) W h)
  have hck : checkB a b c d n = true := by unfold checkB; rw [if_pos hn]
  rw [hck] at HCK
  have hn1 : n.toList.isEmpty = true := by rw [size_zero]; simpa using hn
  have HS := Lib.hid hS
  clear hS hck hn
  have HA := Lib.hid (it_calls a ha0 ha1)
  have HB := Lib.hid (it_calls b hb0 hb1)
  have HC := Lib.hid (it_calls c hc0 hc1)
  have HD := Lib.hid (it_calls d hd0 hd1)
  have i0 : ∀ w, (Instr.index 97 (.agg #[.int .u8 a, .int .u8 b, .int .u8 c, .int .u8 d]) (.int .i64 0)).run Tryz.prog w = .ok (.int .u8 a) w := fun _ => by kernel_rfl
  have i1 : ∀ w, (Instr.index 97 (.agg #[.int .u8 a, .int .u8 b, .int .u8 c, .int .u8 d]) (.int .i64 1)).run Tryz.prog w = .ok (.int .u8 b) w := fun _ => by kernel_rfl
  have i2 : ∀ w, (Instr.index 97 (.agg #[.int .u8 a, .int .u8 b, .int .u8 c, .int .u8 d]) (.int .i64 2)).run Tryz.prog w = .ok (.int .u8 c) w := fun _ => by kernel_rfl
  have i3 : ∀ w, (Instr.index 97 (.agg #[.int .u8 a, .int .u8 b, .int .u8 c, .int .u8 d]) (.int .i64 3)).run Tryz.prog w = .ok (.int .u8 d) w := fun _ => by kernel_rfl
  go_enter Tryz.func32, Tryz.ntmps32
  go_wp2_with (go_at_call 30; refine (HCK.out _ (StdW.below HS.out (below_alloc (Below.refl _ _) _))).mono ?_; rintro e w1 ⟨rfl, hb⟩; have c0 := boxCell hb 0 _ rfl; have c1 := boxCell hb 1 _ rfl; have c2 := boxCell hb 2 _ rfl; have c3 := boxCell hb 3 _ rfl; have c4 := boxCell hb 4 _ rfl)
  have HW1 : Hid (Below w.heap.size w w1) := Lib.hid (below_then (below_alloc (Below.refl _ _) _) (below_alloc (Below.refl _ _) _).size hb)
  clear hb c0 c1 c2 c3 c4
  go_loopw [3, 29] (fun l i wr => ∃ k : Int, 0 ≤ k ∧ k ≤ 4 ∧ i = .int .i64 k ∧ Hid (Kd.R Kd.string 9 wr w.heap.size (fun _ => True) l ([it a, it b, it c, it d].take k.toNat)) ∧ Hid (Below w.heap.size w wr)) (fun _ i _ => 4 - (intOf i).toNat)
  case atStart => exact ⟨0, by omega, by omega, rfl, Lib.hid (Kd.R_nil _ _ _ _ _), HW1⟩
  case round =>
    obtain ⟨k, hk0, hk4, rfl, HR, HWR⟩ := hrel
    by_cases hlt : k < 4
    · have hkk : k = 0 ∨ k = 1 ∨ k = 2 ∨ k = 3 := by omega
      clear hk0 hk4 hlt
      rcases hkk with rfl | rfl | rfl | rfl
      · go_wp2_with (first | (go_at_call 42; refine (HA.out _ (StdW.below HS.out HWR.out)).mono ?_; rintro e w2 ⟨rfl, hb2⟩) | (at_builtin; refine Kd.R_append Kd.string (w0 := w) w.heap.size rfl (.tmp 32) (.tmp 36) 66 9 (.string ⟨#[]⟩) 16 rfl Tryz.underlying66 info_str rfl (by decide) (by omega) u3 ([it a, it b, it c, it d].take 0) (it a) [.string (it a)] (fun _ => True) (fun _ => False) rfl rfl ?aP0 (fun _ hk => hk.elim) ?aF0 ?aO0 ?aB0 ?aS0 ?aL0 ?_; (case aP0 => exact rfl); (case aF0 => exact (fun _ _ => trivial)); (case aO0 => exact Kd.R_below HR.out hb2); (case aB0 => exact below_then HWR.out HWR.out.size hb2); (case aS0 => exact (below_then HWR.out HWR.out.size hb2).size); (case aL0 => simp); intro v3 w3 ho hb3 hg3 hat3))
        go_roundw
        case rel => exact ⟨0 + 1, by omega, by omega, by go_num, Lib.hid (by simpa using ho), Lib.hid hb3⟩
        case measure => simp [intOf]
      · go_wp2_with (first | (go_at_call 42; refine (HB.out _ (StdW.below HS.out HWR.out)).mono ?_; rintro e w2 ⟨rfl, hb2⟩) | (at_builtin; refine Kd.R_append Kd.string (w0 := w) w.heap.size rfl (.tmp 32) (.tmp 36) 66 9 (.string ⟨#[]⟩) 16 rfl Tryz.underlying66 info_str rfl (by decide) (by omega) u3 ([it a, it b, it c, it d].take 1) (it b) [.string (it b)] (fun _ => True) (fun _ => False) rfl rfl ?aP1 (fun _ hk => hk.elim) ?aF1 ?aO1 ?aB1 ?aS1 ?aL1 ?_; (case aP1 => exact rfl); (case aF1 => exact (fun _ _ => trivial)); (case aO1 => exact Kd.R_below HR.out hb2); (case aB1 => exact below_then HWR.out HWR.out.size hb2); (case aS1 => exact (below_then HWR.out HWR.out.size hb2).size); (case aL1 => simp); intro v3 w3 ho hb3 hg3 hat3))
        go_roundw
        case rel => exact ⟨1 + 1, by omega, by omega, by go_num, Lib.hid (by simpa using ho), Lib.hid hb3⟩
        case measure => simp [intOf]
      · go_wp2_with (first | (go_at_call 42; refine (HC.out _ (StdW.below HS.out HWR.out)).mono ?_; rintro e w2 ⟨rfl, hb2⟩) | (at_builtin; refine Kd.R_append Kd.string (w0 := w) w.heap.size rfl (.tmp 32) (.tmp 36) 66 9 (.string ⟨#[]⟩) 16 rfl Tryz.underlying66 info_str rfl (by decide) (by omega) u3 ([it a, it b, it c, it d].take 2) (it c) [.string (it c)] (fun _ => True) (fun _ => False) rfl rfl ?aP2 (fun _ hk => hk.elim) ?aF2 ?aO2 ?aB2 ?aS2 ?aL2 ?_; (case aP2 => exact rfl); (case aF2 => exact (fun _ _ => trivial)); (case aO2 => exact Kd.R_below HR.out hb2); (case aB2 => exact below_then HWR.out HWR.out.size hb2); (case aS2 => exact (below_then HWR.out HWR.out.size hb2).size); (case aL2 => simp); intro v3 w3 ho hb3 hg3 hat3))
        go_roundw
        case rel => exact ⟨2 + 1, by omega, by omega, by go_num, Lib.hid (by simpa using ho), Lib.hid hb3⟩
        case measure => simp [intOf]
      · go_wp2_with (first | (go_at_call 42; refine (HD.out _ (StdW.below HS.out HWR.out)).mono ?_; rintro e w2 ⟨rfl, hb2⟩) | (at_builtin; refine Kd.R_append Kd.string (w0 := w) w.heap.size rfl (.tmp 32) (.tmp 36) 66 9 (.string ⟨#[]⟩) 16 rfl Tryz.underlying66 info_str rfl (by decide) (by omega) u3 ([it a, it b, it c, it d].take 3) (it d) [.string (it d)] (fun _ => True) (fun _ => False) rfl rfl ?aP3 (fun _ hk => hk.elim) ?aF3 ?aO3 ?aB3 ?aS3 ?aL3 ?_; (case aP3 => exact rfl); (case aF3 => exact (fun _ _ => trivial)); (case aO3 => exact Kd.R_below HR.out hb2); (case aB3 => exact below_then HWR.out HWR.out.size hb2); (case aS3 => exact (below_then HWR.out HWR.out.size hb2).size); (case aL3 => simp); intro v3 w3 ho hb3 hg3 hat3))
        go_roundw
        case rel => exact ⟨3 + 1, by omega, by omega, by go_num, Lib.hid (by simpa using ho), Lib.hid hb3⟩
        case measure => simp [intOf]
    · have hk : k = 4 := by omega
      subst hk
      obtain ⟨A0, c0, rfl, hlc, hC⟩ := Kd.R_reads HR.out
      clear HR
      have HCC := Lib.hid hC
      clear hC
      have hx : ([it a, it b, it c, it d].take (4 : Int).toNat) = [it a, it b, it c, it d] := rfl
      rw [hx] at HCC hlc ⊢
      have HJ := Lib.hid (Join.calls A0 c0 [it a, it b, it c, it d] ⟨#[46]⟩ (addrS a b c d))
      have HF := Lib.hid (show Join.f [it a, it b, it c, it d] ⟨#[46]⟩ = some (addrS a b c d) by
        unfold Join.f
        have la := it_len a ha0 ha1
        have lb := it_len b hb0 hb1
        have lc := it_len c hc0 hc1
        have ld := it_len d hd0 hd1
        rw [if_pos]
        · rfl
        · refine ⟨?_, by simp⟩
          simp only [Lib.join, List.intercalate, List.map_cons, List.map_nil, List.intersperse, List.flatten_cons, List.flatten_nil, List.length_append, it, List.append_nil]
          simp only [List.length_cons, List.length_nil]
          omega)
      clear i0 i1 i2 i3 hx
      go_wp2_with (go_at_call 43; refine (HJ.out _ HCC.out hlc (StdW.below HS.out HWR.out) HF.out).mono ?_; rintro e w2 ⟨rfl, hb2⟩)
      go_ret
      exact ⟨rfl, below_then HWR.out HWR.out.size hb2⟩
set_option maxRecDepth 100000 in
set_option maxHeartbeats 4000000 in
theorem print_any (a b c d : Int) (n : ByteArray) (ha0 : 0 ≤ a) (ha1 : a ≤ 255) (hb0 : 0 ≤ b) (hb1 : b ≤ 255) (hc0 : 0 ≤ c) (hc1 : c ≤ 255) (hd0 : 0 ≤ d) (hd1 : d ≤ 255) (hs : n.size ≤ 281474976710656) (w : World) (hS : StdW w) :
    Calls Tryz.prog 32 #[.agg #[.int .u8 a, .int .u8 b, .int .u8 c, .int .u8 d, .string n]] w fun e w' => e = .returned (.string (printB a b c d n)) ∧ Below w.heap.size w w' := by
  by_cases hn : n.size = 0
  · have : printB a b c d n = addrS a b c d := by unfold printB checkB; rw [if_pos hn, if_pos hn]; rfl
    rw [this]
    exact print_addr a b c d n ha0 ha1 hb0 hb1 hc0 hc1 hd0 hd1 hn w hS
  · have hn1 : n.toList.isEmpty = false := by rw [size_zero]; simpa using hn
    have HCK := Lib.hid (fun W (h : StdW W) => check_any a b c d n hs W h)
    have HS := Lib.hid hS
    have HP := Lib.hid (show printB a b c d n = if checkB a b c d n then n else ⟨#[]⟩ by unfold printB; rw [if_neg hn])
    clear hS hn
    cases hb : checkB a b c d n
    all_goals
      rw [hb] at HCK HP
      clear hb
      go_enter Tryz.func32, Tryz.ntmps32
      go_wp2_with (go_at_call 30; refine (HCK.out _ (StdW.below HS.out (below_alloc (Below.refl _ _) _))).mono ?_; rintro e w1 ⟨rfl, hb⟩; have c0 := boxCell hb 0 _ rfl; have c1 := boxCell hb 1 _ rfl; have c2 := boxCell hb 2 _ rfl; have c3 := boxCell hb 3 _ rfl; have c4 := boxCell hb 4 _ rfl)
      go_ret
      exact ⟨by rw [HP.out]; rfl, below_then (below_alloc (Below.refl _ _) _) (below_alloc (Below.refl _ _) _).size hb⟩
def hPrint.f (a b c d : Int) (n : ByteArray) : Option ByteArray := if (0 ≤ a ∧ a ≤ 255) ∧ (0 ≤ b ∧ b ≤ 255) ∧ (0 ≤ c ∧ c ≤ 255) ∧ (0 ≤ d ∧ d ≤ 255) ∧ n.size ≤ 281474976710656 then some (printB a b c d n) else none
theorem hPrint.calls (a b c d : Int) (n : ByteArray) (r : ByteArray) (w : World) (hS_ : StdW w) (h : hPrint.f a b c d n = some r) :
    Calls Tryz.prog 32 #[.agg #[.int .u8 a, .int .u8 b, .int .u8 c, .int .u8 d, .string n]] w fun e w' => e = .returned (.string r) ∧ Below w.heap.size w w' := by
  unfold hPrint.f at h
  split at h
  · rename_i hc
    obtain rfl := Option.some.inj h
    exact print_any a b c d n hc.1.1 hc.1.2 hc.2.1.1 hc.2.1.2 hc.2.2.1.1 hc.2.2.1.2 hc.2.2.2.1.1 hc.2.2.2.1.2 hc.2.2.2.2 w hS_
  · cases h
end Go.Proofs.YteondnhokgmakaaGreatDoor.E


namespace Go.Proofs.YteondnhokgmakaaGreatDoor.E
open Go.RowKit Go.Proofs.YteondnhokgmakaaGreatDoorW.PrintWords Go.Proofs.YteondnhokgmakaaGreatDoorW.PrintLast
set_option linter.unusedVariables false
set_option linter.unusedSimpArgs false
theorem setCell_id (w : World) (b j : Nat) (v : Value) (h : w.cell? ⟨b, j, none⟩ = some v) : w.setCell ⟨b, j, none⟩ v = w := by
  have hh : w.heap.modify b (fun o => match o with
      | .cells c elem frozen => .cells (c.setIfInBounds j v) elem frozen
      | o => o) = w.heap := by
    apply Array.ext_getElem?
    intro k
    rw [Array.getElem?_modify]
    split
    · rename_i e
      subst e
      unfold World.cell? at h
      cases hk : w.heap[b]? with
      | none => rfl
      | some o =>
        rw [hk] at h
        cases o with
        | cells c t fr =>
          simp only [Option.isSome_none, Bool.false_eq_true, if_false] at h
          simp only [Option.map_some, Option.some.injEq, Obj.cells.injEq, and_true]
          apply Array.ext_getElem?
          intro i
          rw [Array.getElem?_setIfInBounds]
          split
          · rename_i e; subst e
            split
            · exact h.symm
            · rename_i hb
              rw [Array.getElem?_eq_none (by omega)] at h; cases h
          · rfl
        | _ => rfl
    · rfl
  exact congrArg (fun h => ({ w with heap := h } : World)) hh
theorem boxFree {w w1 : World} {C : Array Value} {T : TypeId} (hb : Below (w.alloc (.cells C T)).heap.size (w.alloc (.cells C T)) w1) (j : Nat) : w1.frozen? ⟨w.heap.size, j, none⟩ = false :=
  (hb.frozen (p := ⟨w.heap.size, j, none⟩) (by simp)).trans (by simp)
set_option maxRecDepth 100000 in
set_option maxHeartbeats 2000000 in
theorem parseAddr_long (s : ByteArray) (hs : 253 < s.size) (hs2 : s.size ≤ 281474976710656) (w : World) :
    Calls Tryz.prog 48 #[.string s] w fun e w' => ∃ v, e = .returned (.tuple #[.agg #[.int .u8 0, .int .u8 0, .int .u8 0, .int .u8 0], v]) ∧ ErrIs w' v [(hostS, 253)] 3 ∧ Below w.heap.size w w' := by
  have HE : ∀ W, ErrIs W (.iface 30 (.int .i64 3)) [] 3 := fun W => rfl
  have HW := Lib.hid (fun W => wrong_any 253 _ [] 3 W (HE W))
  clear HE
  go_enter Tryz.func48, Tryz.ntmps48
  go_wp2_with (first | (go_at_call 63; refine (HW.out _).mono ?_; rintro e w1 ⟨v, rfl, he, hb⟩; have c0 := boxCell hb 0 (.int .u8 0) rfl; have c1 := boxCell hb 1 (.int .u8 0) rfl; have c2 := boxCell hb 2 (.int .u8 0) rfl; have c3 := boxCell hb 3 (.int .u8 0) rfl; have f0 := boxFree hb 0; have f1 := boxFree hb 1; have f2 := boxFree hb 2; have f3 := boxFree hb 3; have s0 := setCell_id _ _ _ _ c0; have s1 := setCell_id _ _ _ _ c1; have s2 := setCell_id _ _ _ _ c2; have s3 := setCell_id _ _ _ _ c3))
  refine bodyPost_ret (v := .tuple #[.agg #[.int .u8 0, .int .u8 0, .int .u8 0, .int .u8 0], v]) (by simp [results, Tryz.results48, go_sem, c0, c1, c2, c3]) rfl ⟨v, rfl, ?_, ?_⟩
  · exact he
  · exact below_then (below_alloc (Below.refl _ _) _) (below_alloc (Below.refl _ _) _).size hb
def paLoop (sz : Int) : Int → Int → List ByteArray → List Int → (Int × Int) ⊕ List Int
  | _, _, [], acc => .inr acc
  | i, a, p :: r, acc => if i = 4 then .inl (a, 63) else if numOk p.data.toList 255 = false then .inl (a, 60)
    else if sz < a + p.size + 1 ∧ i < 3 then .inl (sz, 63) else paLoop sz (i + 1) (a + p.size + 1) r (acc ++ [atoiV p.data.toList])
def paRes (s : ByteArray) : (Int × Int) ⊕ List Int := if 253 < s.size then .inl (253, 3) else paLoop s.size 0 0 (parts s) []
def PAPost (r : (Int × Int) ⊕ List Int) (w : World) (e : Ending) (w' : World) : Prop :=
  Below w.heap.size w w' ∧ match r with
    | .inl (a, c) => ∃ v, e = .returned (.tuple #[.agg #[.int .u8 0, .int .u8 0, .int .u8 0, .int .u8 0], v]) ∧ ErrIs w' v [(hostS, a)] c
    | .inr l => l.length = 4 ∧ e = .returned (.tuple #[.agg #[.int .u8 (l.getD 0 0), .int .u8 (l.getD 1 0), .int .u8 (l.getD 2 0), .int .u8 (l.getD 3 0)], .nilIface])
def Mem (w wr : World) (acc : List Int) : Prop :=
  (∀ j, j < 4 → wr.cell? ⟨w.heap.size, j, none⟩ = some (.int .u8 0) ∧ wr.frozen? ⟨w.heap.size, j, none⟩ = false) ∧
  (∀ j, j < 4 → wr.cell? ⟨w.heap.size + 1, j, none⟩ = some (.int .u8 (acc.getD j 0)) ∧ wr.frozen? ⟨w.heap.size + 1, j, none⟩ = false) ∧ w.heap.size + 1 < wr.heap.size
theorem Mem.below {w wr w1 : World} {acc : List Int} (h : Mem w wr acc) (hb : Below wr.heap.size wr w1) : Mem w w1 acc := by
  obtain ⟨h0, h1, h2⟩ := h
  refine ⟨fun j hj => ?_, fun j hj => ?_, Nat.lt_of_lt_of_le h2 hb.size⟩
  · obtain ⟨a, b⟩ := h0 j hj
    exact ⟨pw_cell_below hb a, (hb.frozen (p := ⟨w.heap.size, j, none⟩) (by show w.heap.size < _; omega)).trans b⟩
  · obtain ⟨a, b⟩ := h1 j hj
    exact ⟨pw_cell_below hb a, (hb.frozen (p := ⟨w.heap.size + 1, j, none⟩) (by show w.heap.size + 1 < _; omega)).trans b⟩
theorem Mem.put {w wr : World} {acc : List Int} {k : Nat} (h : Mem w wr acc) (hk : acc.length = k) (h4 : k < 4) (v : Int) : Mem w (wr.setCell ⟨w.heap.size + 1, k, none⟩ (.int .u8 v)) (acc ++ [v]) := by
  obtain ⟨h0, h1, h2⟩ := h
  refine ⟨fun j hj => ?_, fun j hj => ?_, by simpa [World.setCell] using h2⟩
  · obtain ⟨a, b⟩ := h0 j hj
    rw [World.frozen?_setCell, World.cell?_setCell_other _ _ _ _ (by intro e; injection e with e; omega)]
    exact ⟨a, b⟩
  · obtain ⟨a, b⟩ := h1 j hj
    rw [World.frozen?_setCell]
    refine ⟨?_, b⟩
    by_cases e : j = k
    · subst e
      rw [World.cell?_setCell_same _ _ _ a]
      simp [List.getD_eq_getElem?_getD, ← hk]
    · rw [World.cell?_setCell_other _ _ _ _ (by intro e2; injection e2 with _ e2; omega), a]
      have : acc.getD j 0 = (acc ++ [v]).getD j 0 := by
        rw [List.getD_eq_getElem?_getD, List.getD_eq_getElem?_getD]
        by_cases hl : j < acc.length
        · rw [List.getElem?_append_left hl]
        · rw [List.getElem?_append_right (by omega), List.getElem?_eq_none (by omega), List.getElem?_eq_none (by simp; omega)]
      rw [this]
theorem Mem.zero {w wr : World} {acc : List Int} (h : Mem w wr acc) :
    wr.cell? ⟨w.heap.size, 0, none⟩ = some (.int .u8 0) ∧ wr.cell? ⟨w.heap.size, 1, none⟩ = some (.int .u8 0) ∧ wr.cell? ⟨w.heap.size, 2, none⟩ = some (.int .u8 0) ∧ wr.cell? ⟨w.heap.size, 3, none⟩ = some (.int .u8 0) ∧
    wr.frozen? ⟨w.heap.size, 0, none⟩ = false ∧ wr.frozen? ⟨w.heap.size, 1, none⟩ = false ∧ wr.frozen? ⟨w.heap.size, 2, none⟩ = false ∧ wr.frozen? ⟨w.heap.size, 3, none⟩ = false ∧
    wr.setCell ⟨w.heap.size, 0, none⟩ (.int .u8 0) = wr ∧ wr.setCell ⟨w.heap.size, 1, none⟩ (.int .u8 0) = wr ∧ wr.setCell ⟨w.heap.size, 2, none⟩ (.int .u8 0) = wr ∧ wr.setCell ⟨w.heap.size, 3, none⟩ (.int .u8 0) = wr := by
  have g := h.1
  exact ⟨(g 0 (by decide)).1, (g 1 (by decide)).1, (g 2 (by decide)).1, (g 3 (by decide)).1, (g 0 (by decide)).2, (g 1 (by decide)).2, (g 2 (by decide)).2, (g 3 (by decide)).2,
    setCell_id _ _ _ _ (g 0 (by decide)).1, setCell_id _ _ _ _ (g 1 (by decide)).1, setCell_id _ _ _ _ (g 2 (by decide)).1, setCell_id _ _ _ _ (g 3 (by decide)).1⟩
set_option maxRecDepth 100000 in
set_option maxHeartbeats 8000000 in
theorem parseAddr_short (s : ByteArray) (hs : s.size ≤ 253) (hsz : ∀ p ∈ parts s, p.size ≤ 253) (hsum : ∀ k, sumAt 0 ((parts s).take k) ≤ 254) (hlast : ∀ k, k < (parts s).length → ((s.size : Int) < sumAt 0 ((parts s).take (k + 1)) ↔ k + 1 = (parts s).length)) (w : World) (hS : StdW w) :
    Calls Tryz.prog 48 #[.string s] w (PAPost (paRes s) w) := by
  have HSP := Lib.hid (fun W (h : StdW W) => split_dots s (by omega) W h)
  have HS := Lib.hid hS
  have HPA := Lib.hid (show paRes s = _ by unfold paRes; rw [if_neg (show ¬ 253 < s.size by omega)])
  have HSZ := Lib.hid hsz
  have HSUM := Lib.hid hsum
  have HLAST := Lib.hid hlast
  clear hS hsz hsum hlast
  have HW := Lib.hid (fun a c W => wrong_any a _ [] c W (show ErrIs W (.iface 30 (.int .i64 c)) [] c from rfl))
  have hn0 := parts_pos s
  have hn1 := parts_le s
  go_enter Tryz.func48, Tryz.ntmps48
  go_wp2_with (go_at_call 45; refine (HSP.out _ (StdW.below HS.out (below_alloc (below_alloc (Below.refl _ _) _) _))).mono ?_; rintro e w1 ⟨rfl, hc, hlt1, hb1⟩)
  have HB1 : Hid (Below w.heap.size w w1) := Lib.hid (below_then (below_alloc (below_alloc (Below.refl _ _) _) _) (below_alloc (below_alloc (Below.refl _ _) _) _).size hb1)
  have HM : Hid (Mem w w1 []) := by
    refine Mem.below (wr := (w.alloc (.cells #[.int .u8 0, .int .u8 0, .int .u8 0, .int .u8 0] 24)).alloc (.cells #[.int .u8 0, .int .u8 0, .int .u8 0, .int .u8 0] 97)) ⟨fun j hj => ?_, fun j hj => ?_, by simp⟩ hb1
    · rw [World.cell?_alloc_lt _ _ _ (by simp), World.cell?_alloc_new]
      refine ⟨?_, by simp⟩
      match j, hj with
      | 0, _ => rfl
      | 1, _ => rfl
      | 2, _ => rfl
      | 3, _ => rfl
    · refine ⟨(World.cell?_alloc_at _ _ _ _ (by simp)).trans ?_, by simp⟩
      match j, hj with
      | 0, _ => rfl
      | 1, _ => rfl
      | 2, _ => rfl
      | 3, _ => rfl
  have HC := Lib.hid hc
  have hlt1' : w.heap.size + 1 + 1 < w1.heap.size := by simpa using hlt1
  clear hc hb1 hlt1
  generalize hl : parts s = l at HC hn0 hn1 HPA HSZ HSUM HLAST ⊢
  have HL := Lib.hid hl
  clear hl
  have HC2 : Hid (∀ j, (h : j < l.length) → w1.cell? ⟨w.heap.size + 1 + 1, j, none⟩ = some (.string l[j])) := Lib.hid (fun j hj => by have h := HC.out j hj; simp only [World.size_alloc] at h; exact h)
  clear HC
  go_loopw [5, 19] (fun a i wr => ∃ (k q : Nat) (acc : List Int), k ≤ l.length ∧ k ≤ 4 ∧ i = .int .i64 k ∧ a = .int .i64 q ∧ q ≤ 254 ∧ Hid (acc.length = k) ∧ Hid (q = sumAt 0 (l.take k)) ∧ Hid (k = l.length → k = 4) ∧ Hid (paRes s = paLoop s.size k q (l.drop k) acc) ∧ Hid (Mem w wr acc) ∧ Hid (Below w.heap.size w wr) ∧ Hid (∀ j, (h : j < l.length) → wr.cell? ⟨w.heap.size + 1 + 1, j, none⟩ = some (.string l[j]))) (fun _ i _ => l.length - (intOf i).toNat)
  case atStart => exact ⟨0, 0, [], Nat.zero_le _, by omega, rfl, rfl, by omega, rfl, rfl, Lib.hid (by omega), Lib.hid (by rw [HPA.out]; rfl), HM, HB1, HC2⟩
  case round =>
    obtain ⟨k, q, acc, hk, hk4, rfl, rfl, hq, HAL, HQ, HKL, HP, HMR, HBR, HCR⟩ := hrel
    by_cases hlt : k < l.length
    · have hk0 : (0 : Int) ≤ (k : Int) := Int.natCast_nonneg _
      have hk1 : (k : Int) < (l.length : Int) := by omega
      have hcell := HCR.out k hlt
      have hpsz : l[k].size ≤ 253 := HSZ.out _ (List.getElem_mem _)
      have hq1 := HSUM.out (k + 1)
      rw [List.take_succ_eq_append_getElem hlt, sumAt_append, ← HQ.out] at hq1
      have HLA := Lib.hid (HLAST.out k hlt)
      rw [List.take_succ_eq_append_getElem hlt, sumAt_append, ← HQ.out] at HLA
      rw [List.drop_eq_getElem_cons hlt] at HP
      have HQ1 : Hid (q + l[k].size + 1 = sumAt 0 (l.take (k + 1))) := by
        rw [List.take_succ_eq_append_getElem hlt, sumAt_append, ← HQ.out]; exact rfl
      generalize l[k] = p at hcell hpsz hq1 HLA HP HQ1
      have HN := Lib.hid (fun W h => hnumber_any p 255 (by omega) W h)
      have hBK : w.heap.size + 1 + 1 < w.heap.size + 1 + 1 + 1 := by omega
      unfold paLoop at HP
      by_cases h4 : k = 4
      · subst h4
        have HP4 : Hid (paRes s = .inl ((q : Int), 63)) := by rw [if_pos (show ((4 : Nat) : Int) = 4 from rfl)] at HP; exact HP
        clear HP
        generalize atoiV p.data.toList = v at HN
        generalize numOk p.data.toList 255 = ok at HN
        go_wp2_with (first | (go_at_call 75; refine (HN.out _ (StdW.below HS.out HBR.out)).mono ?_; rintro e w2 ⟨rfl, hb2⟩) | (go_at_call 63; refine (HW.out _ _ _).mono ?_; rintro e w3 ⟨u, rfl, he, hb3⟩; obtain ⟨c0, c1, c2, c3, f0, f1, f2, f3, s0, s1, s2, s3⟩ := ((HMR.out.below hb2).below hb3).zero))
        refine bodyPost_ret (v := .tuple #[.agg #[.int .u8 0, .int .u8 0, .int .u8 0, .int .u8 0], u]) (by simp [results, Tryz.results48, go_sem, c0, c1, c2, c3]) rfl ⟨?_, ?_⟩
        · exact below_then (below_then HBR.out HBR.out.size hb2) (below_then HBR.out HBR.out.size hb2).size hb3
        · rw [HP4.out]
          exact ⟨u, rfl, he⟩
      · have h4' : ((k : Int) == 4) = false := by rw [beq_eq_false_iff_ne]; omega
        have hk3 : (k : Int) < 4 := by omega
        rw [if_neg (show ¬ (k : Int) = 4 by omega)] at HP
        cases hok : numOk p.data.toList 255
        · have HPE : Hid (paRes s = .inl ((q : Int), 60)) := by rw [if_pos hok] at HP; exact HP
          rw [hok] at HN
          clear HP hok
          generalize atoiV p.data.toList = v at HN
          go_wp2_with (first | (go_at_call 75; refine (HN.out _ (StdW.below HS.out HBR.out)).mono ?_; rintro e w2 ⟨rfl, hb2⟩; have HB5 : Hid (Below w.heap.size w w2) := Lib.hid (below_then HBR.out HBR.out.size hb2)) | (go_at_call 63; refine (HW.out _ _ _).mono ?_; rintro e w3 ⟨u, rfl, he, hb3⟩; obtain ⟨c0, c1, c2, c3, f0, f1, f2, f3, s0, s1, s2, s3⟩ := ((HMR.out.below hb2).below hb3).zero))
          refine bodyPost_ret (v := .tuple #[.agg #[.int .u8 0, .int .u8 0, .int .u8 0, .int .u8 0], u]) (by simp [results, Tryz.results48, go_sem, c0, c1, c2, c3]) rfl ⟨?_, ?_⟩
          · exact below_then HB5.out HB5.out.size hb3
          · rw [HPE.out]
            exact ⟨u, rfl, he⟩
        · have hvb := numOk_bounds _ _ hok
          obtain ⟨hv0, hv1, -, -⟩ := hvb
          rw [if_neg (show ¬ numOk p.data.toList 255 = false by rw [hok]; simp)] at HP
          rw [hok] at HN
          clear hok
          generalize atoiV p.data.toList = v at HN HP hv0 hv1
          by_cases hlst : k + 1 = l.length
          · have hgt : (s.size : Int) < (q : Int) + ((p.size : Int) + 1) := by have := HLA.out.2 hlst; omega
            by_cases hk2 : k < 3
            · have hk2' : (k : Int) < 3 := by omega
              have HPE : Hid (paRes s = .inl ((s.size : Int), 63)) := by rw [if_pos ⟨by omega, hk2'⟩] at HP; exact HP
              clear HP
              have HLS := Lib.hid hlst
              clear hlst
              go_wp2_with (first | (go_at_call 75; refine (HN.out _ (StdW.below HS.out HBR.out)).mono ?_; rintro e w2 ⟨rfl, hb2⟩; have hm2 := HMR.out.below hb2; have HB4 : Hid (Below w.heap.size w w2) := Lib.hid (below_then HBR.out HBR.out.size hb2); have hcb := (hm2.2.1 k (by omega)).1; have hfb := (hm2.2.1 k (by omega)).2; have HM2 := Lib.hid hm2; clear hm2) | (go_at_call 63; have HB5 : Hid (Below w.heap.size w (w2.setCell ⟨w.heap.size + 1, k, none⟩ (.int .u8 v))) := Lib.hid (HB4.out.setCell (by simp) _); refine (HW.out _ _ _).mono ?_; rintro e w3 ⟨u, rfl, he, hb3⟩; obtain ⟨c0, c1, c2, c3, f0, f1, f2, f3, s0, s1, s2, s3⟩ := ((HM2.out.put HAL.out (by omega) v).below hb3).zero))
              refine bodyPost_ret (v := .tuple #[.agg #[.int .u8 0, .int .u8 0, .int .u8 0, .int .u8 0], u]) (by simp [results, Tryz.results48, go_sem, c0, c1, c2, c3]) rfl ⟨?_, ?_⟩
              · exact below_then HB5.out HB5.out.size hb3
              · rw [HPE.out]
                exact ⟨u, rfl, he⟩
            · have hk2' : ¬ (k : Int) < 3 := by omega
              have hk2'' : decide ((k : Int) < 3) = false := decide_eq_false hk2'
              rw [if_neg (by rintro ⟨_, h⟩; exact hk2' h)] at HP
              have HLS := Lib.hid hlst
              clear hlst
              go_wp2_with (first | (go_at_call 75; refine (HN.out _ (StdW.below HS.out HBR.out)).mono ?_; rintro e w2 ⟨rfl, hb2⟩; have hm2 := HMR.out.below hb2; have HB4 : Hid (Below w.heap.size w w2) := Lib.hid (below_then HBR.out HBR.out.size hb2); have hcb := (hm2.2.1 k (by omega)).1; have hfb := (hm2.2.1 k (by omega)).2; have HM2 := Lib.hid hm2; clear hm2))
              go_roundw
              case rel => exact ⟨k + 1, q + p.size + 1, acc ++ [v], by omega, by omega, by go_num, by go_num, by omega, Lib.hid (by rw [List.length_append, HAL.out]; rfl), HQ1, Lib.hid (fun _ => by omega), HP, Lib.hid (HM2.out.put HAL.out (by omega) v), Lib.hid (HB4.out.setCell (by simp) _), Lib.hid (fun j hj => (World.cell?_setCell_other _ _ _ _ (by intro e; injection e with e; omega)).trans (pw_cell_below hb2 (HCR.out j hj)))⟩
              case measure => simp [intOf]; omega
          · have hgt : ¬ (s.size : Int) < (q : Int) + ((p.size : Int) + 1) := by
              intro h
              exact hlst (HLA.out.1 (by omega))
            rw [if_neg (by rintro ⟨h, _⟩; omega)] at HP
            go_wp2_with (first | (go_at_call 75; refine (HN.out _ (StdW.below HS.out HBR.out)).mono ?_; rintro e w2 ⟨rfl, hb2⟩; have hm2 := HMR.out.below hb2; have HB4 : Hid (Below w.heap.size w w2) := Lib.hid (below_then HBR.out HBR.out.size hb2); have hcb := (hm2.2.1 k (by omega)).1; have hfb := (hm2.2.1 k (by omega)).2; have HM2 := Lib.hid hm2; clear hm2))
            go_roundw
            case rel => exact ⟨k + 1, q + p.size + 1, acc ++ [v], by omega, by omega, by go_num, by go_num, by omega, Lib.hid (by rw [List.length_append, HAL.out]; rfl), HQ1, Lib.hid (fun h => absurd h hlst), HP, Lib.hid (HM2.out.put HAL.out (by omega) v), Lib.hid (HB4.out.setCell (by simp) _), Lib.hid (fun j hj => (World.cell?_setCell_other _ _ _ _ (by intro e; injection e with e; omega)).trans (pw_cell_below hb2 (HCR.out j hj)))⟩
            case measure => simp [intOf]; omega
    · have hkl : k = l.length := by omega
      have h4 : k = 4 := HKL.out hkl
      rw [hkl, List.drop_length] at HP
      have HPE : Hid (paRes s = .inr acc) := HP
      have HA4 : Hid (acc.length = 4) := Lib.hid (HAL.out.trans h4)
      obtain ⟨c0, c1, c2, c3, f0, f1, f2, f3, -, -, -, -⟩ := HMR.out.zero
      have d0 := (HMR.out.2.1 0 (by decide)).1
      have d1 := (HMR.out.2.1 1 (by decide)).1
      have d2 := (HMR.out.2.1 2 (by decide)).1
      have d3 := (HMR.out.2.1 3 (by decide)).1
      clear HP h4 hkl
      have HEND : Hid (∀ wx, Below w.heap.size w wx → PAPost (paRes s) w (.returned (.tuple #[.agg #[.int .u8 (acc.getD 0 0), .int .u8 (acc.getD 1 0), .int .u8 (acc.getD 2 0), .int .u8 (acc.getD 3 0)], .nilIface])) wx) := Lib.hid (fun wx hb => ⟨hb, by rw [HPE.out]; exact ⟨HA4.out, rfl⟩⟩)
      generalize acc.getD 0 0 = x0 at d0 HEND
      generalize acc.getD 1 0 = x1 at d1 HEND
      generalize acc.getD 2 0 = x2 at d2 HEND
      generalize acc.getD 3 0 = x3 at d3 HEND
      go_wp2
      refine bodyPost_ret (v := .tuple #[.agg #[.int .u8 x0, .int .u8 x1, .int .u8 x2, .int .u8 x3], .nilIface]) (by simp [results, Tryz.results48, go_sem, c0, c1, c2, c3]) rfl (HEND.out _ ?_)
      exact (((HBR.out.setCell (Nat.le_refl _) _).setCell (Nat.le_refl _) _).setCell (Nat.le_refl _) _).setCell (Nat.le_refl _) _
theorem sumAt_last (l : List ByteArray) (k : Nat) (hk : k < l.length) (n : Nat) (hn : sumAt 0 l = n + 1) : ((n : Int) < sumAt 0 (l.take (k + 1)) ↔ k + 1 = l.length) := by
  constructor
  · intro h
    by_cases e : k + 1 = l.length
    · exact e
    · exfalso
      have hlt : k + 1 < l.length := by omega
      have h1 := sumAt_take l (k + 1 + 1)
      rw [List.take_succ_eq_append_getElem hlt, sumAt_append] at h1
      omega
  · intro e
    rw [e, List.take_length, hn]; omega
theorem parseAddr_any (s : ByteArray) (hs : s.size ≤ 281474976710656) (w : World) (hS : StdW w) :
    Calls Tryz.prog 48 #[.string s] w (PAPost (paRes s) w) := by
  by_cases h : s.size ≤ 253
  · refine parseAddr_short s h (fun p hp => ?_) (fun k => ?_) (fun k hk => sumAt_last _ k hk _ (sumAt_parts s)) w hS
    · have := size_mem _ p hp; rw [sumAt_parts] at this; omega
    · have := sumAt_take (parts s) k; rw [sumAt_parts] at this; omega
  · refine (parseAddr_long s (by omega) hs w).mono ?_
    rintro e w' ⟨v, rfl, he, hb⟩
    refine ⟨hb, ?_⟩
    have : paRes s = .inl (253, 3) := by unfold paRes; rw [if_pos (by omega)]
    rw [this]
    exact ⟨v, rfl, he⟩
end Go.Proofs.YteondnhokgmakaaGreatDoor.E


namespace Go.Proofs.YteondnhokgmakaaGreatDoor.E
open Go.RowKit Go.Proofs.YteondnhokgmakaaGreatDoorW.PrintWords Go.Proofs.YteondnhokgmakaaGreatDoorW.PrintLast
set_option linter.unusedVariables false
set_option linter.unusedSimpArgs false
def numOkP (l : List UInt8) : Bool := match Lib.atoiAll l with | .ok v => (Lib.itoa v == l) && decide (0 ≤ v) | _ => false
set_option maxHeartbeats 1000000 in
theorem pnumber_ok (s : ByteArray) (v : Int) (hv0 : -9223372036854775808 ≤ v) (hv1 : v ≤ 9223372036854775807) (w : World)
    (A : Calls Tryz.prog 74 #[.string s] w fun e w' => e = .returned (.tuple #[.int .i64 v, .nilIface]) ∧ Below w.heap.size w w') (hS : StdW w) :
    Calls Tryz.prog 47 #[.string s] w fun e w' => e = .returned (.tuple #[.int .i64 v, .bool ((Lib.itoa v == s.toList) && decide (0 ≤ v))]) ∧ Below w.heap.size w w' := by
  have HA := Lib.hid A
  have HS := Lib.hid hS
  clear A hS
  cases hb : (Lib.itoa v == s.toList)
  all_goals
    go_enter Tryz.func47, Tryz.ntmps47
    go_wp2_with (first | (go_at_call 74; refine HA.out.mono ?_; rintro e w1 ⟨rfl, hb1⟩) | (go_at_call 42; refine (Itoa.calls v ⟨(Lib.itoa v).toArray⟩ _ (StdW.below HS.out hb1) (by unfold Itoa.f; rw [if_pos ⟨hv0, hv1⟩])).mono ?_; rintro e w2 ⟨rfl, hb2⟩))
    all_goals
      go_ret2
      refine ⟨?_, below_then hb1 hb1.size hb2⟩
      first | rfl | (simp; done) | (simp_all; done)
set_option maxHeartbeats 1000000 in
theorem pnumber_no (s : ByteArray) (v : Int) (w : World)
    (A : Calls Tryz.prog 74 #[.string s] w fun e w' => (∃ N, e = .returned (.tuple #[.int .i64 v, .iface 176 (.pointer (some ⟨N, 0, none⟩))])) ∧ Below w.heap.size w w') :
    Calls Tryz.prog 47 #[.string s] w fun e w' => e = .returned (.tuple #[.int .i64 v, .bool false]) ∧ Below w.heap.size w w' := by
  have HA := Lib.hid A
  clear A
  go_enter Tryz.func47, Tryz.ntmps47
  go_wp2_with (go_at_call 74; refine HA.out.mono ?_; rintro e w1 ⟨⟨N, rfl⟩, hb1⟩)
  go_ret2
  exact ⟨rfl, hb1⟩
theorem pnumber_any (s : ByteArray) (hs : s.size ≤ 281474976710656) (w : World) (hS : StdW w) :
    Calls Tryz.prog 47 #[.string s] w fun e w' => e = .returned (.tuple #[.int .i64 (atoiV s.data.toList), .bool (numOkP s.data.toList)]) ∧ Below w.heap.size w w' := by
  have A := atoi_any s hs w hS
  unfold numOkP
  rcases h : Lib.atoiAll s.data.toList with v | _ | _
  ·
    have hv : atoiV s.data.toList = v := by unfold atoiV; rw [h]
    rw [hv] at A ⊢
    obtain ⟨b0, b1⟩ := atoiAll_bounds _ _ h
    have := pnumber_ok s v b0 b1 w (A.mono fun e w' hh => by
      obtain ⟨er, rfl, he, hb⟩ := hh
      rw [h] at he
      subst he
      exact ⟨rfl, hb⟩) hS
    rw [ByteArray.toList_eq] at this
    exact this
  ·
    exact pnumber_no s _ w (A.mono fun e w' hh => by
      obtain ⟨er, rfl, he, hb⟩ := hh
      rw [h] at he
      obtain ⟨N, rfl⟩ := he
      exact ⟨⟨N, rfl⟩, hb⟩)
  ·
    exact pnumber_no s _ w (A.mono fun e w' hh => by
      obtain ⟨er, rfl, he, hb⟩ := hh
      rw [h] at he
      obtain ⟨N, rfl⟩ := he
      exact ⟨⟨N, rfl⟩, hb⟩)
theorem numOkP_iff (l : List UInt8) : numOkP l = true → Num.canon l = true ∧ atoiV l = (Num.val l : Int) ∧ Num.val l < 9223372036854775808 := by
  intro h
  unfold numOkP at h
  unfold atoiV
  rcases ha : Lib.atoiAll l with v | _ | _
  ·
    rw [ha] at h
    simp only [Bool.and_eq_true, decide_eq_true_eq, beq_iff_eq] at h
    have := Num.atoi_itoa l v ha h.2 h.1
    have := atoiAll_bounds _ _ ha
    exact ⟨by simp_all, by simp_all, by omega⟩
  · rw [ha] at h; cases h
  · rw [ha] at h; cases h
theorem numOkP_canon (l : List UInt8) (hc : Num.canon l = true) (hv : Num.val l < 9223372036854775808) : numOkP l = true ∧ atoiV l = (Num.val l : Int) := by
  unfold numOkP atoiV
  rw [Num.atoi_canon l hc hv]
  simp only [Bool.and_eq_true, decide_eq_true_eq, beq_iff_eq, and_true]
  exact ⟨Num.itoa_val l hc, by omega⟩
def pnumber.f (s : ByteArray) : Option (Int × Bool) := if s.size ≤ 281474976710656 then some (atoiV s.data.toList, numOkP s.data.toList) else none
theorem pnumber.calls (s : ByteArray) (r1 : Int) (r2 : Bool) (w : World) (hS_ : StdW w) (h : pnumber.f s = some (r1, r2)) :
    Calls Tryz.prog 47 #[.string s] w fun e w' => e = .returned (.tuple #[.int .i64 r1, .bool r2]) ∧ Below w.heap.size w w' := by
  unfold pnumber.f at h
  split at h
  · rename_i hc
    simp only [Option.some.injEq, Prod.mk.injEq] at h
    obtain ⟨rfl, rfl⟩ := h
    exact pnumber_any s hc w hS_
  · cases h
end Go.Proofs.YteondnhokgmakaaGreatDoor.E


namespace Go.Proofs.YteondnhokgmakaaGreatDoor.E
open Go.RowKit Go.Proofs.YteondnhokgmakaaGreatDoorW.PrintWords Go.Proofs.YteondnhokgmakaaGreatDoorW.PrintLast
set_option linter.unusedVariables false
set_option linter.unusedSimpArgs false
def printDestB (a b c d : Int) (n : ByteArray) (po : Int) : ByteArray := if (printB a b c d n).size = 0 ∨ po < 1 ∨ 65535 < po then ⟨#[]⟩ else printB a b c d n ++ ⟨#[58]⟩ ++ it po
set_option maxRecDepth 100000 in
set_option maxHeartbeats 4000000 in
theorem printDest_any (a b c d : Int) (n : ByteArray) (po : Int) (ha0 : 0 ≤ a) (ha1 : a ≤ 255) (hb0 : 0 ≤ b) (hb1 : b ≤ 255) (hc0 : 0 ≤ c) (hc1 : c ≤ 255) (hd0 : 0 ≤ d) (hd1 : d ≤ 255) (hs : n.size ≤ 281474976710656) (hps : (printB a b c d n).size ≤ 281474976710656) (w : World) (hS : StdW w) :
    Calls Tryz.prog 34 #[.agg #[.int .u8 a, .int .u8 b, .int .u8 c, .int .u8 d, .string n, .int .i64 po]] w fun e w' => e = .returned (.string (printDestB a b c d n po)) ∧ Below w.heap.size w w' := by
  have HP := Lib.hid (fun W h => print_any a b c d n ha0 ha1 hb0 hb1 hc0 hc1 hd0 hd1 hs W h)
  have HS := Lib.hid hS
  clear hS hs ha0 ha1 hb0 hb1 hc0 hc1 hd0 hd1
  unfold printDestB
  generalize printB a b c d n = t at HP hps
  by_cases h0 : t.size = 0
  · have h1 : t.toList.isEmpty = true := by rw [size_zero]; simpa using h0
    rw [if_pos (.inl h0)]
    go_enter Tryz.func34, Tryz.ntmps34
    go_wp2_with (go_at_call 32; refine (HP.out _ (StdW.below HS.out (below_alloc (Below.refl _ _) _))).mono ?_; rintro e w1 ⟨rfl, hb⟩)
    go_ret
    exact ⟨rfl, below_then (below_alloc (Below.refl _ _) _) (below_alloc (Below.refl _ _) _).size hb⟩
  · have h1 : t.toList.isEmpty = false := by rw [size_zero]; simpa using h0
    by_cases h2 : po < 1
    · rw [if_pos (.inr (.inl h2))]
      go_enter Tryz.func34, Tryz.ntmps34
      go_wp2_with (go_at_call 32; refine (HP.out _ (StdW.below HS.out (below_alloc (Below.refl _ _) _))).mono ?_; rintro e w1 ⟨rfl, hb⟩; have c5 := boxCell hb 5 _ rfl)
      go_ret
      exact ⟨rfl, below_then (below_alloc (Below.refl _ _) _) (below_alloc (Below.refl _ _) _).size hb⟩
    · by_cases h3 : 65535 < po
      · rw [if_pos (.inr (.inr h3))]
        have h2' : decide (po < 1) = false := decide_eq_false h2
        go_enter Tryz.func34, Tryz.ntmps34
        go_wp2_with (go_at_call 32; refine (HP.out _ (StdW.below HS.out (below_alloc (Below.refl _ _) _))).mono ?_; rintro e w1 ⟨rfl, hb⟩; have c5 := boxCell hb 5 _ rfl)
        go_ret
        exact ⟨rfl, below_then (below_alloc (Below.refl _ _) _) (below_alloc (Below.refl _ _) _).size hb⟩
      · rw [if_neg (fun h => h.elim h0 (fun h => h.elim h2 h3))]
        have h2' : decide (po < 1) = false := decide_eq_false h2
        have h3' : decide (65535 < po) = false := decide_eq_false h3
        have HI := Lib.hid (Itoa.calls po (it po))
        have HF := Lib.hid (show Itoa.f po = some (it po) by unfold Itoa.f; rw [if_pos ⟨by omega, by omega⟩]; rfl)
        have hil : (it po).size ≤ 5 := by
          show (Lib.itoa po).length ≤ 5
          unfold Lib.itoa
          rw [if_neg (by omega), Lib.decDigits_length]
          exact Num.nDigits_le 5 _ (by omega) (by decide)
        go_enter Tryz.func34, Tryz.ntmps34
        go_wp2_with (first | (go_at_call 32; refine (HP.out _ (StdW.below HS.out (below_alloc (Below.refl _ _) _))).mono ?_; rintro e w1 ⟨rfl, hb⟩; have c5 := boxCell hb 5 _ rfl) | (go_at_call 42; refine (HI.out _ (StdW.below (StdW.below HS.out (below_alloc (Below.refl _ _) _)) hb) HF.out).mono ?_; rintro e w2 ⟨rfl, hb2⟩))
        go_ret
        exact ⟨rfl, below_then (below_then (below_alloc (Below.refl _ _) _) (below_alloc (Below.refl _ _) _).size hb) (below_then (below_alloc (Below.refl _ _) _) (below_alloc (Below.refl _ _) _).size hb).size hb2⟩
theorem addrS_size (a b c d : Int) (ha0 : 0 ≤ a) (ha1 : a ≤ 255) (hb0 : 0 ≤ b) (hb1 : b ≤ 255) (hc0 : 0 ≤ c) (hc1 : c ≤ 255) (hd0 : 0 ≤ d) (hd1 : d ≤ 255) : (addrS a b c d).size ≤ 15 := by
  have la := it_len a ha0 ha1
  have lb := it_len b hb0 hb1
  have lc := it_len c hc0 hc1
  have ld := it_len d hd0 hd1
  show (Lib.join ([it a, it b, it c, it d].map (·.data.toList)) [46]).length ≤ 15
  simp only [Lib.join, List.intercalate, List.map_cons, List.map_nil, List.intersperse, List.flatten_cons, List.flatten_nil, List.length_append, it, List.append_nil]
  simp only [List.length_cons, List.length_nil]
  omega
theorem printB_size (a b c d : Int) (n : ByteArray) (ha0 : 0 ≤ a) (ha1 : a ≤ 255) (hb0 : 0 ≤ b) (hb1 : b ≤ 255) (hc0 : 0 ≤ c) (hc1 : c ≤ 255) (hd0 : 0 ≤ d) (hd1 : d ≤ 255) (hs : n.size ≤ 281474976710656) : (printB a b c d n).size ≤ 281474976710656 := by
  have := addrS_size a b c d ha0 ha1 hb0 hb1 hc0 hc1 hd0 hd1
  unfold printB
  split
  · split
    · omega
    · exact hs
  · decide
def hPrintDest.f (a b c d : Int) (n : ByteArray) (po : Int) : Option ByteArray := if (0 ≤ a ∧ a ≤ 255) ∧ (0 ≤ b ∧ b ≤ 255) ∧ (0 ≤ c ∧ c ≤ 255) ∧ (0 ≤ d ∧ d ≤ 255) ∧ n.size ≤ 281474976710656 then some (printDestB a b c d n po) else none
theorem hPrintDest.calls (a b c d : Int) (n : ByteArray) (po : Int) (r : ByteArray) (w : World) (hS_ : StdW w) (h : hPrintDest.f a b c d n po = some r) :
    Calls Tryz.prog 34 #[.agg #[.int .u8 a, .int .u8 b, .int .u8 c, .int .u8 d, .string n, .int .i64 po]] w fun e w' => e = .returned (.string r) ∧ Below w.heap.size w w' := by
  unfold hPrintDest.f at h
  split at h
  · rename_i hc
    obtain rfl := Option.some.inj h
    exact printDest_any a b c d n po hc.1.1 hc.1.2 hc.2.1.1 hc.2.1.2 hc.2.2.1.1 hc.2.2.1.2 hc.2.2.2.1.1 hc.2.2.2.1.2 hc.2.2.2.2 (printB_size a b c d n hc.1.1 hc.1.2 hc.2.1.1 hc.2.1.2 hc.2.2.1.1 hc.2.2.1.2 hc.2.2.2.1.1 hc.2.2.2.1.2 hc.2.2.2.2) w hS_
  · cases h
end Go.Proofs.YteondnhokgmakaaGreatDoor.E


namespace Go.Proofs.YteondnhokgmakaaGreatDoor.XC
open Go.RowKit Go.Proofs.YteondnhokgmakaaGreatDoorW.PrintWords Go.Proofs.YteondnhokgmakaaGreatDoorW.PrintLast Go.Proofs.YteondnhokgmakaaGreatDoorW.PrintMore
attribute [local go_sem] max2_int min2_int max_two min_two max_three min_three max_four min_four
set_option linter.unusedVariables false
set_option linter.unusedSimpArgs false
def errW : Option Int → Value
 | none => .nilIface
 | some c => .iface 0 (.int .i64 c)
theorem errW_none : errW none = .nilIface := rfl
theorem errW_some (c : Int) : errW (some c) = .iface 0 (.int .i64 c) := rfl
structure S24 where
 f0 : Int
 f1 : Int
 f2 : Int
 f3 : Int
def z24 : S24 := ⟨(0 : Int), (0 : Int), (0 : Int), (0 : Int)⟩
def k24 : Kd S24 := Kd.iso (Kd.pair (Kd.int .u8) (Kd.pair (Kd.int .u8) (Kd.pair (Kd.int .u8) (Kd.int .u8)))) (fun x : S24 => (x.f0, x.f1, x.f2, x.f3))
theorem k24_open {w : World} {x : S24} {cs : List Value} (h : k24.K w x cs) : cs = [.int .u8 x.f0, .int .u8 x.f1, .int .u8 x.f2, .int .u8 x.f3] := by
 obtain ⟨_, _, rfl, rfl, ⟨_, _, rfl, rfl, ⟨_, _, rfl, rfl, rfl⟩⟩⟩ := h
 exact rfl
theorem k24_mk (w : World) (x : S24)  : k24.K w x [.int .u8 x.f0, .int .u8 x.f1, .int .u8 x.f2, .int .u8 x.f3] := ⟨[.int .u8 x.f0], [.int .u8 x.f1, .int .u8 x.f2, .int .u8 x.f3], rfl, rfl, ⟨[.int .u8 x.f1], [.int .u8 x.f2, .int .u8 x.f3], rfl, rfl, ⟨[.int .u8 x.f2], [.int .u8 x.f3], rfl, rfl, rfl⟩⟩⟩
structure S37 where
 f0 : Bool
 f1 : S24
 f2 : Int
 f3 : ByteArray
 f4 : Int
 f5 : Int
def z37 : S37 := ⟨false, z24, (0 : Int), (⟨#[]⟩ : ByteArray), (0 : Int), (0 : Int)⟩
def k37 : Kd S37 := Kd.iso (Kd.pair Kd.bool (Kd.pair k24 (Kd.pair (Kd.int .i64) (Kd.pair Kd.string (Kd.pair (Kd.int .i64) (Kd.int .i64)))))) (fun x : S37 => (x.f0, x.f1, x.f2, x.f3, x.f4, x.f5))
theorem k37_open {w : World} {x : S37} {cs : List Value} (h : k37.K w x cs) : cs = [.bool x.f0, .int .u8 x.f1.f0, .int .u8 x.f1.f1, .int .u8 x.f1.f2, .int .u8 x.f1.f3, .int .i64 x.f2, .string x.f3, .int .i64 x.f4, .int .i64 x.f5] := by
 obtain ⟨_, _, rfl, rfl, ⟨_, _, rfl, s1, ⟨_, _, rfl, rfl, ⟨_, _, rfl, rfl, ⟨_, _, rfl, rfl, rfl⟩⟩⟩⟩⟩ := h
 obtain rfl := k24_open s1
 exact rfl
theorem k37_mk (w : World) (x : S37)  : k37.K w x [.bool x.f0, .int .u8 x.f1.f0, .int .u8 x.f1.f1, .int .u8 x.f1.f2, .int .u8 x.f1.f3, .int .i64 x.f2, .string x.f3, .int .i64 x.f4, .int .i64 x.f5] := ⟨[.bool x.f0], [.int .u8 x.f1.f0, .int .u8 x.f1.f1, .int .u8 x.f1.f2, .int .u8 x.f1.f3, .int .i64 x.f2, .string x.f3, .int .i64 x.f4, .int .i64 x.f5], rfl, rfl, ⟨[.int .u8 x.f1.f0, .int .u8 x.f1.f1, .int .u8 x.f1.f2, .int .u8 x.f1.f3], [.int .i64 x.f2, .string x.f3, .int .i64 x.f4, .int .i64 x.f5], rfl, (k24_mk w x.f1 ), ⟨[.int .i64 x.f2], [.string x.f3, .int .i64 x.f4, .int .i64 x.f5], rfl, rfl, ⟨[.string x.f3], [.int .i64 x.f4, .int .i64 x.f5], rfl, rfl, ⟨[.int .i64 x.f4], [.int .i64 x.f5], rfl, rfl, rfl⟩⟩⟩⟩⟩
def rd_T37 (xs : List S37) (i : Int) : S37 := xs.getD i.toNat z37
theorem at_T37 {w : World} {A : Option Addr} {n : Nat} {xs : List S37} (h : Kd.C k37 w A n xs) (i : Int) (h0 : 0 ≤ i) (h1 : i < n) : ∃ ad , A = some ad ∧ w.cell? (ad.add (i.toNat * 9)) = some (.bool (rd_T37 xs i).f0) ∧ w.cell? ⟨(ad.add (i.toNat * 9)).block, (ad.add (i.toNat * 9)).off + 1, none⟩ = some (.int .u8 (rd_T37 xs i).f1.f0) ∧ w.cell? ⟨(ad.add (i.toNat * 9)).block, (ad.add (i.toNat * 9)).off + 2, none⟩ = some (.int .u8 (rd_T37 xs i).f1.f1) ∧ w.cell? ⟨(ad.add (i.toNat * 9)).block, (ad.add (i.toNat * 9)).off + 3, none⟩ = some (.int .u8 (rd_T37 xs i).f1.f2) ∧ w.cell? ⟨(ad.add (i.toNat * 9)).block, (ad.add (i.toNat * 9)).off + 4, none⟩ = some (.int .u8 (rd_T37 xs i).f1.f3) ∧ w.cell? ⟨(ad.add (i.toNat * 9)).block, (ad.add (i.toNat * 9)).off + 5, none⟩ = some (.int .i64 (rd_T37 xs i).f2) ∧ w.cell? ⟨(ad.add (i.toNat * 9)).block, (ad.add (i.toNat * 9)).off + 6, none⟩ = some (.string (rd_T37 xs i).f3) ∧ w.cell? ⟨(ad.add (i.toNat * 9)).block, (ad.add (i.toNat * 9)).off + 7, none⟩ = some (.int .i64 (rd_T37 xs i).f4) ∧ w.cell? ⟨(ad.add (i.toNat * 9)).block, (ad.add (i.toNat * 9)).off + 8, none⟩ = some (.int .i64 (rd_T37 xs i).f5) := by
 obtain ⟨ad, c, e, _, hK, hc0⟩ := Kd.C_get h z37 i h0 h1
 have hc : ∀ j u, c[j]? = some u → w.cell? (ad.add (i.toNat * 9 + j)) = some u := hc0
 obtain rfl := k37_open hK
 exact ⟨ad, e, hc 0 _ rfl, by rw [← add_field _ _ 1 (by omega)]; exact hc 1 _ rfl, by rw [← add_field _ _ 2 (by omega)]; exact hc 2 _ rfl, by rw [← add_field _ _ 3 (by omega)]; exact hc 3 _ rfl, by rw [← add_field _ _ 4 (by omega)]; exact hc 4 _ rfl, by rw [← add_field _ _ 5 (by omega)]; exact hc 5 _ rfl, by rw [← add_field _ _ 6 (by omega)]; exact hc 6 _ rfl, by rw [← add_field _ _ 7 (by omega)]; exact hc 7 _ rfl, by rw [← add_field _ _ 8 (by omega)]; exact hc 8 _ rfl⟩
end Go.Proofs.YteondnhokgmakaaGreatDoor.XC


namespace Go.Proofs.YteondnhokgmakaaGreatDoor.XC
open Go.RowKit Go.Proofs.YteondnhokgmakaaGreatDoorW.PrintWords Go.Proofs.YteondnhokgmakaaGreatDoorW.PrintLast Go.Proofs.YteondnhokgmakaaGreatDoorW.PrintMore
attribute [local go_sem] max2_int min2_int max_two min_two max_three min_three max_four min_four
set_option linter.unusedVariables false
set_option linter.unusedSimpArgs false
theorem eqA24 (d : Nat) (w : World) (x0 y0 : Int) (x1 y1 : Int) (x2 y2 : Int) (x3 y3 : Int) :
  (Op.equalIn (d + 2) 24 (.agg #[.int .u8 x0, .int .u8 x1, .int .u8 x2, .int .u8 x3]) (.agg #[.int .u8 y0, .int .u8 y1, .int .u8 y2, .int .u8 y3])).run Tryz.prog w = .ok (x0 == y0 && (x1 == y1 && (x2 == y2 && (x3 == y3)))) w := by
 refine eqA_of Tryz.underlying24 (by kernel_rfl) ?_
 refine eqf_cons (by rfl) (by go_simp; rfl) (by go_simp; rfl) (by go_simp) ?_
 refine eqf_cons (by rfl) (by go_simp; rfl) (by go_simp; rfl) (by go_simp) ?_
 refine eqf_cons (by rfl) (by go_simp; rfl) (by go_simp; rfl) (by go_simp) ?_
 exact eqf_last (by rfl) (by go_simp; rfl) (by go_simp; rfl) (by go_simp)
end Go.Proofs.YteondnhokgmakaaGreatDoor.XC


namespace Go.Proofs.YteondnhokgmakaaGreatDoor.XC
open Go.RowKit Go.Proofs.YteondnhokgmakaaGreatDoorW.PrintWords Go.Proofs.YteondnhokgmakaaGreatDoorW.PrintLast Go.Proofs.YteondnhokgmakaaGreatDoorW.PrintMore
attribute [local go_sem] max2_int min2_int max_two min_two max_three min_three max_four min_four
set_option linter.unusedVariables false
set_option linter.unusedSimpArgs false
attribute [local go_sem high] eqA24
def policy_bits.f (a0_0 : Int) (a0_1 : Int) (a0_2 : Int) (a0_3 : Int) : Option (Int) := some (Go.bits .or .u32 (Go.bits .or .u32 (Go.bits .or .u32 ((((a0_0) % 4294967296) * 16777216) % 4294967296) ((((a0_1) % 4294967296) * 65536) % 4294967296)) ((((a0_2) % 4294967296) * 256) % 4294967296)) ((a0_3) % 4294967296))
set_option maxHeartbeats 8000000 in
set_option maxRecDepth 100000 in
theorem policy_bits.calls (a0_0 : Int) (a0_1 : Int) (a0_2 : Int) (a0_3 : Int) (r : Int) (w : World) (h : policy_bits.f a0_0 a0_1 a0_2 a0_3 = some r) :
  Calls Tryz.prog 67 #[.agg #[.int .u8 a0_0, .int .u8 a0_1, .int .u8 a0_2, .int .u8 a0_3]] w fun e w' => e = .returned (.int .u32 r) ∧ Below w.heap.size w w' := by
 have hu24 := Tryz.underlying24
 have HB := Aside0.mk (Below.refl w.heap.size w)
 have H : (some (Go.bits .or .u32 (Go.bits .or .u32 (Go.bits .or .u32 ((((a0_0) % 4294967296) * 16777216) % 4294967296) ((((a0_1) % 4294967296) * 65536) % 4294967296)) ((((a0_2) % 4294967296) * 256) % 4294967296)) ((a0_3) % 4294967296))) = some r := h
 clear h
 obtain rfl := Option.some.inj H
 go_enter Tryz.func67, Tryz.ntmps67
 go_wp2_with (first | ((with_reducible refine gate_dst (N := 1) rfl ?_); refine box_event ?hg (N := 1) ?hd (cs := #[.int .u8 a0_0, .int .u8 a0_1, .int .u8 a0_2, .int .u8 a0_3]) (t := 24) ?hr ?_; (case hd => rfl); (case hg => rfl); (case hr => first | (go_simp; done) | (go_simp; rfl)); intro gb101 hg w2 hbox hb; have n0_ := Aside0.mk (below_step (by repeat (first | (with_reducible first | exact HB.out | apply below_alloc | apply pw_below_drewN | apply below_drew1) | exact HB.out)) hb); have n1_ := Aside0.mk (hbox); have n2_ := Aside0.mk ((by rw [hg]; exact (below_size (by repeat (first | (with_reducible first | exact HB.out | apply below_alloc | apply pw_below_drewN | apply below_drew1) | exact HB.out))) : w.heap.size ≤ gb101)); have n3_ := Aside0.mk ((by rw [hg]; exact (below_size (by repeat (first | (with_reducible first | exact HB.out | apply below_alloc | apply pw_below_drewN | apply below_drew1) | exact HB.out))) : w.heap.size ≤ gb101)); clear HB; have HB := n0_; have BK101 := n1_; have GW101 := n2_; have GE101 := n3_; clear n0_ n1_ n2_ n3_; clear hb hbox hg; have hcz3_0 : w2.cell? ⟨gb101, 0, none⟩ = some (.int .u8 a0_0) := (blk_cell BK101.out 0).trans rfl; have hcz3_1 : w2.cell? ⟨gb101, 1, none⟩ = some (.int .u8 a0_1) := (blk_cell BK101.out 1).trans rfl; have hcz3_2 : w2.cell? ⟨gb101, 2, none⟩ = some (.int .u8 a0_2) := (blk_cell BK101.out 2).trans rfl; have hcz3_3 : w2.cell? ⟨gb101, 3, none⟩ = some (.int .u8 a0_3) := (blk_cell BK101.out 3).trans rfl; have hfz3_0 := blk_frozen BK101.out 0; have hfz3_1 := blk_frozen BK101.out 1; have hfz3_2 := blk_frozen BK101.out 2; have hfz3_3 := blk_frozen BK101.out 3))
 go_ret
 exact ⟨by first | rfl | (simp [errW_none, errW_some] <;> rfl) | (simp [*, errW_none, errW_some] <;> rfl), by repeat (first | (with_reducible first | exact HB.out | apply below_alloc | apply pw_below_drewN | apply below_drew1 | refine below_set ?_ GE101.out) | exact HB.out)⟩
def policy_right.j0 : Nat → Bool → Bool → Int → Int → Int → Int → Int → ByteArray → Int → Int → Option (Bool)
 | 0, _, _, _, _, _, _, _, _, _, _ => none
 | k + 1, x3, x103000, x103001, x103002, x103003, x103004, x103005, x103006, x103007, x103008 => if x3 = true then (some false) else (if x103006.toList = ([] : List UInt8) then (if x103005 ≥ 0 then (if x103005 ≤ 32 then ((policy_bits.f x103001 x103002 x103003 x103004).bind fun t103 => (if 0 ≤ x103005 then (some ((shl .u32 t103 x103005) == 0)) else (none))) else (some false)) else (some false)) else ((E.hCheck.f 0 0 0 0 x103006).bind fun t104 => (if t104 = true then (if (x103001 == 0 && (x103002 == 0 && (x103003 == 0 && (x103004 == 0)))) = true then (some (x103005 == 0)) else (some false)) else (some false))))
def policy_right.f (k : Nat) (a0_0 : Bool) (a0_1 : Int) (a0_2 : Int) (a0_3 : Int) (a0_4 : Int) (a0_5 : Int) (a0_6 : ByteArray) (a0_7 : Int) (a0_8 : Int) : Option (Bool) := if a0_7 < 1 then (policy_right.j0 k true a0_0 a0_1 a0_2 a0_3 a0_4 a0_5 a0_6 a0_7 a0_8) else (if a0_8 > 65535 then (policy_right.j0 k true a0_0 a0_1 a0_2 a0_3 a0_4 a0_5 a0_6 a0_7 a0_8) else (policy_right.j0 k (decide (a0_7 > a0_8)) a0_0 a0_1 a0_2 a0_3 a0_4 a0_5 a0_6 a0_7 a0_8))
theorem policy_right.mono_l : ∀ k, (∀ y0 y1 y2 y3 y4 y5 y6 y7 y8 y9, LeO (policy_right.j0 k y0 y1 y2 y3 y4 y5 y6 y7 y8 y9) (policy_right.j0 (k + 1) y0 y1 y2 y3 y4 y5 y6 y7 y8 y9))
 | 0 => fun _ _ _ _ _ _ _ _ _ _ r h => by simp [policy_right.j0] at h
 | k + 1 => by
  have ih0 := policy_right.mono_l k
  ·intro y0 y1 y2 y3 y4 y5 y6 y7 y8 y9
   unfold policy_right.j0
   repeat' first
   | (with_reducible exact ih0 _ _ _ _ _ _ _ _ _ _)
   | (with_reducible exact LeO.refl _)
   | (with_reducible exact LeO.none _)
   | (with_reducible refine LeO.ite ?_ ?_)
   | (with_reducible refine LeO.bind ?_ (fun _ => ?_))
   | exact ih0 _ _ _ _ _ _ _ _ _ _
   | exact LeO.none _
   | refine LeO.ite ?_ ?_
   | refine LeO.bind ?_ (fun _ => ?_)
theorem policy_right.mono : ∀ a0 a1 a2 a3 a4 a5 a6 a7 a8 k, LeO (policy_right.f k a0 a1 a2 a3 a4 a5 a6 a7 a8) (policy_right.f (k + 1) a0 a1 a2 a3 a4 a5 a6 a7 a8) := by
 intro a0 a1 a2 a3 a4 a5 a6 a7 a8 k
 have ih0 := policy_right.mono_l k
 unfold policy_right.f
 repeat' first
   | (with_reducible exact ih0 _ _ _ _ _ _ _ _ _ _)
   | (with_reducible exact LeO.refl _)
   | (with_reducible exact LeO.none _)
   | (with_reducible refine LeO.ite ?_ ?_)
   | (with_reducible refine LeO.bind ?_ (fun _ => ?_))
   | exact ih0 _ _ _ _ _ _ _ _ _ _
   | exact LeO.none _
   | refine LeO.ite ?_ ?_
   | refine LeO.bind ?_ (fun _ => ?_)
def policy_right.T5 : Bool × List (List Nat × List Nat) := (true, [([], []), ([0], [0]), ([1], [1]), ([2], [2]), ([3], [3]), ([4, 3], [3, 4]), ([5, 3], [3, 5]), ([3, 6], [3, 6]), ([7, 3], [7]), ([8], [8]), ([9, 8], [8, 9]), ([10, 8, 8], [8, 10]), ([8], [8]), ([12, 8], [8, 12]), ([11, 13, 8], [8, 11, 13]), ([14, 8], [8, 14]), ([8, 15], [8, 15]), ([16, 11, 0, 1, 2, 3, 4, 5, 6, 7, 8, 9, 10, 11, 12, 13, 14, 15, 16], [16])])
def policy_right.B5 : List Nat := [0, 1, 3, 7, 15, 31, 63, 127, 255, 511, 1023, 2047, 511, 4607, 16383, 32767, 65535, 131071]
theorem policy_right.tab5 : rtab .any (opsOf Tryz.f38 5) = policy_right.T5 := by kernel_rfl
theorem policy_right.bits5 : waitsOk policy_right.T5.2 policy_right.B5 = true := by kernel_rfl
set_option maxHeartbeats 8000000 in
set_option maxRecDepth 100000 in
theorem policy_right.calls (k : Nat) (a0_0 : Bool) (a0_1 : Int) (a0_2 : Int) (a0_3 : Int) (a0_4 : Int) (a0_5 : Int) (a0_6 : ByteArray) (a0_7 : Int) (a0_8 : Int) (r : Bool) (w : World) (hS_ : StdW w) (h : policy_right.f k a0_0 a0_1 a0_2 a0_3 a0_4 a0_5 a0_6 a0_7 a0_8 = some r) :
  Calls Tryz.prog 38 #[.agg #[.bool a0_0, .int .u8 a0_1, .int .u8 a0_2, .int .u8 a0_3, .int .u8 a0_4, .int .i64 a0_5, .string a0_6, .int .i64 a0_7, .int .i64 a0_8]] w fun e w' => e = .returned (.bool r) ∧ Below w.heap.size w w' := by
 have hu37 := Tryz.underlying37
 have hu26 := Tryz.underlying26
 have hu24 := Tryz.underlying24
 have HS_ := Aside0.mk hS_
 clear hS_
 have HB := Aside0.mk (Below.refl w.heap.size w)
 have H : (if a0_7 < 1 then (policy_right.j0 k true a0_0 a0_1 a0_2 a0_3 a0_4 a0_5 a0_6 a0_7 a0_8) else (if a0_8 > 65535 then (policy_right.j0 k true a0_0 a0_1 a0_2 a0_3 a0_4 a0_5 a0_6 a0_7 a0_8) else (policy_right.j0 k (decide (a0_7 > a0_8)) a0_0 a0_1 a0_2 a0_3 a0_4 a0_5 a0_6 a0_7 a0_8))) = some r := h
 clear h
 have HC2 := Aside0.mk H
 clear H
 go_enter Tryz.func38, Tryz.ntmps38
 go_upto_region 1 with (first | ((with_reducible refine gate_dst (N := 1) rfl ?_); refine box_event ?hg (N := 1) ?hd (cs := #[.bool a0_0, .int .u8 a0_1, .int .u8 a0_2, .int .u8 a0_3, .int .u8 a0_4, .int .i64 a0_5, .string a0_6, .int .i64 a0_7, .int .i64 a0_8]) (t := 37) ?hr ?_; (case hd => rfl); (case hg => rfl); (case hr => first | (go_simp; done) | (go_simp; rfl)); intro gb102 hg w3 hbox hb; have n0_ := Aside0.mk (below_step (by repeat (first | (with_reducible first | exact HB.out | apply below_alloc | apply pw_below_drewN | apply below_drew1) | exact HB.out)) hb); have n1_ := Aside0.mk (hbox); have n2_ := Aside0.mk ((by rw [hg]; exact (below_size (by repeat (first | (with_reducible first | exact HB.out | apply below_alloc | apply pw_below_drewN | apply below_drew1) | exact HB.out))) : w.heap.size ≤ gb102)); have n3_ := Aside0.mk ((by rw [hg]; exact (below_size (by repeat (first | (with_reducible first | exact HB.out | apply below_alloc | apply pw_below_drewN | apply below_drew1) | exact HB.out))) : w.heap.size ≤ gb102)); clear HB; have HB := n0_; have BK102 := n1_; have GW102 := n2_; have GE102 := n3_; clear n0_ n1_ n2_ n3_; clear hb hbox hg))
 (try simp only [Act.put, List.setIfInBounds_toArray, List.set_cons_zero, List.set_cons_succ])
 go_cut [3] (fun v3 wc => ∃ (kq : Nat) (x3_1 : Bool), v3 = .bool x3_1 ∧ Aside0 (policy_right.j0 kq x3_1 a0_0 a0_1 a0_2 a0_3 a0_4 a0_5 a0_6 a0_7 a0_8 = some r) ∧ Aside0 (kq ≤ k) ∧ Aside0 (wc.heap[gb102]? = some (.cells #[.bool a0_0, .int .u8 a0_1, .int .u8 a0_2, .int .u8 a0_3, .int .u8 a0_4, .int .i64 a0_5, .string a0_6, .int .i64 a0_7, .int .i64 a0_8] 37 (0, 0))) ∧ Aside0 (Below w.heap.size w wc))
 case first =>
  have H := HC2.out
  clear HC2
  by_cases c4 : a0_7 < 1
  ·rw [if_pos c4] at H
   have c4b0 : decide (a0_7 < 1) = true := decide_eq_true c4
   clear c4
   (first | rw [c4b0] | (simp only [i64_w, i32_w]; rw [c4b0]) | skip)
   have H' := Aside0.mk H
   clear H
   have hcz5_0 : w3.cell? ⟨gb102, 0, none⟩ = some (.bool a0_0) := (blk_cell BK102.out 0).trans rfl
   have hcz5_1 : w3.cell? ⟨gb102, 1, none⟩ = some (.int .u8 a0_1) := (blk_cell BK102.out 1).trans rfl
   have hcz5_2 : w3.cell? ⟨gb102, 2, none⟩ = some (.int .u8 a0_2) := (blk_cell BK102.out 2).trans rfl
   have hcz5_3 : w3.cell? ⟨gb102, 3, none⟩ = some (.int .u8 a0_3) := (blk_cell BK102.out 3).trans rfl
   have hcz5_4 : w3.cell? ⟨gb102, 4, none⟩ = some (.int .u8 a0_4) := (blk_cell BK102.out 4).trans rfl
   have hcz5_5 : w3.cell? ⟨gb102, 5, none⟩ = some (.int .i64 a0_5) := (blk_cell BK102.out 5).trans rfl
   have hcz5_6 : w3.cell? ⟨gb102, 6, none⟩ = some (.string a0_6) := (blk_cell BK102.out 6).trans rfl
   have hcz5_7 : w3.cell? ⟨gb102, 7, none⟩ = some (.int .i64 a0_7) := (blk_cell BK102.out 7).trans rfl
   have hcz5_8 : w3.cell? ⟨gb102, 8, none⟩ = some (.int .i64 a0_8) := (blk_cell BK102.out 8).trans rfl
   have hfz5_0 := blk_frozen BK102.out 0
   have hfz5_1 := blk_frozen BK102.out 1
   have hfz5_2 := blk_frozen BK102.out 2
   have hfz5_3 := blk_frozen BK102.out 3
   have hfz5_4 := blk_frozen BK102.out 4
   have hfz5_5 := blk_frozen BK102.out 5
   have hfz5_6 := blk_frozen BK102.out 6
   have hfz5_7 := blk_frozen BK102.out 7
   have hfz5_8 := blk_frozen BK102.out 8
   go_wp2
   go_meet
   case rel => exact ⟨_, (true), (by first | rfl | (simp; done) | (simp [*]; done)), H', ⟨by first | omega | exact Nat.le_refl _⟩, ⟨by (with_reducible repeat (first | refine blk_drewN ?_ _ | refine blk_drew ?_ | refine blk_alloc ?_ _)); exact BK102.out⟩, ⟨by repeat (first | (with_reducible first | exact HB.out | apply below_alloc | apply pw_below_drewN | apply below_drew1 | refine below_set ?_ GE102.out) | exact HB.out)⟩⟩
  ·rw [if_neg c4] at H
   have c4b0 : decide (a0_7 < 1) = false := decide_eq_false c4
   clear c4
   (first | rw [c4b0] | (simp only [i64_w, i32_w]; rw [c4b0]) | skip)
   by_cases c6 : a0_8 > 65535
   ·rw [if_pos c6] at H
    have c6b0 : decide (65535 < a0_8) = true := decide_eq_true c6
    clear c6
    have H' := Aside0.mk H
    clear H
    have hcz7_0 : w3.cell? ⟨gb102, 0, none⟩ = some (.bool a0_0) := (blk_cell BK102.out 0).trans rfl
    have hcz7_1 : w3.cell? ⟨gb102, 1, none⟩ = some (.int .u8 a0_1) := (blk_cell BK102.out 1).trans rfl
    have hcz7_2 : w3.cell? ⟨gb102, 2, none⟩ = some (.int .u8 a0_2) := (blk_cell BK102.out 2).trans rfl
    have hcz7_3 : w3.cell? ⟨gb102, 3, none⟩ = some (.int .u8 a0_3) := (blk_cell BK102.out 3).trans rfl
    have hcz7_4 : w3.cell? ⟨gb102, 4, none⟩ = some (.int .u8 a0_4) := (blk_cell BK102.out 4).trans rfl
    have hcz7_5 : w3.cell? ⟨gb102, 5, none⟩ = some (.int .i64 a0_5) := (blk_cell BK102.out 5).trans rfl
    have hcz7_6 : w3.cell? ⟨gb102, 6, none⟩ = some (.string a0_6) := (blk_cell BK102.out 6).trans rfl
    have hcz7_7 : w3.cell? ⟨gb102, 7, none⟩ = some (.int .i64 a0_7) := (blk_cell BK102.out 7).trans rfl
    have hcz7_8 : w3.cell? ⟨gb102, 8, none⟩ = some (.int .i64 a0_8) := (blk_cell BK102.out 8).trans rfl
    have hfz7_0 := blk_frozen BK102.out 0
    have hfz7_1 := blk_frozen BK102.out 1
    have hfz7_2 := blk_frozen BK102.out 2
    have hfz7_3 := blk_frozen BK102.out 3
    have hfz7_4 := blk_frozen BK102.out 4
    have hfz7_5 := blk_frozen BK102.out 5
    have hfz7_6 := blk_frozen BK102.out 6
    have hfz7_7 := blk_frozen BK102.out 7
    have hfz7_8 := blk_frozen BK102.out 8
    go_wp2
    go_meet
    case rel => exact ⟨_, (true), (by first | rfl | (simp; done) | (simp [*]; done)), H', ⟨by first | omega | exact Nat.le_refl _⟩, ⟨by (with_reducible repeat (first | refine blk_drewN ?_ _ | refine blk_drew ?_ | refine blk_alloc ?_ _)); exact BK102.out⟩, ⟨by repeat (first | (with_reducible first | exact HB.out | apply below_alloc | apply pw_below_drewN | apply below_drew1 | refine below_set ?_ GE102.out) | exact HB.out)⟩⟩
   ·rw [if_neg c6] at H
    have c6b0 : decide (65535 < a0_8) = false := decide_eq_false c6
    clear c6
    have H' := Aside0.mk H
    clear H
    have hcz8_0 : w3.cell? ⟨gb102, 0, none⟩ = some (.bool a0_0) := (blk_cell BK102.out 0).trans rfl
    have hcz8_1 : w3.cell? ⟨gb102, 1, none⟩ = some (.int .u8 a0_1) := (blk_cell BK102.out 1).trans rfl
    have hcz8_2 : w3.cell? ⟨gb102, 2, none⟩ = some (.int .u8 a0_2) := (blk_cell BK102.out 2).trans rfl
    have hcz8_3 : w3.cell? ⟨gb102, 3, none⟩ = some (.int .u8 a0_3) := (blk_cell BK102.out 3).trans rfl
    have hcz8_4 : w3.cell? ⟨gb102, 4, none⟩ = some (.int .u8 a0_4) := (blk_cell BK102.out 4).trans rfl
    have hcz8_5 : w3.cell? ⟨gb102, 5, none⟩ = some (.int .i64 a0_5) := (blk_cell BK102.out 5).trans rfl
    have hcz8_6 : w3.cell? ⟨gb102, 6, none⟩ = some (.string a0_6) := (blk_cell BK102.out 6).trans rfl
    have hcz8_7 : w3.cell? ⟨gb102, 7, none⟩ = some (.int .i64 a0_7) := (blk_cell BK102.out 7).trans rfl
    have hcz8_8 : w3.cell? ⟨gb102, 8, none⟩ = some (.int .i64 a0_8) := (blk_cell BK102.out 8).trans rfl
    have hfz8_0 := blk_frozen BK102.out 0
    have hfz8_1 := blk_frozen BK102.out 1
    have hfz8_2 := blk_frozen BK102.out 2
    have hfz8_3 := blk_frozen BK102.out 3
    have hfz8_4 := blk_frozen BK102.out 4
    have hfz8_5 := blk_frozen BK102.out 5
    have hfz8_6 := blk_frozen BK102.out 6
    have hfz8_7 := blk_frozen BK102.out 7
    have hfz8_8 := blk_frozen BK102.out 8
    go_wp2
    go_meet
    case rel => exact ⟨_, (decide (a0_7 > a0_8)), (by first | rfl | (simp; done) | (simp [*]; done)), H', ⟨by first | omega | exact Nat.le_refl _⟩, ⟨by (with_reducible repeat (first | refine blk_drewN ?_ _ | refine blk_drew ?_ | refine blk_alloc ?_ _)); exact BK102.out⟩, ⟨by repeat (first | (with_reducible first | exact HB.out | apply below_alloc | apply pw_below_drewN | apply below_drew1 | refine below_set ?_ GE102.out) | exact HB.out)⟩⟩
 case rest =>
  clear HC2
  try clear p2
  try clear c3
  try clear c4
  try clear c4b0
  try clear c6
  try clear c6b0
  try clear hcz5_0
  try clear hcz5_1
  try clear hcz5_2
  try clear hcz5_3
  try clear hcz5_4
  try clear hcz5_5
  try clear hcz5_6
  try clear hcz5_7
  try clear hcz5_8
  try clear hcz7_0
  try clear hcz7_1
  try clear hcz7_2
  try clear hcz7_3
  try clear hcz7_4
  try clear hcz7_5
  try clear hcz7_6
  try clear hcz7_7
  try clear hcz7_8
  try clear hcz8_0
  try clear hcz8_1
  try clear hcz8_2
  try clear hcz8_3
  try clear hcz8_4
  try clear hcz8_5
  try clear hcz8_6
  try clear hcz8_7
  try clear hcz8_8
  try clear hfz5_0
  try clear hfz5_1
  try clear hfz5_2
  try clear hfz5_3
  try clear hfz5_4
  try clear hfz5_5
  try clear hfz5_6
  try clear hfz5_7
  try clear hfz5_8
  try clear hfz7_0
  try clear hfz7_1
  try clear hfz7_2
  try clear hfz7_3
  try clear hfz7_4
  try clear hfz7_5
  try clear hfz7_6
  try clear hfz7_7
  try clear hfz7_8
  try clear hfz8_0
  try clear hfz8_1
  try clear hfz8_2
  try clear hfz8_3
  try clear hfz8_4
  try clear hfz8_5
  try clear hfz8_6
  try clear hfz8_7
  try clear hfz8_8
  obtain ⟨kq, x3_1, rfl, HA, HJ1, BK102, HB⟩ := hcut
  cases kq with
  | zero => exact absurd HA.out (by simp [policy_right.j0])
  | succ kj1 =>
   have H := HA.out
   clear HA
   simp only [policy_right.j0] at H
   by_cases c9 : x3_1 = true
   ·subst c9
    have H1 : (some false) = some r := by rw [if_pos rfl] at H; exact H
    clear H
    have H := H1
    clear H1
    obtain rfl := Option.some.inj H
    go_wp2
    go_ret
    exact ⟨by first | rfl | (simp [errW_none, errW_some] <;> rfl) | (simp [*, errW_none, errW_some] <;> rfl), by repeat (first | (with_reducible first | exact HB.out | apply below_alloc | apply pw_below_drewN | apply below_drew1 | refine below_set ?_ GE102.out) | exact HB.out)⟩
   ·replace c9 := Bool.eq_false_iff.mpr c9
    subst c9
    have H1 : (if a0_6.toList = ([] : List UInt8) then (if a0_5 ≥ 0 then (if a0_5 ≤ 32 then ((policy_bits.f a0_1 a0_2 a0_3 a0_4).bind fun t103 => (if 0 ≤ a0_5 then (some ((shl .u32 t103 a0_5) == 0)) else (none))) else (some false)) else (some false)) else ((E.hCheck.f 0 0 0 0 a0_6).bind fun t104 => (if t104 = true then (if (a0_1 == 0 && (a0_2 == 0 && (a0_3 == 0 && (a0_4 == 0)))) = true then (some (a0_5 == 0)) else (some false)) else (some false)))) = some r := by rw [if_neg (show ¬ (false = true) by decide)] at H; exact H
    clear H
    have H := H1
    clear H1
    by_cases c10 : a0_6.toList = ([] : List UInt8)
    ·rw [if_pos c10] at H
     have c10b0 : (a0_6.toList == ([] : List UInt8)) = true := beq_iff_eq.mpr c10
     have c10b1 : (a0_6.toList != ([] : List UInt8)) = false := bne_eq_false_iff_eq.mpr c10
     clear c10
     by_cases c11 : a0_5 ≥ 0
     ·rw [if_pos c11] at H
      have c11b0 : decide (0 ≤ a0_5) = true := decide_eq_true c11
      clear c11
      by_cases c12 : a0_5 ≤ 32
      ·rw [if_pos c12] at H
       have c12b0 : decide (a0_5 ≤ 32) = true := decide_eq_true c12
       clear c12
       replace H := Option.bind_eq_some_iff.mp H
       obtain ⟨t103, A130, H⟩ := H
       replace H : (if 0 ≤ a0_5 then (some ((shl .u32 t103 a0_5) == 0)) else (none)) = some r := H
       have A13 := Aside0.mk A130
       clear A130
       by_cases c14 : 0 ≤ a0_5
       ·rw [if_pos c14] at H
        have c14b0 := eq_true c14
        have c14b1 : decide (0 ≤ a0_5) = true := decide_eq_true c14
        clear c14
        obtain ⟨ji15, hji15⟩ : ∃ j_ : Int, (shl .u32 t103 a0_5) = j_ := ⟨_, rfl⟩
        replace H : (some ((ji15) == 0)) = some r := by first | (rw [hji15] at H; exact H) | (simp only [hji15] at H ⊢; exact H)
        (try rw [hji15] at A13)
        have hji15_ : (IntKind.u32.wrap (t103 * 2 ^ min a0_5.toNat 32)) = ji15 := hji15
        have hji15z : a0_5 ≤ 32 → (IntKind.u32.wrap (t103 * 2 ^ a0_5.toNat)) = ji15 := shl_small hji15
        obtain rfl := Option.some.inj H
        have hcz16_0 : wc.cell? ⟨gb102, 0, none⟩ = some (.bool a0_0) := (blk_cell BK102.out 0).trans rfl
        have hcz16_1 : wc.cell? ⟨gb102, 1, none⟩ = some (.int .u8 a0_1) := (blk_cell BK102.out 1).trans rfl
        have hcz16_2 : wc.cell? ⟨gb102, 2, none⟩ = some (.int .u8 a0_2) := (blk_cell BK102.out 2).trans rfl
        have hcz16_3 : wc.cell? ⟨gb102, 3, none⟩ = some (.int .u8 a0_3) := (blk_cell BK102.out 3).trans rfl
        have hcz16_4 : wc.cell? ⟨gb102, 4, none⟩ = some (.int .u8 a0_4) := (blk_cell BK102.out 4).trans rfl
        have hcz16_5 : wc.cell? ⟨gb102, 5, none⟩ = some (.int .i64 a0_5) := (blk_cell BK102.out 5).trans rfl
        have hcz16_6 : wc.cell? ⟨gb102, 6, none⟩ = some (.string a0_6) := (blk_cell BK102.out 6).trans rfl
        have hcz16_7 : wc.cell? ⟨gb102, 7, none⟩ = some (.int .i64 a0_7) := (blk_cell BK102.out 7).trans rfl
        have hcz16_8 : wc.cell? ⟨gb102, 8, none⟩ = some (.int .i64 a0_8) := (blk_cell BK102.out 8).trans rfl
        have hfz16_0 := blk_frozen BK102.out 0
        have hfz16_1 := blk_frozen BK102.out 1
        have hfz16_2 := blk_frozen BK102.out 2
        have hfz16_3 := blk_frozen BK102.out 3
        have hfz16_4 := blk_frozen BK102.out 4
        have hfz16_5 := blk_frozen BK102.out 5
        have hfz16_6 := blk_frozen BK102.out 6
        have hfz16_7 := blk_frozen BK102.out 7
        have hfz16_8 := blk_frozen BK102.out 8
        try go_wp2
        have n0_ := Aside0.mk (blk_drew BK102.out)
        have n1_ := Aside0.mk (below_drew1 HB.out)
        clear BK102
        clear HB
        have BK102 := n0_
        have HB := n1_
        clear n0_ n1_
        refine start_ (n := 18) (S := fun w' => w'.cell? ⟨gb102, 0, none⟩ = some (.bool a0_0) ∧ w'.cell? ⟨gb102, 1, none⟩ = some (.int .u8 a0_1) ∧ w'.cell? ⟨gb102, 2, none⟩ = some (.int .u8 a0_2) ∧ w'.cell? ⟨gb102, 3, none⟩ = some (.int .u8 a0_3) ∧ w'.cell? ⟨gb102, 4, none⟩ = some (.int .u8 a0_4) ∧ w'.cell? ⟨gb102, 5, none⟩ = some (.int .i64 a0_5) ∧ w'.cell? ⟨gb102, 6, none⟩ = some (.string a0_6) ∧ w'.cell? ⟨gb102, 7, none⟩ = some (.int .i64 a0_7) ∧ w'.cell? ⟨gb102, 8, none⟩ = some (.int .i64 a0_8)) (ds := []) #[false, false, false, false, false, false, false, false, false, false, false, false, false, false, false, false, false, false] (by kernel_rfl) rfl rfl ⟨(blk_cell BK102.out 0).trans rfl, (blk_cell BK102.out 1).trans rfl, (blk_cell BK102.out 2).trans rfl, (blk_cell BK102.out 3).trans rfl, (blk_cell BK102.out 4).trans rfl, (blk_cell BK102.out 5).trans rfl, (blk_cell BK102.out 6).trans rfl, (blk_cell BK102.out 7).trans rfl, (blk_cell BK102.out 8).trans rfl⟩ (fun hHeld => ?_); refine with_tabW policy_right.tab5 policy_right.bits5 (fun HT_ HW_ => ?_)
        generalize wc.drew = w17 at BK102 HB hHeld ⊢
        refine pure_ (i := 0) (N := some 38) (v := ?_) (a' := ?_) #[true, false, false, false, false, false, false, false, false, false, false, false, false, false, false, false, false, false] rfl rfl (any_of HT_.out (by kernel_rfl)) (fun _ _ _ h => h) (Or.inl ⟨by rfl, ?_⟩) ?_ ?_
        rotate_left
        ·intro w'
         go_simp
         with_reducible rfl
        rotate_left
        ·simp only [Act.put, List.setIfInBounds_toArray, List.set_cons_zero, List.set_cons_succ, i64_w, i32_w]
         rfl
        refine take_ (i := 1) (N := some 39) (v := ?_) (a' := ?_) #[true, true, false, false, false, false, false, false, false, false, false, false, false, false, false, false, false, false] rfl rfl (take_ofW HT_.out HW_.out (by kernel_rfl)) (fun _ _ _ h => h) (Or.inl ⟨by rfl, ?_⟩) hHeld ?_ ?_
        rotate_left
        ·rintro w' ⟨s0, s1, s2, s3, s4, s5, s6, s7, s8⟩
         go_simp
         with_reducible rfl
        rotate_left
        ·simp only [Act.put, List.setIfInBounds_toArray, List.set_cons_zero, List.set_cons_succ, i64_w, i32_w]
         rfl
        refine pure_ (i := 2) (N := some 40) (v := ?_) (a' := ?_) #[true, true, true, false, false, false, false, false, false, false, false, false, false, false, false, false, false, false] rfl rfl (any_of HT_.out (by kernel_rfl)) (fun _ _ _ h => h) (Or.inl ⟨by rfl, ?_⟩) ?_ ?_
        rotate_left
        ·intro w'
         go_simp
         with_reducible rfl
        rotate_left
        ·simp only [Act.put, List.setIfInBounds_toArray, List.set_cons_zero, List.set_cons_succ, i64_w, i32_w]
         rfl
        refine pure_ (i := 3) (N := some 41) (v := ?_) (a' := ?_) #[true, true, true, true, false, false, false, false, false, false, false, false, false, false, false, false, false, false] rfl rfl (any_of HT_.out (by kernel_rfl)) (fun _ _ _ h => h) (Or.inl ⟨by rfl, ?_⟩) ?_ ?_
        rotate_left
        ·intro w'
         go_simp
         with_reducible rfl
        rotate_left
        ·simp only [Act.put, List.setIfInBounds_toArray, List.set_cons_zero, List.set_cons_succ, i64_w, i32_w]
         rfl
        refine pure_ (i := 4) (N := some 42) (v := ?_) (a' := ?_) #[true, true, true, true, true, false, false, false, false, false, false, false, false, false, false, false, false, false] rfl rfl (any_of HT_.out (by kernel_rfl)) (fun _ _ _ h => h) (Or.inl ⟨by rfl, ?_⟩) ?_ ?_
        rotate_left
        ·intro w'
         go_simp
         with_reducible rfl
        rotate_left
        ·simp only [Act.put, List.setIfInBounds_toArray, List.set_cons_zero, List.set_cons_succ, i64_w, i32_w]
         rfl
        refine take_ (i := 5) (N := some 43) (v := ?_) (a' := ?_) #[true, true, true, true, true, true, false, false, false, false, false, false, false, false, false, false, false, false] rfl rfl (take_ofW HT_.out HW_.out (by kernel_rfl)) (fun _ _ _ h => h) (Or.inl ⟨by rfl, ?_⟩) hHeld ?_ ?_
        rotate_left
        ·rintro w' ⟨s0, s1, s2, s3, s4, s5, s6, s7, s8⟩
         go_simp
         with_reducible rfl
        rotate_left
        ·simp only [Act.put, List.setIfInBounds_toArray, List.set_cons_zero, List.set_cons_succ, i64_w, i32_w]
         rfl
        refine pure_ (i := 6) (N := some 44) (v := ?_) (a' := ?_) #[true, true, true, true, true, true, true, false, false, false, false, false, false, false, false, false, false, false] rfl rfl (any_of HT_.out (by kernel_rfl)) (fun _ _ _ h => h) (Or.inl ⟨by rfl, ?_⟩) ?_ ?_
        rotate_left
        ·intro w'
         go_simp
         with_reducible rfl
        rotate_left
        ·simp only [Act.put, List.setIfInBounds_toArray, List.set_cons_zero, List.set_cons_succ, i64_w, i32_w]
         rfl
        refine pure_ (i := 7) (N := some 45) (v := ?_) (a' := ?_) #[true, true, true, true, true, true, true, true, false, false, false, false, false, false, false, false, false, false] rfl rfl (any_of HT_.out (by kernel_rfl)) (fun _ _ _ h => h) (Or.inl ⟨by rfl, ?_⟩) ?_ ?_
        rotate_left
        ·intro w'
         go_simp
         with_reducible rfl
        rotate_left
        ·simp only [Act.put, List.setIfInBounds_toArray, List.set_cons_zero, List.set_cons_succ, i64_w, i32_w]
         rfl
        refine pure_ (i := 8) (N := some 46) (v := ?_) (a' := ?_) #[true, true, true, true, true, true, true, true, true, false, false, false, false, false, false, false, false, false] rfl rfl (any_of HT_.out (by kernel_rfl)) (fun _ _ _ h => h) (Or.inl ⟨by rfl, ?_⟩) ?_ ?_
        rotate_left
        ·intro w'
         go_simp
         with_reducible rfl
        rotate_left
        ·simp only [Act.put, List.setIfInBounds_toArray, List.set_cons_zero, List.set_cons_succ, i64_w, i32_w]
         rfl
        refine pure_ (i := 9) (N := some 47) (v := ?_) (a' := ?_) #[true, true, true, true, true, true, true, true, true, true, false, false, false, false, false, false, false, false] rfl rfl (any_of HT_.out (by kernel_rfl)) (fun _ _ _ h => h) (Or.inl ⟨by rfl, ?_⟩) ?_ ?_
        rotate_left
        ·intro w'
         go_simp
         with_reducible rfl
        rotate_left
        ·simp only [Act.put, List.setIfInBounds_toArray, List.set_cons_zero, List.set_cons_succ, i64_w, i32_w]
         rfl
        refine pure_ (i := 12) (N := some 50) (v := ?_) (a' := ?_) #[true, true, true, true, true, true, true, true, true, true, false, false, true, false, false, false, false, false] rfl rfl (any_of HT_.out (by kernel_rfl)) (fun _ _ _ h => h) (Or.inl ⟨by rfl, ?_⟩) ?_ ?_
        rotate_left
        ·intro w'
         go_simp
         with_reducible rfl
        rotate_left
        ·simp only [Act.put, List.setIfInBounds_toArray, List.set_cons_zero, List.set_cons_succ, i64_w, i32_w]
         rfl
        refine take_ (i := 10) (N := some 48) (v := ?_) (a' := ?_) #[true, true, true, true, true, true, true, true, true, true, true, false, true, false, false, false, false, false] rfl rfl (take_ofW HT_.out HW_.out (by kernel_rfl)) (fun _ _ _ h => h) (Or.inl ⟨by rfl, ?_⟩) hHeld ?_ ?_
        rotate_left
        ·rintro w' ⟨s0, s1, s2, s3, s4, s5, s6, s7, s8⟩
         go_simp
         with_reducible rfl
        rotate_left
        ·simp only [Act.put, List.setIfInBounds_toArray, List.set_cons_zero, List.set_cons_succ, i64_w, i32_w]
         rfl
        refine take_ (i := 13) (N := some 51) (v := ?_) (a' := ?_) #[true, true, true, true, true, true, true, true, true, true, true, false, true, true, false, false, false, false] rfl rfl (take_ofW HT_.out HW_.out (by kernel_rfl)) (fun _ _ _ h => h) (Or.inl ⟨by rfl, ?_⟩) hHeld ?_ ?_
        rotate_left
        ·rintro w' ⟨s0, s1, s2, s3, s4, s5, s6, s7, s8⟩
         go_simp
         with_reducible rfl
        rotate_left
        ·simp only [Act.put, List.setIfInBounds_toArray, List.set_cons_zero, List.set_cons_succ, i64_w, i32_w]
         rfl
        refine one_ (i := 11) (N := some 49) #[true, true, true, true, true, true, true, true, true, true, true, true, true, true, false, false, false, false] rfl rfl (one_of HT_.out (by kernel_rfl)) (by decide) (fun K hK => ?_)
        refine goes_ Tryz.func67 (by kernel_rfl) rfl #[.agg #[.int .u8 a0_1, .int .u8 a0_2, .int .u8 a0_3, .int .u8 a0_4]] (by rfl) rfl rfl (by (try simp only [List.map_toArray, List.map_cons, List.map_nil]); first | done | rfl | (simp only [List.length_drop, List.length_take]; rfl)) ?_
        with_reducible refine (policy_bits.calls a0_1 a0_2 a0_3 a0_4 t103 _ A13.out).mono ?_
        rintro e w18 ⟨rfl, hb⟩
        refine ⟨_, rfl, ?_⟩
        have n0_ := Aside0.mk (blk_below (g := gb102) (o := .cells #[.bool a0_0, .int .u8 a0_1, .int .u8 a0_2, .int .u8 a0_3, .int .u8 a0_4, .int .i64 a0_5, .string a0_6, .int .i64 a0_7, .int .i64 a0_8] 37 (0, 0)) (by (with_reducible repeat (first | refine blk_drewN ?_ _ | refine blk_drew ?_ | refine blk_alloc ?_ _)); exact BK102.out) hb)
        have n1_ := Aside0.mk (below_step (by repeat (first | (with_reducible first | exact HB.out | apply below_alloc | apply pw_below_drewN | apply below_drew1 | refine below_set ?_ GE102.out) | exact HB.out)) hb)
        clear BK102
        clear HB
        have BK102 := n0_
        have HB := n1_
        clear n0_ n1_
        (try clear hb)
        (try clear hb2)
        (try clear hk)
        (try clear hi)
        refine hK.out _ _ ⟨(blk_cell BK102.out 0).trans rfl, (blk_cell BK102.out 1).trans rfl, (blk_cell BK102.out 2).trans rfl, (blk_cell BK102.out 3).trans rfl, (blk_cell BK102.out 4).trans rfl, (blk_cell BK102.out 5).trans rfl, (blk_cell BK102.out 6).trans rfl, (blk_cell BK102.out 7).trans rfl, (blk_cell BK102.out 8).trans rfl⟩ (fun hHeld => ?_)
        clear hK K
        refine norm_ (a' := ?_) ?_ ?_
        rotate_left
        ·show Act.put _ (some 49) _ = _
         simp only [Act.put, List.setIfInBounds_toArray, List.set_cons_zero, List.set_cons_succ, i64_w, i32_w]
         rfl
        refine pure_ (i := 14) (N := some 52) (v := ?_) (a' := ?_) #[true, true, true, true, true, true, true, true, true, true, true, true, true, true, true, false, false, false] rfl rfl (any_of HT_.out (by kernel_rfl)) (fun _ _ _ h => h) (Or.inl ⟨by rfl, ?_⟩) ?_ ?_
        rotate_left
        ·intro w'
         go_simp
         with_reducible rfl
        rotate_left
        ·simp only [Act.put, List.setIfInBounds_toArray, List.set_cons_zero, List.set_cons_succ, i64_w, i32_w]
         rfl
        refine pure_ (i := 15) (N := some 53) (v := ?_) (a' := ?_) #[true, true, true, true, true, true, true, true, true, true, true, true, true, true, true, true, false, false] rfl rfl (any_of HT_.out (by kernel_rfl)) (fun _ _ _ h => h) (Or.inl ⟨by rfl, ?_⟩) ?_ ?_
        rotate_left
        ·intro w'
         go_simp
         with_reducible rfl
        rotate_left
        ·simp only [Act.put, List.setIfInBounds_toArray, List.set_cons_zero, List.set_cons_succ, i64_w, i32_w]
         rfl
        refine pure_ (i := 16) (N := some 54) (v := ?_) (a' := ?_) #[true, true, true, true, true, true, true, true, true, true, true, true, true, true, true, true, true, false] rfl rfl (any_of HT_.out (by kernel_rfl)) (fun _ _ _ h => h) (Or.inl ⟨by rfl, ?_⟩) ?_ ?_
        rotate_left
        ·intro w'
         go_simp
         with_reducible rfl
        rotate_left
        ·simp only [Act.put, List.setIfInBounds_toArray, List.set_cons_zero, List.set_cons_succ, i64_w, i32_w]
         rfl
        refine pure_ (i := 17) (N := some 2) (v := ?_) (a' := ?_) #[true, true, true, true, true, true, true, true, true, true, true, true, true, true, true, true, true, true] rfl rfl (any_of HT_.out (by kernel_rfl)) (fun _ _ _ h => h) (Or.inl ⟨by rfl, ?_⟩) ?_ ?_
        rotate_left
        ·intro w'
         go_simp
         with_reducible rfl
        rotate_left
        ·simp only [Act.put, List.setIfInBounds_toArray, List.set_cons_zero, List.set_cons_succ, i64_w, i32_w]
         rfl
        refine done_ (done_of HT_.out (by kernel_rfl)) ?_
        try go_wp2
        go_ret
        exact ⟨by first | rfl | (simp [errW_none, errW_some] <;> rfl) | (simp only [← hji15]; first | rfl | (simp [errW_none, errW_some] <;> rfl)) | (simp [*, errW_none, errW_some] <;> rfl), by repeat (first | (with_reducible first | exact HB.out | apply below_alloc | apply pw_below_drewN | apply below_drew1 | refine below_set ?_ GE102.out) | exact HB.out)⟩
       ·rw [if_neg c14] at H
        exact absurd H (by simp)
      ·rw [if_neg c12] at H
       have c12b0 : decide (a0_5 ≤ 32) = false := decide_eq_false c12
       clear c12
       obtain rfl := Option.some.inj H
       have hcz19_0 : wc.cell? ⟨gb102, 0, none⟩ = some (.bool a0_0) := (blk_cell BK102.out 0).trans rfl
       have hcz19_1 : wc.cell? ⟨gb102, 1, none⟩ = some (.int .u8 a0_1) := (blk_cell BK102.out 1).trans rfl
       have hcz19_2 : wc.cell? ⟨gb102, 2, none⟩ = some (.int .u8 a0_2) := (blk_cell BK102.out 2).trans rfl
       have hcz19_3 : wc.cell? ⟨gb102, 3, none⟩ = some (.int .u8 a0_3) := (blk_cell BK102.out 3).trans rfl
       have hcz19_4 : wc.cell? ⟨gb102, 4, none⟩ = some (.int .u8 a0_4) := (blk_cell BK102.out 4).trans rfl
       have hcz19_5 : wc.cell? ⟨gb102, 5, none⟩ = some (.int .i64 a0_5) := (blk_cell BK102.out 5).trans rfl
       have hcz19_6 : wc.cell? ⟨gb102, 6, none⟩ = some (.string a0_6) := (blk_cell BK102.out 6).trans rfl
       have hcz19_7 : wc.cell? ⟨gb102, 7, none⟩ = some (.int .i64 a0_7) := (blk_cell BK102.out 7).trans rfl
       have hcz19_8 : wc.cell? ⟨gb102, 8, none⟩ = some (.int .i64 a0_8) := (blk_cell BK102.out 8).trans rfl
       have hfz19_0 := blk_frozen BK102.out 0
       have hfz19_1 := blk_frozen BK102.out 1
       have hfz19_2 := blk_frozen BK102.out 2
       have hfz19_3 := blk_frozen BK102.out 3
       have hfz19_4 := blk_frozen BK102.out 4
       have hfz19_5 := blk_frozen BK102.out 5
       have hfz19_6 := blk_frozen BK102.out 6
       have hfz19_7 := blk_frozen BK102.out 7
       have hfz19_8 := blk_frozen BK102.out 8
       try go_wp2
       have n0_ := Aside0.mk (blk_drew BK102.out)
       have n1_ := Aside0.mk (below_drew1 HB.out)
       clear BK102
       clear HB
       have BK102 := n0_
       have HB := n1_
       clear n0_ n1_
       refine start_ (n := 18) (S := fun w' => w'.cell? ⟨gb102, 0, none⟩ = some (.bool a0_0) ∧ w'.cell? ⟨gb102, 1, none⟩ = some (.int .u8 a0_1) ∧ w'.cell? ⟨gb102, 2, none⟩ = some (.int .u8 a0_2) ∧ w'.cell? ⟨gb102, 3, none⟩ = some (.int .u8 a0_3) ∧ w'.cell? ⟨gb102, 4, none⟩ = some (.int .u8 a0_4) ∧ w'.cell? ⟨gb102, 5, none⟩ = some (.int .i64 a0_5) ∧ w'.cell? ⟨gb102, 6, none⟩ = some (.string a0_6) ∧ w'.cell? ⟨gb102, 7, none⟩ = some (.int .i64 a0_7) ∧ w'.cell? ⟨gb102, 8, none⟩ = some (.int .i64 a0_8)) (ds := []) #[false, false, false, false, false, false, false, false, false, false, false, false, false, false, false, false, false, false] (by kernel_rfl) rfl rfl ⟨(blk_cell BK102.out 0).trans rfl, (blk_cell BK102.out 1).trans rfl, (blk_cell BK102.out 2).trans rfl, (blk_cell BK102.out 3).trans rfl, (blk_cell BK102.out 4).trans rfl, (blk_cell BK102.out 5).trans rfl, (blk_cell BK102.out 6).trans rfl, (blk_cell BK102.out 7).trans rfl, (blk_cell BK102.out 8).trans rfl⟩ (fun hHeld => ?_); refine with_tabW policy_right.tab5 policy_right.bits5 (fun HT_ HW_ => ?_)
       generalize wc.drew = w20 at BK102 HB hHeld ⊢
       refine pure_ (i := 0) (N := some 38) (v := ?_) (a' := ?_) #[true, false, false, false, false, false, false, false, false, false, false, false, false, false, false, false, false, false] rfl rfl (any_of HT_.out (by kernel_rfl)) (fun _ _ _ h => h) (Or.inl ⟨by rfl, ?_⟩) ?_ ?_
       rotate_left
       ·intro w'
        go_simp
        with_reducible rfl
       rotate_left
       ·simp only [Act.put, List.setIfInBounds_toArray, List.set_cons_zero, List.set_cons_succ, i64_w, i32_w]
        rfl
       refine take_ (i := 1) (N := some 39) (v := ?_) (a' := ?_) #[true, true, false, false, false, false, false, false, false, false, false, false, false, false, false, false, false, false] rfl rfl (take_ofW HT_.out HW_.out (by kernel_rfl)) (fun _ _ _ h => h) (Or.inl ⟨by rfl, ?_⟩) hHeld ?_ ?_
       rotate_left
       ·rintro w' ⟨s0, s1, s2, s3, s4, s5, s6, s7, s8⟩
        go_simp
        with_reducible rfl
       rotate_left
       ·simp only [Act.put, List.setIfInBounds_toArray, List.set_cons_zero, List.set_cons_succ, i64_w, i32_w]
        rfl
       refine pure_ (i := 2) (N := some 40) (v := ?_) (a' := ?_) #[true, true, true, false, false, false, false, false, false, false, false, false, false, false, false, false, false, false] rfl rfl (any_of HT_.out (by kernel_rfl)) (fun _ _ _ h => h) (Or.inl ⟨by rfl, ?_⟩) ?_ ?_
       rotate_left
       ·intro w'
        go_simp
        with_reducible rfl
       rotate_left
       ·simp only [Act.put, List.setIfInBounds_toArray, List.set_cons_zero, List.set_cons_succ, i64_w, i32_w]
        rfl
       refine pure_ (i := 3) (N := some 41) (v := ?_) (a' := ?_) #[true, true, true, true, false, false, false, false, false, false, false, false, false, false, false, false, false, false] rfl rfl (any_of HT_.out (by kernel_rfl)) (fun _ _ _ h => h) (Or.inl ⟨by rfl, ?_⟩) ?_ ?_
       rotate_left
       ·intro w'
        go_simp
        with_reducible rfl
       rotate_left
       ·simp only [Act.put, List.setIfInBounds_toArray, List.set_cons_zero, List.set_cons_succ, i64_w, i32_w]
        rfl
       refine pure_ (i := 4) (N := some 42) (v := ?_) (a' := ?_) #[true, true, true, true, true, false, false, false, false, false, false, false, false, false, false, false, false, false] rfl rfl (any_of HT_.out (by kernel_rfl)) (fun _ _ _ h => h) (Or.inl ⟨by rfl, ?_⟩) ?_ ?_
       rotate_left
       ·intro w'
        go_simp
        with_reducible rfl
       rotate_left
       ·simp only [Act.put, List.setIfInBounds_toArray, List.set_cons_zero, List.set_cons_succ, i64_w, i32_w]
        rfl
       refine take_ (i := 5) (N := some 43) (v := ?_) (a' := ?_) #[true, true, true, true, true, true, false, false, false, false, false, false, false, false, false, false, false, false] rfl rfl (take_ofW HT_.out HW_.out (by kernel_rfl)) (fun _ _ _ h => h) (Or.inl ⟨by rfl, ?_⟩) hHeld ?_ ?_
       rotate_left
       ·rintro w' ⟨s0, s1, s2, s3, s4, s5, s6, s7, s8⟩
        go_simp
        with_reducible rfl
       rotate_left
       ·simp only [Act.put, List.setIfInBounds_toArray, List.set_cons_zero, List.set_cons_succ, i64_w, i32_w]
        rfl
       refine pure_ (i := 6) (N := some 44) (v := ?_) (a' := ?_) #[true, true, true, true, true, true, true, false, false, false, false, false, false, false, false, false, false, false] rfl rfl (any_of HT_.out (by kernel_rfl)) (fun _ _ _ h => h) (Or.inl ⟨by rfl, ?_⟩) ?_ ?_
       rotate_left
       ·intro w'
        go_simp
        with_reducible rfl
       rotate_left
       ·simp only [Act.put, List.setIfInBounds_toArray, List.set_cons_zero, List.set_cons_succ, i64_w, i32_w]
        rfl
       refine pure_ (i := 7) (N := some 45) (v := ?_) (a' := ?_) #[true, true, true, true, true, true, true, true, false, false, false, false, false, false, false, false, false, false] rfl rfl (any_of HT_.out (by kernel_rfl)) (fun _ _ _ h => h) (Or.inl ⟨by rfl, ?_⟩) ?_ ?_
       rotate_left
       ·intro w'
        go_simp
        with_reducible rfl
       rotate_left
       ·simp only [Act.put, List.setIfInBounds_toArray, List.set_cons_zero, List.set_cons_succ, i64_w, i32_w]
        rfl
       refine pure_ (i := 8) (N := some 46) (v := ?_) (a' := ?_) #[true, true, true, true, true, true, true, true, true, false, false, false, false, false, false, false, false, false] rfl rfl (any_of HT_.out (by kernel_rfl)) (fun _ _ _ h => h) (Or.inl ⟨by rfl, ?_⟩) ?_ ?_
       rotate_left
       ·intro w'
        go_simp
        with_reducible rfl
       rotate_left
       ·simp only [Act.put, List.setIfInBounds_toArray, List.set_cons_zero, List.set_cons_succ, i64_w, i32_w]
        rfl
       refine pure_ (i := 9) (N := some 47) (v := undef) (a' := ?_) #[true, true, true, true, true, true, true, true, true, true, false, false, false, false, false, false, false, false] rfl rfl (any_of HT_.out (by kernel_rfl)) (fun _ _ _ h => h) (Or.inr ⟨by rfl, rfl⟩) ?_ ?_
       rotate_left
       ·simp only [Act.put, List.setIfInBounds_toArray, List.set_cons_zero, List.set_cons_succ, i64_w, i32_w]
        rfl
       refine pure_ (i := 10) (N := some 48) (v := undef) (a' := ?_) #[true, true, true, true, true, true, true, true, true, true, true, false, false, false, false, false, false, false] rfl rfl (any_of HT_.out (by kernel_rfl)) (fun _ _ _ h => h) (Or.inr ⟨by rfl, rfl⟩) ?_ ?_
       rotate_left
       ·simp only [Act.put, List.setIfInBounds_toArray, List.set_cons_zero, List.set_cons_succ, i64_w, i32_w]
        rfl
       refine pure_ (i := 11) (N := some 49) (v := undef) (a' := ?_) #[true, true, true, true, true, true, true, true, true, true, true, true, false, false, false, false, false, false] rfl rfl (any_of HT_.out (by kernel_rfl)) (fun _ _ _ h => h) (Or.inr ⟨by rfl, rfl⟩) ?_ ?_
       rotate_left
       ·simp only [Act.put, List.setIfInBounds_toArray, List.set_cons_zero, List.set_cons_succ, i64_w, i32_w]
        rfl
       refine pure_ (i := 12) (N := some 50) (v := undef) (a' := ?_) #[true, true, true, true, true, true, true, true, true, true, true, true, true, false, false, false, false, false] rfl rfl (any_of HT_.out (by kernel_rfl)) (fun _ _ _ h => h) (Or.inr ⟨by rfl, rfl⟩) ?_ ?_
       rotate_left
       ·simp only [Act.put, List.setIfInBounds_toArray, List.set_cons_zero, List.set_cons_succ, i64_w, i32_w]
        rfl
       refine pure_ (i := 13) (N := some 51) (v := undef) (a' := ?_) #[true, true, true, true, true, true, true, true, true, true, true, true, true, true, false, false, false, false] rfl rfl (any_of HT_.out (by kernel_rfl)) (fun _ _ _ h => h) (Or.inr ⟨by rfl, rfl⟩) ?_ ?_
       rotate_left
       ·simp only [Act.put, List.setIfInBounds_toArray, List.set_cons_zero, List.set_cons_succ, i64_w, i32_w]
        rfl
       refine pure_ (i := 14) (N := some 52) (v := undef) (a' := ?_) #[true, true, true, true, true, true, true, true, true, true, true, true, true, true, true, false, false, false] rfl rfl (any_of HT_.out (by kernel_rfl)) (fun _ _ _ h => h) (Or.inr ⟨by rfl, rfl⟩) ?_ ?_
       rotate_left
       ·simp only [Act.put, List.setIfInBounds_toArray, List.set_cons_zero, List.set_cons_succ, i64_w, i32_w]
        rfl
       refine pure_ (i := 15) (N := some 53) (v := undef) (a' := ?_) #[true, true, true, true, true, true, true, true, true, true, true, true, true, true, true, true, false, false] rfl rfl (any_of HT_.out (by kernel_rfl)) (fun _ _ _ h => h) (Or.inr ⟨by rfl, rfl⟩) ?_ ?_
       rotate_left
       ·simp only [Act.put, List.setIfInBounds_toArray, List.set_cons_zero, List.set_cons_succ, i64_w, i32_w]
        rfl
       refine pure_ (i := 16) (N := some 54) (v := ?_) (a' := ?_) #[true, true, true, true, true, true, true, true, true, true, true, true, true, true, true, true, true, false] rfl rfl (any_of HT_.out (by kernel_rfl)) (fun _ _ _ h => h) (Or.inl ⟨by rfl, ?_⟩) ?_ ?_
       rotate_left
       ·intro w'
        go_simp
        with_reducible rfl
       rotate_left
       ·simp only [Act.put, List.setIfInBounds_toArray, List.set_cons_zero, List.set_cons_succ, i64_w, i32_w]
        rfl
       refine pure_ (i := 17) (N := some 2) (v := ?_) (a' := ?_) #[true, true, true, true, true, true, true, true, true, true, true, true, true, true, true, true, true, true] rfl rfl (any_of HT_.out (by kernel_rfl)) (fun _ _ _ h => h) (Or.inl ⟨by rfl, ?_⟩) ?_ ?_
       rotate_left
       ·intro w'
        go_simp
        with_reducible rfl
       rotate_left
       ·simp only [Act.put, List.setIfInBounds_toArray, List.set_cons_zero, List.set_cons_succ, i64_w, i32_w]
        rfl
       refine done_ (done_of HT_.out (by kernel_rfl)) ?_
       try go_wp2
       go_ret
       exact ⟨by first | rfl | (simp [errW_none, errW_some] <;> rfl) | (simp [*, errW_none, errW_some] <;> rfl), by repeat (first | (with_reducible first | exact HB.out | apply below_alloc | apply pw_below_drewN | apply below_drew1 | refine below_set ?_ GE102.out) | exact HB.out)⟩
     ·rw [if_neg c11] at H
      have c11b0 : decide (0 ≤ a0_5) = false := decide_eq_false c11
      clear c11
      obtain rfl := Option.some.inj H
      have hcz21_0 : wc.cell? ⟨gb102, 0, none⟩ = some (.bool a0_0) := (blk_cell BK102.out 0).trans rfl
      have hcz21_1 : wc.cell? ⟨gb102, 1, none⟩ = some (.int .u8 a0_1) := (blk_cell BK102.out 1).trans rfl
      have hcz21_2 : wc.cell? ⟨gb102, 2, none⟩ = some (.int .u8 a0_2) := (blk_cell BK102.out 2).trans rfl
      have hcz21_3 : wc.cell? ⟨gb102, 3, none⟩ = some (.int .u8 a0_3) := (blk_cell BK102.out 3).trans rfl
      have hcz21_4 : wc.cell? ⟨gb102, 4, none⟩ = some (.int .u8 a0_4) := (blk_cell BK102.out 4).trans rfl
      have hcz21_5 : wc.cell? ⟨gb102, 5, none⟩ = some (.int .i64 a0_5) := (blk_cell BK102.out 5).trans rfl
      have hcz21_6 : wc.cell? ⟨gb102, 6, none⟩ = some (.string a0_6) := (blk_cell BK102.out 6).trans rfl
      have hcz21_7 : wc.cell? ⟨gb102, 7, none⟩ = some (.int .i64 a0_7) := (blk_cell BK102.out 7).trans rfl
      have hcz21_8 : wc.cell? ⟨gb102, 8, none⟩ = some (.int .i64 a0_8) := (blk_cell BK102.out 8).trans rfl
      have hfz21_0 := blk_frozen BK102.out 0
      have hfz21_1 := blk_frozen BK102.out 1
      have hfz21_2 := blk_frozen BK102.out 2
      have hfz21_3 := blk_frozen BK102.out 3
      have hfz21_4 := blk_frozen BK102.out 4
      have hfz21_5 := blk_frozen BK102.out 5
      have hfz21_6 := blk_frozen BK102.out 6
      have hfz21_7 := blk_frozen BK102.out 7
      have hfz21_8 := blk_frozen BK102.out 8
      try go_wp2
      have n0_ := Aside0.mk (blk_drew BK102.out)
      have n1_ := Aside0.mk (below_drew1 HB.out)
      clear BK102
      clear HB
      have BK102 := n0_
      have HB := n1_
      clear n0_ n1_
      refine start_ (n := 18) (S := fun w' => w'.cell? ⟨gb102, 0, none⟩ = some (.bool a0_0) ∧ w'.cell? ⟨gb102, 1, none⟩ = some (.int .u8 a0_1) ∧ w'.cell? ⟨gb102, 2, none⟩ = some (.int .u8 a0_2) ∧ w'.cell? ⟨gb102, 3, none⟩ = some (.int .u8 a0_3) ∧ w'.cell? ⟨gb102, 4, none⟩ = some (.int .u8 a0_4) ∧ w'.cell? ⟨gb102, 5, none⟩ = some (.int .i64 a0_5) ∧ w'.cell? ⟨gb102, 6, none⟩ = some (.string a0_6) ∧ w'.cell? ⟨gb102, 7, none⟩ = some (.int .i64 a0_7) ∧ w'.cell? ⟨gb102, 8, none⟩ = some (.int .i64 a0_8)) (ds := []) #[false, false, false, false, false, false, false, false, false, false, false, false, false, false, false, false, false, false] (by kernel_rfl) rfl rfl ⟨(blk_cell BK102.out 0).trans rfl, (blk_cell BK102.out 1).trans rfl, (blk_cell BK102.out 2).trans rfl, (blk_cell BK102.out 3).trans rfl, (blk_cell BK102.out 4).trans rfl, (blk_cell BK102.out 5).trans rfl, (blk_cell BK102.out 6).trans rfl, (blk_cell BK102.out 7).trans rfl, (blk_cell BK102.out 8).trans rfl⟩ (fun hHeld => ?_); refine with_tabW policy_right.tab5 policy_right.bits5 (fun HT_ HW_ => ?_)
      generalize wc.drew = w22 at BK102 HB hHeld ⊢
      refine pure_ (i := 0) (N := some 38) (v := ?_) (a' := ?_) #[true, false, false, false, false, false, false, false, false, false, false, false, false, false, false, false, false, false] rfl rfl (any_of HT_.out (by kernel_rfl)) (fun _ _ _ h => h) (Or.inl ⟨by rfl, ?_⟩) ?_ ?_
      rotate_left
      ·intro w'
       go_simp
       with_reducible rfl
      rotate_left
      ·simp only [Act.put, List.setIfInBounds_toArray, List.set_cons_zero, List.set_cons_succ, i64_w, i32_w]
       rfl
      refine take_ (i := 1) (N := some 39) (v := ?_) (a' := ?_) #[true, true, false, false, false, false, false, false, false, false, false, false, false, false, false, false, false, false] rfl rfl (take_ofW HT_.out HW_.out (by kernel_rfl)) (fun _ _ _ h => h) (Or.inl ⟨by rfl, ?_⟩) hHeld ?_ ?_
      rotate_left
      ·rintro w' ⟨s0, s1, s2, s3, s4, s5, s6, s7, s8⟩
       go_simp
       with_reducible rfl
      rotate_left
      ·simp only [Act.put, List.setIfInBounds_toArray, List.set_cons_zero, List.set_cons_succ, i64_w, i32_w]
       rfl
      refine pure_ (i := 2) (N := some 40) (v := ?_) (a' := ?_) #[true, true, true, false, false, false, false, false, false, false, false, false, false, false, false, false, false, false] rfl rfl (any_of HT_.out (by kernel_rfl)) (fun _ _ _ h => h) (Or.inl ⟨by rfl, ?_⟩) ?_ ?_
      rotate_left
      ·intro w'
       go_simp
       with_reducible rfl
      rotate_left
      ·simp only [Act.put, List.setIfInBounds_toArray, List.set_cons_zero, List.set_cons_succ, i64_w, i32_w]
       rfl
      refine pure_ (i := 3) (N := some 41) (v := ?_) (a' := ?_) #[true, true, true, true, false, false, false, false, false, false, false, false, false, false, false, false, false, false] rfl rfl (any_of HT_.out (by kernel_rfl)) (fun _ _ _ h => h) (Or.inl ⟨by rfl, ?_⟩) ?_ ?_
      rotate_left
      ·intro w'
       go_simp
       with_reducible rfl
      rotate_left
      ·simp only [Act.put, List.setIfInBounds_toArray, List.set_cons_zero, List.set_cons_succ, i64_w, i32_w]
       rfl
      refine pure_ (i := 4) (N := some 42) (v := undef) (a' := ?_) #[true, true, true, true, true, false, false, false, false, false, false, false, false, false, false, false, false, false] rfl rfl (any_of HT_.out (by kernel_rfl)) (fun _ _ _ h => h) (Or.inr ⟨by rfl, rfl⟩) ?_ ?_
      rotate_left
      ·simp only [Act.put, List.setIfInBounds_toArray, List.set_cons_zero, List.set_cons_succ, i64_w, i32_w]
       rfl
      refine pure_ (i := 5) (N := some 43) (v := undef) (a' := ?_) #[true, true, true, true, true, true, false, false, false, false, false, false, false, false, false, false, false, false] rfl rfl (any_of HT_.out (by kernel_rfl)) (fun _ _ _ h => h) (Or.inr ⟨by rfl, rfl⟩) ?_ ?_
      rotate_left
      ·simp only [Act.put, List.setIfInBounds_toArray, List.set_cons_zero, List.set_cons_succ, i64_w, i32_w]
       rfl
      refine pure_ (i := 6) (N := some 44) (v := undef) (a' := ?_) #[true, true, true, true, true, true, true, false, false, false, false, false, false, false, false, false, false, false] rfl rfl (any_of HT_.out (by kernel_rfl)) (fun _ _ _ h => h) (Or.inr ⟨by rfl, rfl⟩) ?_ ?_
      rotate_left
      ·simp only [Act.put, List.setIfInBounds_toArray, List.set_cons_zero, List.set_cons_succ, i64_w, i32_w]
       rfl
      refine pure_ (i := 7) (N := some 45) (v := ?_) (a' := ?_) #[true, true, true, true, true, true, true, true, false, false, false, false, false, false, false, false, false, false] rfl rfl (any_of HT_.out (by kernel_rfl)) (fun _ _ _ h => h) (Or.inl ⟨by rfl, ?_⟩) ?_ ?_
      rotate_left
      ·intro w'
       go_simp
       with_reducible rfl
      rotate_left
      ·simp only [Act.put, List.setIfInBounds_toArray, List.set_cons_zero, List.set_cons_succ, i64_w, i32_w]
       rfl
      refine pure_ (i := 8) (N := some 46) (v := ?_) (a' := ?_) #[true, true, true, true, true, true, true, true, true, false, false, false, false, false, false, false, false, false] rfl rfl (any_of HT_.out (by kernel_rfl)) (fun _ _ _ h => h) (Or.inl ⟨by rfl, ?_⟩) ?_ ?_
      rotate_left
      ·intro w'
       go_simp
       with_reducible rfl
      rotate_left
      ·simp only [Act.put, List.setIfInBounds_toArray, List.set_cons_zero, List.set_cons_succ, i64_w, i32_w]
       rfl
      refine pure_ (i := 9) (N := some 47) (v := undef) (a' := ?_) #[true, true, true, true, true, true, true, true, true, true, false, false, false, false, false, false, false, false] rfl rfl (any_of HT_.out (by kernel_rfl)) (fun _ _ _ h => h) (Or.inr ⟨by rfl, rfl⟩) ?_ ?_
      rotate_left
      ·simp only [Act.put, List.setIfInBounds_toArray, List.set_cons_zero, List.set_cons_succ, i64_w, i32_w]
       rfl
      refine pure_ (i := 10) (N := some 48) (v := undef) (a' := ?_) #[true, true, true, true, true, true, true, true, true, true, true, false, false, false, false, false, false, false] rfl rfl (any_of HT_.out (by kernel_rfl)) (fun _ _ _ h => h) (Or.inr ⟨by rfl, rfl⟩) ?_ ?_
      rotate_left
      ·simp only [Act.put, List.setIfInBounds_toArray, List.set_cons_zero, List.set_cons_succ, i64_w, i32_w]
       rfl
      refine pure_ (i := 11) (N := some 49) (v := undef) (a' := ?_) #[true, true, true, true, true, true, true, true, true, true, true, true, false, false, false, false, false, false] rfl rfl (any_of HT_.out (by kernel_rfl)) (fun _ _ _ h => h) (Or.inr ⟨by rfl, rfl⟩) ?_ ?_
      rotate_left
      ·simp only [Act.put, List.setIfInBounds_toArray, List.set_cons_zero, List.set_cons_succ, i64_w, i32_w]
       rfl
      refine pure_ (i := 12) (N := some 50) (v := undef) (a' := ?_) #[true, true, true, true, true, true, true, true, true, true, true, true, true, false, false, false, false, false] rfl rfl (any_of HT_.out (by kernel_rfl)) (fun _ _ _ h => h) (Or.inr ⟨by rfl, rfl⟩) ?_ ?_
      rotate_left
      ·simp only [Act.put, List.setIfInBounds_toArray, List.set_cons_zero, List.set_cons_succ, i64_w, i32_w]
       rfl
      refine pure_ (i := 13) (N := some 51) (v := undef) (a' := ?_) #[true, true, true, true, true, true, true, true, true, true, true, true, true, true, false, false, false, false] rfl rfl (any_of HT_.out (by kernel_rfl)) (fun _ _ _ h => h) (Or.inr ⟨by rfl, rfl⟩) ?_ ?_
      rotate_left
      ·simp only [Act.put, List.setIfInBounds_toArray, List.set_cons_zero, List.set_cons_succ, i64_w, i32_w]
       rfl
      refine pure_ (i := 14) (N := some 52) (v := undef) (a' := ?_) #[true, true, true, true, true, true, true, true, true, true, true, true, true, true, true, false, false, false] rfl rfl (any_of HT_.out (by kernel_rfl)) (fun _ _ _ h => h) (Or.inr ⟨by rfl, rfl⟩) ?_ ?_
      rotate_left
      ·simp only [Act.put, List.setIfInBounds_toArray, List.set_cons_zero, List.set_cons_succ, i64_w, i32_w]
       rfl
      refine pure_ (i := 15) (N := some 53) (v := undef) (a' := ?_) #[true, true, true, true, true, true, true, true, true, true, true, true, true, true, true, true, false, false] rfl rfl (any_of HT_.out (by kernel_rfl)) (fun _ _ _ h => h) (Or.inr ⟨by rfl, rfl⟩) ?_ ?_
      rotate_left
      ·simp only [Act.put, List.setIfInBounds_toArray, List.set_cons_zero, List.set_cons_succ, i64_w, i32_w]
       rfl
      refine pure_ (i := 16) (N := some 54) (v := ?_) (a' := ?_) #[true, true, true, true, true, true, true, true, true, true, true, true, true, true, true, true, true, false] rfl rfl (any_of HT_.out (by kernel_rfl)) (fun _ _ _ h => h) (Or.inl ⟨by rfl, ?_⟩) ?_ ?_
      rotate_left
      ·intro w'
       go_simp
       with_reducible rfl
      rotate_left
      ·simp only [Act.put, List.setIfInBounds_toArray, List.set_cons_zero, List.set_cons_succ, i64_w, i32_w]
       rfl
      refine pure_ (i := 17) (N := some 2) (v := ?_) (a' := ?_) #[true, true, true, true, true, true, true, true, true, true, true, true, true, true, true, true, true, true] rfl rfl (any_of HT_.out (by kernel_rfl)) (fun _ _ _ h => h) (Or.inl ⟨by rfl, ?_⟩) ?_ ?_
      rotate_left
      ·intro w'
       go_simp
       with_reducible rfl
      rotate_left
      ·simp only [Act.put, List.setIfInBounds_toArray, List.set_cons_zero, List.set_cons_succ, i64_w, i32_w]
       rfl
      refine done_ (done_of HT_.out (by kernel_rfl)) ?_
      try go_wp2
      go_ret
      exact ⟨by first | rfl | (simp [errW_none, errW_some] <;> rfl) | (simp [*, errW_none, errW_some] <;> rfl), by repeat (first | (with_reducible first | exact HB.out | apply below_alloc | apply pw_below_drewN | apply below_drew1 | refine below_set ?_ GE102.out) | exact HB.out)⟩
    ·rw [if_neg c10] at H
     have c10b0 : (a0_6.toList == ([] : List UInt8)) = false := beq_eq_false_iff_ne.mpr c10
     have c10b1 : (a0_6.toList != ([] : List UInt8)) = true := bne_iff_ne.mpr c10
     replace H := Option.bind_eq_some_iff.mp H
     obtain ⟨t104, A230, H⟩ := H
     replace H : (if t104 = true then (if (a0_1 == 0 && (a0_2 == 0 && (a0_3 == 0 && (a0_4 == 0)))) = true then (some (a0_5 == 0)) else (some false)) else (some false)) = some r := H
     have A23 := Aside0.mk A230
     clear A230
     by_cases c24 : t104 = true
     ·subst c24
      have H1 : (if (a0_1 == 0 && (a0_2 == 0 && (a0_3 == 0 && (a0_4 == 0)))) = true then (some (a0_5 == 0)) else (some false)) = some r := by rw [if_pos rfl] at H; exact H
      clear H
      have H := H1
      clear H1
      by_cases c25 : (a0_1 == 0 && (a0_2 == 0 && (a0_3 == 0 && (a0_4 == 0)))) = true
      ·rw [if_pos c25] at H
       have c25b0 : (a0_1 == 0 && (a0_2 == 0 && (a0_3 == 0 && (a0_4 == 0)))) = true := c25
       (try (have c25b1 : decide (a0_1 = 0 && (a0_2 == 0 && (a0_3 == 0 && (a0_4 == 0)))) = true := by simpa using c25))
       (try (have c25b2 : (a0_1 == 0 && (a0_2 == 0 && (a0_3 == 0 && (a0_4 == 0)))) = true := by simpa using c25))
       clear c25
       obtain rfl := Option.some.inj H
       have hcz26_0 : wc.cell? ⟨gb102, 0, none⟩ = some (.bool a0_0) := (blk_cell BK102.out 0).trans rfl
       have hcz26_1 : wc.cell? ⟨gb102, 1, none⟩ = some (.int .u8 a0_1) := (blk_cell BK102.out 1).trans rfl
       have hcz26_2 : wc.cell? ⟨gb102, 2, none⟩ = some (.int .u8 a0_2) := (blk_cell BK102.out 2).trans rfl
       have hcz26_3 : wc.cell? ⟨gb102, 3, none⟩ = some (.int .u8 a0_3) := (blk_cell BK102.out 3).trans rfl
       have hcz26_4 : wc.cell? ⟨gb102, 4, none⟩ = some (.int .u8 a0_4) := (blk_cell BK102.out 4).trans rfl
       have hcz26_5 : wc.cell? ⟨gb102, 5, none⟩ = some (.int .i64 a0_5) := (blk_cell BK102.out 5).trans rfl
       have hcz26_6 : wc.cell? ⟨gb102, 6, none⟩ = some (.string a0_6) := (blk_cell BK102.out 6).trans rfl
       have hcz26_7 : wc.cell? ⟨gb102, 7, none⟩ = some (.int .i64 a0_7) := (blk_cell BK102.out 7).trans rfl
       have hcz26_8 : wc.cell? ⟨gb102, 8, none⟩ = some (.int .i64 a0_8) := (blk_cell BK102.out 8).trans rfl
       have hfz26_0 := blk_frozen BK102.out 0
       have hfz26_1 := blk_frozen BK102.out 1
       have hfz26_2 := blk_frozen BK102.out 2
       have hfz26_3 := blk_frozen BK102.out 3
       have hfz26_4 := blk_frozen BK102.out 4
       have hfz26_5 := blk_frozen BK102.out 5
       have hfz26_6 := blk_frozen BK102.out 6
       have hfz26_7 := blk_frozen BK102.out 7
       have hfz26_8 := blk_frozen BK102.out 8
       go_wp2_with (first | ((with_reducible refine gate_callee (f := 30) rfl ?_); refine goesL_ (some 26) rfl rfl Tryz.func30 (by kernel_rfl) rfl #[.agg #[.int .u8 0, .int .u8 0, .int .u8 0, .int .u8 0, .string a0_6]] rfl (by (try simp only [List.map_toArray, List.map_cons, List.map_nil]); first | done | rfl | (simp only [List.length_drop, List.length_take]; rfl)) ?_; (with_reducible refine (E.hCheck.calls 0 0 0 0 a0_6 true _ ?side1 A23.out).mono ?_); (case side1 => exact StdW.below HS_.out (by repeat (first | (with_reducible first | exact HB.out | apply below_alloc | apply pw_below_drewN | apply below_drew1 | refine below_set ?_ GE102.out) | exact HB.out))); rintro e w27 ⟨rfl, hb⟩; refine ⟨_, rfl, ?_⟩; have n0_ := Aside0.mk (blk_below (g := gb102) (o := .cells #[.bool a0_0, .int .u8 a0_1, .int .u8 a0_2, .int .u8 a0_3, .int .u8 a0_4, .int .i64 a0_5, .string a0_6, .int .i64 a0_7, .int .i64 a0_8] 37 (0, 0)) (by (with_reducible repeat (first | refine blk_drewN ?_ _ | refine blk_drew ?_ | refine blk_alloc ?_ _)); exact BK102.out) hb); have n1_ := Aside0.mk (below_step (by repeat (first | (with_reducible first | exact HB.out | apply below_alloc | apply pw_below_drewN | apply below_drew1 | refine below_set ?_ GE102.out) | exact HB.out)) hb); clear BK102; clear HB; have BK102 := n0_; have HB := n1_; clear n0_ n1_; (try clear hb); (try clear hb2); (try clear hk); (try clear hi); have hcz28_0 : w27.cell? ⟨gb102, 0, none⟩ = some (.bool a0_0) := (blk_cell BK102.out 0).trans rfl; have hcz28_1 : w27.cell? ⟨gb102, 1, none⟩ = some (.int .u8 a0_1) := (blk_cell BK102.out 1).trans rfl; have hcz28_2 : w27.cell? ⟨gb102, 2, none⟩ = some (.int .u8 a0_2) := (blk_cell BK102.out 2).trans rfl; have hcz28_3 : w27.cell? ⟨gb102, 3, none⟩ = some (.int .u8 a0_3) := (blk_cell BK102.out 3).trans rfl; have hcz28_4 : w27.cell? ⟨gb102, 4, none⟩ = some (.int .u8 a0_4) := (blk_cell BK102.out 4).trans rfl; have hcz28_5 : w27.cell? ⟨gb102, 5, none⟩ = some (.int .i64 a0_5) := (blk_cell BK102.out 5).trans rfl; have hcz28_6 : w27.cell? ⟨gb102, 6, none⟩ = some (.string a0_6) := (blk_cell BK102.out 6).trans rfl; have hcz28_7 : w27.cell? ⟨gb102, 7, none⟩ = some (.int .i64 a0_7) := (blk_cell BK102.out 7).trans rfl; have hcz28_8 : w27.cell? ⟨gb102, 8, none⟩ = some (.int .i64 a0_8) := (blk_cell BK102.out 8).trans rfl; have hfz28_0 := blk_frozen BK102.out 0; have hfz28_1 := blk_frozen BK102.out 1; have hfz28_2 := blk_frozen BK102.out 2; have hfz28_3 := blk_frozen BK102.out 3; have hfz28_4 := blk_frozen BK102.out 4; have hfz28_5 := blk_frozen BK102.out 5; have hfz28_6 := blk_frozen BK102.out 6; have hfz28_7 := blk_frozen BK102.out 7; have hfz28_8 := blk_frozen BK102.out 8))
       go_ret
       exact ⟨by first | rfl | (simp [errW_none, errW_some] <;> rfl) | (simp [*, errW_none, errW_some] <;> rfl), by repeat (first | (with_reducible first | exact HB.out | apply below_alloc | apply pw_below_drewN | apply below_drew1 | refine below_set ?_ GE102.out) | exact HB.out)⟩
      ·rw [if_neg c25] at H
       have c25b0 : (a0_1 == 0 && (a0_2 == 0 && (a0_3 == 0 && (a0_4 == 0)))) = false := by simpa using c25
       (try (have c25b1 : decide (a0_1 = 0 && (a0_2 == 0 && (a0_3 == 0 && (a0_4 == 0)))) = false := by simpa using c25))
       (try (have c25b2 : (a0_1 == 0 && (a0_2 == 0 && (a0_3 == 0 && (a0_4 == 0)))) = false := by simpa using c25))
       (try (have c25b3 : ¬ (a0_1 = 0 && (a0_2 == 0 && (a0_3 == 0 && (a0_4 == 0)))) := by simpa using c25))
       clear c25
       obtain rfl := Option.some.inj H
       have hcz29_0 : wc.cell? ⟨gb102, 0, none⟩ = some (.bool a0_0) := (blk_cell BK102.out 0).trans rfl
       have hcz29_1 : wc.cell? ⟨gb102, 1, none⟩ = some (.int .u8 a0_1) := (blk_cell BK102.out 1).trans rfl
       have hcz29_2 : wc.cell? ⟨gb102, 2, none⟩ = some (.int .u8 a0_2) := (blk_cell BK102.out 2).trans rfl
       have hcz29_3 : wc.cell? ⟨gb102, 3, none⟩ = some (.int .u8 a0_3) := (blk_cell BK102.out 3).trans rfl
       have hcz29_4 : wc.cell? ⟨gb102, 4, none⟩ = some (.int .u8 a0_4) := (blk_cell BK102.out 4).trans rfl
       have hcz29_5 : wc.cell? ⟨gb102, 5, none⟩ = some (.int .i64 a0_5) := (blk_cell BK102.out 5).trans rfl
       have hcz29_6 : wc.cell? ⟨gb102, 6, none⟩ = some (.string a0_6) := (blk_cell BK102.out 6).trans rfl
       have hcz29_7 : wc.cell? ⟨gb102, 7, none⟩ = some (.int .i64 a0_7) := (blk_cell BK102.out 7).trans rfl
       have hcz29_8 : wc.cell? ⟨gb102, 8, none⟩ = some (.int .i64 a0_8) := (blk_cell BK102.out 8).trans rfl
       have hfz29_0 := blk_frozen BK102.out 0
       have hfz29_1 := blk_frozen BK102.out 1
       have hfz29_2 := blk_frozen BK102.out 2
       have hfz29_3 := blk_frozen BK102.out 3
       have hfz29_4 := blk_frozen BK102.out 4
       have hfz29_5 := blk_frozen BK102.out 5
       have hfz29_6 := blk_frozen BK102.out 6
       have hfz29_7 := blk_frozen BK102.out 7
       have hfz29_8 := blk_frozen BK102.out 8
       go_wp2_with (first | ((with_reducible refine gate_callee (f := 30) rfl ?_); refine goesL_ (some 26) rfl rfl Tryz.func30 (by kernel_rfl) rfl #[.agg #[.int .u8 0, .int .u8 0, .int .u8 0, .int .u8 0, .string a0_6]] rfl (by (try simp only [List.map_toArray, List.map_cons, List.map_nil]); first | done | rfl | (simp only [List.length_drop, List.length_take]; rfl)) ?_; (with_reducible refine (E.hCheck.calls 0 0 0 0 a0_6 true _ ?side1 A23.out).mono ?_); (case side1 => exact StdW.below HS_.out (by repeat (first | (with_reducible first | exact HB.out | apply below_alloc | apply pw_below_drewN | apply below_drew1 | refine below_set ?_ GE102.out) | exact HB.out))); rintro e w30 ⟨rfl, hb⟩; refine ⟨_, rfl, ?_⟩; have n0_ := Aside0.mk (blk_below (g := gb102) (o := .cells #[.bool a0_0, .int .u8 a0_1, .int .u8 a0_2, .int .u8 a0_3, .int .u8 a0_4, .int .i64 a0_5, .string a0_6, .int .i64 a0_7, .int .i64 a0_8] 37 (0, 0)) (by (with_reducible repeat (first | refine blk_drewN ?_ _ | refine blk_drew ?_ | refine blk_alloc ?_ _)); exact BK102.out) hb); have n1_ := Aside0.mk (below_step (by repeat (first | (with_reducible first | exact HB.out | apply below_alloc | apply pw_below_drewN | apply below_drew1 | refine below_set ?_ GE102.out) | exact HB.out)) hb); clear BK102; clear HB; have BK102 := n0_; have HB := n1_; clear n0_ n1_; (try clear hb); (try clear hb2); (try clear hk); (try clear hi); have hcz31_0 : w30.cell? ⟨gb102, 0, none⟩ = some (.bool a0_0) := (blk_cell BK102.out 0).trans rfl; have hcz31_1 : w30.cell? ⟨gb102, 1, none⟩ = some (.int .u8 a0_1) := (blk_cell BK102.out 1).trans rfl; have hcz31_2 : w30.cell? ⟨gb102, 2, none⟩ = some (.int .u8 a0_2) := (blk_cell BK102.out 2).trans rfl; have hcz31_3 : w30.cell? ⟨gb102, 3, none⟩ = some (.int .u8 a0_3) := (blk_cell BK102.out 3).trans rfl; have hcz31_4 : w30.cell? ⟨gb102, 4, none⟩ = some (.int .u8 a0_4) := (blk_cell BK102.out 4).trans rfl; have hcz31_5 : w30.cell? ⟨gb102, 5, none⟩ = some (.int .i64 a0_5) := (blk_cell BK102.out 5).trans rfl; have hcz31_6 : w30.cell? ⟨gb102, 6, none⟩ = some (.string a0_6) := (blk_cell BK102.out 6).trans rfl; have hcz31_7 : w30.cell? ⟨gb102, 7, none⟩ = some (.int .i64 a0_7) := (blk_cell BK102.out 7).trans rfl; have hcz31_8 : w30.cell? ⟨gb102, 8, none⟩ = some (.int .i64 a0_8) := (blk_cell BK102.out 8).trans rfl; have hfz31_0 := blk_frozen BK102.out 0; have hfz31_1 := blk_frozen BK102.out 1; have hfz31_2 := blk_frozen BK102.out 2; have hfz31_3 := blk_frozen BK102.out 3; have hfz31_4 := blk_frozen BK102.out 4; have hfz31_5 := blk_frozen BK102.out 5; have hfz31_6 := blk_frozen BK102.out 6; have hfz31_7 := blk_frozen BK102.out 7; have hfz31_8 := blk_frozen BK102.out 8))
       go_ret
       exact ⟨by first | rfl | (simp [errW_none, errW_some] <;> rfl) | (simp [*, errW_none, errW_some] <;> rfl), by repeat (first | (with_reducible first | exact HB.out | apply below_alloc | apply pw_below_drewN | apply below_drew1 | refine below_set ?_ GE102.out) | exact HB.out)⟩
     ·replace c24 := Bool.eq_false_iff.mpr c24
      subst c24
      have H1 : (some false) = some r := by rw [if_neg (show ¬ (false = true) by decide)] at H; exact H
      clear H
      have H := H1
      clear H1
      obtain rfl := Option.some.inj H
      have hcz32_0 : wc.cell? ⟨gb102, 0, none⟩ = some (.bool a0_0) := (blk_cell BK102.out 0).trans rfl
      have hcz32_1 : wc.cell? ⟨gb102, 1, none⟩ = some (.int .u8 a0_1) := (blk_cell BK102.out 1).trans rfl
      have hcz32_2 : wc.cell? ⟨gb102, 2, none⟩ = some (.int .u8 a0_2) := (blk_cell BK102.out 2).trans rfl
      have hcz32_3 : wc.cell? ⟨gb102, 3, none⟩ = some (.int .u8 a0_3) := (blk_cell BK102.out 3).trans rfl
      have hcz32_4 : wc.cell? ⟨gb102, 4, none⟩ = some (.int .u8 a0_4) := (blk_cell BK102.out 4).trans rfl
      have hcz32_5 : wc.cell? ⟨gb102, 5, none⟩ = some (.int .i64 a0_5) := (blk_cell BK102.out 5).trans rfl
      have hcz32_6 : wc.cell? ⟨gb102, 6, none⟩ = some (.string a0_6) := (blk_cell BK102.out 6).trans rfl
      have hcz32_7 : wc.cell? ⟨gb102, 7, none⟩ = some (.int .i64 a0_7) := (blk_cell BK102.out 7).trans rfl
      have hcz32_8 : wc.cell? ⟨gb102, 8, none⟩ = some (.int .i64 a0_8) := (blk_cell BK102.out 8).trans rfl
      have hfz32_0 := blk_frozen BK102.out 0
      have hfz32_1 := blk_frozen BK102.out 1
      have hfz32_2 := blk_frozen BK102.out 2
      have hfz32_3 := blk_frozen BK102.out 3
      have hfz32_4 := blk_frozen BK102.out 4
      have hfz32_5 := blk_frozen BK102.out 5
      have hfz32_6 := blk_frozen BK102.out 6
      have hfz32_7 := blk_frozen BK102.out 7
      have hfz32_8 := blk_frozen BK102.out 8
      go_wp2_with (first | ((with_reducible refine gate_callee (f := 30) rfl ?_); refine goesL_ (some 26) rfl rfl Tryz.func30 (by kernel_rfl) rfl #[.agg #[.int .u8 0, .int .u8 0, .int .u8 0, .int .u8 0, .string a0_6]] rfl (by (try simp only [List.map_toArray, List.map_cons, List.map_nil]); first | done | rfl | (simp only [List.length_drop, List.length_take]; rfl)) ?_; (with_reducible refine (E.hCheck.calls 0 0 0 0 a0_6 false _ ?side1 A23.out).mono ?_); (case side1 => exact StdW.below HS_.out (by repeat (first | (with_reducible first | exact HB.out | apply below_alloc | apply pw_below_drewN | apply below_drew1 | refine below_set ?_ GE102.out) | exact HB.out))); rintro e w33 ⟨rfl, hb⟩; refine ⟨_, rfl, ?_⟩; have n0_ := Aside0.mk (blk_below (g := gb102) (o := .cells #[.bool a0_0, .int .u8 a0_1, .int .u8 a0_2, .int .u8 a0_3, .int .u8 a0_4, .int .i64 a0_5, .string a0_6, .int .i64 a0_7, .int .i64 a0_8] 37 (0, 0)) (by (with_reducible repeat (first | refine blk_drewN ?_ _ | refine blk_drew ?_ | refine blk_alloc ?_ _)); exact BK102.out) hb); have n1_ := Aside0.mk (below_step (by repeat (first | (with_reducible first | exact HB.out | apply below_alloc | apply pw_below_drewN | apply below_drew1 | refine below_set ?_ GE102.out) | exact HB.out)) hb); clear BK102; clear HB; have BK102 := n0_; have HB := n1_; clear n0_ n1_; (try clear hb); (try clear hb2); (try clear hk); (try clear hi)))
      go_ret
      exact ⟨by first | rfl | (simp [errW_none, errW_some] <;> rfl) | (simp [*, errW_none, errW_some] <;> rfl), by repeat (first | (with_reducible first | exact HB.out | apply below_alloc | apply pw_below_drewN | apply below_drew1 | refine below_set ?_ GE102.out) | exact HB.out)⟩
end Go.Proofs.YteondnhokgmakaaGreatDoor.XC
