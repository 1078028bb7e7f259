/- What the cards of this seat rest on: the walks and plain laws, part 4. -/
import Derived.Test.YtocklkaddiomhaaGreatDoorProg
import Derived.Test.YtocklkaddiomhaaGreatDoorHD3
import Derived.WalkKit
import Derived.LaidEql
import Derived.Stop.Asserts
import Derived.RowKitTokens
import Derived.Test.YtocklkaddiomhaaGreatDoorHD1
import Derived.Shelf.Small.Wraps
import Derived.Shelf.Bytes.GrowRow0
import Derived.Shelf.Bytes.GrowRow
import Derived.Shelf.Bytes.GrowNil
import Derived.Shelf.Bytes.Grow
import Derived.Shelf.Bytes.WriteString
import Derived.Shelf.Strings.LastIndex
import Derived.Shelf.Strings.Prefix
import Derived.Lib.LastIndexByte
import Derived.Deep.RegionWith
import Derived.Lib.Case
import Derived.Lib.CutLaws
import Derived.Lib.SlTrimSet
import Derived.Lib.Replace
import Derived.Lib.IndexAny


namespace Go.Proofs.YtocklkaddiomhaaGreatDoor.E
open Go.RowKit Go.Extern.Stop Go.Stop Go.Extern
set_option linter.unusedVariables false
set_option linter.unusedSimpArgs false
theorem As.valueOf27 (t : Addr) (w : World) : (ReflectliteValue.unpack (.iface 158 (.pointer (some t)))).run Tryz.prog w
    = .ok (.agg #[.pointer (some ⟨11, 158, none⟩), .pointer (some ⟨w.heap.size, 0, none⟩), .int .u64 150]) (w.alloc (.cells #[.pointer (some t)] 158)) := by kernel_rfl
theorem As.type27 (a : Addr) (w : World) : (ReflectliteValue.methodAny (ReflectliteValue.valueError "reflectlite.Value.Type" 0) (fun t _ _ _ => ReflectliteType.toType t) #[.agg #[.pointer (some ⟨11, 158, none⟩), .pointer (some a), .int .u64 150]]).run Tryz.prog w
    = .ok (.iface 210 (.agg #[.pointer (some ⟨11, 158, none⟩)])) w := by kernel_rfl
theorem As.methodKind (h : Value) (w : World) : (Go.method 394 210 (.agg #[h]) "Kind").run Tryz.prog w = .ok (212, h) w := by kernel_rfl
theorem As.kind27 (w : World) : ((ReflectliteType.abiMethod fun t => (fun a : Nat => Value.int IntKind.u8 (a : Int)) <$> Rtype.kind t) #[.pointer (some ⟨11, 158, none⟩)]).run Tryz.prog w = .ok (.int .u8 22) w := by kernel_rfl
theorem As.kind25 (w : World) : ((ReflectliteType.abiMethod fun t => (fun a : Nat => Value.int IntKind.u8 (a : Int)) <$> Rtype.kind t) #[.pointer (some ⟨11, 116, none⟩)]).run Tryz.prog w = .ok (.int .u8 22) w := by kernel_rfl
theorem rlm (z : Sem Value) (f : TypeId → Addr → Nat → Nat → Sem Value) (v : Value) :
    ReflectliteValue.method z f #[v] = (do match ← ReflectliteValue.parts v with | none => z | some (t, a, fl) => f t a fl (fl % 32)) := rfl
theorem As.parts27 (a : Addr) (w : World) : (ReflectliteValue.parts (.agg #[.pointer (some ⟨11, 158, none⟩), .pointer (some a), .int .u64 150])).run Tryz.prog w = .ok (some (158, a, 150)) w := by kernel_rfl
theorem As.isNil27 (a p : Addr) (W : World) (ha : W.cell? a = some (.pointer (some p))) :
    (ReflectliteValue.method (ReflectliteValue.valueError "reflectlite.Value.IsNil" 0) ReflectliteValue.isNil #[.agg #[.pointer (some ⟨11, 158, none⟩), .pointer (some a), .int .u64 150]]).run Tryz.prog W = .ok (.bool false) W := by
  rw [rlm]
  simp only [Sem.run_bind, As.parts27, Result.andThen]
  simp [ReflectliteValue.isNil, loadVar, isAgg, underlying, Tryz.underlying158, ha, Result.andThen]
theorem As.methodElem (h : Value) (w : World) : (Go.method 394 210 (.agg #[h]) "Elem").run Tryz.prog w = .ok (229, .agg #[h]) w := by kernel_rfl
theorem As.methodImplements (h : Value) (w : World) : (Go.method 394 210 (.agg #[h]) "Implements").run Tryz.prog w = .ok (230, .agg #[h]) w := by kernel_rfl
theorem As.methodAssignableTo (h : Value) (w : World) : (Go.method 394 210 (.agg #[h]) "AssignableTo").run Tryz.prog w = .ok (227, .agg #[h]) w := by kernel_rfl
theorem As.elem27 (w : World) : (ReflectliteType.method ReflectliteType.elem #[.agg #[.pointer (some ⟨11, 158, none⟩)]]).run Tryz.prog w = .ok (.iface 210 (.agg #[.pointer (some ⟨11, 116, none⟩)])) w := by kernel_rfl
theorem As.implements25 (w : World) : (ReflectliteType.relation "Implements" ReflectliteType.implements_ #[.agg #[.pointer (some ⟨11, 116, none⟩)], .iface 210 (.agg #[.pointer (some ⟨11, 25, none⟩)])]).run Tryz.prog w = .ok (.bool true) w := by kernel_rfl
theorem As.typeOf25 (v : Value) (w : World) : (ReflectliteType.typeOf #[.iface 116 v]).run Tryz.prog w = .ok (.iface 210 (.agg #[.pointer (some ⟨11, 116, none⟩)])) w := by kernel_rfl
theorem As.assignable25 (w : World) : (ReflectliteType.relation "AssignableTo" ReflectliteType.assignableTo #[.agg #[.pointer (some ⟨11, 116, none⟩)], .iface 210 (.agg #[.pointer (some ⟨11, 116, none⟩)])]).run Tryz.prog w = .ok (.bool true) w := by kernel_rfl
theorem As.valueOf25 (e : Addr) (w : World) : (ReflectliteValue.unpack (.iface 116 (.pointer (some e)))).run Tryz.prog w
    = .ok (.agg #[.pointer (some ⟨11, 116, none⟩), .pointer (some ⟨w.heap.size, 0, none⟩), .int .u64 150]) (w.alloc (.cells #[.pointer (some e)] 116)) := by kernel_rfl
theorem As.elemOf27 (w : World) : (Rtype.elem? 158).run Tryz.prog w = .ok (some 116) w := by kernel_rfl
theorem As.mk25 (p : Addr) (w : World) : (ReflectliteValue.mk 116 p ReflectliteValue.flagAddr).run Tryz.prog w = .ok (.agg #[.pointer (some ⟨11, 116, none⟩), .pointer (some p), .int .u64 406]) w := by kernel_rfl
theorem As.elemV27 (a p : Addr) (W : World) (ha : W.cell? a = some (.pointer (some p))) :
    (ReflectliteValue.method (ReflectliteValue.valueError "reflectlite.Value.Elem" 0) ReflectliteValue.elem #[.agg #[.pointer (some ⟨11, 158, none⟩), .pointer (some a), .int .u64 150]]).run Tryz.prog W
      = .ok (.agg #[.pointer (some ⟨11, 116, none⟩), .pointer (some p), .int .u64 406]) W := by
  rw [rlm]
  simp only [Sem.run_bind, As.parts27, Result.andThen]
  simp [ReflectliteValue.elem, loadVar, isAgg, underlying, Tryz.underlying158, ha, Result.andThen, As.elemOf27, As.mk25]
theorem rls (v x : Value) : ReflectliteValue.set #[v, x] = (do
    let (some (dst, a, fl), some (src, b, _)) := (← ReflectliteValue.parts v, ← ReflectliteValue.parts x)
      | unsupported (.noEntry "extern/(internal/reflectlite.Value).Set.zeroValue")
    if fl / ReflectliteValue.flagAddr % 2 == 0 then unsupported (.noEntry "extern/(internal/reflectlite.Value).Set.unaddressable")
    let val ← loadVar src b
    if ← Rtype.directlyAssignable dst src then storeVar dst a val
    else if ← Rtype.implements dst src then
      if (← Rtype.kind src) == 20 then
        match val with
        | .nilIface => unsupported (.noEntry "extern/reflectlite: a nil value of one interface type handed on as a value of another")
        | _ => storeVar dst a val
      else storeVar dst a (.iface src val)
    else panicString ("reflectlite.Set: value of type " ++ (← Rtype.spelt src) ++ " is not assignable to type " ++ (← Rtype.spelt dst))
    pure (.tuple #[])) := rfl
theorem As.parts25a (a : Addr) (w : World) : (ReflectliteValue.parts (.agg #[.pointer (some ⟨11, 116, none⟩), .pointer (some a), .int .u64 406])).run Tryz.prog w = .ok (some (116, a, 406)) w := by kernel_rfl
theorem As.parts25 (a : Addr) (w : World) : (ReflectliteValue.parts (.agg #[.pointer (some ⟨11, 116, none⟩), .pointer (some a), .int .u64 150])).run Tryz.prog w = .ok (some (116, a, 150)) w := by kernel_rfl
theorem As.direct25 (w : World) : (Rtype.directlyAssignable 116 116).run Tryz.prog w = .ok true w := by kernel_rfl
theorem As.set25 (ta b e : Addr) (old : Value) (W : World) (hb : W.cell? b = some (.pointer (some e))) (ht : W.cell? ta = some old) (hf : W.frozen? ta = false) :
    (ReflectliteValue.set #[.agg #[.pointer (some ⟨11, 116, none⟩), .pointer (some ta), .int .u64 406], .agg #[.pointer (some ⟨11, 116, none⟩), .pointer (some b), .int .u64 150]]).run Tryz.prog W
      = .ok (.tuple #[]) (W.setCell ta (.pointer (some e))) := by
  rw [rls]
  simp only [Sem.run_bind, As.parts25a, As.parts25, Result.andThen]
  simp [ReflectliteValue.flagAddr, loadVar, isAgg, underlying, Tryz.underlying116, hb, Result.andThen, As.direct25, storeVar, Value.cells, storeCells, Addr.add]
  rw [run_store Tryz.prog W ta _ _ (by rfl)]
  simp [ht, hf]
set_option maxHeartbeats 4000000 in
theorem as_hit (e t : Addr) (old : Value) (w : World) (hg : w.cell? ⟨1, 0, none⟩ = some (.iface 210 (.agg #[.pointer (some ⟨11, 25, none⟩)]))) (ht0 : w.cell? t = some old) (hf0 : w.frozen? t = false) :
    Calls Tryz.prog 107 #[.iface 116 (.pointer (some e)), .iface 158 (.pointer (some t))] w fun ev w' => ev = .returned (.bool true) ∧ w' = ((((w.alloc (.cells #[.pointer (some t)] 158)).alloc (.cells #[.pointer (some ⟨11, 158, none⟩), .pointer (some ⟨w.heap.size, 0, none⟩), .int .u64 150] 189)).alloc (.cells #[.pointer (some ⟨11, 158, none⟩), .pointer (some ⟨w.heap.size, 0, none⟩), .int .u64 150] 189)).alloc (.cells #[.pointer (some e)] 116)).setCell t (.pointer (some e)) := by
  have h6 := @run_callFunc_extern Tryz.prog 139 _ (fun args => ReflectliteValue.unpack (args.getD 0 (.tuple #[]))) Tryz.func139 (by kernel_rfl) (by kernel_rfl) (by kernel_rfl) (by kernel_rfl)
  have h7 := @run_callFunc_extern Tryz.prog 140 _ (ReflectliteValue.methodAny (ReflectliteValue.valueError "reflectlite.Value.Type" 0) (fun t _ _ _ => ReflectliteType.toType t)) Tryz.func140 (by kernel_rfl) (by kernel_rfl) (by kernel_rfl) (by kernel_rfl)
  have h8 := @run_callFunc_extern Tryz.prog 141 _ (ReflectliteValue.method (ReflectliteValue.valueError "reflectlite.Value.IsNil" 0) ReflectliteValue.isNil) Tryz.func141 (by kernel_rfl) (by kernel_rfl) (by kernel_rfl) (by kernel_rfl)
  have h27 := @run_callFunc_extern Tryz.prog 212 _ (ReflectliteType.abiMethod fun t => do pure (.int .u8 (← Rtype.kind t))) Tryz.func212 (by kernel_rfl) (by kernel_rfl) (by kernel_rfl) (by kernel_rfl)
  have h37 := @run_callFunc_extern Tryz.prog 229 _ (ReflectliteType.method ReflectliteType.elem) Tryz.func229 (by kernel_rfl) (by kernel_rfl) (by kernel_rfl) (by kernel_rfl)
  have h38 := @run_callFunc_extern Tryz.prog 230 _ (ReflectliteType.relation "Implements" ReflectliteType.implements_) Tryz.func230 (by kernel_rfl) (by kernel_rfl) (by kernel_rfl) (by kernel_rfl)
  have h10 := @run_callFunc_extern Tryz.prog 163 _ ReflectliteType.typeOf Tryz.func163 (by kernel_rfl) (by kernel_rfl) (by kernel_rfl) (by kernel_rfl)
  have h35 := @run_callFunc_extern Tryz.prog 227 _ (ReflectliteType.relation "AssignableTo" ReflectliteType.assignableTo) Tryz.func227 (by kernel_rfl) (by kernel_rfl) (by kernel_rfl) (by kernel_rfl)
  have h11 := @run_callFunc_extern Tryz.prog 164 _ (ReflectliteValue.method (ReflectliteValue.valueError "reflectlite.Value.Elem" 0) ReflectliteValue.elem) Tryz.func164 (by kernel_rfl) (by kernel_rfl) (by kernel_rfl) (by kernel_rfl)
  have h12 := @run_callFunc_extern Tryz.prog 165 _ ReflectliteValue.set Tryz.func165 (by kernel_rfl) (by kernel_rfl) (by kernel_rfl) (by kernel_rfl)
  have tO := As.typeOf25
  have mA := As.methodAssignableTo
  have a25 := As.assignable25
  have v25 := As.valueOf25
  have f6 := As.valueOf27
  have f7 := As.type27
  have mK := As.methodKind
  have mE := As.methodElem
  have mI := As.methodImplements
  have k27 := As.kind27
  have k25 := As.kind25
  have e27 := As.elem27
  have i25 := As.implements25
  have n8 := As.isNil27 ⟨w.heap.size, 0, none⟩ t ((w.alloc (.cells #[.pointer (some t)] 158)).alloc (.cells #[.pointer (some ⟨11, 158, none⟩), .pointer (some ⟨w.heap.size, 0, none⟩), .int .u64 150] 189)) (by simp)
  have hlt : 1 < w.heap.size := World.block_lt_of_cell? _ _ hg
  have hg2 : ((w.alloc (.cells #[.pointer (some t)] 158)).alloc (.cells #[.pointer (some ⟨11, 158, none⟩), .pointer (some ⟨w.heap.size, 0, none⟩), .int .u64 150] 189)).cell? ⟨1, 0, none⟩ = some (.iface 210 (.agg #[.pointer (some ⟨11, 25, none⟩)])) := by
    rw [World.cell?_alloc_lt _ _ ⟨1, 0, none⟩ (by simp <;> omega), World.cell?_alloc_lt _ _ ⟨1, 0, none⟩ hlt]; exact hg
  have htl : t.block < w.heap.size := by
    rcases Nat.lt_or_ge t.block w.heap.size with h | h
    · exact h
    · simp [World.cell?, Array.getElem?_eq_none h] at ht0
  have el := As.elemV27 ⟨w.heap.size, 0, none⟩ t (((w.alloc (.cells #[.pointer (some t)] 158)).alloc (.cells #[.pointer (some ⟨11, 158, none⟩), .pointer (some ⟨w.heap.size, 0, none⟩), .int .u64 150] 189)).alloc (.cells #[.pointer (some ⟨11, 158, none⟩), .pointer (some ⟨w.heap.size, 0, none⟩), .int .u64 150] 189)) (by rw [World.cell?_alloc_lt _ _ ⟨w.heap.size, 0, none⟩ (by simp; omega)]; simp)
  have st := As.set25 t ⟨w.heap.size + 1 + 1 + 1, 0, none⟩ e old ((((w.alloc (.cells #[.pointer (some t)] 158)).alloc (.cells #[.pointer (some ⟨11, 158, none⟩), .pointer (some ⟨w.heap.size, 0, none⟩), .int .u64 150] 189)).alloc (.cells #[.pointer (some ⟨11, 158, none⟩), .pointer (some ⟨w.heap.size, 0, none⟩), .int .u64 150] 189)).alloc (.cells #[.pointer (some e)] 116))
    (by rw [World.cell?_alloc_at _ _ _ _ (by simp)]; rfl)
    (by rw [World.cell?_alloc_lt _ _ t (by simp; omega), World.cell?_alloc_lt _ _ t (by simp; omega), World.cell?_alloc_lt _ _ t (by simp; omega), World.cell?_alloc_lt _ _ t htl]; exact ht0)
    (by rw [World.frozen?_alloc_old _ _ t (by simp; omega), World.frozen?_alloc_old _ _ t (by simp; omega), World.frozen?_alloc_old _ _ t (by simp; omega), World.frozen?_alloc_old _ _ t (Nat.ne_of_lt htl)]; exact hf0)
  go_enter Tryz.func107, Tryz.ntmps107
  go_wp2
  refine wp_loop_rounds 1 ?_
  rw [rounds_succ]
  go_wp2
  go_ret
  exact ⟨rfl, rfl⟩
def EtW (w : World) : Prop := w.cell? ⟨1, 0, none⟩ = some (.iface 210 (.agg #[.pointer (some ⟨11, 25, none⟩)]))
theorem EtW.below {w w' : World} (h : EtW w) (hb : Below w.heap.size w w') : EtW w' := (hb.cell (World.block_lt_of_cell? _ _ h)).trans h
theorem as_fault (b t : Nat) (w : World) (hg : EtW w) (ht : w.cell? ⟨t, 0, none⟩ = some (.pointer none)) (hf : w.frozen? ⟨t, 0, none⟩ = false) :
    Calls Tryz.prog 107 #[.iface 116 (.pointer (some ⟨b, 0, none⟩)), .iface 158 (.pointer (some ⟨t, 0, none⟩))] w fun e w' => e = .returned (.bool true) ∧ w'.cell? ⟨t, 0, none⟩ = some (.pointer (some ⟨b, 0, none⟩)) ∧ Below t w w' := by
  refine (as_hit ⟨b, 0, none⟩ ⟨t, 0, none⟩ (.pointer none) w hg ht hf).mono ?_
  rintro e w' ⟨rfl, rfl⟩
  have hl : t < w.heap.size := World.block_lt_of_cell? _ _ ht
  refine ⟨rfl, ?_, ?_⟩
  · refine World.cell?_setCell_same _ _ _ (u := .pointer none) ?_
    rw [World.cell?_alloc_lt _ _ _ (by simp; omega), World.cell?_alloc_lt _ _ _ (by simp; omega), World.cell?_alloc_lt _ _ _ (by simp; omega), World.cell?_alloc_lt _ _ _ hl]; exact ht
  · refine Below.setCell (p := ⟨t, 0, none⟩) ?_ (show t ≤ t from Nat.le_refl _) _
    exact ((((Below.refl _ _).alloc (Nat.le_of_lt hl) _).alloc (by simp; omega) _).alloc (by simp; omega) _).alloc (by simp; omega) _
theorem as_none (t : Value) (w : World) : Calls Tryz.prog 107 #[.nilIface, t] w fun e w' => e = .returned (.bool false) ∧ w = w' := by
  go_enter Tryz.func107, Tryz.ntmps107
  go_wp2
  go_ret
  exact ⟨rfl, rfl⟩
end Go.Proofs.YtocklkaddiomhaaGreatDoor.E


namespace Go.Proofs
open Go.Shelf
def Tryz.lays103_ren : Go.Shelf.Ren := ⟨fun | 103 => 75 | 210 => 108 | 206 => 93 | n => n, fun | 9 => 9 | 4 => 4 | 24 => 126 | 3 => 3 | n => n, fun | n => n⟩
theorem Tryz.lays103 : Go.Proofs.Lays.n103 Tryz.prog Tryz.lays103_ren := {
  mixed := by kernel_rfl
  f103 := Tryz.func75.trans (congrArg some (by kernel_rfl))
  f206 := Tryz.func93.trans (congrArg some (by kernel_rfl))
  f210 := Tryz.func108.trans (congrArg some (by kernel_rfl))
  t3 := Tryz.underlying3
  a3 := Tryz.isAgg3
  z3 := Tryz.sizeOf3
  v3 := Tryz.zeroValue3
  t4 := Tryz.underlying4
  a4 := Tryz.isAgg4
  z4 := Tryz.sizeOf4
  v4 := Tryz.zeroValue4
  t9 := Tryz.underlying9
  a9 := Tryz.isAgg9
  z9 := Tryz.sizeOf9
  v9 := Tryz.zeroValue9
  t24 := Tryz.underlying126
  a24 := Tryz.isAgg126
  z24 := Tryz.sizeOf126
  v24 := Tryz.zeroValue126 }
open Go.RowKit in

theorem Tryz.strings_CutPrefix (s p : ByteArray) (w : World) :
    Calls Tryz.prog 75 #[.string s, .string p] w fun e w' => e = .returned (.tuple #[.string ⟨(Lib.trimPrefix s.data.toList p.data.toList).toArray⟩, .bool (Lib.hasPrefix s.data.toList p.data.toList)]) ∧ w' = w := Any.strings_CutPrefix Tryz.lays103 s p w
def Tryz.lays149_ren : Go.Shelf.Ren := ⟨fun | 149 => 105 | 222 => 137 | n => n, fun | 9 => 9 | 5 => 5 | 3 => 3 | 4 => 4 | n => n, fun | n => n⟩
theorem Tryz.lays149 : Go.Proofs.Lays.n149 Tryz.prog Tryz.lays149_ren := {
  mixed := by kernel_rfl
  f149 := Tryz.func105.trans (congrArg some (by kernel_rfl))
  f222 := Tryz.func137.trans (congrArg some (by kernel_rfl))
  t3 := Tryz.underlying3
  a3 := Tryz.isAgg3
  z3 := Tryz.sizeOf3
  v3 := Tryz.zeroValue3
  t4 := Tryz.underlying4
  a4 := Tryz.isAgg4
  z4 := Tryz.sizeOf4
  v4 := Tryz.zeroValue4
  t5 := Tryz.underlying5
  a5 := Tryz.isAgg5
  z5 := Tryz.sizeOf5
  v5 := Tryz.zeroValue5
  t9 := Tryz.underlying9
  a9 := Tryz.isAgg9
  z9 := Tryz.sizeOf9
  v9 := Tryz.zeroValue9 }
open Go.RowKit Go.Lib in

theorem Tryz.strings_LastIndexByte (s : ByteArray) (c : Int) (hs : s.size < 4611686018427387904) (w : World) :
    Calls Tryz.prog 105 #[.string s, .int .u8 c] w fun e w' => e = .returned (.int .i64 (Lib.lastIndexByte s c)) ∧ w' = w := Any.strings_LastIndexByte Tryz.lays149 s c hs w
def Tryz.lays99_ren : Go.Shelf.Ren := ⟨fun | 99 => 63 | 206 => 93 | n => n, fun | 9 => 9 | 4 => 4 | 3 => 3 | n => n, fun | n => n⟩
theorem Tryz.lays99 : Go.Proofs.Lays.n99 Tryz.prog Tryz.lays99_ren := {
  mixed := by kernel_rfl
  f99 := Tryz.func63.trans (congrArg some (by kernel_rfl))
  f206 := Tryz.func93.trans (congrArg some (by kernel_rfl))
  t3 := Tryz.underlying3
  a3 := Tryz.isAgg3
  z3 := Tryz.sizeOf3
  v3 := Tryz.zeroValue3
  t4 := Tryz.underlying4
  a4 := Tryz.isAgg4
  z4 := Tryz.sizeOf4
  v4 := Tryz.zeroValue4
  t9 := Tryz.underlying9
  a9 := Tryz.isAgg9
  z9 := Tryz.sizeOf9
  v9 := Tryz.zeroValue9 }
open Go.RowKit Go.Lib in

theorem Tryz.strings_HasPrefix (s p : ByteArray) (w : World) :
    Calls Tryz.prog 63 #[.string s, .string p] w fun e w' => e = .returned (.bool (Lib.hasPrefix s.data.toList p.data.toList)) ∧ w' = w := Any.strings_HasPrefix Tryz.lays99 s p w
end Go.Proofs


namespace Go.Proofs.YtocklkaddiomhaaGreatDoor.E
open Go.RowKit Go.Proofs.YtocklkaddiomhaaGreatDoorW.PrintWords Go.Proofs.YtocklkaddiomhaaGreatDoorW.PrintLast
set_option linter.unusedVariables false
set_option linter.unusedSimpArgs false
def dC (a b c d : Int) (n : ByteArray) (po : Int) : Array Value := #[.int .u8 a, .int .u8 b, .int .u8 c, .int .u8 d, .string n, .int .i64 po]
theorem Blk.dids {w : World} {R : Nat} {T : TypeId} (h : Blk w R (dC 0 0 0 0 ⟨#[]⟩ 0) T) :
    w.cell? ⟨R, 0, none⟩ = some (.int .u8 0) ∧ w.cell? ⟨R, 1, none⟩ = some (.int .u8 0) ∧ w.cell? ⟨R, 2, none⟩ = some (.int .u8 0) ∧ w.cell? ⟨R, 3, none⟩ = some (.int .u8 0) ∧ w.cell? ⟨R, 4, none⟩ = some (.string ⟨#[]⟩) ∧ w.cell? ⟨R, 5, none⟩ = some (.int .i64 0) ∧
    w.frozen? ⟨R, 0, none⟩ = false ∧ w.frozen? ⟨R, 1, none⟩ = false ∧ w.frozen? ⟨R, 2, none⟩ = false ∧ w.frozen? ⟨R, 3, none⟩ = false ∧ w.frozen? ⟨R, 4, none⟩ = false ∧ w.frozen? ⟨R, 5, none⟩ = false ∧
    w.setCell ⟨R, 0, none⟩ (.int .u8 0) = w ∧ w.setCell ⟨R, 1, none⟩ (.int .u8 0) = w ∧ w.setCell ⟨R, 2, none⟩ (.int .u8 0) = w ∧ w.setCell ⟨R, 3, none⟩ (.int .u8 0) = w ∧ w.setCell ⟨R, 4, none⟩ (.string ⟨#[]⟩) = w ∧ w.setCell ⟨R, 5, none⟩ (.int .i64 0) = w :=
  ⟨h.cell 0 _ rfl, h.cell 1 _ rfl, h.cell 2 _ rfl, h.cell 3 _ rfl, h.cell 4 _ rfl, h.cell 5 _ rfl, h.free 0, h.free 1, h.free 2, h.free 3, h.free 4, h.free 5,
    setCell_id _ _ _ _ (h.cell 0 _ rfl), setCell_id _ _ _ _ (h.cell 1 _ rfl), setCell_id _ _ _ _ (h.cell 2 _ rfl), setCell_id _ _ _ _ (h.cell 3 _ rfl), setCell_id _ _ _ _ (h.cell 4 _ rfl), setCell_id _ _ _ _ (h.cell 5 _ rfl)⟩
theorem Blk.dix {w : World} {R : Nat} {T : TypeId} {a b c d : Int} {n : ByteArray} {po : Int} (h : Blk w R (dC a b c d n po) T) :
    w.cell? ⟨R, 0, none⟩ = some (.int .u8 a) ∧ w.cell? ⟨R, 1, none⟩ = some (.int .u8 b) ∧ w.cell? ⟨R, 2, none⟩ = some (.int .u8 c) ∧ w.cell? ⟨R, 3, none⟩ = some (.int .u8 d) ∧ w.cell? ⟨R, 4, none⟩ = some (.string n) ∧ w.cell? ⟨R, 5, none⟩ = some (.int .i64 po) ∧
    w.frozen? ⟨R, 0, none⟩ = false ∧ w.frozen? ⟨R, 1, none⟩ = false ∧ w.frozen? ⟨R, 2, none⟩ = false ∧ w.frozen? ⟨R, 3, none⟩ = false ∧ w.frozen? ⟨R, 4, none⟩ = false ∧ w.frozen? ⟨R, 5, none⟩ = false :=
  ⟨h.cell 0 _ rfl, h.cell 1 _ rfl, h.cell 2 _ rfl, h.cell 3 _ rfl, h.cell 4 _ rfl, h.cell 5 _ rfl, h.free 0, h.free 1, h.free 2, h.free 3, h.free 4, h.free 5⟩
theorem as_none' (t : Value) (w : World) : Calls Tryz.prog 107 #[.nilIface, t] w fun e w' => e = .returned (.bool false) ∧ Below w.heap.size w w' :=
  (as_none t w).mono (fun e w' ⟨h, hw⟩ => ⟨h, hw ▸ Below.refl _ _⟩)
def zDest : Value := .agg #[.int .u8 0, .int .u8 0, .int .u8 0, .int .u8 0, .string ⟨#[]⟩, .int .i64 0]
set_option maxRecDepth 100000 in
set_option maxHeartbeats 4000000 in
theorem pdest_long (s : ByteArray) (hs : 259 < s.size) (hs2 : s.size ≤ 281474976710656) (w : World) :
    Calls Tryz.prog 73 #[.string s] w fun e w' => ∃ v, e = .returned (.tuple #[zDest, v]) ∧ ErrIs w' v [(hostS, 259)] 3 ∧ Below w.heap.size w w' := by
  have HE : ∀ W, ErrIs W (.iface 45 (.int .i64 3)) [] 3 := fun W => rfl
  have HW := Lib.hid (fun W => wrong_any 259 _ [] 3 W (HE W))
  clear HE
  unfold zDest
  have hs1 : (259 : Int) < (s.size : Int) := by omega
  go_enter Tryz.func73, Tryz.ntmps73
  go_wp2_with (first | (go_at_call 104; refine (HW.out _).mono ?_; rintro e w1 ⟨v, rfl, he, hb⟩; obtain ⟨c0, c1, c2, c3, c4, c5, f0, f1, f2, f3, f4, f5, s0, s1, s2, s3, s4, s5⟩ := ((Blk.new w (dC 0 0 0 0 ⟨#[]⟩ 0) 33).below hb).dids))
  refine bodyPost_ret (v := .tuple #[.agg #[.int .u8 0, .int .u8 0, .int .u8 0, .int .u8 0, .string ⟨#[]⟩, .int .i64 0], v]) (by simp [results, Tryz.results73, go_sem, c0, c1, c2, c3, c4, c5]) rfl ⟨v, rfl, ?_, ?_⟩
  · exact he
  · exact below_then (below_alloc (Below.refl _ _) _) (below_alloc (Below.refl _ _) _).size hb
set_option maxRecDepth 100000 in
set_option maxHeartbeats 4000000 in
theorem pdest_none (s : ByteArray) (hs : s.size ≤ 259) (i : Int) (hi : i < 0) (HL : ∀ W, StdW W → Calls Tryz.prog 105 #[.string s, .int .u8 58] W fun e w' => e = .returned (.int .i64 i) ∧ Below W.heap.size W w') (w : World) (hS : StdW w) :
    Calls Tryz.prog 73 #[.string s] w fun e w' => ∃ v, e = .returned (.tuple #[zDest, v]) ∧ ErrIs w' v [(hostS, (s.size : Int))] 62 ∧ Below w.heap.size w w' := by
  have HE : ∀ W, ErrIs W (.iface 45 (.int .i64 62)) [] 62 := fun W => rfl
  have HW := Lib.hid (fun W => wrong_any (s.size : Int) _ [] 62 W (HE W))
  have HL' := Lib.hid HL
  have HS := Lib.hid hS
  clear HE HL hS
  unfold zDest
  have hs1 : (s.size : Int) ≤ 259 := by omega
  go_enter Tryz.func73, Tryz.ntmps73
  go_wp2_with (first | (go_at_call 105; refine (HL'.out _ (StdW.below HS.out (below_alloc (Below.refl _ _) _))).mono ?_; rintro e w2 ⟨rfl, hb2⟩; have HB2 : Hid (Below w.heap.size w w2) := Lib.hid (below_then (below_alloc (Below.refl _ _) _) (below_alloc (Below.refl _ _) _).size hb2); have HZ2 := Lib.hid ((Blk.new w (dC 0 0 0 0 ⟨#[]⟩ 0) 33).below hb2); clear hb2) | (go_at_call 104; refine (HW.out _).mono ?_; rintro e w1 ⟨v, rfl, he, hb⟩; obtain ⟨c0, c1, c2, c3, c4, c5, f0, f1, f2, f3, f4, f5, s0, s1, s2, s3, s4, s5⟩ := (HZ2.out.below hb).dids))
  refine bodyPost_ret (v := .tuple #[.agg #[.int .u8 0, .int .u8 0, .int .u8 0, .int .u8 0, .string ⟨#[]⟩, .int .i64 0], v]) (by simp [results, Tryz.results73, go_sem, c0, c1, c2, c3, c4, c5]) rfl ⟨v, rfl, ?_, ?_⟩
  · exact he
  · exact below_then HB2.out HB2.out.size hb
set_option maxRecDepth 100000 in
set_option maxHeartbeats 4000000 in
theorem pdest_host (s : ByteArray) (hs : s.size ≤ 259) (i : Nat) (hi : i < s.size) (ch : List (ByteArray × Int)) (co : Int) (HL : ∀ W, StdW W → Calls Tryz.prog 105 #[.string s, .int .u8 58] W fun e w' => e = .returned (.int .i64 i) ∧ Below W.heap.size W w')
    (HP : ∀ W, StdW W → Calls Tryz.prog 77 #[.string (s.extract 0 i)] W fun e w' => ∃ v, e = .returned (.tuple #[.agg #[.int .u8 0, .int .u8 0, .int .u8 0, .int .u8 0, .string ⟨#[]⟩], v]) ∧ ErrIs w' v ch co ∧ Below W.heap.size W w') (w : World) (hS : StdW w) :
    Calls Tryz.prog 73 #[.string s] w fun e w' => ∃ v, e = .returned (.tuple #[zDest, v]) ∧ ErrIs w' v ch co ∧ Below w.heap.size w w' := by
  have HL' := Lib.hid HL
  have HP' := Lib.hid HP
  have HS := Lib.hid hS
  clear HL HP hS
  unfold zDest
  have hs1 : (s.size : Int) ≤ 259 := by omega
  have hi0 : (0 : Int) ≤ (i : Int) := Int.natCast_nonneg _
  have hi1 : (i : Int) ≤ (s.size : Int) := by omega
  go_enter Tryz.func73, Tryz.ntmps73
  go_wp2_with (first | (go_at_call 105; refine (HL'.out _ (StdW.below HS.out (below_alloc (Below.refl _ _) _))).mono ?_; rintro e w2 ⟨rfl, hb2⟩; have HB2 : Hid (Below w.heap.size w w2) := Lib.hid (below_then (below_alloc (Below.refl _ _) _) (below_alloc (Below.refl _ _) _).size hb2); have HZ2 := Lib.hid ((Blk.new w (dC 0 0 0 0 ⟨#[]⟩ 0) 33).below hb2); clear hb2) | (go_at_call 77; refine (HP'.out _ (StdW.below HS.out HB2.out)).mono ?_; rintro e w1 ⟨v, rfl, he, hb⟩; obtain ⟨tv, xv, rfl⟩ := he.iface; have HER := Lib.hid he; clear he; have hz := HZ2.out.below hb; obtain ⟨c0, c1, c2, c3, c4, c5, f0, f1, f2, f3, f4, f5, s0, s1, s2, s3, s4, s5⟩ := hz.dids; obtain ⟨d0, d1, d2, d3, d4, d5, g0, g1, g2, g3, g4, g5, t0, t1, t2, t3, t4, t5⟩ := (hz.old (.cells #[.int .u8 0, .int .u8 0, .int .u8 0, .int .u8 0, .string ⟨#[]⟩] 31)).dids; clear hz))
  refine bodyPost_ret (v := .tuple #[.agg #[.int .u8 0, .int .u8 0, .int .u8 0, .int .u8 0, .string ⟨#[]⟩, .int .i64 0], .iface tv xv]) (by simp [results, Tryz.results73, go_sem, c0, c1, c2, c3, c4, c5, d0, d1, d2, d3, d4, d5]) rfl ⟨_, rfl, ?_, ?_⟩
  · exact ErrIs.below (below_alloc (Below.refl _ _) _) HER.out
  · exact below_alloc (below_then HB2.out HB2.out.size hb) _
set_option maxRecDepth 100000 in
set_option maxHeartbeats 8000000 in
theorem pdest_port (s : ByteArray) (hs : s.size ≤ 259) (i : Nat) (hi : i < s.size) (a b c d : Int) (n : ByteArray) (co : Int) (HL : ∀ W, StdW W → Calls Tryz.prog 105 #[.string s, .int .u8 58] W fun e w' => e = .returned (.int .i64 i) ∧ Below W.heap.size W w')
    (HP : ∀ W, StdW W → Calls Tryz.prog 77 #[.string (s.extract 0 i)] W fun e w' => e = .returned (.tuple #[.agg #[.int .u8 a, .int .u8 b, .int .u8 c, .int .u8 d, .string n], .nilIface]) ∧ Below W.heap.size W w')
    (HQ : ∀ W, StdW W → Calls Tryz.prog 106 #[.string (s.extract (i + 1) s.size)] W fun e w' => ∃ v, e = .returned (.tuple #[.int .i64 0, v]) ∧ ErrIs w' v [(hostS, 0)] co ∧ Below W.heap.size W w') (w : World) (hS : StdW w) (hG : EtW w) :
    Calls Tryz.prog 73 #[.string s] w fun e w' => ∃ v, e = .returned (.tuple #[zDest, v]) ∧ ErrIs w' v [(hostS, (i : Int) + 1), (hostS, 0)] co ∧ Below w.heap.size w w' := by
  have HL' := Lib.hid HL
  have HP' := Lib.hid HP
  have HQ' := Lib.hid HQ
  have HS := Lib.hid hS
  have HG := Lib.hid hG
  have HW := Lib.hid (fun W v r c h => wrong_any ((i : Int) + 1) v r c W h)
  clear HL HP HQ hS hG
  unfold zDest
  have hs1 : (s.size : Int) ≤ 259 := by omega
  have hi0 : (0 : Int) ≤ (i : Int) := Int.natCast_nonneg _
  have hi1 : (i : Int) + 1 ≤ (s.size : Int) := by omega
  have hi2 : (i : Int) ≤ (s.size : Int) := by omega
  go_enter Tryz.func73, Tryz.ntmps73
  go_wp2_with (first | (go_at_call 105; refine (HL'.out _ (StdW.below HS.out (below_alloc (Below.refl _ _) _))).mono ?_; rintro e w2 ⟨rfl, hb2⟩; have HB2 : Hid (Below w.heap.size w w2) := Lib.hid (below_then (below_alloc (Below.refl _ _) _) (below_alloc (Below.refl _ _) _).size hb2); have HZ2 := Lib.hid ((Blk.new w (dC 0 0 0 0 ⟨#[]⟩ 0) 33).below hb2); clear hb2) | (go_at_call 77; refine (HP'.out _ (StdW.below HS.out HB2.out)).mono ?_; rintro e w3 ⟨rfl, hb3⟩; have HB3 : Hid (Below w.heap.size w (w3.alloc (.cells #[.int .u8 a, .int .u8 b, .int .u8 c, .int .u8 d, .string n] 31))) := Lib.hid (below_alloc (below_then HB2.out HB2.out.size hb3) _); have HZ3 := Lib.hid ((HZ2.out.below hb3).old (.cells #[.int .u8 a, .int .u8 b, .int .u8 c, .int .u8 d, .string n] 31)); have HH3 := Lib.hid (Blk.new w3 (hC a b c d n) 31); clear hb3) | (go_at_call 106; refine (HQ'.out _ (StdW.below HS.out HB3.out)).mono ?_; rintro e w4 ⟨v, rfl, he, hb4⟩; have HB4 : Hid (Below w.heap.size w w4) := Lib.hid (below_then HB3.out HB3.out.size hb4); have HZ4 := Lib.hid (HZ3.out.below hb4); obtain ⟨eb, eu, rfl, -⟩ := id he; have HER := Lib.hid he; clear he hb4) | (go_at_call 107; refine (as_fault eb w4.heap.size _ (EtW.below HG.out (below_alloc HB4.out _)) (by simp) (by simp)).mono ?_; rintro e w5 ⟨rfl, hc5, hb5⟩; have HB45 : Hid (Below w4.heap.size w4 w5) := Lib.hid ((below_alloc (Below.refl _ _) _).trans hb5); clear hb5) | (go_at_call 104; refine (HW.out _ _ _ _ (ErrIs.below HB45.out HER.out)).mono ?_; rintro e w6 ⟨v6, rfl, he6, hb6⟩; obtain ⟨c0, c1, c2, c3, c4, c5, f0, f1, f2, f3, f4, f5, s0, s1, s2, s3, s4, s5⟩ := ((HZ4.out.below HB45.out).below hb6).dids))
  refine bodyPost_ret (v := .tuple #[.agg #[.int .u8 0, .int .u8 0, .int .u8 0, .int .u8 0, .string ⟨#[]⟩, .int .i64 0], v6]) (by simp [results, Tryz.results73, go_sem, c0, c1, c2, c3, c4, c5]) rfl ⟨v6, rfl, ?_, ?_⟩
  · exact he6
  · exact below_then (below_then HB4.out HB4.out.size HB45.out) (below_then HB4.out HB4.out.size HB45.out).size hb6
set_option maxRecDepth 100000 in
set_option maxHeartbeats 8000000 in
theorem pdest_ok (s : ByteArray) (hs : s.size ≤ 259) (i : Nat) (hi : i < s.size) (a b c d : Int) (n : ByteArray) (po : Int) (HL : ∀ W, StdW W → Calls Tryz.prog 105 #[.string s, .int .u8 58] W fun e w' => e = .returned (.int .i64 i) ∧ Below W.heap.size W w')
    (HP : ∀ W, StdW W → Calls Tryz.prog 77 #[.string (s.extract 0 i)] W fun e w' => e = .returned (.tuple #[.agg #[.int .u8 a, .int .u8 b, .int .u8 c, .int .u8 d, .string n], .nilIface]) ∧ Below W.heap.size W w')
    (HQ : ∀ W, StdW W → Calls Tryz.prog 106 #[.string (s.extract (i + 1) s.size)] W fun e w' => e = .returned (.tuple #[.int .i64 po, .nilIface]) ∧ Below W.heap.size W w') (w : World) (hS : StdW w) :
    Calls Tryz.prog 73 #[.string s] w fun e w' => e = .returned (.tuple #[.agg (dC a b c d n po), .nilIface]) ∧ Below w.heap.size w w' := by
  have HL' := Lib.hid HL
  have HP' := Lib.hid HP
  have HQ' := Lib.hid HQ
  have HS := Lib.hid hS
  clear HL HP HQ hS
  unfold dC
  have hs1 : (s.size : Int) ≤ 259 := by omega
  have hi0 : (0 : Int) ≤ (i : Int) := Int.natCast_nonneg _
  have hi1 : (i : Int) + 1 ≤ (s.size : Int) := by omega
  have hi2 : (i : Int) ≤ (s.size : Int) := by omega
  go_enter Tryz.func73, Tryz.ntmps73
  go_wp2_with (first | (go_at_call 105; refine (HL'.out _ (StdW.below HS.out (below_alloc (Below.refl _ _) _))).mono ?_; rintro e w2 ⟨rfl, hb2⟩; have HB2 : Hid (Below w.heap.size w w2) := Lib.hid (below_then (below_alloc (Below.refl _ _) _) (below_alloc (Below.refl _ _) _).size hb2); have HZ2 := Lib.hid ((Blk.new w (dC 0 0 0 0 ⟨#[]⟩ 0) 33).below hb2); clear hb2) | (go_at_call 77; refine (HP'.out _ (StdW.below HS.out HB2.out)).mono ?_; rintro e w3 ⟨rfl, hb3⟩; have HB3 : Hid (Below w.heap.size w (w3.alloc (.cells #[.int .u8 a, .int .u8 b, .int .u8 c, .int .u8 d, .string n] 31))) := Lib.hid (below_alloc (below_then HB2.out HB2.out.size hb3) _); have HZ3 := Lib.hid ((HZ2.out.below hb3).old (.cells #[.int .u8 a, .int .u8 b, .int .u8 c, .int .u8 d, .string n] 31)); have HH3 := Lib.hid (Blk.new w3 (hC a b c d n) 31); clear hb3) | (go_at_call 106; refine (HQ'.out _ (StdW.below HS.out HB3.out)).mono ?_; rintro e w4 ⟨rfl, hb4⟩; have HB4 : Hid (Below w.heap.size w w4) := Lib.hid (below_then HB3.out HB3.out.size hb4); have HZ4 := Lib.hid (HZ3.out.below hb4); have HH4 := Lib.hid (HH3.out.below hb4); clear hb4) | (go_at_call 107; refine (as_none' _ _).mono ?_; rintro e w5 ⟨rfl, hb5⟩; have HB5 : Hid (Below w.heap.size w w5) := Lib.hid (below_then (below_alloc HB4.out _) (below_alloc HB4.out _).size hb5); have HZ5 := Lib.hid ((HZ4.out.old (.cells #[.pointer none] 116)).below hb5); have HH5 := Lib.hid ((HH4.out.old (.cells #[.pointer none] 116)).below hb5); have hlt := HZ5.out.lt; obtain ⟨h0, h1, h2, h3, h4, -⟩ := HH5.out.five; obtain ⟨c0, c1, c2, c3, c4, c5, f0, f1, f2, f3, f4, f5⟩ := HZ5.out.dix; clear hb5))
  obtain ⟨e0, e1, e2, e3, e4, e5, -⟩ := (show Blk _ _ (dC a b c d n po) _ from ((((((HZ5.out.set 0 (.int .u8 a)).set 1 (.int .u8 b)).set 2 (.int .u8 c)).set 3 (.int .u8 d)).set 4 (.string n)).set 5 (.int .i64 po))).dix
  refine bodyPost_ret (v := .tuple #[.agg #[.int .u8 a, .int .u8 b, .int .u8 c, .int .u8 d, .string n, .int .i64 po], .nilIface]) (by simp [results, Tryz.results73, go_sem, e0, e1, e2, e3, e4, e5]) rfl ⟨rfl, ?_⟩
  repeat (refine Below.setCell ?_ (by first | exact Nat.le_refl _ | exact Nat.le_of_lt hlt) _)
  exact HB5.out
end Go.Proofs.YtocklkaddiomhaaGreatDoor.E


namespace Go.Proofs.YtocklkaddiomhaaGreatDoor.Fd
open Go.Lib
def trimB (l : List UInt8) : List UInt8 := trimS l [32, 9]
theorem trimB_len (l : List UInt8) : (trimB l).length ≤ l.length := by
  unfold trimB trimS trimLeftS trimRightS
  refine Nat.le_trans (List.dropWhile_sublist _).length_le ?_
  rw [List.length_reverse]
  refine Nat.le_trans (List.dropWhile_sublist _).length_le ?_
  rw [List.length_reverse]
  exact Nat.le_refl _
def low (l : List UInt8) : List UInt8 := toLowerA l
def partsL (l : List UInt8) : List (List UInt8) := (Pt.cutOn 44 l).map trimB
abbrev F : Type := List UInt8 × List UInt8
def sConn : List UInt8 := [99, 111, 110, 110, 101, 99, 116, 105, 111, 110]
def sign (c : UInt8) : Bool := (97 ≤ c && c ≤ 122) || ((65 ≤ c && c ≤ 90) || ((48 ≤ c && c ≤ 57) || (32 < c && [33, 35, 36, 37, 38, 39, 42, 43, 45, 46, 94, 95, 96, 124, 126].contains c)))
def token (l : List UInt8) : Bool := l.all sign && (!l.isEmpty && decide (l.length ≤ 64))
def fixed : List (List UInt8) := [sConn, [107, 101, 101, 112, 45, 97, 108, 105, 118, 101], [112, 114, 111, 120, 121, 45, 97, 117, 116, 104, 101, 110, 116, 105, 99, 97, 116, 101], [112, 114, 111, 120, 121, 45, 97, 117, 116, 104, 111, 114, 105, 122, 97, 116, 105, 111, 110], [112, 114, 111, 120, 121, 45, 99, 111, 110, 110, 101, 99, 116, 105, 111, 110], [116, 101], [116, 114, 97, 105, 108, 101, 114], [116, 114, 97, 110, 115, 102, 101, 114, 45, 101, 110, 99, 111, 100, 105, 110, 103], [117, 112, 103, 114, 97, 100, 101]]
def conn1 (f : F) : List (List UInt8) := if low f.1 == sConn then partsL f.2 else []
def told (l : List F) : List (List UInt8) := ((l.flatMap conn1).filter token).map low
def hop (l : List F) (n : List UInt8) : Bool := fixed.contains n || (told l).contains n
end Go.Proofs.YtocklkaddiomhaaGreatDoor.Fd


namespace Go.Proofs.YtocklkaddiomhaaGreatDoor.Hd
open Go.Lib
abbrev Bs := List UInt8
def crlf : Bs := [13, 10]
def cc : Bs := [13, 10, 13, 10]
def crAt (s : Bs) (i : Nat) : Bool := s[i]? == some 13 && s[i + 1]? == some 10
def empAt (s : Bs) (i : Nat) : Bool := crAt s i && (i == 0 || (decide (2 ≤ i) && crAt s (i - 2)))
def headN (s : Bs) : Option Nat := if hasPrefix s crlf then some 2 else if 0 ≤ index s cc then some ((index s cc).toNat + 4) else none
theorem pre2 (l : Bs) : crlf.isPrefixOf l = (l[0]? == some 13 && l[1]? == some 10) := by
  unfold crlf
  match l with
  | [] => rfl
  | [a] => simp [List.isPrefixOf]
  | a :: b :: r =>
    simp only [List.isPrefixOf, List.getElem?_cons_zero, List.getElem?_cons_succ, Bool.and_true]
    rw [Bool.eq_iff_iff]; simp only [Bool.and_eq_true, beq_iff_eq, Option.some.injEq]
    constructor <;> rintro ⟨h1, h2⟩ <;> exact ⟨h1.symm, h2.symm⟩
theorem pre4 (l : Bs) : cc.isPrefixOf l = (crlf.isPrefixOf l && crlf.isPrefixOf (l.drop 2)) := by
  unfold cc crlf
  match l with
  | [] => rfl
  | [a] => simp [List.isPrefixOf]
  | a :: b :: r => simp only [List.isPrefixOf, List.drop_succ_cons, List.drop_zero, Bool.and_true, Bool.and_assoc]
theorem occ2 (s : Bs) (i : Nat) : occAt s crlf i = crAt s i := by
  unfold occAt crAt
  rw [pre2, List.getElem?_drop, List.getElem?_drop]; rfl
theorem occ4 (s : Bs) (i : Nat) : occAt s cc i = (crAt s i && crAt s (i + 2)) := by
  unfold occAt
  rw [pre4, List.drop_drop]
  have h1 := occ2 s i
  have h2 := occ2 s (i + 2)
  unfold occAt at h1 h2
  rw [h1, h2]
theorem crAt_lt {s : Bs} {i : Nat} (h : crAt s i = true) : i + 1 < s.length := by
  unfold crAt at h
  simp only [Bool.and_eq_true, beq_iff_eq] at h
  exact (List.getElem?_eq_some_iff.1 h.2).1
theorem headN_min (s : Bs) (i : Nat) (h : empAt s i = true) (hn : ∀ j, j < i → empAt s j = false) : headN s = some (i + 2) := by
  unfold headN
  have hp : hasPrefix s crlf = crAt s 0 := by unfold hasPrefix crAt; rw [pre2]
  rw [hp]
  unfold empAt at h
  simp only [Bool.and_eq_true, Bool.or_eq_true, beq_iff_eq, decide_eq_true_eq] at h
  obtain ⟨hc, h0 | ⟨h2, hc2⟩⟩ := h
  · subst h0; rw [hc]; rfl
  · have h00 : crAt s 0 = false := by
      have := hn 0 (by omega)
      unfold empAt at this
      simpa using this
    rw [h00, if_neg Bool.false_ne_true]
    have hi : index s cc = ((i - 2 : Nat) : Int) := by
      refine index_first (by have := crAt_lt hc2; omega) ?_ (fun j hj => ?_)
      · rw [occ4, hc2, show i - 2 + 2 = i by omega, hc]; rfl
      · rw [occ4]
        cases hj1 : crAt s j
        · rfl
        · have := hn (j + 2) (by omega)
          unfold empAt at this
          rw [show j + 2 - 2 = j by omega, hj1] at this
          simp only [decide_eq_true (show 2 ≤ j + 2 by omega), Bool.and_true, Bool.or_true] at this
          rw [this]; rfl
    rw [hi, if_pos (by omega)]
    congr 1; omega
theorem headN_no (s : Bs) (hn : ∀ j, empAt s j = false) : headN s = none := by
  unfold headN
  have hp : hasPrefix s crlf = crAt s 0 := by unfold hasPrefix crAt; rw [pre2]
  have h00 : crAt s 0 = false := by
    have := hn 0
    unfold empAt at this
    simpa using this
  rw [hp, h00, if_neg Bool.false_ne_true]
  have : index s cc = -1 := index_none fun j _ => by
    rw [occ4]
    cases hj1 : crAt s j
    · rfl
    · have := hn (j + 2)
      unfold empAt at this
      rw [show j + 2 - 2 = j by omega, hj1] at this
      simp only [decide_eq_true (show 2 ≤ j + 2 by omega), Bool.and_true, Bool.or_true] at this
      rw [this]; rfl
  rw [this]; rfl
theorem headN_some {s : Bs} {n : Nat} (h : headN s = some n) : ∃ i, n = i + 2 ∧ empAt s i = true ∧ ∀ j, j < i → empAt s j = false := by
  by_cases hx : ∃ i, empAt s i = true
  · obtain ⟨i, hi, hm⟩ : ∃ i, empAt s i = true ∧ ∀ j, j < i → empAt s j = false := by
      obtain ⟨i, hi⟩ := hx
      induction i using Nat.strongRecOn with
      | _ i ih =>
        by_cases hj : ∃ j, j < i ∧ empAt s j = true
        · obtain ⟨j, hj, he⟩ := hj; exact ih j hj he
        · exact ⟨i, hi, fun j hj2 => by
            cases e : empAt s j
            · rfl
            · exact absurd ⟨j, hj2, e⟩ hj⟩
    rw [headN_min s i hi hm] at h
    exact ⟨i, (Option.some.inj h).symm, hi, hm⟩
  · rw [headN_no s fun j => by
      cases e : empAt s j
      · rfl
      · exact absurd ⟨j, e⟩ hx] at h
    cases h
theorem headN_le {s : Bs} {n : Nat} (h : headN s = some n) : 2 ≤ n ∧ n ≤ s.length := by
  obtain ⟨i, rfl, hi, _⟩ := headN_some h
  unfold empAt at hi
  rw [Bool.and_eq_true] at hi
  have := crAt_lt hi.1
  omega
def endR (b : Bs) : (Nat × Nat) ⊕ Nat := match headN (b.take 8192) with
  | some n => .inr n
  | none => if 8192 ≤ b.length then .inl (8192, 3) else .inl (b.length, 6)
theorem endR_le {b : Bs} {n : Nat} (h : endR b = .inr n) : 2 ≤ n ∧ n ≤ b.length ∧ n ≤ 8192 := by
  unfold endR at h
  split at h
  · rename_i m hm
    have := headN_le hm
    injection h with h
    rw [List.length_take] at this
    omega
  · split at h <;> cases h
def plain (l : Bs) (least most : Nat) : Bool := l.all (fun c => decide (least ≤ c.toNat) && decide (c.toNat ≤ 126)) && decide (l.length ≤ most)
def spc (l : Bs) : Bs := l.map fun c => if c = 9 then 32 else c
def value (l : Bs) : Bool := plain (spc l) 32 4096 && Fd.trimB l == l
theorem replaceK_spc : ∀ l : Bs, replaceK [9] [32] (count l [9]) l = spc l
  | [] => by
    rw [count_miss (by simp [index])]; rfl
  | b :: l => by
    have ih := replaceK_spc l
    by_cases h : b = 9
    · subst h
      rw [count_cons_eq, Nat.add_comm, replaceK_hit [9] [32] _ _ 0 (by rw [index]; simp [List.isPrefixOf])]
      show [] ++ [32] ++ replaceK [9] [32] (count l [9]) l = _
      rw [ih]; rfl
    · rw [count_cons_ne b 9 l h]
      have hp : ([9] : Bs).isPrefixOf (b :: l) = false := by simp [List.isPrefixOf, Ne.symm h]
      have hs : spc (b :: l) = b :: spc l := by unfold spc; rw [List.map_cons, if_neg h]
      cases hn : count l [9] with
      | zero =>
        rw [hn] at ih
        rw [hs, ← ih]; rfl
      | succ m =>
        obtain ⟨j, hj⟩ := index_of_count (s := l) (old := [9]) (by omega)
        have hj2 : index (b :: l) [9] = ((j + 1 : Nat) : Int) := by
          rw [index, hp, hj]
          have : ((j : Int) == -1) = false := by rw [beq_eq_false_iff_ne]; omega
          simp [this]
        rw [hn, replaceK_hit _ _ _ _ _ hj] at ih
        rw [hs, ← ih, replaceK_hit _ _ _ _ _ hj2, Nat.add_right_comm, List.take_succ_cons, List.drop_succ_cons]
        rfl
theorem replaceAll_spc (l : Bs) : replaceAll l [9] [32] = spc l := by
  unfold replaceAll replace
  rw [if_neg (by decide)]
  have : replaceNum l [9] (-1) = count l [9] := by unfold replaceNum; rw [if_pos (.inl (by decide))]
  rw [this, replaceK_spc]
theorem spc_len (l : Bs) : (spc l).length = l.length := List.length_map ..
def fline (f : Fd.F) : Bs := f.1 ++ ([58, 32] ++ (f.2 ++ crlf))
def putL : Bs → List Fd.F → Option Bs
  | acc, [] => some acc
  | acc, f :: r => if Fd.token f.1 && value f.2 then putL (if acc.length ≤ 8192 then acc ++ fline f else acc) r else none
def putR (first : Bs) (l : List Fd.F) : Nat ⊕ Bs := match putL (first ++ crlf) l with
  | none => .inl 2
  | some acc => if 8192 < (acc ++ crlf).length ∨ 64 < l.length then .inl 3 else .inr (acc ++ crlf)
theorem fline_len (f : Fd.F) (h : (Fd.token f.1 && value f.2) = true) : (fline f).length ≤ 4164 := by
  unfold fline crlf
  rw [Bool.and_eq_true] at h
  have h1 := h.1
  have h2 := h.2
  unfold Fd.token at h1
  unfold value plain at h2
  simp only [Bool.and_eq_true, decide_eq_true_eq, spc_len] at h1 h2
  simp only [List.length_append, List.length_cons, List.length_nil]
  omega
end Go.Proofs.YtocklkaddiomhaaGreatDoor.Hd


namespace Go.Proofs.YtocklkaddiomhaaGreatDoor.E
open Go.RowKit Go.Proofs.YtocklkaddiomhaaGreatDoorW.PrintWords Go.Proofs.YtocklkaddiomhaaGreatDoorW.PrintLast
set_option linter.unusedVariables false
set_option linter.unusedSimpArgs false
def headS : ByteArray := ⟨#[104, 101, 97, 100]⟩
theorem hdwrong_walk (at_ : Int) (t : TypeId) (x : Value) (w : World) :
    Calls Tryz.prog 33 #[.int .i64 at_, .iface t x] w fun e w' => e = .returned (.iface 116 (.pointer (some ⟨w.heap.size, 0, none⟩))) ∧ w' = w.alloc (.cells #[.string headS, .int .i64 at_, .iface t x] 118) := by
  go_enter Tryz.func33, Tryz.ntmps33
  go_wp2
  go_ret
  exact ⟨rfl, rfl⟩
theorem hdwrong_any (at_ : Int) (er : Value) (r : List (ByteArray × Int)) (c : Int) (w : World) (h : ErrIs w er r c) :
    Calls Tryz.prog 33 #[.int .i64 at_, er] w fun e w' => ∃ v, e = .returned v ∧ ErrIs w' v ((headS, at_) :: r) c ∧ Below w.heap.size w w' := by
  obtain ⟨t, x, rfl⟩ := h.iface
  refine (hdwrong_walk at_ t x w).mono ?_
  rintro e w' ⟨rfl, rfl⟩
  have hb : Below w.heap.size w (w.alloc (.cells #[.string headS, .int .i64 at_, .iface t x] 118)) := (Below.refl _ _).alloc (Nat.le_refl _) _
  exact ⟨_, rfl, ⟨w.heap.size, .iface t x, rfl, by simp, by simp, by simp, ErrIs.below hb h⟩, hb⟩
theorem hdwrong_no (at_ c : Int) (w : World) :
    Calls Tryz.prog 33 #[.int .i64 at_, .iface 45 (.int .i64 c)] w fun e w' => ∃ v, e = .returned v ∧ ErrIs w' v [(headS, at_)] c ∧ Below w.heap.size w w' := hdwrong_any at_ _ [] c w rfl
theorem inside_nil (at_ : Int) (w : World) : Calls Tryz.prog 74 #[.int .i64 at_, .nilIface] w fun e w' => e = .returned .nilIface ∧ Below w.heap.size w w' := by
  go_enter Tryz.func74, Tryz.ntmps74
  go_wp2_with (go_at_call 107; refine (as_none' _ _).mono ?_; rintro e w1 ⟨rfl, hb⟩)
  go_ret
  exact ⟨rfl, below_then (below_alloc (Below.refl _ _) _) (below_alloc (Below.refl _ _) _).size hb⟩
theorem inside_err (at_ : Int) (v : Value) (l : ByteArray) (a : Int) (r : List (ByteArray × Int)) (c : Int) (w : World) (hG : EtW w) (h : ErrIs w v ((l, a) :: r) c) :
    Calls Tryz.prog 74 #[.int .i64 at_, v] w fun e w' => ∃ v', e = .returned v' ∧ ErrIs w' v' ((headS, at_) :: (l, a) :: r) c ∧ Below w.heap.size w w' := by
  obtain ⟨b, u, rfl, h0, h1, h2, hr⟩ := h
  have HG := Lib.hid hG
  have HE : Hid (ErrIs w (.iface 116 (.pointer (some ⟨b, 0, none⟩))) ((l, a) :: r) c) := Lib.hid ⟨b, u, rfl, h0, h1, h2, hr⟩
  clear hG h0 h1 h2 hr
  have HB0 : Hid (Below w.heap.size w (w.alloc (.cells #[.pointer none] 116))) := Lib.hid (below_alloc (Below.refl _ _) _)
  go_enter Tryz.func74, Tryz.ntmps74
  go_wp2_with (first | (go_at_call 107; refine (as_fault b w.heap.size _ (EtW.below HG.out HB0.out) (by simp) (by simp)).mono ?_; rintro e w1 ⟨rfl, hc, hb⟩; have HB1 : Hid (Below w.heap.size w w1) := Lib.hid (HB0.out.trans hb); clear hb) | (go_at_call 33; refine (hdwrong_any at_ _ ((l, a) :: r) c _ (ErrIs.below HB1.out HE.out)).mono ?_; rintro e w2 ⟨v', rfl, he, hb2⟩))
  go_ret
  exact ⟨v', rfl, he, below_then HB1.out HB1.out.size hb2⟩
def rdC (rest : ByteArray) (p : Int) : Array Value := #[.string rest, .int .i64 p]
theorem Blk.rd {w : World} {R : Nat} {rest : ByteArray} {p : Int} {T : TypeId} (h : Blk w R (rdC rest p) T) : w.cell? ⟨R, 0, none⟩ = some (.string rest) ∧ w.cell? ⟨R, 1, none⟩ = some (.int .i64 p) ∧ w.frozen? ⟨R, 0, none⟩ = false ∧ w.frozen? ⟨R, 1, none⟩ = false :=
  ⟨h.cell 0 _ rfl, h.cell 1 _ rfl, h.free 0, h.free 1⟩
def cutL (s : ByteArray) : ByteArray := ⟨(Lib.cut s.data.toList [13, 10]).1.toArray⟩
def cutR2 (s : ByteArray) : ByteArray := ⟨(Lib.cut s.data.toList [13, 10]).2.1.toArray⟩
theorem cutL_size (s : ByteArray) : (cutL s).size ≤ s.size := by
  have h : (Lib.cut s.data.toList [13, 10]).1.length ≤ s.data.toList.length := by
    unfold Lib.cut
    split
    · simp only [List.length_take]; omega
    · exact Nat.le_refl _
  rw [← Lib.size_eq] at h
  exact h
theorem line_any (rest : ByteArray) (p R : Nat) (w : World) (hS : StdW w) (hz : rest.size < 4294967281) (hp : p ≤ 1099511627776) (h : Blk w R (rdC rest (p : Int)) 120) :
    Calls Tryz.prog 35 #[.pointer (some ⟨R, 0, none⟩)] w fun e w' => e = .returned (.tuple #[.string (cutL rest), .int .i64 p]) ∧ ∃ w1, Below w.heap.size w w1 ∧ w' = (w1.setCell ⟨R, 0, none⟩ (.string (cutR2 rest))).setCell ⟨R, 1, none⟩ (.int .i64 ((p + (cutL rest).size + 2 : Nat) : Int)) := by
  have HC := Lib.hid (fun W h => Cut.calls rest ⟨#[13, 10]⟩ (cutL rest) (cutR2 rest) _ W h (by unfold Cut.f; rw [if_pos hz]; rfl))
  have hcz := cutL_size rest
  have HS := Lib.hid hS
  have HB := Lib.hid h
  obtain ⟨c0, c1, f0, f1⟩ := h.rd
  generalize cutL rest = l at HC hcz ⊢
  generalize cutR2 rest = r at HC ⊢
  have hw1 : wrap64 ((p : Int) + (l.size : Int)) = ((p + l.size : Nat) : Int) := by unfold wrap64; omega
  have hw2 : wrap64 (((p + l.size : Nat) : Int) + 2) = ((p + l.size + 2 : Nat) : Int) := by unfold wrap64; omega
  clear hS h
  go_enter Tryz.func35, Tryz.ntmps35
  go_wp2_with (go_at_call 70; refine (HC.out _ HS.out).mono ?_; rintro e w1 ⟨rfl, hb⟩; have HB1 := Lib.hid hb; obtain ⟨c0, c1, f0, f1⟩ := (HB.out.below hb).rd; clear hb)
  go_ret2
  exact ⟨rfl, w1, HB1.out, rfl⟩
end Go.Proofs.YtocklkaddiomhaaGreatDoor.E


namespace Go.Proofs.YtocklkaddiomhaaGreatDoor.Hd
open Go.Lib
def broken (l : Bs) : Bool := containsAny l [13, 10]
def fieldR (l : Bs) : Nat ⊕ Fd.F :=
  if !(cut l [58]).2.2 || broken l then .inl 80 else if !Fd.token (cut l [58]).1 then .inl 81 else if !value (Fd.trimB (cut l [58]).2.1) then .inl 83 else .inr ((cut l [58]).1, Fd.trimB (cut l [58]).2.1)
def fieldsR : Nat → Bs → Nat → List Fd.F → (Nat × Nat) ⊕ List Fd.F
  | 0, _, _, out => .inr out
  | k + 1, rest, p, out =>
    if (cut rest crlf).1 = [] then .inr out
    else if out.length = 64 then .inl (p, 3)
    else match fieldR (cut rest crlf).1 with
      | .inl c => .inl (p, c)
      | .inr f => fieldsR k (cut rest crlf).2.1 (p + (cut rest crlf).1.length + 2) (out ++ [f])
theorem index_le (s sub : Bs) : index s sub ≤ (s.length : Int) := by
  rcases index_spec s sub with ⟨h, _⟩ | ⟨i, h, hi, _⟩
  · rw [h]; omega
  · rw [h]; omega
theorem cut_len1 (s sep : Bs) : (cut s sep).1.length ≤ s.length := by
  unfold cut
  split
  · simp only [List.length_take]; omega
  · exact Nat.le_refl _
theorem cut_len2 (s sep : Bs) : (cut s sep).2.1.length ≤ s.length := by
  unfold cut
  split
  · simp only [List.length_drop]; omega
  · exact Nat.zero_le _
end Go.Proofs.YtocklkaddiomhaaGreatDoor.Hd
