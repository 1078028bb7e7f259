/- What the cards of this seat rest on: the walks and plain laws, part 7. -/
import Derived.Test.YtgmpdjjoefkndaaGreatDoorProg
import Derived.Test.YtgmpdjjoefkndaaGreatDoorHR2
import Derived.WalkKit
import Derived.LaidEql
import Derived.Stop.Asserts
import Derived.RowKitTokens
import Derived.Test.YtgmpdjjoefkndaaGreatDoorHR6
import Derived.Shelf.Utf8.AppendRune
import Derived.Shelf.Utf8.RuneCount
import Derived.Shelf.Strings.Builder2Cap
import Derived.Shelf.Bytes.Reset
import Derived.Shelf.Bytes.LenAt
import Derived.Shelf.Bytes.TryGrowAt
import Derived.Shelf.Unicode.Decode
import Derived.Shelf.Strings.RuneCount
import Derived.Shelf.Strings.Explode
import Derived.Shelf.Unicode.DecodeLast
import Derived.Shelf.Strings.BuilderCap
import Derived.Lib.LastIndexByte
import Derived.Deep.RegionWith

namespace Go.Proofs.YtgmpdjjoefkndaaGreatDoor.E
open Go.RowKit Go.Extern.Stop Go.Stop Go.Extern
set_option linter.unusedVariables false
set_option linter.unusedSimpArgs false
theorem As.valueOf27 (t:Addr) (w:World):(ReflectliteValue.unpack (.iface 186 (.pointer (some t)))).run Tryz.prog w
 = .ok (.agg #[.pointer (some ⟨11,186,none⟩),.pointer (some ⟨w.heap.size,0,none⟩),.int .u64 150]) (w.alloc (.cells #[.pointer (some t)] 186)):=by kernel_rfl
theorem As.type27 (a:Addr) (w:World):(ReflectliteValue.methodAny (ReflectliteValue.valueError "reflectlite.Value.Type" 0) (fun t _ _ _=>ReflectliteType.toType t) #[.agg #[.pointer (some ⟨11,186,none⟩),.pointer (some a),.int .u64 150]]).run Tryz.prog w
 = .ok (.iface 207 (.agg #[.pointer (some ⟨11,186,none⟩)])) w:=by kernel_rfl
theorem As.methodKind (h:Value) (w:World):(Go.method 434 207 (.agg #[h]) "Kind").run Tryz.prog w= .ok (260,h) w:=by kernel_rfl
theorem As.kind27 (w:World):((ReflectliteType.abiMethod fun t=>(fun a:Nat=>Value.int IntKind.u8 (a:Int))<$>Rtype.kind t) #[.pointer (some ⟨11,186,none⟩)]).run Tryz.prog w= .ok (.int .u8 22) w:=by kernel_rfl
theorem As.kind25 (w:World):((ReflectliteType.abiMethod fun t=>(fun a:Nat=>Value.int IntKind.u8 (a:Int))<$>Rtype.kind t) #[.pointer (some ⟨11,140,none⟩)]).run Tryz.prog w= .ok (.int .u8 22) w:=by kernel_rfl
theorem rlm (z:Sem Value) (f:TypeId→Addr→Nat→Nat→Sem Value) (v:Value):
 ReflectliteValue.method z f #[v]=(do match ← ReflectliteValue.parts v with|none=>z|some (t,a,fl)=>f t a fl (fl % 32)):=rfl
theorem As.parts27 (a:Addr) (w:World):(ReflectliteValue.parts (.agg #[.pointer (some ⟨11,186,none⟩),.pointer (some a),.int .u64 150])).run Tryz.prog w= .ok (some (186,a,150)) w:=by kernel_rfl
theorem As.isNil27 (a p:Addr) (W:World) (ha:W.cell? a=some (.pointer (some p))):
  (ReflectliteValue.method (ReflectliteValue.valueError "reflectlite.Value.IsNil" 0) ReflectliteValue.isNil #[.agg #[.pointer (some ⟨11,186,none⟩),.pointer (some a),.int .u64 150]]).run Tryz.prog W= .ok (.bool false) W:=by
 rw [rlm]
 simp only [Sem.run_bind,As.parts27,Result.andThen]
 simp [ReflectliteValue.isNil,loadVar,isAgg,underlying,Tryz.underlying186,ha,Result.andThen]
theorem As.methodElem (h:Value) (w:World):(Go.method 434 207 (.agg #[h]) "Elem").run Tryz.prog w= .ok (270,.agg #[h]) w:=by kernel_rfl
theorem As.methodImplements (h:Value) (w:World):(Go.method 434 207 (.agg #[h]) "Implements").run Tryz.prog w= .ok (271,.agg #[h]) w:=by kernel_rfl
theorem As.methodAssignableTo (h:Value) (w:World):(Go.method 434 207 (.agg #[h]) "AssignableTo").run Tryz.prog w= .ok (268,.agg #[h]) w:=by kernel_rfl
theorem As.elem27 (w:World):(ReflectliteType.method ReflectliteType.elem #[.agg #[.pointer (some ⟨11,186,none⟩)]]).run Tryz.prog w= .ok (.iface 207 (.agg #[.pointer (some ⟨11,140,none⟩)])) w:=by kernel_rfl
theorem As.implements25 (w:World):(ReflectliteType.relation "Implements" ReflectliteType.implements_ #[.agg #[.pointer (some ⟨11,140,none⟩)],.iface 207 (.agg #[.pointer (some ⟨11,25,none⟩)])]).run Tryz.prog w= .ok (.bool true) w:=by kernel_rfl
theorem As.typeOf25 (v:Value) (w:World):(ReflectliteType.typeOf #[.iface 140 v]).run Tryz.prog w= .ok (.iface 207 (.agg #[.pointer (some ⟨11,140,none⟩)])) w:=by kernel_rfl
theorem As.assignable25 (w:World):(ReflectliteType.relation "AssignableTo" ReflectliteType.assignableTo #[.agg #[.pointer (some ⟨11,140,none⟩)],.iface 207 (.agg #[.pointer (some ⟨11,140,none⟩)])]).run Tryz.prog w= .ok (.bool true) w:=by kernel_rfl
theorem As.valueOf25 (e:Addr) (w:World):(ReflectliteValue.unpack (.iface 140 (.pointer (some e)))).run Tryz.prog w
 = .ok (.agg #[.pointer (some ⟨11,140,none⟩),.pointer (some ⟨w.heap.size,0,none⟩),.int .u64 150]) (w.alloc (.cells #[.pointer (some e)] 140)):=by kernel_rfl
theorem As.elemOf27 (w:World):(Rtype.elem? 186).run Tryz.prog w= .ok (some 140) w:=by kernel_rfl
theorem As.mk25 (p:Addr) (w:World):(ReflectliteValue.mk 140 p ReflectliteValue.flagAddr).run Tryz.prog w= .ok (.agg #[.pointer (some ⟨11,140,none⟩),.pointer (some p),.int .u64 406]) w:=by kernel_rfl
theorem As.elemV27 (a p:Addr) (W:World) (ha:W.cell? a=some (.pointer (some p))):
  (ReflectliteValue.method (ReflectliteValue.valueError "reflectlite.Value.Elem" 0) ReflectliteValue.elem #[.agg #[.pointer (some ⟨11,186,none⟩),.pointer (some a),.int .u64 150]]).run Tryz.prog W
   = .ok (.agg #[.pointer (some ⟨11,140,none⟩),.pointer (some p),.int .u64 406]) W:=by
 rw [rlm]
 simp only [Sem.run_bind,As.parts27,Result.andThen]
 simp [ReflectliteValue.elem,loadVar,isAgg,underlying,Tryz.underlying186,ha,Result.andThen,As.elemOf27,As.mk25]
theorem rls (v x:Value):ReflectliteValue.set #[v,x]=(do
 let (some (dst,a,fl),some (src,b,_)):=(← ReflectliteValue.parts v,← ReflectliteValue.parts x)
  |unsupported (.noEntry "extern/(internal/reflectlite.Value).Set.zeroValue")
 if fl / ReflectliteValue.flagAddr % 2==0 then unsupported (.noEntry "extern/(internal/reflectlite.Value).Set.unaddressable")
 let val ← loadVar src b
 if ← Rtype.directlyAssignable dst src then storeVar dst a val
 else if ← Rtype.implements dst src then
  if (← Rtype.kind src)==20 then
   match val with
   | .nilIface=>unsupported (.noEntry "extern/reflectlite: a nil value of one interface type handed on as a value of another")
   |_=>storeVar dst a val
  else storeVar dst a (.iface src val)
 else panicString ("reflectlite.Set: value of type " ++(← Rtype.spelt src)++ " is not assignable to type " ++(← Rtype.spelt dst))
 pure (.tuple #[])):=rfl
theorem As.parts25a (a:Addr) (w:World):(ReflectliteValue.parts (.agg #[.pointer (some ⟨11,140,none⟩),.pointer (some a),.int .u64 406])).run Tryz.prog w= .ok (some (140,a,406)) w:=by kernel_rfl
theorem As.parts25 (a:Addr) (w:World):(ReflectliteValue.parts (.agg #[.pointer (some ⟨11,140,none⟩),.pointer (some a),.int .u64 150])).run Tryz.prog w= .ok (some (140,a,150)) w:=by kernel_rfl
theorem As.direct25 (w:World):(Rtype.directlyAssignable 140 140).run Tryz.prog w= .ok true w:=by kernel_rfl
theorem As.set25 (ta b e:Addr) (old:Value) (W:World) (hb:W.cell? b=some (.pointer (some e))) (ht:W.cell? ta=some old) (hf:W.frozen? ta=false):
  (ReflectliteValue.set #[.agg #[.pointer (some ⟨11,140,none⟩),.pointer (some ta),.int .u64 406],.agg #[.pointer (some ⟨11,140,none⟩),.pointer (some b),.int .u64 150]]).run Tryz.prog W
   = .ok (.tuple #[]) (W.setCell ta (.pointer (some e))):=by
 rw [rls]
 simp only [Sem.run_bind,As.parts25a,As.parts25,Result.andThen]
 simp [ReflectliteValue.flagAddr,loadVar,isAgg,underlying,Tryz.underlying140,hb,Result.andThen,As.direct25,storeVar,Value.cells,storeCells,Addr.add]
 rw [run_store Tryz.prog W ta _ _ (by rfl)]
 simp [ht,hf]
set_option maxHeartbeats 4000000 in
theorem as_hit (e t:Addr) (old:Value) (w:World) (hg:w.cell? ⟨1,0,none⟩=some (.iface 207 (.agg #[.pointer (some ⟨11,25,none⟩)]))) (ht0:w.cell? t=some old) (hf0:w.frozen? t=false):
  Calls Tryz.prog 136 #[.iface 140 (.pointer (some e)),.iface 186 (.pointer (some t))] w fun ev w'=>ev= .returned (.bool true)∧w'=((((w.alloc (.cells #[.pointer (some t)] 186)).alloc (.cells #[.pointer (some ⟨11,186,none⟩),.pointer (some ⟨w.heap.size,0,none⟩),.int .u64 150] 238)).alloc (.cells #[.pointer (some ⟨11,186,none⟩),.pointer (some ⟨w.heap.size,0,none⟩),.int .u64 150] 238)).alloc (.cells #[.pointer (some e)] 140)).setCell t (.pointer (some e)):=by
 have h6:= @run_callFunc_extern Tryz.prog 180 _ (fun args=>ReflectliteValue.unpack (args.getD 0 (.tuple #[]))) Tryz.func180 (by kernel_rfl) (by kernel_rfl) (by kernel_rfl) (by kernel_rfl)
 have h7:= @run_callFunc_extern Tryz.prog 181 _ (ReflectliteValue.methodAny (ReflectliteValue.valueError "reflectlite.Value.Type" 0) (fun t _ _ _=>ReflectliteType.toType t)) Tryz.func181 (by kernel_rfl) (by kernel_rfl) (by kernel_rfl) (by kernel_rfl)
 have h8:= @run_callFunc_extern Tryz.prog 182 _ (ReflectliteValue.method (ReflectliteValue.valueError "reflectlite.Value.IsNil" 0) ReflectliteValue.isNil) Tryz.func182 (by kernel_rfl) (by kernel_rfl) (by kernel_rfl) (by kernel_rfl)
 have h27:= @run_callFunc_extern Tryz.prog 260 _ (ReflectliteType.abiMethod fun t=>do pure (.int .u8 (← Rtype.kind t))) Tryz.func260 (by kernel_rfl) (by kernel_rfl) (by kernel_rfl) (by kernel_rfl)
 have h37:= @run_callFunc_extern Tryz.prog 270 _ (ReflectliteType.method ReflectliteType.elem) Tryz.func270 (by kernel_rfl) (by kernel_rfl) (by kernel_rfl) (by kernel_rfl)
 have h38:= @run_callFunc_extern Tryz.prog 271 _ (ReflectliteType.relation "Implements" ReflectliteType.implements_) Tryz.func271 (by kernel_rfl) (by kernel_rfl) (by kernel_rfl) (by kernel_rfl)
 have h10:= @run_callFunc_extern Tryz.prog 109 _ ReflectliteType.typeOf Tryz.func109 (by kernel_rfl) (by kernel_rfl) (by kernel_rfl) (by kernel_rfl)
 have h35:= @run_callFunc_extern Tryz.prog 268 _ (ReflectliteType.relation "AssignableTo" ReflectliteType.assignableTo) Tryz.func268 (by kernel_rfl) (by kernel_rfl) (by kernel_rfl) (by kernel_rfl)
 have h11:= @run_callFunc_extern Tryz.prog 208 _ (ReflectliteValue.method (ReflectliteValue.valueError "reflectlite.Value.Elem" 0) ReflectliteValue.elem) Tryz.func208 (by kernel_rfl) (by kernel_rfl) (by kernel_rfl) (by kernel_rfl)
 have h12:= @run_callFunc_extern Tryz.prog 209 _ ReflectliteValue.set Tryz.func209 (by kernel_rfl) (by kernel_rfl) (by kernel_rfl) (by kernel_rfl)
 have tO:=As.typeOf25
 have mA:=As.methodAssignableTo
 have a25:=As.assignable25
 have v25:=As.valueOf25
 have f6:=As.valueOf27
 have f7:=As.type27
 have mK:=As.methodKind
 have mE:=As.methodElem
 have mI:=As.methodImplements
 have k27:=As.kind27
 have k25:=As.kind25
 have e27:=As.elem27
 have i25:=As.implements25
 have n8:=As.isNil27 ⟨w.heap.size,0,none⟩ t ((w.alloc (.cells #[.pointer (some t)] 186)).alloc (.cells #[.pointer (some ⟨11,186,none⟩),.pointer (some ⟨w.heap.size,0,none⟩),.int .u64 150] 238)) (by simp)
 have hlt:1<w.heap.size:=World.block_lt_of_cell? _ _ hg
 have hg2:((w.alloc (.cells #[.pointer (some t)] 186)).alloc (.cells #[.pointer (some ⟨11,186,none⟩),.pointer (some ⟨w.heap.size,0,none⟩),.int .u64 150] 238)).cell? ⟨1,0,none⟩=some (.iface 207 (.agg #[.pointer (some ⟨11,25,none⟩)])):=by
  rw [World.cell?_alloc_lt _ _ ⟨1,0,none⟩ (by simp<;>omega),World.cell?_alloc_lt _ _ ⟨1,0,none⟩ hlt];exact hg
 have htl:t.block<w.heap.size:=by
  rcases Nat.lt_or_ge t.block w.heap.size with h|h
  ·exact h
  ·simp [World.cell?,Array.getElem?_eq_none h] at ht0
 have el:=As.elemV27 ⟨w.heap.size,0,none⟩ t (((w.alloc (.cells #[.pointer (some t)] 186)).alloc (.cells #[.pointer (some ⟨11,186,none⟩),.pointer (some ⟨w.heap.size,0,none⟩),.int .u64 150] 238)).alloc (.cells #[.pointer (some ⟨11,186,none⟩),.pointer (some ⟨w.heap.size,0,none⟩),.int .u64 150] 238)) (by rw [World.cell?_alloc_lt _ _ ⟨w.heap.size,0,none⟩ (by simp;omega)];simp)
 have st:=As.set25 t ⟨w.heap.size+1+1+1,0,none⟩ e old ((((w.alloc (.cells #[.pointer (some t)] 186)).alloc (.cells #[.pointer (some ⟨11,186,none⟩),.pointer (some ⟨w.heap.size,0,none⟩),.int .u64 150] 238)).alloc (.cells #[.pointer (some ⟨11,186,none⟩),.pointer (some ⟨w.heap.size,0,none⟩),.int .u64 150] 238)).alloc (.cells #[.pointer (some e)] 140))
  (by rw [World.cell?_alloc_at _ _ _ _ (by simp)];rfl)
  (by rw [World.cell?_alloc_lt _ _ t (by simp;omega),World.cell?_alloc_lt _ _ t (by simp;omega),World.cell?_alloc_lt _ _ t (by simp;omega),World.cell?_alloc_lt _ _ t htl];exact ht0)
  (by rw [World.frozen?_alloc_old _ _ t (by simp;omega),World.frozen?_alloc_old _ _ t (by simp;omega),World.frozen?_alloc_old _ _ t (by simp;omega),World.frozen?_alloc_old _ _ t (Nat.ne_of_lt htl)];exact hf0)
 go_enter Tryz.func136,Tryz.ntmps136
 go_wp2
 refine wp_loop_rounds 1 ?_
 rw [rounds_succ]
 go_wp2
 go_ret
 exact ⟨rfl,rfl⟩
def EtW (w:World):Prop:=w.cell? ⟨1,0,none⟩=some (.iface 207 (.agg #[.pointer (some ⟨11,25,none⟩)]))
theorem EtW.below {w w':World} (h:EtW w) (hb:Below w.heap.size w w'):EtW w':=(hb.cell (World.block_lt_of_cell? _ _ h)).trans h
theorem as_fault (b t:Nat) (w:World) (hg:EtW w) (ht:w.cell? ⟨t,0,none⟩=some (.pointer none)) (hf:w.frozen? ⟨t,0,none⟩=false):
  Calls Tryz.prog 136 #[.iface 140 (.pointer (some ⟨b,0,none⟩)),.iface 186 (.pointer (some ⟨t,0,none⟩))] w fun e w'=>e= .returned (.bool true)∧w'.cell? ⟨t,0,none⟩=some (.pointer (some ⟨b,0,none⟩))∧Below t w w':=by
 refine (as_hit ⟨b,0,none⟩ ⟨t,0,none⟩ (.pointer none) w hg ht hf).mono ?_
 rintro e w' ⟨rfl,rfl⟩
 have hl:t<w.heap.size:=World.block_lt_of_cell? _ _ ht
 refine ⟨rfl,?_,?_⟩
 ·refine World.cell?_setCell_same _ _ _ (u:= .pointer none) ?_
  rw [World.cell?_alloc_lt _ _ _ (by simp;omega),World.cell?_alloc_lt _ _ _ (by simp;omega),World.cell?_alloc_lt _ _ _ (by simp;omega),World.cell?_alloc_lt _ _ _ hl];exact ht
 ·refine Below.setCell (p:=⟨t,0,none⟩) ?_ (show t≤t from Nat.le_refl _) _
  exact ((((Below.refl _ _).alloc (Nat.le_of_lt hl) _).alloc (by simp;omega) _).alloc (by simp;omega) _).alloc (by simp;omega) _
theorem as_none (t:Value) (w:World):Calls Tryz.prog 136 #[.nilIface,t] w fun e w'=>e= .returned (.bool false)∧w=w':=by
 go_enter Tryz.func136,Tryz.ntmps136
 go_wp2
 go_ret
 exact ⟨rfl,rfl⟩
end Go.Proofs.YtgmpdjjoefkndaaGreatDoor.E

namespace Go.Proofs.YtgmpdjjoefkndaaGreatDoor.E
open Go.RowKit Go.Proofs.YtgmpdjjoefkndaaGreatDoorW.PrintWords Go.Proofs.YtgmpdjjoefkndaaGreatDoorW.PrintLast
set_option linter.unusedVariables false
set_option linter.unusedSimpArgs false
def dC (a b c d:Int) (n:ByteArray) (po:Int):Array Value:= #[.int .u8 a,.int .u8 b,.int .u8 c,.int .u8 d,.string n,.int .i64 po]
theorem Blk.dids {w:World} {R:Nat} {T:TypeId} (h:Blk w R (dC 0 0 0 0 ⟨#[]⟩ 0) T):
  w.cell? ⟨R,0,none⟩=some (.int .u8 0)∧w.cell? ⟨R,1,none⟩=some (.int .u8 0)∧w.cell? ⟨R,2,none⟩=some (.int .u8 0)∧w.cell? ⟨R,3,none⟩=some (.int .u8 0)∧w.cell? ⟨R,4,none⟩=some (.string ⟨#[]⟩)∧w.cell? ⟨R,5,none⟩=some (.int .i64 0)∧
  w.frozen? ⟨R,0,none⟩=false∧w.frozen? ⟨R,1,none⟩=false∧w.frozen? ⟨R,2,none⟩=false∧w.frozen? ⟨R,3,none⟩=false∧w.frozen? ⟨R,4,none⟩=false∧w.frozen? ⟨R,5,none⟩=false∧
  w.setCell ⟨R,0,none⟩ (.int .u8 0)=w∧w.setCell ⟨R,1,none⟩ (.int .u8 0)=w∧w.setCell ⟨R,2,none⟩ (.int .u8 0)=w∧w.setCell ⟨R,3,none⟩ (.int .u8 0)=w∧w.setCell ⟨R,4,none⟩ (.string ⟨#[]⟩)=w∧w.setCell ⟨R,5,none⟩ (.int .i64 0)=w:=
 ⟨h.cell 0 _ rfl,h.cell 1 _ rfl,h.cell 2 _ rfl,h.cell 3 _ rfl,h.cell 4 _ rfl,h.cell 5 _ rfl,h.free 0,h.free 1,h.free 2,h.free 3,h.free 4,h.free 5,
  setCell_id _ _ _ _ (h.cell 0 _ rfl),setCell_id _ _ _ _ (h.cell 1 _ rfl),setCell_id _ _ _ _ (h.cell 2 _ rfl),setCell_id _ _ _ _ (h.cell 3 _ rfl),setCell_id _ _ _ _ (h.cell 4 _ rfl),setCell_id _ _ _ _ (h.cell 5 _ rfl)⟩
theorem Blk.dix {w:World} {R:Nat} {T:TypeId} {a b c d:Int} {n:ByteArray} {po:Int} (h:Blk w R (dC a b c d n po) T):
  w.cell? ⟨R,0,none⟩=some (.int .u8 a)∧w.cell? ⟨R,1,none⟩=some (.int .u8 b)∧w.cell? ⟨R,2,none⟩=some (.int .u8 c)∧w.cell? ⟨R,3,none⟩=some (.int .u8 d)∧w.cell? ⟨R,4,none⟩=some (.string n)∧w.cell? ⟨R,5,none⟩=some (.int .i64 po)∧
  w.frozen? ⟨R,0,none⟩=false∧w.frozen? ⟨R,1,none⟩=false∧w.frozen? ⟨R,2,none⟩=false∧w.frozen? ⟨R,3,none⟩=false∧w.frozen? ⟨R,4,none⟩=false∧w.frozen? ⟨R,5,none⟩=false:=
 ⟨h.cell 0 _ rfl,h.cell 1 _ rfl,h.cell 2 _ rfl,h.cell 3 _ rfl,h.cell 4 _ rfl,h.cell 5 _ rfl,h.free 0,h.free 1,h.free 2,h.free 3,h.free 4,h.free 5⟩
theorem as_none' (t:Value) (w:World):Calls Tryz.prog 136 #[.nilIface,t] w fun e w'=>e= .returned (.bool false)∧Below w.heap.size w w':=
 (as_none t w).mono (fun e w' ⟨h,hw⟩=>⟨h,hw▸Below.refl _ _⟩)
def zDest:Value:= .agg #[.int .u8 0,.int .u8 0,.int .u8 0,.int .u8 0,.string ⟨#[]⟩,.int .i64 0]
set_option maxRecDepth 100000 in
set_option maxHeartbeats 4000000 in
theorem pdest_long (s:ByteArray) (hs:259<s.size) (hs2:s.size≤281474976710656) (w:World):
  Calls Tryz.prog 95 #[.string s] w fun e w'=> ∃ v,e= .returned (.tuple #[zDest,v])∧ErrIs w' v [(hostS,259)] 3∧Below w.heap.size w w':=by
 have HE: ∀ W,ErrIs W (.iface 30 (.int .i64 3)) [] 3:=fun W=>rfl
 have HW:=Lib.hid (fun W=>wrong_any 259 _ [] 3 W (HE W))
 clear HE
 unfold zDest
 have hs1:(259:Int)<(s.size:Int):=by omega
 go_enter Tryz.func95,Tryz.ntmps95
 go_wp2_with (first|(go_at_call 133;refine (HW.out _).mono ?_;rintro e w1 ⟨v,rfl,he,hb⟩;obtain ⟨c0,c1,c2,c3,c4,c5,f0,f1,f2,f3,f4,f5,s0,s1,s2,s3,s4,s5⟩:=((Blk.new w (dC 0 0 0 0 ⟨#[]⟩ 0) 41).below hb).dids))
 refine bodyPost_ret (v:= .tuple #[.agg #[.int .u8 0,.int .u8 0,.int .u8 0,.int .u8 0,.string ⟨#[]⟩,.int .i64 0],v]) (by simp [results,Tryz.results95,go_sem,c0,c1,c2,c3,c4,c5]) rfl ⟨v,rfl,?_,?_⟩
 ·exact he
 ·exact below_then (below_alloc (Below.refl _ _) _) (below_alloc (Below.refl _ _) _).size hb
set_option maxRecDepth 100000 in
set_option maxHeartbeats 4000000 in
theorem pdest_none (s:ByteArray) (hs:s.size≤259) (i:Int) (hi:i<0) (HL: ∀ W,StdW W→Calls Tryz.prog 134 #[.string s,.int .u8 58] W fun e w'=>e= .returned (.int .i64 i)∧Below W.heap.size W w') (w:World) (hS:StdW w):
  Calls Tryz.prog 95 #[.string s] w fun e w'=> ∃ v,e= .returned (.tuple #[zDest,v])∧ErrIs w' v [(hostS,(s.size:Int))] 62∧Below w.heap.size w w':=by
 have HE: ∀ W,ErrIs W (.iface 30 (.int .i64 62)) [] 62:=fun W=>rfl
 have HW:=Lib.hid (fun W=>wrong_any (s.size:Int) _ [] 62 W (HE W))
 have HL':=Lib.hid HL
 have HS:=Lib.hid hS
 clear HE HL hS
 unfold zDest
 have hs1:(s.size:Int)≤259:=by omega
 go_enter Tryz.func95,Tryz.ntmps95
 go_wp2_with (first|(go_at_call 134;refine (HL'.out _ (StdW.below HS.out (below_alloc (Below.refl _ _) _))).mono ?_;rintro e w2 ⟨rfl,hb2⟩;have HB2:Hid (Below w.heap.size w w2):=Lib.hid (below_then (below_alloc (Below.refl _ _) _) (below_alloc (Below.refl _ _) _).size hb2);have HZ2:=Lib.hid ((Blk.new w (dC 0 0 0 0 ⟨#[]⟩ 0) 41).below hb2);clear hb2)|(go_at_call 133;refine (HW.out _).mono ?_;rintro e w1 ⟨v,rfl,he,hb⟩;obtain ⟨c0,c1,c2,c3,c4,c5,f0,f1,f2,f3,f4,f5,s0,s1,s2,s3,s4,s5⟩:=(HZ2.out.below hb).dids))
 refine bodyPost_ret (v:= .tuple #[.agg #[.int .u8 0,.int .u8 0,.int .u8 0,.int .u8 0,.string ⟨#[]⟩,.int .i64 0],v]) (by simp [results,Tryz.results95,go_sem,c0,c1,c2,c3,c4,c5]) rfl ⟨v,rfl,?_,?_⟩
 ·exact he
 ·exact below_then HB2.out HB2.out.size hb
set_option maxRecDepth 100000 in
set_option maxHeartbeats 4000000 in
theorem pdest_host (s:ByteArray) (hs:s.size≤259) (i:Nat) (hi:i<s.size) (ch:List (ByteArray×Int)) (co:Int) (HL: ∀ W,StdW W→Calls Tryz.prog 134 #[.string s,.int .u8 58] W fun e w'=>e= .returned (.int .i64 i)∧Below W.heap.size W w')
  (HP: ∀ W,StdW W→Calls Tryz.prog 99 #[.string (s.extract 0 i)] W fun e w'=> ∃ v,e= .returned (.tuple #[.agg #[.int .u8 0,.int .u8 0,.int .u8 0,.int .u8 0,.string ⟨#[]⟩],v])∧ErrIs w' v ch co∧Below W.heap.size W w') (w:World) (hS:StdW w):
  Calls Tryz.prog 95 #[.string s] w fun e w'=> ∃ v,e= .returned (.tuple #[zDest,v])∧ErrIs w' v ch co∧Below w.heap.size w w':=by
 have HL':=Lib.hid HL
 have HP':=Lib.hid HP
 have HS:=Lib.hid hS
 clear HL HP hS
 unfold zDest
 have hs1:(s.size:Int)≤259:=by omega
 have hi0:(0:Int)≤(i:Int):=Int.natCast_nonneg _
 have hi1:(i:Int)≤(s.size:Int):=by omega
 go_enter Tryz.func95,Tryz.ntmps95
 go_wp2_with (first|(go_at_call 134;refine (HL'.out _ (StdW.below HS.out (below_alloc (Below.refl _ _) _))).mono ?_;rintro e w2 ⟨rfl,hb2⟩;have HB2:Hid (Below w.heap.size w w2):=Lib.hid (below_then (below_alloc (Below.refl _ _) _) (below_alloc (Below.refl _ _) _).size hb2);have HZ2:=Lib.hid ((Blk.new w (dC 0 0 0 0 ⟨#[]⟩ 0) 41).below hb2);clear hb2)|(go_at_call 99;refine (HP'.out _ (StdW.below HS.out HB2.out)).mono ?_;rintro e w1 ⟨v,rfl,he,hb⟩;obtain ⟨tv,xv,rfl⟩:=he.iface;have HER:=Lib.hid he;clear he;have hz:=HZ2.out.below hb;obtain ⟨c0,c1,c2,c3,c4,c5,f0,f1,f2,f3,f4,f5,s0,s1,s2,s3,s4,s5⟩:=hz.dids;obtain ⟨d0,d1,d2,d3,d4,d5,g0,g1,g2,g3,g4,g5,t0,t1,t2,t3,t4,t5⟩:=(hz.old (.cells #[.int .u8 0,.int .u8 0,.int .u8 0,.int .u8 0,.string ⟨#[]⟩] 39)).dids;clear hz))
 refine bodyPost_ret (v:= .tuple #[.agg #[.int .u8 0,.int .u8 0,.int .u8 0,.int .u8 0,.string ⟨#[]⟩,.int .i64 0],.iface tv xv]) (by simp [results,Tryz.results95,go_sem,c0,c1,c2,c3,c4,c5,d0,d1,d2,d3,d4,d5]) rfl ⟨_,rfl,?_,?_⟩
 ·exact ErrIs.below (below_alloc (Below.refl _ _) _) HER.out
 ·exact below_alloc (below_then HB2.out HB2.out.size hb) _
set_option maxRecDepth 100000 in
set_option maxHeartbeats 8000000 in
theorem pdest_port (s:ByteArray) (hs:s.size≤259) (i:Nat) (hi:i<s.size) (a b c d:Int) (n:ByteArray) (co:Int) (HL: ∀ W,StdW W→Calls Tryz.prog 134 #[.string s,.int .u8 58] W fun e w'=>e= .returned (.int .i64 i)∧Below W.heap.size W w')
  (HP: ∀ W,StdW W→Calls Tryz.prog 99 #[.string (s.extract 0 i)] W fun e w'=>e= .returned (.tuple #[.agg #[.int .u8 a,.int .u8 b,.int .u8 c,.int .u8 d,.string n],.nilIface])∧Below W.heap.size W w')
  (HQ: ∀ W,StdW W→Calls Tryz.prog 135 #[.string (s.extract (i+1) s.size)] W fun e w'=> ∃ v,e= .returned (.tuple #[.int .i64 0,v])∧ErrIs w' v [(hostS,0)] co∧Below W.heap.size W w') (w:World) (hS:StdW w) (hG:EtW w):
  Calls Tryz.prog 95 #[.string s] w fun e w'=> ∃ v,e= .returned (.tuple #[zDest,v])∧ErrIs w' v [(hostS,(i:Int)+1),(hostS,0)] co∧Below w.heap.size w w':=by
 have HL':=Lib.hid HL
 have HP':=Lib.hid HP
 have HQ':=Lib.hid HQ
 have HS:=Lib.hid hS
 have HG:=Lib.hid hG
 have HW:=Lib.hid (fun W v r c h=>wrong_any ((i:Int)+1) v r c W h)
 clear HL HP HQ hS hG
 unfold zDest
 have hs1:(s.size:Int)≤259:=by omega
 have hi0:(0:Int)≤(i:Int):=Int.natCast_nonneg _
 have hi1:(i:Int)+1≤(s.size:Int):=by omega
 have hi2:(i:Int)≤(s.size:Int):=by omega
 go_enter Tryz.func95,Tryz.ntmps95
 go_wp2_with (first|(go_at_call 134;refine (HL'.out _ (StdW.below HS.out (below_alloc (Below.refl _ _) _))).mono ?_;rintro e w2 ⟨rfl,hb2⟩;have HB2:Hid (Below w.heap.size w w2):=Lib.hid (below_then (below_alloc (Below.refl _ _) _) (below_alloc (Below.refl _ _) _).size hb2);have HZ2:=Lib.hid ((Blk.new w (dC 0 0 0 0 ⟨#[]⟩ 0) 41).below hb2);clear hb2)|(go_at_call 99;refine (HP'.out _ (StdW.below HS.out HB2.out)).mono ?_;rintro e w3 ⟨rfl,hb3⟩;have HB3:Hid (Below w.heap.size w (w3.alloc (.cells #[.int .u8 a,.int .u8 b,.int .u8 c,.int .u8 d,.string n] 39))):=Lib.hid (below_alloc (below_then HB2.out HB2.out.size hb3) _);have HZ3:=Lib.hid ((HZ2.out.below hb3).old (.cells #[.int .u8 a,.int .u8 b,.int .u8 c,.int .u8 d,.string n] 39));have HH3:=Lib.hid (Blk.new w3 (hC a b c d n) 39);clear hb3)|(go_at_call 135;refine (HQ'.out _ (StdW.below HS.out HB3.out)).mono ?_;rintro e w4 ⟨v,rfl,he,hb4⟩;have HB4:Hid (Below w.heap.size w w4):=Lib.hid (below_then HB3.out HB3.out.size hb4);have HZ4:=Lib.hid (HZ3.out.below hb4);obtain ⟨eb,eu,rfl,-⟩:=id he;have HER:=Lib.hid he;clear he hb4)|(go_at_call 136;refine (as_fault eb w4.heap.size _ (EtW.below HG.out (below_alloc HB4.out _)) (by simp) (by simp)).mono ?_;rintro e w5 ⟨rfl,hc5,hb5⟩;have HB45:Hid (Below w4.heap.size w4 w5):=Lib.hid ((below_alloc (Below.refl _ _) _).trans hb5);clear hb5)|(go_at_call 133;refine (HW.out _ _ _ _ (ErrIs.below HB45.out HER.out)).mono ?_;rintro e w6 ⟨v6,rfl,he6,hb6⟩;obtain ⟨c0,c1,c2,c3,c4,c5,f0,f1,f2,f3,f4,f5,s0,s1,s2,s3,s4,s5⟩:=((HZ4.out.below HB45.out).below hb6).dids))
 refine bodyPost_ret (v:= .tuple #[.agg #[.int .u8 0,.int .u8 0,.int .u8 0,.int .u8 0,.string ⟨#[]⟩,.int .i64 0],v6]) (by simp [results,Tryz.results95,go_sem,c0,c1,c2,c3,c4,c5]) rfl ⟨v6,rfl,?_,?_⟩
 ·exact he6
 ·exact below_then (below_then HB4.out HB4.out.size HB45.out) (below_then HB4.out HB4.out.size HB45.out).size hb6
set_option maxRecDepth 100000 in
set_option maxHeartbeats 8000000 in
theorem pdest_ok (s:ByteArray) (hs:s.size≤259) (i:Nat) (hi:i<s.size) (a b c d:Int) (n:ByteArray) (po:Int) (HL: ∀ W,StdW W→Calls Tryz.prog 134 #[.string s,.int .u8 58] W fun e w'=>e= .returned (.int .i64 i)∧Below W.heap.size W w')
  (HP: ∀ W,StdW W→Calls Tryz.prog 99 #[.string (s.extract 0 i)] W fun e w'=>e= .returned (.tuple #[.agg #[.int .u8 a,.int .u8 b,.int .u8 c,.int .u8 d,.string n],.nilIface])∧Below W.heap.size W w')
  (HQ: ∀ W,StdW W→Calls Tryz.prog 135 #[.string (s.extract (i+1) s.size)] W fun e w'=>e= .returned (.tuple #[.int .i64 po,.nilIface])∧Below W.heap.size W w') (w:World) (hS:StdW w):
  Calls Tryz.prog 95 #[.string s] w fun e w'=>e= .returned (.tuple #[.agg (dC a b c d n po),.nilIface])∧Below w.heap.size w w':=by
 have HL':=Lib.hid HL
 have HP':=Lib.hid HP
 have HQ':=Lib.hid HQ
 have HS:=Lib.hid hS
 clear HL HP HQ hS
 unfold dC
 have hs1:(s.size:Int)≤259:=by omega
 have hi0:(0:Int)≤(i:Int):=Int.natCast_nonneg _
 have hi1:(i:Int)+1≤(s.size:Int):=by omega
 have hi2:(i:Int)≤(s.size:Int):=by omega
 go_enter Tryz.func95,Tryz.ntmps95
 go_wp2_with (first|(go_at_call 134;refine (HL'.out _ (StdW.below HS.out (below_alloc (Below.refl _ _) _))).mono ?_;rintro e w2 ⟨rfl,hb2⟩;have HB2:Hid (Below w.heap.size w w2):=Lib.hid (below_then (below_alloc (Below.refl _ _) _) (below_alloc (Below.refl _ _) _).size hb2);have HZ2:=Lib.hid ((Blk.new w (dC 0 0 0 0 ⟨#[]⟩ 0) 41).below hb2);clear hb2)|(go_at_call 99;refine (HP'.out _ (StdW.below HS.out HB2.out)).mono ?_;rintro e w3 ⟨rfl,hb3⟩;have HB3:Hid (Below w.heap.size w (w3.alloc (.cells #[.int .u8 a,.int .u8 b,.int .u8 c,.int .u8 d,.string n] 39))):=Lib.hid (below_alloc (below_then HB2.out HB2.out.size hb3) _);have HZ3:=Lib.hid ((HZ2.out.below hb3).old (.cells #[.int .u8 a,.int .u8 b,.int .u8 c,.int .u8 d,.string n] 39));have HH3:=Lib.hid (Blk.new w3 (hC a b c d n) 39);clear hb3)|(go_at_call 135;refine (HQ'.out _ (StdW.below HS.out HB3.out)).mono ?_;rintro e w4 ⟨rfl,hb4⟩;have HB4:Hid (Below w.heap.size w w4):=Lib.hid (below_then HB3.out HB3.out.size hb4);have HZ4:=Lib.hid (HZ3.out.below hb4);have HH4:=Lib.hid (HH3.out.below hb4);clear hb4)|(go_at_call 136;refine (as_none' _ _).mono ?_;rintro e w5 ⟨rfl,hb5⟩;have HB5:Hid (Below w.heap.size w w5):=Lib.hid (below_then (below_alloc HB4.out _) (below_alloc HB4.out _).size hb5);have HZ5:=Lib.hid ((HZ4.out.old (.cells #[.pointer none] 140)).below hb5);have HH5:=Lib.hid ((HH4.out.old (.cells #[.pointer none] 140)).below hb5);have hlt:=HZ5.out.lt;obtain ⟨h0,h1,h2,h3,h4,-⟩:=HH5.out.five;obtain ⟨c0,c1,c2,c3,c4,c5,f0,f1,f2,f3,f4,f5⟩:=HZ5.out.dix;clear hb5))
 obtain ⟨e0,e1,e2,e3,e4,e5,-⟩:=(show Blk _ _ (dC a b c d n po) _ from ((((((HZ5.out.set 0 (.int .u8 a)).set 1 (.int .u8 b)).set 2 (.int .u8 c)).set 3 (.int .u8 d)).set 4 (.string n)).set 5 (.int .i64 po))).dix
 refine bodyPost_ret (v:= .tuple #[.agg #[.int .u8 a,.int .u8 b,.int .u8 c,.int .u8 d,.string n,.int .i64 po],.nilIface]) (by simp [results,Tryz.results95,go_sem,e0,e1,e2,e3,e4,e5]) rfl ⟨rfl,?_⟩
 repeat (refine Below.setCell ?_ (by first|exact Nat.le_refl _|exact Nat.le_of_lt hlt) _)
 exact HB5.out
def headS:ByteArray:=⟨#[104,101,97,100]⟩
theorem hdwrong_walk (at_:Int) (t:TypeId) (x:Value) (w:World):
  Calls Tryz.prog 45 #[.int .i64 at_,.iface t x] w fun e w'=>e= .returned (.iface 140 (.pointer (some ⟨w.heap.size,0,none⟩)))∧w'=w.alloc (.cells #[.string headS,.int .i64 at_,.iface t x] 142):=by
 go_enter Tryz.func45,Tryz.ntmps45
 go_wp2
 go_ret
 exact ⟨rfl,rfl⟩
theorem hdwrong_any (at_:Int) (er:Value) (r:List (ByteArray×Int)) (c:Int) (w:World) (h:ErrIs w er r c):
  Calls Tryz.prog 45 #[.int .i64 at_,er] w fun e w'=> ∃ v,e= .returned v∧ErrIs w' v ((headS,at_)::r) c∧Below w.heap.size w w':=by
 obtain ⟨t,x,rfl⟩:=h.iface
 refine (hdwrong_walk at_ t x w).mono ?_
 rintro e w' ⟨rfl,rfl⟩
 have hb:Below w.heap.size w (w.alloc (.cells #[.string headS,.int .i64 at_,.iface t x] 142)):=(Below.refl _ _).alloc (Nat.le_refl _) _
 exact ⟨_,rfl,⟨w.heap.size,.iface t x,rfl,by simp,by simp,by simp,ErrIs.below hb h⟩,hb⟩
theorem hdwrong_no (at_ c:Int) (w:World):
 Calls Tryz.prog 45 #[.int .i64 at_,.iface 30 (.int .i64 c)] w fun e w'=> ∃ v,e= .returned v∧ErrIs w' v [(headS,at_)] c∧Below w.heap.size w w':=hdwrong_any at_ _ [] c w rfl
theorem inside_nil (at_:Int) (w:World):Calls Tryz.prog 96 #[.int .i64 at_,.nilIface] w fun e w'=>e= .returned .nilIface∧Below w.heap.size w w':=by
 go_enter Tryz.func96,Tryz.ntmps96
 go_wp2_with (go_at_call 136;refine (as_none' _ _).mono ?_;rintro e w1 ⟨rfl,hb⟩)
 go_ret
 exact ⟨rfl,below_then (below_alloc (Below.refl _ _) _) (below_alloc (Below.refl _ _) _).size hb⟩
theorem inside_err (at_:Int) (v:Value) (l:ByteArray) (a:Int) (r:List (ByteArray×Int)) (c:Int) (w:World) (hG:EtW w) (h:ErrIs w v ((l,a)::r) c):
  Calls Tryz.prog 96 #[.int .i64 at_,v] w fun e w'=> ∃ v',e= .returned v'∧ErrIs w' v' ((headS,at_)::(l,a)::r) c∧Below w.heap.size w w':=by
 obtain ⟨b,u,rfl,h0,h1,h2,hr⟩:=h
 have HG:=Lib.hid hG
 have HE:Hid (ErrIs w (.iface 140 (.pointer (some ⟨b,0,none⟩))) ((l,a)::r) c):=Lib.hid ⟨b,u,rfl,h0,h1,h2,hr⟩
 clear hG h0 h1 h2 hr
 have HB0:Hid (Below w.heap.size w (w.alloc (.cells #[.pointer none] 140))):=Lib.hid (below_alloc (Below.refl _ _) _)
 go_enter Tryz.func96,Tryz.ntmps96
 go_wp2_with (first|(go_at_call 136;refine (as_fault b w.heap.size _ (EtW.below HG.out HB0.out) (by simp) (by simp)).mono ?_;rintro e w1 ⟨rfl,hc,hb⟩;have HB1:Hid (Below w.heap.size w w1):=Lib.hid (HB0.out.trans hb);clear hb)|(go_at_call 45;refine (hdwrong_any at_ _ ((l,a)::r) c _ (ErrIs.below HB1.out HE.out)).mono ?_;rintro e w2 ⟨v',rfl,he,hb2⟩))
 go_ret
 exact ⟨v',rfl,he,below_then HB1.out HB1.out.size hb2⟩
def rdC (rest:ByteArray) (p:Int):Array Value:= #[.string rest,.int .i64 p]
theorem Blk.rd {w:World} {R:Nat} {rest:ByteArray} {p:Int} {T:TypeId} (h:Blk w R (rdC rest p) T):w.cell? ⟨R,0,none⟩=some (.string rest)∧w.cell? ⟨R,1,none⟩=some (.int .i64 p)∧w.frozen? ⟨R,0,none⟩=false∧w.frozen? ⟨R,1,none⟩=false:=
 ⟨h.cell 0 _ rfl,h.cell 1 _ rfl,h.free 0,h.free 1⟩
def cutL (s:ByteArray):ByteArray:=⟨(Lib.cut s.data.toList [13,10]).1.toArray⟩
def cutR2 (s:ByteArray):ByteArray:=⟨(Lib.cut s.data.toList [13,10]).2.1.toArray⟩
theorem cutL_size (s:ByteArray):(cutL s).size≤s.size:=by
 have h:(Lib.cut s.data.toList [13,10]).1.length≤s.data.toList.length:=by
  unfold Lib.cut
  split
  ·simp only [List.length_take];omega
  ·exact Nat.le_refl _
 rw [← Lib.size_eq] at h
 exact h
theorem line_any (rest:ByteArray) (p R:Nat) (w:World) (hS:StdW w) (hz:rest.size<4294967281) (hp:p≤1099511627776) (h:Blk w R (rdC rest (p:Int)) 146):
  Calls Tryz.prog 49 #[.pointer (some ⟨R,0,none⟩)] w fun e w'=>e= .returned (.tuple #[.string (cutL rest),.int .i64 p])∧ ∃ w1,Below w.heap.size w w1∧w'=(w1.setCell ⟨R,0,none⟩ (.string (cutR2 rest))).setCell ⟨R,1,none⟩ (.int .i64 ((p+(cutL rest).size+2:Nat):Int)):=by
 have HC:=Lib.hid (fun W h=>Cut.calls rest ⟨#[13,10]⟩ (cutL rest) (cutR2 rest) _ W h (by unfold Cut.f;rw [if_pos hz];rfl))
 have hcz:=cutL_size rest
 have HS:=Lib.hid hS
 have HB:=Lib.hid h
 obtain ⟨c0,c1,f0,f1⟩:=h.rd
 generalize cutL rest=l at HC hcz ⊢
 generalize cutR2 rest=r at HC ⊢
 have hw1:wrap64 ((p:Int)+(l.size:Int))=((p+l.size:Nat):Int):=by unfold wrap64;omega
 have hw2:wrap64 (((p+l.size:Nat):Int)+2)=((p+l.size+2:Nat):Int):=by unfold wrap64;omega
 clear hS h
 go_enter Tryz.func49,Tryz.ntmps49
 go_wp2_with (go_at_call 91;refine (HC.out _ HS.out).mono ?_;rintro e w1 ⟨rfl,hb⟩;have HB1:=Lib.hid hb;obtain ⟨c0,c1,f0,f1⟩:=(HB.out.below hb).rd;clear hb)
 go_ret2
 exact ⟨rfl,w1,HB1.out,rfl⟩
end Go.Proofs.YtgmpdjjoefkndaaGreatDoor.E
