/- What the cards of this seat rest on: the walks and plain laws, part 8. -/
import Derived.Test.YtgmpdjjoefkndaaGreatDoorHR7
import Derived.Test.YtgmpdjjoefkndaaGreatDoorHR2
import Derived.RegionTactic
import Derived.BigRegion
import Derived.ChangeAlike
import Derived.Deep.QuietTactic
import Derived.BigQuiet
import Derived.Deep.RegionWith
import Derived.IntWalk
import Derived.Lib.LastIndexByte
import Derived.Deep.LoopGhost
import Derived.WalkMore
import Derived.Test.YtgmpdjjoefkndaaGreatDoorHR6

namespace Go.Proofs.YtgmpdjjoefkndaaGreatDoor.E
open Go.RowKit Go.Proofs.YtgmpdjjoefkndaaGreatDoorW.PrintWords Go.Proofs.YtgmpdjjoefkndaaGreatDoorW.PrintLast
set_option linter.unusedVariables false
set_option linter.unusedSimpArgs false
def bad (k:Int) (l0 l1:ByteArray) (a0 a1 c:Int):Array Value:= #[.int .i64 k,.string l0,.string l1,.string ⟨#[]⟩,.string ⟨#[]⟩,.int .i64 a0,.int .i64 a1,.int .i64 0,.int .i64 0,.int .i64 c]
set_option maxRecDepth 100000 in
set_option maxHeartbeats 8000000 in
theorem of_one (v:Value) (l:ByteArray) (a c:Int) (w:World) (h:ErrIs w v [(l,a)] c):
  Calls Tryz.prog 47 #[v] w fun e w'=>e= .returned (.tuple #[.agg (bad 1 l ⟨#[]⟩ a 0 c),.bool true])∧Below w.heap.size w w':=by
 obtain ⟨b,u,rfl,h0,h1,h2,hu⟩:=h
 obtain rfl:u= .iface 30 (.int .i64 c):=hu
 have hbl:b<w.heap.size:=World.block_lt_of_cell? _ _ h0
 have ta0: ∀ (x:Value) (W:World),(Instr.typeAssert (.iface 140 x) 25 30 true).run Tryz.prog W= .ok (.tuple #[.int .i64 0,.bool false]) W:=fun x W=>by kernel_rfl
 have ta1: ∀ (x:Value) (W:World),(Instr.typeAssert (.iface 140 x) 25 140 true).run Tryz.prog W= .ok (.tuple #[x,.bool true]) W:=fun x W=>by kernel_rfl
 have ta2: ∀ (x:Value) (W:World),(Instr.typeAssert (.iface 30 x) 25 30 true).run Tryz.prog W= .ok (.tuple #[x,.bool true]) W:=fun x W=>by kernel_rfl
 go_enter Tryz.func47,Tryz.ntmps47
 go_wp2
 refine wp_loop_rounds 2 ?_
 rw [rounds_succ]
 go_wp2
 go_region
 go_wp2
 rw [rounds_succ]
 go_wp2
 go_region
 go_wp2
 unfold bad
 refine bodyPost_ret (v:= .tuple #[.agg #[.int .i64 1,.string l,.string ⟨#[]⟩,.string ⟨#[]⟩,.string ⟨#[]⟩,.int .i64 a,.int .i64 0,.int .i64 0,.int .i64 0,.int .i64 c],.bool true]) (by simp [results,Tryz.results47,go_sem]) rfl ⟨rfl,?_⟩
 repeat (first|exact Below.refl _ _|apply below_drew1|apply below_alloc)
set_option maxRecDepth 100000 in
set_option maxHeartbeats 8000000 in
theorem of_two (v:Value) (l l':ByteArray) (a a' c:Int) (w:World) (h:ErrIs w v [(l,a),(l',a')] c):
  Calls Tryz.prog 47 #[v] w fun e w'=>e= .returned (.tuple #[.agg (bad 2 l l' a a' c),.bool true])∧Below w.heap.size w w':=by
 obtain ⟨b,u,rfl,h0,h1,h2,hu⟩:=h
 obtain ⟨b',u',rfl,h0',h1',h2',hu'⟩:=hu
 obtain rfl:u'= .iface 30 (.int .i64 c):=hu'
 have hbl:b<w.heap.size:=World.block_lt_of_cell? _ _ h0
 have hbl':b'<w.heap.size:=World.block_lt_of_cell? _ _ h0'
 have ta0: ∀ (x:Value) (W:World),(Instr.typeAssert (.iface 140 x) 25 30 true).run Tryz.prog W= .ok (.tuple #[.int .i64 0,.bool false]) W:=fun x W=>by kernel_rfl
 have ta1: ∀ (x:Value) (W:World),(Instr.typeAssert (.iface 140 x) 25 140 true).run Tryz.prog W= .ok (.tuple #[x,.bool true]) W:=fun x W=>by kernel_rfl
 have ta2: ∀ (x:Value) (W:World),(Instr.typeAssert (.iface 30 x) 25 30 true).run Tryz.prog W= .ok (.tuple #[x,.bool true]) W:=fun x W=>by kernel_rfl
 go_enter Tryz.func47,Tryz.ntmps47
 go_wp2
 refine wp_loop_rounds 3 ?_
 rw [rounds_succ]
 go_wp2
 go_region
 go_wp2
 rw [rounds_succ]
 go_wp2
 go_region
 go_wp2
 rw [rounds_succ]
 go_wp2
 go_region
 go_wp2
 unfold bad
 refine bodyPost_ret (v:= .tuple #[.agg #[.int .i64 2,.string l,.string l',.string ⟨#[]⟩,.string ⟨#[]⟩,.int .i64 a,.int .i64 a',.int .i64 0,.int .i64 0,.int .i64 c],.bool true]) (by simp [results,Tryz.results47,go_sem]) rfl ⟨rfl,?_⟩
 repeat (first|exact Below.refl _ _|apply below_drew1|apply below_alloc)
set_option maxRecDepth 100000 in
set_option maxHeartbeats 8000000 in
theorem of_nil (w:World):
  Calls Tryz.prog 47 #[.nilIface] w fun e w'=>e= .returned (.tuple #[.agg (bad 0 ⟨#[]⟩ ⟨#[]⟩ 0 0 0),.bool true])∧Below w.heap.size w w':=by
 go_enter Tryz.func47,Tryz.ntmps47
 go_wp2
 refine wp_loop_rounds 1 ?_
 rw [rounds_succ]
 go_wp2
 go_region
 go_wp2
 unfold bad
 refine bodyPost_ret (v:= .tuple #[.agg #[.int .i64 0,.string ⟨#[]⟩,.string ⟨#[]⟩,.string ⟨#[]⟩,.string ⟨#[]⟩,.int .i64 0,.int .i64 0,.int .i64 0,.int .i64 0,.int .i64 0],.bool true]) (by simp [results,Tryz.results47,go_sem]) rfl ⟨rfl,?_⟩
 repeat (first|exact Below.refl _ _|apply below_drew1|apply below_alloc)
set_option maxRecDepth 100000 in
set_option maxHeartbeats 8000000 in
theorem wrap_one (l l':ByteArray) (a a' c:Int) (w:World):
  Calls Tryz.prog 69 #[.string l,.int .i64 a,.agg (bad 1 l' ⟨#[]⟩ a' 0 c)] w fun e w'=>e= .returned (.agg (bad 2 l l' a a' c))∧Below w.heap.size w w':=by
 unfold bad
 go_enter Tryz.func69,Tryz.ntmps69
 go_wp2
 refine wp_loop_rounds 2 ?_
 rw [rounds_succ]
 go_wp2
 go_region
 go_wp2
 rw [rounds_succ]
 go_wp2
 refine bodyPost_ret (v:= .agg #[.int .i64 2,.string l,.string l',.string ⟨#[]⟩,.string ⟨#[]⟩,.int .i64 a,.int .i64 a',.int .i64 0,.int .i64 0,.int .i64 c]) (by simp [results,Tryz.results69,go_sem]) rfl ⟨rfl,?_⟩
 repeat (first|exact Below.refl _ _|apply below_drew1|apply below_alloc)
set_option maxRecDepth 100000 in
set_option maxHeartbeats 8000000 in
theorem is_same (v:Value) (k:Int) (l0 l1:ByteArray) (a0 a1 c:Int)
  (H1: ∀ W:World,(Op.equalIn 9999 28 (.agg #[.string l0,.string l1,.string ⟨#[]⟩,.string ⟨#[]⟩]) (.agg #[.string l0,.string l1,.string ⟨#[]⟩,.string ⟨#[]⟩])).run Tryz.prog W= .ok true W)
  (H2: ∀ W:World,(Op.equalIn 9999 29 (.agg #[.int .i64 a0,.int .i64 a1,.int .i64 0,.int .i64 0]) (.agg #[.int .i64 a0,.int .i64 a1,.int .i64 0,.int .i64 0])).run Tryz.prog W= .ok true W) (w:World)
  (HO: ∀ W,Below w.heap.size w W→Calls Tryz.prog 47 #[v] W fun e w'=>e= .returned (.tuple #[.agg (bad k l0 l1 a0 a1 c),.bool true])∧Below W.heap.size W w'):
  Calls Tryz.prog 12 #[v,.agg (bad k l0 l1 a0 a1 c)] w fun e w'=>e= .returned (.bool true)∧Below w.heap.size w w':=by
 have XO:=Lib.hid HO
 clear HO
 unfold bad at*
 go_enter Tryz.func12,Tryz.ntmps12
 go_wp2_with (go_at_call 47;refine (XO.out _ (below_alloc (Below.refl _ _) _)).mono ?_;rintro e w1 ⟨rfl,hb⟩;have c0:=boxCell hb 0 (.int .i64 k) rfl;have c1:=boxCell hb 1 (.string l0) rfl;have c2:=boxCell hb 2 (.string l1) rfl;have c3:=boxCell hb 3 (.string ⟨#[]⟩) rfl;have c4:=boxCell hb 4 (.string ⟨#[]⟩) rfl;have c5:=boxCell hb 5 (.int .i64 a0) rfl;have c6:=boxCell hb 6 (.int .i64 a1) rfl;have c7:=boxCell hb 7 (.int .i64 0) rfl;have c8:=boxCell hb 8 (.int .i64 0) rfl;have c9:=boxCell hb 9 (.int .i64 c) rfl;have hlt:w.heap.size<w1.heap.size:=(by have:=hb.size;simp at this;omega);have HB:=Lib.hid (below_then (below_alloc (Below.refl w.heap.size w) _) (below_alloc (Below.refl w.heap.size w) _).size hb);clear hb)
 go_ret
 exact ⟨rfl,below_alloc HB.out _⟩
end Go.Proofs.YtgmpdjjoefkndaaGreatDoor.E

namespace Go.Proofs.YtgmpdjjoefkndaaGreatDoor
open Go.RowKit Go.Proofs.YtgmpdjjoefkndaaGreatDoorW.PrintWords Go.Proofs.YtgmpdjjoefkndaaGreatDoorW.PrintLast Go.Proofs.YtgmpdjjoefkndaaGreatDoor.E
set_option linter.unusedVariables false
set_option linter.unusedSimpArgs false
structure StdE (w:World):Prop where
 std:StdW w
 et:EtW w
theorem StdE.below {w w':World} (h:StdE w) (hb:Below w.heap.size w w'):StdE w':=⟨StdW.below h.std hb,EtW.below h.et hb⟩
end Go.Proofs.YtgmpdjjoefkndaaGreatDoor

namespace Go.Proofs.YtgmpdjjoefkndaaGreatDoor.E

def DestT:Type:=Int×Int×Int×Int×ByteArray×Int
end Go.Proofs.YtgmpdjjoefkndaaGreatDoor.E

namespace Go.Proofs.YtgmpdjjoefkndaaGreatDoor.E
open Go.RowKit Go.Proofs.YtgmpdjjoefkndaaGreatDoorW.PrintWords Go.Proofs.YtgmpdjjoefkndaaGreatDoorW.PrintLast Go.Proofs.YtgmpdjjoefkndaaGreatDoor.XD
set_option linter.unusedVariables false
set_option linter.unusedSimpArgs false
theorem lastIx' (s:ByteArray) (hs:s.size≤281474976710656) (W:World):Calls Tryz.prog 134 #[.string s,.int .u8 58] W fun e w'=>e= .returned (.int .i64 (Lib.lastIndexByte s 58))∧Below W.heap.size W w':=
 (Tryz.strings_LastIndexByte s 58 (by omega) W).mono (fun e w' ⟨he,hw⟩=>⟨he,hw▸Below.refl _ _⟩)
def pdX (s:ByteArray):(Int×List (ByteArray×Int)×Int) ⊕ DestT:=
 if 259<s.size then .inl (259,[],3) else if Lib.lastIndexByte s 58<0 then .inl ((s.size:Int),[],62) else
  match hpRes (s.extract 0 (Lib.lastIndexByte s 58).toNat) with
  | .inl (a,c)=> .inl (a,[],c)
  | .inr (l,n)=>match ppoRes (s.extract ((Lib.lastIndexByte s 58).toNat+1) s.size) with
   |none=> .inl (((Lib.lastIndexByte s 58).toNat:Int)+1,[(hostS,0)],62)
   |some p=> .inr (l.getD 0 0,l.getD 1 0,l.getD 2 0,l.getD 3 0,n,p)
def PDXPost (r:(Int×List (ByteArray×Int)×Int) ⊕ DestT) (w:World) (e:Ending) (w':World):Prop:=
 Below w.heap.size w w'∧match r with
  | .inl (a,ch,c)=> ∃ v,e= .returned (.tuple #[zDest,v])∧ErrIs w' v ((hostS,a)::ch) c
  | .inr (a,b,c,d,n,po)=>e= .returned (.tuple #[.agg (dC a b c d n po),.nilIface])
theorem pdX_any (s:ByteArray) (hs:s.size≤281474976710656) (w:World) (hS:StdE w):Calls Tryz.prog 95 #[.string s] w (PDXPost (pdX s) w):=by
 unfold pdX
 by_cases h1:259<s.size
 ·rw [if_pos h1]
  exact (pdest_long s h1 hs w).mono fun e w' ⟨v,he,hi,hb⟩=>⟨hb,v,he,hi⟩
 rw [if_neg h1]
 have HL:=fun W (_:StdW W)=>lastIx' s hs W
 by_cases h2:Lib.lastIndexByte s 58<0
 ·rw [if_pos h2]
  exact (pdest_none s (by omega) _ h2 HL w hS.std).mono fun e w' ⟨v,he,hi,hb⟩=>⟨hb,v,he,hi⟩
 rw [if_neg h2]
 have hlt: ∃ i:Nat,i<s.size∧Lib.lastIndexByte s 58=(i:Int):=by
  rcases Lib.lastIndexByte_spec s 58 with ⟨e,_⟩|⟨i,hi,e,_⟩
  ·rw [e] at h2;exact absurd (by decide) h2
  ·exact ⟨i,hi,e⟩
 obtain ⟨i,hlt,hi⟩:=hlt
 rw [hi] at HL
 rw [hi,Int.toNat_natCast]
 have z1:(s.extract 0 i).size≤281474976710656:=by rw [ByteArray.size_extract];omega
 have z2:(s.extract (i+1) s.size).size≤281474976710656:=by rw [ByteArray.size_extract];omega
 cases hr:hpRes (s.extract 0 i) with
 |inl x=>
  obtain ⟨a,c⟩:=x
  exact (pdest_host s (by omega) i hlt [(hostS,a)] c HL (fun W h=>by
   have h:=hparse_any (s.extract 0 i) z1 W h
   rw [hr] at h
   exact h.mono (fun e w' ⟨hb,v,he,hi⟩=>⟨v,he,hi,hb⟩)) w hS.std).mono fun e w' ⟨v,he,hi,hb⟩=>⟨hb,v,he,hi⟩
 |inr x=>
  obtain ⟨l,n⟩:=x
  have HP: ∀ W,StdW W→Calls Tryz.prog 99 #[.string (s.extract 0 i)] W fun e w'=>e= .returned (.tuple #[.agg #[.int .u8 (l.getD 0 0),.int .u8 (l.getD 1 0),.int .u8 (l.getD 2 0),.int .u8 (l.getD 3 0),.string n],.nilIface])∧Below W.heap.size W w':=fun W h=>by
   have h:=hparse_any (s.extract 0 i) z1 W h
   rw [hr] at h
   exact h.mono (fun e w' ⟨hb,he⟩=>⟨he,hb⟩)
  cases hp:ppoRes (s.extract (i+1) s.size) with
  |none=>
   exact (pdest_port s (by omega) i hlt _ _ _ _ n 62 HL HP (fun W h=>by
    have h:=hport_any (s.extract (i+1) s.size) z2 W h
    rw [hp] at h
    exact h.mono (fun e w' ⟨hb,v,he,hi⟩=>⟨v,he,hi,hb⟩)) w hS.std hS.et).mono fun e w' ⟨v,he,hi,hb⟩=>⟨hb,v,he,hi⟩
  |some po=>
   exact (pdest_ok s (by omega) i hlt _ _ _ _ n po HL HP (fun W h=>by
    have h:=hport_any (s.extract (i+1) s.size) z2 W h
    rw [hp] at h
    exact h.mono (fun e w' ⟨hb,he⟩=>⟨he,hb⟩)) w hS.std).mono fun e w' ⟨he,hb⟩=>⟨hb,he⟩
def httpS:ByteArray:=⟨#[104,116,116,112,58,47,47]⟩
def placeR (place path:ByteArray) (p:Int):(Int×List (ByteArray×Int)×Int) ⊕ (DestT×ByteArray):=
 if Lib.contains place.data.toList [58] then (match pdX place with
  | .inl (a,r,c)=> .inl (p+7,(hostS,a)::r,c)
  | .inr d=> .inr (d,path))
 else match hpRes place with
  | .inl (a,c)=> .inl (p+7,[(hostS,a)],c)
  | .inr (l,n)=> .inr ((l.getD 0 0,l.getD 1 0,l.getD 2 0,l.getD 3 0,n,80),path)
def restS (s:ByteArray):ByteArray:=⟨(Lib.trimPrefix s.data.toList [104,116,116,112,58,47,47]).toArray⟩
def targetR (m s:ByteArray) (p:Int):(Int×List (ByteArray×Int)×Int) ⊕ (DestT×ByteArray):=
 if m.data.toList=[67,79,78,78,69,67,84] then (match pdX s with
  | .inl (a,r,c)=> .inl (p,(hostS,a)::r,c)
  | .inr d=> .inr (d,⟨#[]⟩))
 else if !Lib.hasPrefix s.data.toList [104,116,116,112,58,47,47]||((Lib.cut (restS s).data.toList [47]).2.2 && !Hd.plain (47::(Lib.cut (restS s).data.toList [47]).2.1) 33 2048) then .inl (p,[],82)
 else placeR ⟨(Lib.cut (restS s).data.toList [47]).1.toArray⟩ ⟨(47::(Lib.cut (restS s).data.toList [47]).2.1).toArray⟩ p
def TgtPost (r:(Int×List (ByteArray×Int)×Int) ⊕ (DestT×ByteArray)) (w:World) (e:Ending) (w':World):Prop:=
 Below w.heap.size w w'∧match r with
  | .inl (a,ch,c)=> ∃ x y z u n po q v,e= .returned (.tuple #[.agg (dC x y z u n po),.string q,v])∧ErrIs w' v ((headS,a)::ch) c
  | .inr ((x,y,z,u,n,po),q)=>e= .returned (.tuple #[.agg (dC x y z u n po),.string q,.nilIface])
def EOr (o:Option (List (ByteArray×Int)×Int)) (w:World) (v:Value):Prop:=match o with
 |none=>v= .nilIface
 |some (r,c)=>ErrIs w v r c
theorem EOr.below {o:Option (List (ByteArray×Int)×Int)} {w w':World} {v:Value} (h:EOr o w v) (hb:Below w.heap.size w w'):EOr o w' v:=by
 cases o with
 |none=>exact h
 |some x=>exact ErrIs.below hb h
theorem ErrIs.set {w:World} {R j:Nat} {u:Value} {k:IntKind} {x:Int} (hR:w.cell? ⟨R,0,none⟩=some (.int k x)): ∀ {v:Value} {r:List (ByteArray×Int)} {c:Int},ErrIs w v r c→ErrIs (w.setCell ⟨R,j,none⟩ u) v r c
 |_,[],_,h=>h
 |_,(l,a)::r,c,h=>by
  obtain ⟨b,y,e,h0,h1,h2,hr⟩:=h
  have hne:b≠R:=fun e=>by subst e;rw [hR] at h0;cases h0
  have hk: ∀ i,(w.setCell ⟨R,j,none⟩ u).cell? ⟨b,i,none⟩=w.cell? ⟨b,i,none⟩:=fun i=>World.cell?_of_block (Below.heap_setCell w ⟨R,j,none⟩ u b hne)
  exact ⟨b,y,e,(hk 0).trans h0,(hk 1).trans h1,(hk 2).trans h2,ErrIs.set hR hr⟩
theorem EOr.set {o:Option (List (ByteArray×Int)×Int)} {w:World} {R j:Nat} {v u:Value} {C:Array Value} {T:TypeId} {k:IntKind} {x:Int} (hb:Blk w R C T) (h0:C[0]? =some (.int k x)) (h:EOr o w v):EOr o (w.setCell ⟨R,j,none⟩ u) v:=by
 cases o with
 |none=>exact h
 |some y=>exact ErrIs.set (hb.cell 0 _ h0) h
theorem EOr.put6 {o:Option (List (ByteArray×Int)×Int)} {w:World} {R:Nat} {v:Value} {a b c d a' b' c' d':Int} {n n':ByteArray} {po po':Int} {T:TypeId} (hb:Blk w R (dC a' b' c' d' n' po') T) (h:EOr o w v):
  EOr o ((((((w.setCell ⟨R,0,none⟩ (.int .u8 a)).setCell ⟨R,1,none⟩ (.int .u8 b)).setCell ⟨R,2,none⟩ (.int .u8 c)).setCell ⟨R,3,none⟩ (.int .u8 d)).setCell ⟨R,4,none⟩ (.string n)).setCell ⟨R,5,none⟩ (.int .i64 po)) v:=
 EOr.set (((((hb.set 0 (.int .u8 a)).set 1 (.int .u8 b)).set 2 (.int .u8 c)).set 3 (.int .u8 d)).set 4 (.string n)) rfl (EOr.set ((((hb.set 0 (.int .u8 a)).set 1 (.int .u8 b)).set 2 (.int .u8 c)).set 3 (.int .u8 d)) rfl (EOr.set (((hb.set 0 (.int .u8 a)).set 1 (.int .u8 b)).set 2 (.int .u8 c)) rfl (EOr.set ((hb.set 0 (.int .u8 a)).set 1 (.int .u8 b)) rfl (EOr.set (hb.set 0 (.int .u8 a)) rfl (EOr.set hb rfl h)))))
def insO (p:Int):Option (List (ByteArray×Int)×Int)→Option (List (ByteArray×Int)×Int)
 |none=>none
 |some (r,c)=>some ((headS,p)::r,c)
theorem inside_any (o:Option (List (ByteArray×Int)×Int)) (ho: ∀ r c,o=some (r,c)→r≠[]) (p:Int) (er:Value) (w:World) (hG:EtW w) (h:EOr o w er):
  Calls Tryz.prog 96 #[.int .i64 p,er] w fun e w'=> ∃ v,e= .returned v∧EOr (insO p o) w' v∧Below w.heap.size w w':=by
 cases o with
 |none=>
  obtain rfl:er= .nilIface:=h
  exact (inside_nil p w).mono fun e w' ⟨he,hb⟩=>⟨_,he,rfl,hb⟩
 |some x=>
  obtain ⟨r,c⟩:=x
  cases r with
  |nil=>exact absurd rfl (ho [] c rfl)
  |cons y r=>
   obtain ⟨l,a⟩:=y
   exact inside_err p er l a r c w hG h
theorem tgt_res (A:Array Value) (W:World) (R:Nat) (q:ByteArray) (v:Value) (T:TypeId) {a b c d:Int} {n:ByteArray} {po:Int} (h6:A.getD 6 undef= .pointer (some ⟨R,0,none⟩)) (h7:A.getD 7 undef= .string q) (h8:A.getD 8 undef=v) (hB:Blk W R (dC a b c d n po) T):
  (results Tryz.f54 A).run Tryz.prog W= .ok (.tuple #[.agg #[.int .u8 a,.int .u8 b,.int .u8 c,.int .u8 d,.string n,.int .i64 po],.string q,v]) W:=by
 obtain ⟨e0,e1,e2,e3,e4,e5,-⟩:=hB.dix
 rw [Array.getD_eq_getD_getElem?] at h6 h7 h8
 simp [results,Tryz.results54,go_sem,h6,h7,h8,e0,e1,e2,e3,e4,e5]
set_option maxRecDepth 100000 in
set_option maxHeartbeats 40000000 in
theorem tgt_conn (m s:ByteArray) (hm:(m.toList==[67,79,78,78,69,67,84])=true) (p:Int) (a b c d:Int) (n:ByteArray) (po:Int) (o o':Option (List (ByteArray×Int)×Int)) (w:World) (hS:EtW w)
  (HP0: ∀ W,Below w.heap.size w W→Calls Tryz.prog 95 #[.string s] W fun e w'=> ∃ er,e= .returned (.tuple #[.agg (dC a b c d n po),er])∧EOr o w' er∧Below W.heap.size W w')
  (HI0: ∀ W er,Below w.heap.size w W→EOr o W er→Calls Tryz.prog 96 #[.int .i64 p,er] W fun e w'=> ∃ v,e= .returned v∧EOr o' w' v∧Below W.heap.size W w'):
  Calls Tryz.prog 54 #[.string m,.string s,.int .i64 p] w fun e w'=> ∃ v,e= .returned (.tuple #[.agg (dC a b c d n po),.string ⟨#[]⟩,v])∧EOr o' w' v∧Below w.heap.size w w':=by
 have HP:=Lib.hid HP0
 have HI:=Lib.hid HI0
 have HZ:=Lib.hid (Blk.new w (dC 0 0 0 0 ⟨#[]⟩ 0) 41)
 have HB:=Lib.hid (below_alloc (Below.refl w.heap.size w) (.cells (dC 0 0 0 0 ⟨#[]⟩ 0) 41))
 clear HP0 HI0
 go_enter Tryz.func54,Tryz.ntmps54
 unfold dC at*
 go_wp2_with (first|(go_at_call 95;refine (HP.out _ HB.out).mono ?_;rintro e w2 ⟨er,rfl,he,hb2⟩;have HE2:=Lib.hid he;have HZ2:=Lib.hid (HZ.out.below hb2);have HB2:=Lib.hid (below_then HB.out HB.out.size hb2);clear he hb2))
 go_region_with (first|(go_at_call 96;refine (HI.out _ _ (below_drew1 (below_alloc HB2.out _)) (EOr.below HE2.out (below_drew1 (below_alloc (Below.refl _ _) _)))).mono ?_;rintro e w3 ⟨v,rfl,he3,hbd⟩;have hb3:=below_of_drew hbd;have HE3:=Lib.hid he3;have HB3:=Lib.hid (below_then (below_alloc HB2.out _) (below_alloc HB2.out _).size hb3);have HZ3:=Lib.hid ((HZ2.out.old _).below hb3);have HD3:=Lib.hid ((Blk.new w2 (dC a b c d n po) 41).below hb3);obtain ⟨z0,z1,z2,z3,z4,z5,f0,f1,f2,f3,f4,f5⟩:=Blk.dix HZ3.out;obtain ⟨g0,g1,g2,g3,g4,g5,-⟩:=Blk.dix HD3.out;clear he3 hbd hb3))
 all_goals
  go_wp2
  refine bodyPost_ret (v:= .tuple #[.agg #[.int .u8 a,.int .u8 b,.int .u8 c,.int .u8 d,.string n,.int .i64 po],.string ⟨#[]⟩,v]) ?_ rfl ⟨v,rfl,EOr.put6 HZ3.out HE3.out,?_⟩
  ·exact tgt_res _ _ _ _ _ _ rfl rfl rfl (show Blk _ _ (dC a b c d n po) _ from ((((((HZ3.out.set 0 (.int .u8 a)).set 1 (.int .u8 b)).set 2 (.int .u8 c)).set 3 (.int .u8 d)).set 4 (.string n)).set 5 (.int .i64 po)))
  ·exact (((((HB3.out.setCell (show w.heap.size≤w.heap.size from Nat.le_refl _) _).setCell (show w.heap.size≤w.heap.size from Nat.le_refl _) _).setCell (show w.heap.size≤w.heap.size from Nat.le_refl _) _).setCell (show w.heap.size≤w.heap.size from Nat.le_refl _) _).setCell (show w.heap.size≤w.heap.size from Nat.le_refl _) _).setCell (show w.heap.size≤w.heap.size from Nat.le_refl _) _
set_option maxRecDepth 100000 in
set_option maxHeartbeats 40000000 in
theorem tgt_bad (m s:ByteArray) (hm:(m.toList==[67,79,78,78,69,67,84])=false) (p:Int) (rest place path0:ByteArray) (ok slash wt:Bool) (hpz:path0.size≤100000) (w:World)
  (HCP0: ∀ W,Below w.heap.size w W→Calls Tryz.prog 97 #[.string s,.string ⟨#[104,116,116,112,58,47,47]⟩] W fun e w'=>e= .returned (.tuple #[.string rest,.bool ok])∧Below W.heap.size W w')
  (HC0: ∀ W,Below w.heap.size w W→Calls Tryz.prog 91 #[.string rest,.string ⟨#[47]⟩] W fun e w'=>e= .returned (.tuple #[.string place,.string path0,.bool slash])∧Below W.heap.size W w')
  (HWI0: ∀ W,Below w.heap.size w W→Calls Tryz.prog 64 #[.string ((⟨#[47]⟩:ByteArray)++path0),.int .u8 33,.int .i64 2048] W fun e w'=>e= .returned (.bool wt)∧Below W.heap.size W w') (hbad:(!ok||(slash && !wt))=true):
  Calls Tryz.prog 54 #[.string m,.string s,.int .i64 p] w fun e w'=> ∃ v,e= .returned (.tuple #[zDest,.string ⟨#[]⟩,v])∧ErrIs w' v [(headS,p)] 82∧Below w.heap.size w w':=by
 have HCP:=Lib.hid HCP0
 have HC:=Lib.hid HC0
 have HWI:=Lib.hid HWI0
 have HW:=Lib.hid hdwrong_no
 have HZ:=Lib.hid (Blk.new w (dC 0 0 0 0 ⟨#[]⟩ 0) 41)
 have HB:=Lib.hid (below_alloc (Below.refl w.heap.size w) (.cells (dC 0 0 0 0 ⟨#[]⟩ 0) 41))
 clear HCP0 HC0 HWI0
 have h47:(⟨#[47]⟩:ByteArray).size=1:=rfl
 have hcat:(⟨#[47]⟩:ByteArray).size+path0.size≤9223372036854775807:=by rw [h47];omega
 unfold dC zDest at*
 cases ok
 ·go_enter Tryz.func54,Tryz.ntmps54
  go_wp2_with (first|(go_at_call 97;refine (HCP.out _ HB.out).mono ?_;rintro e w2 ⟨rfl,hb2⟩;have HB2:=Lib.hid (below_then HB.out HB.out.size hb2);have HZ2:=Lib.hid (HZ.out.below hb2);clear hb2)|(go_at_call 91;refine (HC.out _ HB2.out).mono ?_;rintro e w3 ⟨rfl,hb3⟩;have HB3:=Lib.hid (below_then HB2.out HB2.out.size hb3);have HZ3:=Lib.hid (HZ2.out.below hb3);clear hb3;have HB4:=HB3;have HZ4:=HZ3)|(go_at_call 64;refine (HWI.out _ HB3.out).mono ?_;rintro e w4 ⟨rfl,hb4⟩;clear HB4 HZ4;have HB4:=Lib.hid (below_then HB3.out HB3.out.size hb4);have HZ4:=Lib.hid (HZ3.out.below hb4);clear hb4)|(go_at_call 45;refine (HW.out _ _ _).mono ?_;rintro e w5 ⟨v,rfl,he,hb5⟩;have HE5:=Lib.hid he;have HB5:=Lib.hid (below_then HB4.out HB4.out.size hb5);have HZ5:=Lib.hid (HZ4.out.below hb5);obtain ⟨z0,z1,z2,z3,z4,z5,f0,f1,f2,f3,f4,f5⟩:=Blk.dix HZ5.out;clear he hb5))
  refine bodyPost_ret (v:= .tuple #[.agg #[.int .u8 0,.int .u8 0,.int .u8 0,.int .u8 0,.string ⟨#[]⟩,.int .i64 0],.string ⟨#[]⟩,v]) ?_ rfl ⟨v,rfl,(show EOr (some ([(headS,p)],82)) _ v from EOr.put6 (o:=some ([(headS,p)],82)) HZ5.out HE5.out),?_⟩
  ·exact tgt_res _ _ _ _ _ _ rfl rfl rfl (show Blk _ _ (dC 0 0 0 0 ⟨#[]⟩ 0) _ from ((((((HZ5.out.set 0 (.int .u8 0)).set 1 (.int .u8 0)).set 2 (.int .u8 0)).set 3 (.int .u8 0)).set 4 (.string ⟨#[]⟩)).set 5 (.int .i64 0)))
  ·exact (((((HB5.out.setCell (show w.heap.size≤w.heap.size from Nat.le_refl _) _).setCell (show w.heap.size≤w.heap.size from Nat.le_refl _) _).setCell (show w.heap.size≤w.heap.size from Nat.le_refl _) _).setCell (show w.heap.size≤w.heap.size from Nat.le_refl _) _).setCell (show w.heap.size≤w.heap.size from Nat.le_refl _) _).setCell (show w.heap.size≤w.heap.size from Nat.le_refl _) _
 ·cases slash
  ·cases hbad
  ·cases wt
   ·go_enter Tryz.func54,Tryz.ntmps54
    go_wp2_with (first|(go_at_call 97;refine (HCP.out _ HB.out).mono ?_;rintro e w2 ⟨rfl,hb2⟩;have HB2:=Lib.hid (below_then HB.out HB.out.size hb2);have HZ2:=Lib.hid (HZ.out.below hb2);clear hb2)|(go_at_call 91;refine (HC.out _ HB2.out).mono ?_;rintro e w3 ⟨rfl,hb3⟩;have HB3:=Lib.hid (below_then HB2.out HB2.out.size hb3);have HZ3:=Lib.hid (HZ2.out.below hb3);clear hb3;have HB4:=HB3;have HZ4:=HZ3)|(go_at_call 64;refine (HWI.out _ HB3.out).mono ?_;rintro e w4 ⟨rfl,hb4⟩;clear HB4 HZ4;have HB4:=Lib.hid (below_then HB3.out HB3.out.size hb4);have HZ4:=Lib.hid (HZ3.out.below hb4);clear hb4)|(go_at_call 45;refine (HW.out _ _ _).mono ?_;rintro e w5 ⟨v,rfl,he,hb5⟩;have HE5:=Lib.hid he;have HB5:=Lib.hid (below_then HB4.out HB4.out.size hb5);have HZ5:=Lib.hid (HZ4.out.below hb5);obtain ⟨z0,z1,z2,z3,z4,z5,f0,f1,f2,f3,f4,f5⟩:=Blk.dix HZ5.out;clear he hb5))
    refine bodyPost_ret (v:= .tuple #[.agg #[.int .u8 0,.int .u8 0,.int .u8 0,.int .u8 0,.string ⟨#[]⟩,.int .i64 0],.string ⟨#[]⟩,v]) ?_ rfl ⟨v,rfl,(show EOr (some ([(headS,p)],82)) _ v from EOr.put6 (o:=some ([(headS,p)],82)) HZ5.out HE5.out),?_⟩
    ·exact tgt_res _ _ _ _ _ _ rfl rfl rfl (show Blk _ _ (dC 0 0 0 0 ⟨#[]⟩ 0) _ from ((((((HZ5.out.set 0 (.int .u8 0)).set 1 (.int .u8 0)).set 2 (.int .u8 0)).set 3 (.int .u8 0)).set 4 (.string ⟨#[]⟩)).set 5 (.int .i64 0)))
    ·exact (((((HB5.out.setCell (show w.heap.size≤w.heap.size from Nat.le_refl _) _).setCell (show w.heap.size≤w.heap.size from Nat.le_refl _) _).setCell (show w.heap.size≤w.heap.size from Nat.le_refl _) _).setCell (show w.heap.size≤w.heap.size from Nat.le_refl _) _).setCell (show w.heap.size≤w.heap.size from Nat.le_refl _) _).setCell (show w.heap.size≤w.heap.size from Nat.le_refl _) _
   ·cases hbad
def bad3 (k:Int) (l0 l1 l2:ByteArray) (a0 a1 a2 c:Int):Array Value:= #[.int .i64 k,.string l0,.string l1,.string l2,.string ⟨#[]⟩,.int .i64 a0,.int .i64 a1,.int .i64 a2,.int .i64 0,.int .i64 c]
theorem Blk.ten {w:World} {R:Nat} {k:Int} {l0 l1 l2:ByteArray} {a0 a1 a2 c:Int} {T:TypeId} (h:Blk w R (bad3 k l0 l1 l2 a0 a1 a2 c) T):
  w.cell? ⟨R,0,none⟩=some (.int .i64 k)∧w.cell? ⟨R,1,none⟩=some (.string l0)∧w.cell? ⟨R,2,none⟩=some (.string l1)∧w.cell? ⟨R,3,none⟩=some (.string l2)∧w.cell? ⟨R,4,none⟩=some (.string ⟨#[]⟩)∧w.cell? ⟨R,5,none⟩=some (.int .i64 a0)∧w.cell? ⟨R,6,none⟩=some (.int .i64 a1)∧w.cell? ⟨R,7,none⟩=some (.int .i64 a2)∧w.cell? ⟨R,8,none⟩=some (.int .i64 0)∧w.cell? ⟨R,9,none⟩=some (.int .i64 c)∧w.frozen? ⟨R,0,none⟩=false∧w.frozen? ⟨R,1,none⟩=false∧w.frozen? ⟨R,2,none⟩=false∧w.frozen? ⟨R,3,none⟩=false∧w.frozen? ⟨R,4,none⟩=false∧w.frozen? ⟨R,5,none⟩=false∧w.frozen? ⟨R,6,none⟩=false∧w.frozen? ⟨R,7,none⟩=false∧w.frozen? ⟨R,8,none⟩=false∧w.frozen? ⟨R,9,none⟩=false:=
 ⟨h.cell 0 _ rfl,h.cell 1 _ rfl,h.cell 2 _ rfl,h.cell 3 _ rfl,h.cell 4 _ rfl,h.cell 5 _ rfl,h.cell 6 _ rfl,h.cell 7 _ rfl,h.cell 8 _ rfl,h.cell 9 _ rfl,h.free 0,h.free 1,h.free 2,h.free 3,h.free 4,h.free 5,h.free 6,h.free 7,h.free 8,h.free 9⟩
theorem Blk.drew1 {w:World} {R:Nat} {C:Array Value} {T:TypeId} (h:Blk w R C T):Blk w.drew R C T:=h
def badP:List (ByteArray×Int)→Int→Array Value
 |[],c=>bad3 0 ⟨#[]⟩ ⟨#[]⟩ ⟨#[]⟩ 0 0 0 c
 |[(l0,a0)],c=>bad3 1 l0 ⟨#[]⟩ ⟨#[]⟩ a0 0 0 c
 |[(l0,a0),(l1,a1)],c=>bad3 2 l0 l1 ⟨#[]⟩ a0 a1 0 c
 |(l0,a0)::(l1,a1)::(l2,a2)::_,c=>bad3 3 l0 l1 l2 a0 a1 a2 c
def setB (w:World) (R:Nat) (k:Int) (l0 l1 l2:ByteArray) (a0 a1 a2 c:Int):World:=((((((((((w.setCell ⟨R,0,none⟩ (.int .i64 k)).setCell ⟨R,1,none⟩ (.string l0)).setCell ⟨R,2,none⟩ (.string l1)).setCell ⟨R,3,none⟩ (.string l2)).setCell ⟨R,4,none⟩ (.string ⟨#[]⟩)).setCell ⟨R,5,none⟩ (.int .i64 a0)).setCell ⟨R,6,none⟩ (.int .i64 a1)).setCell ⟨R,7,none⟩ (.int .i64 a2)).setCell ⟨R,8,none⟩ (.int .i64 0)).setCell ⟨R,9,none⟩ (.int .i64 c))
theorem setB_blk {w:World} {R:Nat} (k:Int) (l0 l1 l2:ByteArray) (a0 a1 a2 c:Int) {T:TypeId} (h:Blk w R (bad3 0 ⟨#[]⟩ ⟨#[]⟩ ⟨#[]⟩ 0 0 0 0) T):Blk (setB w R k l0 l1 l2 a0 a1 a2 c) R (bad3 k l0 l1 l2 a0 a1 a2 c) T:=by
 have h0:Blk _ R (bad3 k ⟨#[]⟩ ⟨#[]⟩ ⟨#[]⟩ 0 0 0 0) T:=h.set 0 (.int .i64 k)
 have h1:Blk _ R (bad3 k l0 ⟨#[]⟩ ⟨#[]⟩ 0 0 0 0) T:=h0.set 1 (.string l0)
 have h2:Blk _ R (bad3 k l0 l1 ⟨#[]⟩ 0 0 0 0) T:=h1.set 2 (.string l1)
 have h3:Blk _ R (bad3 k l0 l1 l2 0 0 0 0) T:=h2.set 3 (.string l2)
 have h4:Blk _ R (bad3 k l0 l1 l2 0 0 0 0) T:=h3.set 4 (.string ⟨#[]⟩)
 have h5:Blk _ R (bad3 k l0 l1 l2 a0 0 0 0) T:=h4.set 5 (.int .i64 a0)
 have h6:Blk _ R (bad3 k l0 l1 l2 a0 a1 0 0) T:=h5.set 6 (.int .i64 a1)
 have h7:Blk _ R (bad3 k l0 l1 l2 a0 a1 a2 0) T:=h6.set 7 (.int .i64 a2)
 have h8:Blk _ R (bad3 k l0 l1 l2 a0 a1 a2 0) T:=h7.set 8 (.int .i64 0)
 have h9:Blk _ R (bad3 k l0 l1 l2 a0 a1 a2 c) T:=h8.set 9 (.int .i64 c)
 exact h9
theorem setB_below {B R:Nat} {w W:World} (hb:Below B w W) (hR:B≤R) (k:Int) (l0 l1 l2:ByteArray) (a0 a1 a2 c:Int):Below B w (setB W R k l0 l1 l2 a0 a1 a2 c):=by
 unfold setB
 iterate 10 refine Below.setCell ?_ hR _
 exact hb
theorem of_res (A:Array Value) (W:World) (R:Nat) (k:Int) (l0 l1 l2:ByteArray) (a0 a1 a2 c:Int) (x:Value) (T:TypeId) (h2:A.getD 2 undef= .pointer (some ⟨R,0,none⟩)) (h3:A.getD 3 undef=x) (hB:Blk W R (bad3 k l0 l1 l2 a0 a1 a2 c) T):
  (results Tryz.f47 A).run Tryz.prog W= .ok (.tuple #[.agg (bad3 k l0 l1 l2 a0 a1 a2 c),x]) W:=by
 obtain ⟨e0,e1,e2,e3,e4,e5,e6,e7,e8,e9,-⟩:=hB.ten
 rw [Array.getD_eq_getD_getElem?] at h2 h3
 simp [results,Tryz.results47,go_sem,h2,h3,e0,e1,e2,e3,e4,e5,e6,e7,e8,e9,bad3]
set_option maxRecDepth 100000 in
set_option maxHeartbeats 40000000 in
theorem of_chain (v0:Value) (ch:List (ByteArray×Int)) (c:Int) (hne:ch≠[]) (hl:ch.length≤3) (w:World) (h:ErrIs w v0 ch c):
  Calls Tryz.prog 47 #[v0] w fun e w'=>e= .returned (.tuple #[.agg (badP ch c),.bool true])∧Below w.heap.size w w':=by
 have ta0: ∀ (x:Value) (W:World),(Instr.typeAssert (.iface 140 x) 25 30 true).run Tryz.prog W= .ok (.tuple #[.int .i64 0,.bool false]) W:=fun x W=>by kernel_rfl
 have ta1: ∀ (x:Value) (W:World),(Instr.typeAssert (.iface 140 x) 25 140 true).run Tryz.prog W= .ok (.tuple #[x,.bool true]) W:=fun x W=>by kernel_rfl
 have ta2: ∀ (x:Value) (W:World),(Instr.typeAssert (.iface 30 x) 25 30 true).run Tryz.prog W= .ok (.tuple #[x,.bool true]) W:=fun x W=>by kernel_rfl
 have HE0:=Lib.hid h
 have HZ0:=Lib.hid ((Blk.new w (bad3 0 ⟨#[]⟩ ⟨#[]⟩ ⟨#[]⟩ 0 0 0 0) 32).old (.cells (bad3 0 ⟨#[]⟩ ⟨#[]⟩ ⟨#[]⟩ 0 0 0 0) 32))
 have HB0:=Lib.hid (below_alloc (below_alloc (Below.refl w.heap.size w) (.cells (bad3 0 ⟨#[]⟩ ⟨#[]⟩ ⟨#[]⟩ 0 0 0 0) 32)) (.cells (bad3 0 ⟨#[]⟩ ⟨#[]⟩ ⟨#[]⟩ 0 0 0 0) 32))
 have HK0:Hid (Blk ((w.alloc (.cells (bad3 0 ⟨#[]⟩ ⟨#[]⟩ ⟨#[]⟩ 0 0 0 0) 32)).alloc (.cells (bad3 0 ⟨#[]⟩ ⟨#[]⟩ ⟨#[]⟩ 0 0 0 0) 32)) (w.heap.size+1) (badP [] 0) 32):=Lib.hid (World.size_alloc w (.cells (bad3 0 ⟨#[]⟩ ⟨#[]⟩ ⟨#[]⟩ 0 0 0 0) 32)▸Blk.new (w.alloc (.cells (bad3 0 ⟨#[]⟩ ⟨#[]⟩ ⟨#[]⟩ 0 0 0 0) 32)) (bad3 0 ⟨#[]⟩ ⟨#[]⟩ ⟨#[]⟩ 0 0 0 0) 32)
 have HE1:=Lib.hid (ErrIs.below (below_alloc (below_alloc (Below.refl w.heap.size w) (.cells (bad3 0 ⟨#[]⟩ ⟨#[]⟩ ⟨#[]⟩ 0 0 0 0) 32)) (.cells (bad3 0 ⟨#[]⟩ ⟨#[]⟩ ⟨#[]⟩ 0 0 0 0) 32)) h)
 clear h HE0
 unfold bad3 at HZ0 HB0 HK0 HE1
 go_enter Tryz.func47,Tryz.ntmps47
 go_wp2
 go_loopg [0] 4 (fun g v wr=> ∃ (pre post:List (ByteArray×Int)),pre++post=ch∧g+pre.length=4∧pre.length≤3∧Hid (ErrIs wr v post c)∧Hid (Blk wr (w.heap.size+1) (badP pre 0) 32)∧Hid (Blk wr w.heap.size (bad3 0 ⟨#[]⟩ ⟨#[]⟩ ⟨#[]⟩ 0 0 0 0) 32)∧Hid (Below w.heap.size w wr))
 case atStart=>exact ⟨[],ch,rfl,rfl,Nat.zero_le _,HE1,HK0,HZ0,HB0⟩
 case round=>
  obtain ⟨pre,post,hpp,hg,hp3,HE,HK,HZ,HB⟩:=hrel
  clear HE1 HK0 HZ0 HB0
  cases gk with
  |zero=>omega
  |succ k=>
   have hz1:w.heap.size≠w.heap.size+1:=by omega
   cases post with
   |nil=>
    obtain rfl:=HE.out
    rw [List.append_nil] at hpp
    subst hpp
    clear HE hg
    rcases pre with _|⟨⟨l0,a0⟩,_|⟨⟨l1,a1⟩,_|⟨⟨l2,a2⟩,_|⟨x,r⟩⟩⟩⟩
    ·exact absurd rfl hne
    ·have hb0:=HB.out
     obtain ⟨c0,c1,c2,c3,c4,c5,c6,c7,c8,c9,f0,f1,f2,f3,f4,f5,f6,f7,f8,f9⟩:=(show Blk _ _ (bad3 1 l0 ⟨#[]⟩ ⟨#[]⟩ a0 0 0 0) _ from HK.out).ten
     obtain ⟨y0,y1,y2,y3,y4,y5,y6,y7,y8,y9,z0,z1,z2,z3,z4,z5,z6,z7,z8,z9⟩:=HZ.out.ten
     clear hb0
     go_wp2
     go_region
     go_wp2
     exact bodyPost_ret (v:= .tuple #[.agg (bad3 1 l0 ⟨#[]⟩ ⟨#[]⟩ a0 0 0 c),.bool true]) (of_res _ _ w.heap.size 1 l0 ⟨#[]⟩ ⟨#[]⟩ a0 0 0 c (.bool true) 32 rfl rfl (Blk.drew1 (setB_blk 1 l0 ⟨#[]⟩ ⟨#[]⟩ a0 0 0 c (HZ.out.other ⟨w.heap.size+1,9,none⟩ hz1 (.int .i64 c))))) rfl ⟨rfl,below_drew1 (setB_below (HB.out.setCell (p:=⟨w.heap.size+1,9,none⟩) (show w.heap.size≤w.heap.size+1 from Nat.le_succ _) (.int .i64 c)) (Nat.le_refl _) 1 l0 ⟨#[]⟩ ⟨#[]⟩ a0 0 0 c)⟩
    ·have hb0:=HB.out
     obtain ⟨c0,c1,c2,c3,c4,c5,c6,c7,c8,c9,f0,f1,f2,f3,f4,f5,f6,f7,f8,f9⟩:=(show Blk _ _ (bad3 2 l0 l1 ⟨#[]⟩ a0 a1 0 0) _ from HK.out).ten
     obtain ⟨y0,y1,y2,y3,y4,y5,y6,y7,y8,y9,z0,z1,z2,z3,z4,z5,z6,z7,z8,z9⟩:=HZ.out.ten
     clear hb0
     go_wp2
     go_region
     go_wp2
     exact bodyPost_ret (v:= .tuple #[.agg (bad3 2 l0 l1 ⟨#[]⟩ a0 a1 0 c),.bool true]) (of_res _ _ w.heap.size 2 l0 l1 ⟨#[]⟩ a0 a1 0 c (.bool true) 32 rfl rfl (Blk.drew1 (setB_blk 2 l0 l1 ⟨#[]⟩ a0 a1 0 c (HZ.out.other ⟨w.heap.size+1,9,none⟩ hz1 (.int .i64 c))))) rfl ⟨rfl,below_drew1 (setB_below (HB.out.setCell (p:=⟨w.heap.size+1,9,none⟩) (show w.heap.size≤w.heap.size+1 from Nat.le_succ _) (.int .i64 c)) (Nat.le_refl _) 2 l0 l1 ⟨#[]⟩ a0 a1 0 c)⟩
    ·have hb0:=HB.out
     obtain ⟨c0,c1,c2,c3,c4,c5,c6,c7,c8,c9,f0,f1,f2,f3,f4,f5,f6,f7,f8,f9⟩:=(show Blk _ _ (bad3 3 l0 l1 l2 a0 a1 a2 0) _ from HK.out).ten
     obtain ⟨y0,y1,y2,y3,y4,y5,y6,y7,y8,y9,z0,z1,z2,z3,z4,z5,z6,z7,z8,z9⟩:=HZ.out.ten
     clear hb0
     go_wp2
     go_region
     go_wp2
     exact bodyPost_ret (v:= .tuple #[.agg (bad3 3 l0 l1 l2 a0 a1 a2 c),.bool true]) (of_res _ _ w.heap.size 3 l0 l1 l2 a0 a1 a2 c (.bool true) 32 rfl rfl (Blk.drew1 (setB_blk 3 l0 l1 l2 a0 a1 a2 c (HZ.out.other ⟨w.heap.size+1,9,none⟩ hz1 (.int .i64 c))))) rfl ⟨rfl,below_drew1 (setB_below (HB.out.setCell (p:=⟨w.heap.size+1,9,none⟩) (show w.heap.size≤w.heap.size+1 from Nat.le_succ _) (.int .i64 c)) (Nat.le_refl _) 3 l0 l1 l2 a0 a1 a2 c)⟩
    ·simp at hp3
   |cons x r=>
    obtain ⟨l,a⟩:=x
    obtain ⟨b,u,rfl,h0,h1,h2,hr⟩:=HE.out
    have HR:=Lib.hid hr
    clear hr HE
    rcases pre with _|⟨⟨l0,a0⟩,_|⟨⟨l1,a1⟩,_|⟨⟨l2,a2⟩,q⟩⟩⟩
    ·have hk:Blk wr (w.heap.size+1) (bad3 0 ⟨#[]⟩ ⟨#[]⟩ ⟨#[]⟩ 0 0 0 0) 32:=HK.out
     have hka:Blk _ _ (bad3 0 l ⟨#[]⟩ ⟨#[]⟩ 0 0 0 0) _:=hk.set 1 (.string l)
     have hkb:Blk _ _ (bad3 0 l ⟨#[]⟩ ⟨#[]⟩ a 0 0 0) _:=hka.set 5 (.int .i64 a)
     have hkc:Blk _ _ (bad3 1 l ⟨#[]⟩ ⟨#[]⟩ a 0 0 0) _:=hkb.set 0 (.int .i64 1)
     have HER:=Lib.hid (ErrIs.below (below_drew1 (Below.refl _ _)) (ErrIs.set (j:=0) (u:= .int .i64 1) (hkb.cell 0 _ rfl) (ErrIs.set (j:=5) (u:= .int .i64 a) (hka.cell 0 _ rfl) (ErrIs.set (j:=1) (u:= .string l) (hk.cell 0 _ rfl) HR.out))))
     have HKR:=Lib.hid (Blk.drew1 hkc)
     have HZR:=Lib.hid (Blk.drew1 (((HZ.out.other ⟨w.heap.size+1,1,none⟩ hz1 (.string l)).other ⟨w.heap.size+1,5,none⟩ hz1 (.int .i64 a)).other ⟨w.heap.size+1,0,none⟩ hz1 (.int .i64 1)))
     have HBR:=Lib.hid (below_drew1 (((HB.out.setCell (p:=⟨w.heap.size+1,1,none⟩) (show w.heap.size≤w.heap.size+1 from Nat.le_succ _) (.string l)).setCell (p:=⟨w.heap.size+1,5,none⟩) (show w.heap.size≤w.heap.size+1 from Nat.le_succ _) (.int .i64 a)).setCell (p:=⟨w.heap.size+1,0,none⟩) (show w.heap.size≤w.heap.size+1 from Nat.le_succ _) (.int .i64 1)))
     obtain ⟨c0,c1,c2,c3,c4,c5,c6,c7,c8,c9,f0,f1,f2,f3,f4,f5,f6,f7,f8,f9⟩:=hk.ten
     have hbB:b≠w.heap.size+1:=fun e=>by subst e;rw [c0] at h0;cases h0
     have hbB2:w.heap.size+1≠b:=fun e=>hbB e.symm
     clear hk hka hkb hkc HK HZ HB HR
     go_wp2
     go_region
     go_wp2
     go_roundg k
     case measure=>omega
     case rel=>exact ⟨[(l,a)],r,by rw [← hpp];rfl,by simp at hg ⊢;omega,by simp,HER,HKR,HZR,HBR⟩
    ·have hk:Blk wr (w.heap.size+1) (bad3 1 l0 ⟨#[]⟩ ⟨#[]⟩ a0 0 0 0) 32:=HK.out
     have hka:Blk _ _ (bad3 1 l0 l ⟨#[]⟩ a0 0 0 0) _:=hk.set 2 (.string l)
     have hkb:Blk _ _ (bad3 1 l0 l ⟨#[]⟩ a0 a 0 0) _:=hka.set 6 (.int .i64 a)
     have hkc:Blk _ _ (bad3 2 l0 l ⟨#[]⟩ a0 a 0 0) _:=hkb.set 0 (.int .i64 2)
     have HER:=Lib.hid (ErrIs.below (below_drew1 (Below.refl _ _)) (ErrIs.set (j:=0) (u:= .int .i64 2) (hkb.cell 0 _ rfl) (ErrIs.set (j:=6) (u:= .int .i64 a) (hka.cell 0 _ rfl) (ErrIs.set (j:=2) (u:= .string l) (hk.cell 0 _ rfl) HR.out))))
     have HKR:=Lib.hid (Blk.drew1 hkc)
     have HZR:=Lib.hid (Blk.drew1 (((HZ.out.other ⟨w.heap.size+1,2,none⟩ hz1 (.string l)).other ⟨w.heap.size+1,6,none⟩ hz1 (.int .i64 a)).other ⟨w.heap.size+1,0,none⟩ hz1 (.int .i64 2)))
     have HBR:=Lib.hid (below_drew1 (((HB.out.setCell (p:=⟨w.heap.size+1,2,none⟩) (show w.heap.size≤w.heap.size+1 from Nat.le_succ _) (.string l)).setCell (p:=⟨w.heap.size+1,6,none⟩) (show w.heap.size≤w.heap.size+1 from Nat.le_succ _) (.int .i64 a)).setCell (p:=⟨w.heap.size+1,0,none⟩) (show w.heap.size≤w.heap.size+1 from Nat.le_succ _) (.int .i64 2)))
     obtain ⟨c0,c1,c2,c3,c4,c5,c6,c7,c8,c9,f0,f1,f2,f3,f4,f5,f6,f7,f8,f9⟩:=hk.ten
     have hbB:b≠w.heap.size+1:=fun e=>by subst e;rw [c0] at h0;cases h0
     have hbB2:w.heap.size+1≠b:=fun e=>hbB e.symm
     clear hk hka hkb hkc HK HZ HB HR
     go_wp2
     go_region
     go_wp2
     go_roundg k
     case measure=>omega
     case rel=>exact ⟨[(l0,a0),(l,a)],r,by rw [← hpp];rfl,by simp at hg ⊢;omega,by simp,HER,HKR,HZR,HBR⟩
    ·have hk:Blk wr (w.heap.size+1) (bad3 2 l0 l1 ⟨#[]⟩ a0 a1 0 0) 32:=HK.out
     have hka:Blk _ _ (bad3 2 l0 l1 l a0 a1 0 0) _:=hk.set 3 (.string l)
     have hkb:Blk _ _ (bad3 2 l0 l1 l a0 a1 a 0) _:=hka.set 7 (.int .i64 a)
     have hkc:Blk _ _ (bad3 3 l0 l1 l a0 a1 a 0) _:=hkb.set 0 (.int .i64 3)
     have HER:=Lib.hid (ErrIs.below (below_drew1 (Below.refl _ _)) (ErrIs.set (j:=0) (u:= .int .i64 3) (hkb.cell 0 _ rfl) (ErrIs.set (j:=7) (u:= .int .i64 a) (hka.cell 0 _ rfl) (ErrIs.set (j:=3) (u:= .string l) (hk.cell 0 _ rfl) HR.out))))
     have HKR:=Lib.hid (Blk.drew1 hkc)
     have HZR:=Lib.hid (Blk.drew1 (((HZ.out.other ⟨w.heap.size+1,3,none⟩ hz1 (.string l)).other ⟨w.heap.size+1,7,none⟩ hz1 (.int .i64 a)).other ⟨w.heap.size+1,0,none⟩ hz1 (.int .i64 3)))
     have HBR:=Lib.hid (below_drew1 (((HB.out.setCell (p:=⟨w.heap.size+1,3,none⟩) (show w.heap.size≤w.heap.size+1 from Nat.le_succ _) (.string l)).setCell (p:=⟨w.heap.size+1,7,none⟩) (show w.heap.size≤w.heap.size+1 from Nat.le_succ _) (.int .i64 a)).setCell (p:=⟨w.heap.size+1,0,none⟩) (show w.heap.size≤w.heap.size+1 from Nat.le_succ _) (.int .i64 3)))
     obtain ⟨c0,c1,c2,c3,c4,c5,c6,c7,c8,c9,f0,f1,f2,f3,f4,f5,f6,f7,f8,f9⟩:=hk.ten
     have hbB:b≠w.heap.size+1:=fun e=>by subst e;rw [c0] at h0;cases h0
     have hbB2:w.heap.size+1≠b:=fun e=>hbB e.symm
     clear hk hka hkb hkc HK HZ HB HR
     go_wp2
     go_region
     go_wp2
     go_roundg k
     case measure=>omega
     case rel=>exact ⟨[(l0,a0),(l1,a1),(l,a)],r,by rw [← hpp];rfl,by simp at hg ⊢;omega,by simp,HER,HKR,HZR,HBR⟩
    ·exfalso;rw [← hpp] at hl;simp at hl;try omega
end Go.Proofs.YtgmpdjjoefkndaaGreatDoor.E

namespace Go.Proofs.YtgmpdjjoefkndaaGreatDoor.E
open Go.RowKit Go.Proofs.YtgmpdjjoefkndaaGreatDoorW.PrintWords Go.Proofs.YtgmpdjjoefkndaaGreatDoorW.PrintLast Go.Proofs.YtgmpdjjoefkndaaGreatDoor.XR
set_option linter.unusedVariables false
set_option linter.unusedSimpArgs false
theorem Blk.setB {w:World} {R:Nat} {T:TypeId} {n':Int} {l0' l1' l2':ByteArray} {a0' a1' a2' c':Int} (n:Int) (l0 l1 l2:ByteArray) (a0 a1 a2 c:Int) (h:Blk w R (bad3 n' l0' l1' l2' a0' a1' a2' c') T):Blk (E.setB w R n l0 l1 l2 a0 a1 a2 c) R (bad3 n l0 l1 l2 a0 a1 a2 c) T:=by
 have h0:Blk _ R (bad3 n l0' l1' l2' a0' a1' a2' c') T:=h.set 0 (.int .i64 n)
 have h1:Blk _ R (bad3 n l0 l1' l2' a0' a1' a2' c') T:=h0.set 1 (.string l0)
 have h2:Blk _ R (bad3 n l0 l1 l2' a0' a1' a2' c') T:=h1.set 2 (.string l1)
 have h3:Blk _ R (bad3 n l0 l1 l2 a0' a1' a2' c') T:=h2.set 3 (.string l2)
 have h4:Blk _ R (bad3 n l0 l1 l2 a0' a1' a2' c') T:=h3.set 4 (.string ⟨#[]⟩)
 have h5:Blk _ R (bad3 n l0 l1 l2 a0 a1' a2' c') T:=h4.set 5 (.int .i64 a0)
 have h6:Blk _ R (bad3 n l0 l1 l2 a0 a1 a2' c') T:=h5.set 6 (.int .i64 a1)
 have h7:Blk _ R (bad3 n l0 l1 l2 a0 a1 a2 c') T:=h6.set 7 (.int .i64 a2)
 have h8:Blk _ R (bad3 n l0 l1 l2 a0 a1 a2 c') T:=h7.set 8 (.int .i64 0)
 have h9:Blk _ R (bad3 n l0 l1 l2 a0 a1 a2 c) T:=h8.set 9 (.int .i64 c)
 exact h9
theorem Blk.othB {w:World} {R Q:Nat} {C:Array Value} {T:TypeId} (n:Int) (l0 l1 l2:ByteArray) (a0 a1 a2 c:Int) (hn:Q≠R) (h:Blk w Q C T):Blk (E.setB w R n l0 l1 l2 a0 a1 a2 c) Q C T:=
 ((((((((((h.other ⟨R,0,none⟩ hn (.int .i64 n)).other ⟨R,1,none⟩ hn (.string l0)).other ⟨R,2,none⟩ hn (.string l1)).other ⟨R,3,none⟩ hn (.string l2)).other ⟨R,4,none⟩ hn (.string ⟨#[]⟩)).other ⟨R,5,none⟩ hn (.int .i64 a0)).other ⟨R,6,none⟩ hn (.int .i64 a1)).other ⟨R,7,none⟩ hn (.int .i64 a2)).other ⟨R,8,none⟩ hn (.int .i64 0)).other ⟨R,9,none⟩ hn (.int .i64 c))
def set5 (w:World) (R:Nat) (a b c d:Int) (n:ByteArray):World:=(((((w.setCell ⟨R,0,none⟩ (.int .u8 a)).setCell ⟨R,1,none⟩ (.int .u8 b)).setCell ⟨R,2,none⟩ (.int .u8 c)).setCell ⟨R,3,none⟩ (.int .u8 d)).setCell ⟨R,4,none⟩ (.string n))
theorem Blk.set5 {w:World} {R:Nat} {T:TypeId} {a' b' c' d':Int} {n':ByteArray} (a b c d:Int) (n:ByteArray) (h:Blk w R (hC a' b' c' d' n') T):Blk (E.set5 w R a b c d n) R (hC a b c d n) T:=
 (((((h.set 0 (.int .u8 a)).set 1 (.int .u8 b)).set 2 (.int .u8 c)).set 3 (.int .u8 d)).set 4 (.string n))
theorem Blk.oth5 {w:World} {R Q:Nat} {C:Array Value} {T:TypeId} (a b c d:Int) (n:ByteArray) (hn:Q≠R) (h:Blk w Q C T):Blk (E.set5 w R a b c d n) Q C T:=
 (((((h.other ⟨R,0,none⟩ hn (.int .u8 a)).other ⟨R,1,none⟩ hn (.int .u8 b)).other ⟨R,2,none⟩ hn (.int .u8 c)).other ⟨R,3,none⟩ hn (.int .u8 d)).other ⟨R,4,none⟩ hn (.string n))
theorem below5 {B R:Nat} {w W:World} (a b c d:Int) (n:ByteArray) (hR:B≤R) (h:Below B w W):Below B w (set5 W R a b c d n):=by
 unfold set5
 iterate 5 refine Below.setCell ?_ hR _
 exact h
def set6 (w:World) (R:Nat) (a b c d:Int) (n:ByteArray) (po:Int):World:=((((((w.setCell ⟨R,0,none⟩ (.int .u8 a)).setCell ⟨R,1,none⟩ (.int .u8 b)).setCell ⟨R,2,none⟩ (.int .u8 c)).setCell ⟨R,3,none⟩ (.int .u8 d)).setCell ⟨R,4,none⟩ (.string n)).setCell ⟨R,5,none⟩ (.int .i64 po))
theorem Blk.set6 {w:World} {R:Nat} {T:TypeId} {a' b' c' d':Int} {n':ByteArray} {po':Int} (a b c d:Int) (n:ByteArray) (po:Int) (h:Blk w R (dC a' b' c' d' n' po') T):Blk (E.set6 w R a b c d n po) R (dC a b c d n po) T:=
 ((((((h.set 0 (.int .u8 a)).set 1 (.int .u8 b)).set 2 (.int .u8 c)).set 3 (.int .u8 d)).set 4 (.string n)).set 5 (.int .i64 po))
theorem Blk.oth6 {w:World} {R Q:Nat} {C:Array Value} {T:TypeId} (a b c d:Int) (n:ByteArray) (po:Int) (hn:Q≠R) (h:Blk w Q C T):Blk (E.set6 w R a b c d n po) Q C T:=
 ((((((h.other ⟨R,0,none⟩ hn (.int .u8 a)).other ⟨R,1,none⟩ hn (.int .u8 b)).other ⟨R,2,none⟩ hn (.int .u8 c)).other ⟨R,3,none⟩ hn (.int .u8 d)).other ⟨R,4,none⟩ hn (.string n)).other ⟨R,5,none⟩ hn (.int .i64 po))
theorem below6 {B R:Nat} {w W:World} (a b c d:Int) (n:ByteArray) (po:Int) (hR:B≤R) (h:Below B w W):Below B w (set6 W R a b c d n po):=by
 unfold set6
 iterate 6 refine Below.setCell ?_ hR _
 exact h
theorem own2g (w w1:World) (C1 C2:Array Value) (T1 T2:TypeId) (hb:Below ((w.alloc (.cells C1 T1)).alloc (.cells C2 T2)).heap.size ((w.alloc (.cells C1 T1)).alloc (.cells C2 T2)) w1):
  Blk w1 w.heap.size C1 T1∧Blk w1 (w.heap.size+1) C2 T2∧Below w.heap.size w w1:=by
 refine ⟨((Blk.new w C1 T1).old _).below hb,?_,below_then (below_alloc (below_alloc (Below.refl _ _) _) _) (below_alloc (below_alloc (Below.refl _ _) _) _).size hb⟩
 have:=(Blk.new (w.alloc (.cells C1 T1)) C2 T2).below hb
 rwa [World.size_alloc] at this
abbrev zH5:Array Value:=hC 0 0 0 0 ⟨#[]⟩
abbrev zD6:Array Value:=dC 0 0 0 0 ⟨#[]⟩ 0
abbrev zX:Array Value:=bad3 0 ⟨#[]⟩ ⟨#[]⟩ ⟨#[]⟩ 0 0 0 0
def adr (c:UInt8):Bool:=c.toNat==46||digR c
theorem adr_kind (c:UInt8):adr c=([2,1]:List Int).contains (kindZ (c.toNat:Int)):=by
 have h: ∀ n:Fin 256,adr (UInt8.ofNat n.1)=([2,1]:List Int).contains (kindZ ((UInt8.ofNat n.1).toNat:Int)):=by decide+kernel
 have:=h ⟨c.toNat,c.toNat_lt⟩
 simpa using this
theorem adr_only (l:List UInt8):l.all adr=onlyZ [2,1] l:=by
 unfold onlyZ
 congr 1
 funext c
 exact adr_kind c
theorem refDigit (c:UInt8) (W:World):Calls Tryz.prog 151 #[.int .u8 (c.toNat:Int)] W fun e w'=>e= .returned (.bool (digR c))∧Below W.heap.size W w':=
 (sallyportref06_digit.calls (c.toNat:Int) (digR c) W (digit_f c)).mono fun e w' ⟨he,hd⟩=>⟨he,by obtain ⟨n,rfl⟩:=hd;exact below_drewN W n⟩
theorem rp6_res (A:Array Value) (W:World) (P R:Nat) (x0 x1 x2 x3:Int) (nm:ByteArray) (n:Int) (l0 l1 l2:ByteArray) (a0 a1 a2 c:Int) (T1 T2:TypeId) (h2:A.getD 2 undef= .pointer (some ⟨P,0,none⟩)) (h3:A.getD 3 undef= .pointer (some ⟨R,0,none⟩)) (hA:Blk W P (hC x0 x1 x2 x3 nm) T1) (hB:Blk W R (bad3 n l0 l1 l2 a0 a1 a2 c) T2):
  (results Tryz.f104 A).run Tryz.prog W= .ok (.tuple #[.agg (hC x0 x1 x2 x3 nm),.agg (bad3 n l0 l1 l2 a0 a1 a2 c)]) W:=by
 obtain ⟨e0,e1,e2,e3,e4,-⟩:=hA.five
 obtain ⟨b0,b1,b2,b3,b4,b5,b6,b7,b8,b9,-⟩:=hB.ten
 rw [Array.getD_eq_getD_getElem?] at h2 h3
 simp [results,Tryz.results104,go_sem,h2,h3,e0,e1,e2,e3,e4,b0,b1,b2,b3,b4,b5,b6,b7,b8,b9,hC,bad3]
set_option maxRecDepth 100000 in
set_option maxHeartbeats 8000000 in
theorem rp6_early (s:ByteArray) (a c:Int) (hs:(253<s.size∧a=253∧c=3)∨(s.size=0∧a=0∧c=63)) (w:World) (hS:StdW w):
  Calls Tryz.prog 104 #[.string s] w fun e w'=>e= .returned (.tuple #[.agg zH5,badV a c])∧Below w.heap.size w w':=by
 have HF:=Lib.hid (fun W h=>refFault a c W h)
 have HS:=Lib.hid hS
 have h0:s.toList.isEmpty=decide (s.size=0):=size_zero s
 rcases hs with ⟨h,rfl,rfl⟩|⟨h,rfl,rfl⟩
 ·have hs1:(253:Int)<(s.size:Int):=by omega
  clear hS h0
  go_enter Tryz.func104,Tryz.ntmps104
  go_wp2_with (go_at_call 149;refine (HF.out _ (StdW.below HS.out (below_alloc (below_alloc (Below.refl _ _) _) _))).mono ?_;rintro e w1 ⟨rfl,hb⟩;obtain ⟨hA,hB,hw⟩:=own2g w w1 zH5 zX _ _ hb;clear hb;obtain ⟨a0,a1,a2,a3,a4,f0,f1,f2,f3,f4,s0,s1,s2,s3,s4⟩:=hA.hids;obtain ⟨b0,b1,b2,b3,b4,b5,b6,b7,b8,b9,g0,g1,g2,g3,g4,g5,g6,g7,g8,g9⟩:=hB.ten)
  exact bodyPost_ret (v:= .tuple #[.agg zH5,badV 253 3]) (rp6_res _ _ w.heap.size (w.heap.size+1) 0 0 0 0 ⟨#[]⟩ 1 hostS ⟨#[]⟩ ⟨#[]⟩ 253 0 0 3 _ _ rfl rfl (Blk.othB 1 hostS ⟨#[]⟩ ⟨#[]⟩ 253 0 0 3 (Nat.ne_of_lt (Nat.lt_succ_self _)) hA) (Blk.setB 1 hostS ⟨#[]⟩ ⟨#[]⟩ 253 0 0 3 hB)) rfl ⟨rfl,setB_below hw (Nat.le_succ _) 1 hostS ⟨#[]⟩ ⟨#[]⟩ 253 0 0 3⟩
 ·have hs1:(s.size:Int)≤253:=by omega
  have h1:s.toList.isEmpty=true:=by rw [h0,decide_eq_true h]
  clear hS h0
  go_enter Tryz.func104,Tryz.ntmps104
  go_wp2_with (go_at_call 149;refine (HF.out _ (StdW.below HS.out (below_alloc (below_alloc (Below.refl _ _) _) _))).mono ?_;rintro e w1 ⟨rfl,hb⟩;obtain ⟨hA,hB,hw⟩:=own2g w w1 zH5 zX _ _ hb;clear hb;obtain ⟨a0,a1,a2,a3,a4,f0,f1,f2,f3,f4,s0,s1,s2,s3,s4⟩:=hA.hids;obtain ⟨b0,b1,b2,b3,b4,b5,b6,b7,b8,b9,g0,g1,g2,g3,g4,g5,g6,g7,g8,g9⟩:=hB.ten)
  exact bodyPost_ret (v:= .tuple #[.agg zH5,badV 0 63]) (rp6_res _ _ w.heap.size (w.heap.size+1) 0 0 0 0 ⟨#[]⟩ 1 hostS ⟨#[]⟩ ⟨#[]⟩ 0 0 0 63 _ _ rfl rfl (Blk.othB 1 hostS ⟨#[]⟩ ⟨#[]⟩ 0 0 0 63 (Nat.ne_of_lt (Nat.lt_succ_self _)) hA) (Blk.setB 1 hostS ⟨#[]⟩ ⟨#[]⟩ 0 0 0 63 hB)) rfl ⟨rfl,setB_below hw (Nat.le_succ _) 1 hostS ⟨#[]⟩ ⟨#[]⟩ 0 0 0 63⟩
set_option maxRecDepth 100000 in
set_option maxHeartbeats 8000000 in
theorem rp6_short (s:ByteArray) (hs:s.size≤253) (hs0:s.size≠0) (x0 x1 x2 x3:Int) (n:Int) (l0 l1 l2:ByteArray) (a0 a1 a2 c:Int) (nm:ByteArray) (m:Int) (k0 k1 k2:ByteArray) (y0 y1 y2 d:Int)
  (HPA0:s.data.toList.all adr=true→ ∀ W,StdW W→Calls Tryz.prog 152 #[.string s] W fun e w'=>e= .returned (.tuple #[.agg #[.int .u8 x0,.int .u8 x1,.int .u8 x2,.int .u8 x3],.agg (bad3 n l0 l1 l2 a0 a1 a2 c)])∧Below W.heap.size W w')
  (HPN0:s.data.toList.all adr=false→ ∀ W,StdW W→Calls Tryz.prog 153 #[.string s] W fun e w'=>e= .returned (.tuple #[.string nm,.agg (bad3 m k0 k1 k2 y0 y1 y2 d)])∧Below W.heap.size W w')
  (w:World) (hS:StdW w):
  Calls Tryz.prog 104 #[.string s] w fun e w'=>e= .returned (if s.data.toList.all adr=true then .tuple #[.agg (hC x0 x1 x2 x3 ⟨#[]⟩),.agg (bad3 n l0 l1 l2 a0 a1 a2 c)] else .tuple #[.agg (hC 0 0 0 0 nm),.agg (bad3 m k0 k1 k2 y0 y1 y2 d)])∧Below w.heap.size w w':=by
 have HPA:=Lib.hid HPA0
 have HPN:=Lib.hid HPN0
 have HS:=Lib.hid hS
 have hs1:(s.size:Int)≤253:=by omega
 have h1:s.toList.isEmpty=false:=by rw [size_zero];simpa using hs0
 clear hS HPA0 HPN0
 unfold bad3 at HPA HPN
 go_enter Tryz.func104,Tryz.ntmps104
 go_wp2
 go_loopw [4,5] (fun ad i wr=> ∃ k:Nat,k≤s.size∧i= .int .i64 k∧ad= .bool ((s.data.toList.take k).all adr)∧Hid (Blk wr w.heap.size zH5 39)∧Hid (Blk wr (w.heap.size+1) zX 32)∧Hid (Below w.heap.size w wr)) (fun _ i _=>s.size - (intOf i).toNat)
 case atStart=>exact ⟨0,Nat.zero_le _,rfl,by simp,Lib.hid ((Blk.new w zH5 _).old _),Lib.hid (by have:=Blk.new (w.alloc (.cells zH5 39)) zX 32;rwa [World.size_alloc] at this),Lib.hid (below_alloc (below_alloc (Below.refl _ _) _) _)⟩
 case round=>
  obtain ⟨k,hk,rfl,rfl,HA,HB,HW⟩:=hrel
  by_cases hlt:k<s.size
  ·have hk0:(0:Int)≤(k:Int):=Int.natCast_nonneg _
   have hk1:(k:Int)<(s.size:Int):=by omega
   have hts:=take_snoc s k hlt
   have hstep:(s.data.toList.take (k+1)).all adr=((s.data.toList.take k).all adr && adr s[k]):=by rw [hts,all_snoc]
   have HSt:=Lib.hid hstep
   clear hts hstep
   cases hb:(s.data.toList.take k).all adr
   ·rw [hb] at HSt
    go_wp2
    go_roundw
    case rel=>exact ⟨k+1,by omega,by go_num,by rw [HSt.out];rfl,HA,HB,HW⟩
    case measure=>simp [intOf];omega
   ·rw [hb] at HSt
    have HD:=Lib.hid (fun W=>refDigit s[k] W)
    have had:adr s[k]=(s[k].toNat==46||digR s[k]):=rfl
    by_cases h46:s[k].toNat=46
    ·have e46:((s[k].toNat:Int)==46)=true:=by rw [beq_iff_eq];omega
     rw [beq_iff_eq.2 h46,Bool.true_or] at had
     rw [had] at HSt
     clear had
     go_wp2
     go_roundw
     case rel=>exact ⟨k+1,by omega,by go_num,by rw [HSt.out];rfl,HA,HB,HW⟩
     case measure=>simp [intOf];omega
    ·have e46:((s[k].toNat:Int)==46)=false:=by rw [beq_eq_false_iff_ne];omega
     rw [beq_eq_false_iff_ne.2 h46,Bool.false_or] at had
     rw [had] at HSt
     clear had
     go_wp2_with (go_at_call 151;refine (HD.out _).mono ?_;rintro e wn ⟨rfl,hbd⟩;have HA:=Lib.hid (HA.out.below hbd);have HB:=Lib.hid (HB.out.below hbd);have HW:=Lib.hid (below_then HW.out HW.out.size hbd);clear hbd)
     go_roundw
     case rel=>exact ⟨k+1,by omega,by go_num,by rw [HSt.out,Bool.true_and],HA,HB,HW⟩
     case measure=>simp [intOf];omega
  ·have hke:k=s.size:=by omega
   subst hke
   have hk1: ¬ (s.size:Int)<(s.size:Int):=by omega
   have hne1:w.heap.size≠w.heap.size+1:=by omega
   rw [List.take_of_length_le (by rw [len_size];exact Nat.le_refl _)]
   cases hall:s.data.toList.all adr
   ·have HPN:=Lib.hid (HPN.out hall)
    clear HPA
    go_wp2_with (go_at_call 153;refine (HPN.out _ (StdW.below HS.out HW.out)).mono ?_;rintro e w1 ⟨rfl,hb⟩;have hA:=HA.out.below hb;have hB:=HB.out.below hb;have hw:=below_then HW.out HW.out.size hb;clear hb;obtain ⟨e0,e1,e2,e3,e4,f0,f1,f2,f3,f4⟩:=hA.five;obtain ⟨b0,b1,b2,b3,b4,b5,b6,b7,b8,b9,g0,g1,g2,g3,g4,g5,g6,g7,g8,g9⟩:=hB.ten;have hlt1:=hA.lt;have hlt2:=hB.lt)
    go_region
    go_wp2
    all_goals
     refine bodyPost_ret (v:= .tuple #[.agg (hC 0 0 0 0 nm),.agg (bad3 m k0 k1 k2 y0 y1 y2 d)]) ?_ rfl ⟨rfl,?_⟩
     ·exact (rp6_res _ _ w.heap.size (w.heap.size+1) 0 0 0 0 nm m k0 k1 k2 y0 y1 y2 d _ _ rfl rfl (Blk.drew1 (Blk.old (Blk.othB m k0 k1 k2 y0 y1 y2 d hne1 (Blk.set5 0 0 0 0 nm hA)) _)) (Blk.drew1 (Blk.old (Blk.setB m k0 k1 k2 y0 y1 y2 d (Blk.oth5 0 0 0 0 nm hne1.symm hB)) _)))
     ·exact below_drew1 (below_alloc (setB_below (below5 0 0 0 0 nm (Nat.le_refl _) hw) (Nat.le_succ _) m k0 k1 k2 y0 y1 y2 d) _)
   ·have HPA:=Lib.hid (HPA.out hall)
    clear HPN
    go_wp2_with (go_at_call 152;refine (HPA.out _ (StdW.below HS.out HW.out)).mono ?_;rintro e w1 ⟨rfl,hb⟩;have hA:=HA.out.below hb;have hB:=HB.out.below hb;have hw:=below_then HW.out HW.out.size hb;clear hb;obtain ⟨e0,e1,e2,e3,e4,f0,f1,f2,f3,f4⟩:=hA.five;obtain ⟨b0,b1,b2,b3,b4,b5,b6,b7,b8,b9,g0,g1,g2,g3,g4,g5,g6,g7,g8,g9⟩:=hB.ten;have hlt1:=hA.lt;have hlt2:=hB.lt)
    go_region
    go_wp2
    all_goals
     refine bodyPost_ret (v:= .tuple #[.agg (hC x0 x1 x2 x3 ⟨#[]⟩),.agg (bad3 n l0 l1 l2 a0 a1 a2 c)]) ?_ rfl ⟨rfl,?_⟩
     ·exact (rp6_res _ _ w.heap.size (w.heap.size+1) x0 x1 x2 x3 ⟨#[]⟩ n l0 l1 l2 a0 a1 a2 c _ _ rfl rfl (Blk.drew1 (Blk.old (Blk.old (Blk.othB n l0 l1 l2 a0 a1 a2 c hne1 (Blk.set5 x0 x1 x2 x3 ⟨#[]⟩ hA)) _) _)) (Blk.drew1 (Blk.old (Blk.old (Blk.setB n l0 l1 l2 a0 a1 a2 c (Blk.oth5 x0 x1 x2 x3 ⟨#[]⟩ hne1.symm hB)) _) _)))
     ·exact below_drew1 (below_alloc (below_alloc (setB_below (below5 x0 x1 x2 x3 ⟨#[]⟩ (Nat.le_refl _) hw) (Nat.le_succ _) n l0 l1 l2 a0 a1 a2 c) _) _)
set_option maxRecDepth 100000 in
set_option maxHeartbeats 8000000 in
theorem wrap_two (l l0 l1:ByteArray) (a a0 a1 c:Int) (w:World):
  Calls Tryz.prog 69 #[.string l,.int .i64 a,.agg (bad 2 l0 l1 a0 a1 c)] w fun e w'=>e= .returned (.agg #[.int .i64 3,.string l,.string l0,.string l1,.string ⟨#[]⟩,.int .i64 a,.int .i64 a0,.int .i64 a1,.int .i64 0,.int .i64 c])∧Below w.heap.size w w':=by
 unfold bad
 go_enter Tryz.func69,Tryz.ntmps69
 go_wp2
 refine wp_loop_rounds 3 ?_
 rw [rounds_succ]
 go_wp2
 go_region
 go_wp2
 rw [rounds_succ]
 go_wp2
 go_region
 go_wp2
 rw [rounds_succ]
 go_wp2
 refine bodyPost_ret (v:= .agg #[.int .i64 3,.string l,.string l0,.string l1,.string ⟨#[]⟩,.int .i64 a,.int .i64 a0,.int .i64 a1,.int .i64 0,.int .i64 c]) (by simp [results,Tryz.results69,go_sem]) rfl ⟨rfl,?_⟩
 repeat (first|exact Below.refl _ _|apply below_drew1|apply below_alloc)
end Go.Proofs.YtgmpdjjoefkndaaGreatDoor.E

namespace Go.Proofs.YtgmpdjjoefkndaaGreatDoor.E
open Go.RowKit Go.Proofs.YtgmpdjjoefkndaaGreatDoorW.PrintWords Go.Proofs.YtgmpdjjoefkndaaGreatDoorW.PrintLast Go.Proofs.YtgmpdjjoefkndaaGreatDoor.XR Go.Proofs.YtgmpdjjoefkndaaGreatDoor.XV
set_option linter.unusedVariables false
set_option linter.unusedSimpArgs false
def RHPost (r:(Int×Int) ⊕ (List Int×ByteArray)) (w:World) (e:Ending) (w':World):Prop:=
 Below w.heap.size w w'∧match r with
  | .inl (a,c)=>e= .returned (.tuple #[.agg zH5,badV a c])
  | .inr (l,n)=>e= .returned (.tuple #[.agg (hC (l.getD 0 0) (l.getD 1 0) (l.getD 2 0) (l.getD 3 0) n),.agg zX])
theorem rpn_calls (s:ByteArray) (hs:s.size≤281474976710656) (W:World) (hS:StdW W):Calls Tryz.prog 153 #[.string s] W fun e w'=>e= .returned (match pnRes s with
  | .inl (a,c)=> .tuple #[.string ⟨#[]⟩,badV a c]
  | .inr n=> .tuple #[.string n,.agg zX])∧Below W.heap.size W w':=by
 have h:=refPN_f s hs
 cases hr:pnRes s with
 |inl x=>
  obtain ⟨a,c⟩:=x
  rw [hr] at h
  exact sallyportref06_ParseName.calls 1000 s ⟨#[]⟩ 1 hostS ⟨#[]⟩ ⟨#[]⟩ ⟨#[]⟩ a 0 0 0 c W hS h
 |inr n=>
  rw [hr] at h
  exact sallyportref06_ParseName.calls 1000 s n 0 ⟨#[]⟩ ⟨#[]⟩ ⟨#[]⟩ ⟨#[]⟩ 0 0 0 0 0 W hS h
theorem rparse_any (s:ByteArray) (hs:s.size≤281474976710656) (w:World) (hS:StdW w):Calls Tryz.prog 104 #[.string s] w (RHPost (hpRes s) w):=by
 unfold hpRes
 by_cases h1:253<s.size
 ·rw [if_pos h1]
  exact (rp6_early s 253 3 (.inl ⟨h1,rfl,rfl⟩) w hS).mono fun e w' ⟨he,hb⟩=>⟨hb,he⟩
 rw [if_neg h1]
 by_cases h2:s.size=0
 ·rw [if_pos h2]
  exact (rp6_early s 0 63 (.inr ⟨h2,rfl,rfl⟩) w hS).mono fun e w' ⟨he,hb⟩=>⟨hb,he⟩
 rw [if_neg h2,← adr_only]
 have HA:=fun W (h:StdW W)=>rpa_any s W h
 have HN:=fun W (h:StdW W)=>rpn_calls s hs W h
 rw [rpa_pa] at HA
 cases hall:s.data.toList.all adr
 ·rw [if_neg Bool.false_ne_true]
  cases hr:pnRes s with
  |inl x=>
   obtain ⟨a,c⟩:=x
   rw [hr] at HN
   refine (rp6_short s (by omega) h2 0 0 0 0 0 ⟨#[]⟩ ⟨#[]⟩ ⟨#[]⟩ 0 0 0 0 ⟨#[]⟩ 1 hostS ⟨#[]⟩ ⟨#[]⟩ a 0 0 c (fun h=>(by rw [hall] at h;cases h)) (fun _=>HN) w hS).mono fun e w' ⟨he,hb⟩=>⟨hb,?_⟩
   rw [hall,if_neg Bool.false_ne_true] at he
   exact he
  |inr n=>
   rw [hr] at HN
   refine (rp6_short s (by omega) h2 0 0 0 0 0 ⟨#[]⟩ ⟨#[]⟩ ⟨#[]⟩ 0 0 0 0 n 0 ⟨#[]⟩ ⟨#[]⟩ ⟨#[]⟩ 0 0 0 0 (fun h=>(by rw [hall] at h;cases h)) (fun _=>HN) w hS).mono fun e w' ⟨he,hb⟩=>⟨hb,?_⟩
   rw [hall,if_neg Bool.false_ne_true] at he
   exact he
 ·rw [if_pos rfl]
  cases hr:paRes s with
  |inl x=>
   obtain ⟨a,c⟩:=x
   rw [hr] at HA
   refine (rp6_short s (by omega) h2 0 0 0 0 1 hostS ⟨#[]⟩ ⟨#[]⟩ a 0 0 c ⟨#[]⟩ 0 ⟨#[]⟩ ⟨#[]⟩ ⟨#[]⟩ 0 0 0 0 (fun _ W h=>(HA W h).mono fun e w' ⟨hb,he⟩=>⟨he,hb⟩) (fun h=>(by rw [hall] at h;cases h)) w hS).mono fun e w' ⟨he,hb⟩=>⟨hb,?_⟩
   rw [hall,if_pos rfl] at he
   exact he
  |inr l=>
   rw [hr] at HA
   refine (rp6_short s (by omega) h2 (l.getD 0 0) (l.getD 1 0) (l.getD 2 0) (l.getD 3 0) 0 ⟨#[]⟩ ⟨#[]⟩ ⟨#[]⟩ 0 0 0 0 ⟨#[]⟩ 0 ⟨#[]⟩ ⟨#[]⟩ ⟨#[]⟩ 0 0 0 0 (fun _ W h=>(HA W h).mono fun e w' ⟨hb,he⟩=>⟨he,hb⟩) (fun h=>(by rw [hall] at h;cases h)) w hS).mono fun e w' ⟨he,hb⟩=>⟨hb,?_⟩
   rw [hall,if_pos rfl] at he
   exact he
theorem rpp_res (A:Array Value) (W:World) (R:Nat) (i n:Int) (l0 l1 l2:ByteArray) (a0 a1 a2 c:Int) (T2:TypeId) (h2:A.getD 2 undef= .int .i64 i) (h3:A.getD 3 undef= .pointer (some ⟨R,0,none⟩)) (hB:Blk W R (bad3 n l0 l1 l2 a0 a1 a2 c) T2):
  (results Tryz.f150 A).run Tryz.prog W= .ok (.tuple #[.int .i64 i,.agg (bad3 n l0 l1 l2 a0 a1 a2 c)]) W:=by
 obtain ⟨b0,b1,b2,b3,b4,b5,b6,b7,b8,b9,-⟩:=hB.ten
 rw [Array.getD_eq_getD_getElem?] at h2 h3
 simp [results,Tryz.results150,go_sem,h2,h3,b0,b1,b2,b3,b4,b5,b6,b7,b8,b9,bad3]
set_option maxRecDepth 100000 in
set_option maxHeartbeats 4000000 in
theorem rpp_bad (s:ByteArray) (v:Int) (ok:Bool) (hbad:ok=false∨(ok=true∧v<1)∨(ok=true∧ ¬ v<1∧v>65535)) (HW0: ∀ W,Calls Tryz.prog 67 #[.string s,.int .i64 5] W fun e w'=>e= .returned (.tuple #[.int .i64 v,.bool ok])∧Below W.heap.size W w') (w:World) (hS:StdW w):
  Calls Tryz.prog 150 #[.string s] w fun e w'=>e= .returned (.tuple #[.int .i64 0,badV 0 62])∧Below w.heap.size w w':=by
 have HH:=Lib.hid HW0
 have HF:=Lib.hid (fun W h=>refFault 0 62 W h)
 have HS:=Lib.hid hS
 have HB:=Lib.hid (Blk.new w zX 32)
 have HW:=Lib.hid (below_alloc (Below.refl w.heap.size w) (.cells zX 32))
 unfold zX bad3 at HB HW
 clear hS HW0
 rcases hbad with rfl|⟨rfl,h⟩|⟨rfl,h0,h⟩
 all_goals
  go_enter Tryz.func150,Tryz.ntmps150
  go_wp2_with (first|(go_at_call 67;(with_reducible refine (HH.out _).mono ?_);rintro e wn ⟨rfl,hb⟩;have HB:=Lib.hid (HB.out.below hb);have HW:=Lib.hid (below_then HW.out HW.out.size hb);clear hb)|(go_at_call 149;(with_reducible refine (HF.out _ (StdW.below HS.out HW.out)).mono ?_);rintro e wn ⟨rfl,hb⟩;have HB:=Lib.hid (HB.out.below hb);have HW:=Lib.hid (below_then HW.out HW.out.size hb);clear hb;have hB:=(show Blk _ _ zX _ from HB.out);obtain ⟨b0,b1,b2,b3,b4,b5,b6,b7,b8,b9,g0,g1,g2,g3,g4,g5,g6,g7,g8,g9⟩:=hB.ten))
  refine bodyPost_ret (v:= .tuple #[.int .i64 0,badV 0 62]) ?_ rfl ⟨rfl,setB_below HW.out (Nat.le_refl _) 1 hostS ⟨#[]⟩ ⟨#[]⟩ 0 0 0 62⟩
  exact rpp_res _ _ w.heap.size 0 1 hostS ⟨#[]⟩ ⟨#[]⟩ 0 0 0 62 _ rfl rfl (Blk.setB 1 hostS ⟨#[]⟩ ⟨#[]⟩ 0 0 0 62 hB)
set_option maxRecDepth 100000 in
set_option maxHeartbeats 4000000 in
theorem rpp_ok (s:ByteArray) (v:Int) (h0: ¬ v<1) (h1: ¬ v>65535) (HW0: ∀ W,Calls Tryz.prog 67 #[.string s,.int .i64 5] W fun e w'=>e= .returned (.tuple #[.int .i64 v,.bool true])∧Below W.heap.size W w') (w:World):
  Calls Tryz.prog 150 #[.string s] w fun e w'=>e= .returned (.tuple #[.int .i64 v,.agg zX])∧Below w.heap.size w w':=by
 have HH:=Lib.hid HW0
 have HB:=Lib.hid (Blk.new w zX 32)
 have HW:=Lib.hid (below_alloc (Below.refl w.heap.size w) (.cells zX 32))
 unfold zX bad3 at HB HW
 clear HW0
 go_enter Tryz.func150,Tryz.ntmps150
 go_wp2_with (go_at_call 67;(with_reducible refine (HH.out _).mono ?_);rintro e wn ⟨rfl,hb⟩;have HB:=Lib.hid (HB.out.below hb);have HW:=Lib.hid (below_then HW.out HW.out.size hb);clear hb;have hB:=(show Blk _ _ zX _ from HB.out);obtain ⟨b0,b1,b2,b3,b4,b5,b6,b7,b8,b9,g0,g1,g2,g3,g4,g5,g6,g7,g8,g9⟩:=hB.ten)
 refine bodyPost_ret (v:= .tuple #[.int .i64 v,.agg zX]) ?_ rfl ⟨rfl,setB_below HW.out (Nat.le_refl _) 0 ⟨#[]⟩ ⟨#[]⟩ ⟨#[]⟩ 0 0 0 0⟩
 exact rpp_res _ _ w.heap.size v 0 ⟨#[]⟩ ⟨#[]⟩ ⟨#[]⟩ 0 0 0 0 _ rfl rfl (Blk.setB 0 ⟨#[]⟩ ⟨#[]⟩ ⟨#[]⟩ 0 0 0 0 hB)
theorem rport_calls (s:ByteArray) (W:World) (hS:StdW W):Calls Tryz.prog 150 #[.string s] W fun e w'=>e= .returned (match ppoRes s with
  |none=> .tuple #[.int .i64 0,badV 0 62]
  |some p=> .tuple #[.int .i64 p,.agg zX])∧Below W.heap.size W w':=by
 obtain ⟨n1,n2⟩:=num_whole s.data.toList 5 65535 (by decide) (by decide) (by decide)
 have n1:numOk s.data.toList 65535=_:=n1
 have n2:numOk s.data.toList 65535=true→_:=n2
 have HH: ∀ W,Calls Tryz.prog 67 #[.string s,.int .i64 5] W fun e w'=>e= .returned (.tuple #[.int .i64 (wholeV s.data.toList 5).1,.bool (wholeV s.data.toList 5).2])∧Below W.heap.size W w':=fun W=>(sallyportbase_Whole.calls 21 s 5 _ _ W (whole_f s 5 21 (by decide) (by decide))).mono fun e w' ⟨he,hd⟩=>⟨he,by obtain ⟨n,rfl⟩:=hd;exact below_drewN W n⟩
 have h0:0≤(wholeV s.data.toList 5).1:=by unfold wholeV;split<;>omega
 unfold ppoRes
 generalize wholeV s.data.toList 5=v at n1 n2 h0 HH
 obtain ⟨v,ok⟩:=v
 dsimp only at n1 n2 h0 HH
 cases ok
 ·have hno:numOk s.data.toList 65535=false:=by rw [n1];rfl
  rw [if_neg (show ¬ (numOk s.data.toList 65535=true∧atoiV s.data.toList≠0) by rw [hno];simp)]
  exact rpp_bad s v false (.inl rfl) HH W hS
 ·by_cases h1:v<1
  ·rw [if_neg (by rintro ⟨ha,hb⟩;have:=n2 ha;omega)]
   exact rpp_bad s v true (.inr (.inl ⟨rfl,h1⟩)) HH W hS
  ·by_cases h2:v>65535
   ·rw [if_neg (by rintro ⟨ha,hb⟩;rw [n1,Bool.true_and,decide_eq_true_eq] at ha;omega)]
    exact rpp_bad s v true (.inr (.inr ⟨rfl,h1,h2⟩)) HH W hS
   ·have hyes:numOk s.data.toList 65535=true:=by rw [n1,Bool.true_and,decide_eq_true_eq];omega
    rw [n2 hyes,if_pos ⟨hyes,by omega⟩]
    exact rpp_ok s v h1 h2 HH W
end Go.Proofs.YtgmpdjjoefkndaaGreatDoor.E
