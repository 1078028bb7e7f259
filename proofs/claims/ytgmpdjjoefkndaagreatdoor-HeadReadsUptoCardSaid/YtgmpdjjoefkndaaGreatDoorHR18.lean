/- What the cards of this seat rest on: the walks and plain laws, part 18. -/
import Derived.Test.YtgmpdjjoefkndaaGreatDoorHR9
import Derived.Test.YtgmpdjjoefkndaaGreatDoorHR2
import Derived.Test.YtgmpdjjoefkndaaGreatDoorHR4
import Derived.Test.YtgmpdjjoefkndaaGreatDoorHR10
import Derived.Test.YtgmpdjjoefkndaaGreatDoorHR13
import Derived.Test.YtgmpdjjoefkndaaGreatDoorHR6
import Derived.Test.YtgmpdjjoefkndaaGreatDoorHR8

namespace Go.Proofs.YtgmpdjjoefkndaaGreatDoor.E
open Go.RowKit Go.Proofs.YtgmpdjjoefkndaaGreatDoorW.PrintWords Go.Proofs.YtgmpdjjoefkndaaGreatDoorW.PrintLast
set_option linter.unusedVariables false
set_option linter.unusedSimpArgs false
theorem tg8_res (A:Array Value) (W:World) (P R:Nat) (x0 x1 x2 x3:Int) (nm:ByteArray) (po:Int) (q:ByteArray) (n:Int) (l0 l1 l2:ByteArray) (a0 a1 a2 c:Int) (T1 T2:TypeId) (h6:A.getD 6 undef= .pointer (some ⟨P,0,none⟩)) (h7:A.getD 7 undef= .string q) (h8:A.getD 8 undef= .pointer (some ⟨R,0,none⟩)) (hA:Blk W P (dC x0 x1 x2 x3 nm po) T1) (hB:Blk W R (bad3 n l0 l1 l2 a0 a1 a2 c) T2):
  (results Tryz.f61 A).run Tryz.prog W= .ok (.tuple #[.agg (dC x0 x1 x2 x3 nm po),.string q,.agg (bad3 n l0 l1 l2 a0 a1 a2 c)]) W:=by
 obtain ⟨e0,e1,e2,e3,e4,e5,-⟩:=hA.dix
 obtain ⟨b0,b1,b2,b3,b4,b5,b6,b7,b8,b9,-⟩:=hB.ten
 rw [Array.getD_eq_getD_getElem?] at h6 h7 h8
 simp [results,Tryz.results61,go_sem,h6,h7,h8,e0,e1,e2,e3,e4,e5,b0,b1,b2,b3,b4,b5,b6,b7,b8,b9,dC,bad3]
set_option maxRecDepth 100000 in
set_option maxHeartbeats 8000000 in
theorem tg_cE (m s:ByteArray) (p:Int) (hm:(m.toList==[67,79,78,78,69,67,84])=true) (n:Int) (l0 l1 l2:ByteArray) (a0 a1 a2 c:Int) (hn:n>0) (n':Int) (k0 k1 k2:ByteArray) (b0' b1' b2' d':Int) (HP0: ∀ W,StdW W→Calls Tryz.prog 103 #[.string s] W fun e w'=>e= .returned (.tuple #[.agg #[.int .u8 0,.int .u8 0,.int .u8 0,.int .u8 0,.string ⟨#[]⟩,.int .i64 0],.agg #[.int .i64 n,.string l0,.string l1,.string l2,.string ⟨#[]⟩,.int .i64 a0,.int .i64 a1,.int .i64 a2,.int .i64 0,.int .i64 c]])∧Below W.heap.size W w') (HK0: ∀ W,Calls Tryz.prog 69 #[.string ⟨#[104,101,97,100]⟩,.int .i64 p,.agg #[.int .i64 n,.string l0,.string l1,.string l2,.string ⟨#[]⟩,.int .i64 a0,.int .i64 a1,.int .i64 a2,.int .i64 0,.int .i64 c]] W fun e w'=>e= .returned (.agg #[.int .i64 n',.string k0,.string k1,.string k2,.string ⟨#[]⟩,.int .i64 b0',.int .i64 b1',.int .i64 b2',.int .i64 0,.int .i64 d'])∧Below W.heap.size W w') (w:World) (hS:StdW w):
  Calls Tryz.prog 61 #[.string m,.string s,.int .i64 p] w fun e w'=>e= .returned (.tuple #[.agg #[.int .u8 0,.int .u8 0,.int .u8 0,.int .u8 0,.string ⟨#[]⟩,.int .i64 0],.string ⟨#[]⟩,.agg #[.int .i64 n',.string k0,.string k1,.string k2,.string ⟨#[]⟩,.int .i64 b0',.int .i64 b1',.int .i64 b2',.int .i64 0,.int .i64 d']])∧Below w.heap.size w w':=by
 have HS:=Lib.hid hS
 have HP:=Lib.hid HP0
 have HK:=Lib.hid HK0
 clear HP0 HK0
 clear hS
 have HA:=Lib.hid ((Blk.new w zD6 41).old (.cells zX 32))
 have HB:Hid (Blk ((w.alloc (.cells zD6 41)).alloc (.cells zX 32)) (w.heap.size+1) zX 32):=Lib.hid (by have:=Blk.new (w.alloc (.cells zD6 41)) zX 32;rwa [World.size_alloc] at this)
 have HW:=Lib.hid (below_alloc (below_alloc (Below.refl w.heap.size w) (.cells zD6 41)) (.cells zX 32))
 have hne1:w.heap.size≠w.heap.size+1:=by omega
 have hne2:=hne1.symm
 unfold zD6 dC zX bad3 at HA HB HW
 go_enter Tryz.func61,Tryz.ntmps61
 go_wp2_with (go_at_call 103;(with_reducible refine (HP.out _ (StdW.below HS.out HW.out)).mono ?_);rintro e wn ⟨rfl,hb⟩;have HA:=Lib.hid (HA.out.below hb);have HB:=Lib.hid (HB.out.below hb);have HW:=Lib.hid (below_then HW.out HW.out.size hb);clear hb)
 have hA7:Blk ((wn.alloc (.cells #[.int .u8 0,.int .u8 0,.int .u8 0,.int .u8 0,.string ⟨#[]⟩,.int .i64 0] 41)).alloc (.cells #[.int .i64 n,.string l0,.string l1,.string l2,.string ⟨#[]⟩,.int .i64 a0,.int .i64 a1,.int .i64 a2,.int .i64 0,.int .i64 c] 32)) w.heap.size zD6 _:=(HA.out.old _).old _
 have hB7:Blk ((wn.alloc (.cells #[.int .u8 0,.int .u8 0,.int .u8 0,.int .u8 0,.string ⟨#[]⟩,.int .i64 0] 41)).alloc (.cells #[.int .i64 n,.string l0,.string l1,.string l2,.string ⟨#[]⟩,.int .i64 a0,.int .i64 a1,.int .i64 a2,.int .i64 0,.int .i64 c] 32)) (w.heap.size+1) zX _:=(HB.out.old _).old _
 have hH7:Blk ((wn.alloc (.cells #[.int .u8 0,.int .u8 0,.int .u8 0,.int .u8 0,.string ⟨#[]⟩,.int .i64 0] 41)).alloc (.cells #[.int .i64 n,.string l0,.string l1,.string l2,.string ⟨#[]⟩,.int .i64 a0,.int .i64 a1,.int .i64 a2,.int .i64 0,.int .i64 c] 32)) wn.heap.size #[.int .u8 0,.int .u8 0,.int .u8 0,.int .u8 0,.string ⟨#[]⟩,.int .i64 0] 41:=(Blk.new wn #[.int .u8 0,.int .u8 0,.int .u8 0,.int .u8 0,.string ⟨#[]⟩,.int .i64 0] 41).old _
 have hX7:Blk ((wn.alloc (.cells #[.int .u8 0,.int .u8 0,.int .u8 0,.int .u8 0,.string ⟨#[]⟩,.int .i64 0] 41)).alloc (.cells #[.int .i64 n,.string l0,.string l1,.string l2,.string ⟨#[]⟩,.int .i64 a0,.int .i64 a1,.int .i64 a2,.int .i64 0,.int .i64 c] 32)) (wn.heap.size+1) #[.int .i64 n,.string l0,.string l1,.string l2,.string ⟨#[]⟩,.int .i64 a0,.int .i64 a1,.int .i64 a2,.int .i64 0,.int .i64 c] 32:=by
  have:=Blk.new (wn.alloc (.cells #[.int .u8 0,.int .u8 0,.int .u8 0,.int .u8 0,.string ⟨#[]⟩,.int .i64 0] 41)) #[.int .i64 n,.string l0,.string l1,.string l2,.string ⟨#[]⟩,.int .i64 a0,.int .i64 a1,.int .i64 a2,.int .i64 0,.int .i64 c] 32
  rwa [World.size_alloc] at this
 have hw7:Below w.heap.size w ((wn.alloc (.cells #[.int .u8 0,.int .u8 0,.int .u8 0,.int .u8 0,.string ⟨#[]⟩,.int .i64 0] 41)).alloc (.cells #[.int .i64 n,.string l0,.string l1,.string l2,.string ⟨#[]⟩,.int .i64 a0,.int .i64 a1,.int .i64 a2,.int .i64 0,.int .i64 c] 32)):=below_alloc (below_alloc HW.out _) _
 generalize ((wn.alloc (.cells #[.int .u8 0,.int .u8 0,.int .u8 0,.int .u8 0,.string ⟨#[]⟩,.int .i64 0] 41)).alloc (.cells #[.int .i64 n,.string l0,.string l1,.string l2,.string ⟨#[]⟩,.int .i64 a0,.int .i64 a1,.int .i64 a2,.int .i64 0,.int .i64 c] 32))=W7 at hA7 hB7 hH7 hX7 hw7 ⊢
 clear HA HB HW
 have HA:=Lib.hid hA7
 have HB:=Lib.hid hB7
 have HW:=Lib.hid hw7
 clear hA7 hB7 hH7 hX7 hw7
 go_wp2_with (go_at_call 69;(with_reducible refine (HK.out _).mono ?_);rintro e wn ⟨rfl,hb⟩;have HA:=Lib.hid (HA.out.below hb);have HB:=Lib.hid (HB.out.below hb);have HW:=Lib.hid (below_then HW.out HW.out.size hb);clear hb;have hA:=HA.out;have hB:=HB.out;have hlt1:=hA.lt;have hlt2:=hB.lt;obtain ⟨d0,d1,d2,d3,d4,d5,f0,f1,f2,f3,f4,f5,s0,s1,s2,s3,s4,s5⟩:=hA.dids;obtain ⟨v0,v1,v2,v3,v4,v5,v6,v7,v8,v9,r0,r1,r2,r3,r4,r5,r6,r7,r8,r9⟩:=hB.ten)
 all_goals
  refine bodyPost_ret (v:= .tuple #[.agg #[.int .u8 0,.int .u8 0,.int .u8 0,.int .u8 0,.string ⟨#[]⟩,.int .i64 0],.string ⟨#[]⟩,.agg #[.int .i64 n',.string k0,.string k1,.string k2,.string ⟨#[]⟩,.int .i64 b0',.int .i64 b1',.int .i64 b2',.int .i64 0,.int .i64 d']]) ?_ rfl ⟨rfl,?_⟩
  ·first
    |exact tg8_res _ _ w.heap.size (w.heap.size+1) 0 0 0 0 ⟨#[]⟩ 0 ⟨#[]⟩ n' k0 k1 k2 b0' b1' b2' d' _ _ rfl rfl rfl (Blk.othB n' k0 k1 k2 b0' b1' b2' d' hne1 hA) (Blk.setB n' k0 k1 k2 b0' b1' b2' d' hB)
    |exact tg8_res _ _ w.heap.size (w.heap.size+1) 0 0 0 0 ⟨#[]⟩ 0 ⟨#[]⟩ n' k0 k1 k2 b0' b1' b2' d' _ _ rfl rfl rfl (Blk.drew1 (Blk.othB n' k0 k1 k2 b0' b1' b2' d' hne1 hA)) (Blk.drew1 (Blk.setB n' k0 k1 k2 b0' b1' b2' d' hB))
  ·first
    |exact (setB_below HW.out (Nat.le_succ _) n' k0 k1 k2 b0' b1' b2' d')
    |exact below_drew1 (setB_below HW.out (Nat.le_succ _) n' k0 k1 k2 b0' b1' b2' d')
set_option maxRecDepth 100000 in
set_option maxHeartbeats 8000000 in
theorem tg_cO (m s:ByteArray) (p:Int) (hm:(m.toList==[67,79,78,78,69,67,84])=true) (x0 x1 x2 x3:Int) (nm:ByteArray) (po:Int) (HP0: ∀ W,StdW W→Calls Tryz.prog 103 #[.string s] W fun e w'=>e= .returned (.tuple #[.agg #[.int .u8 x0,.int .u8 x1,.int .u8 x2,.int .u8 x3,.string nm,.int .i64 po],.agg #[.int .i64 0,.string ⟨#[]⟩,.string ⟨#[]⟩,.string ⟨#[]⟩,.string ⟨#[]⟩,.int .i64 0,.int .i64 0,.int .i64 0,.int .i64 0,.int .i64 0]])∧Below W.heap.size W w') (w:World) (hS:StdW w):
  Calls Tryz.prog 61 #[.string m,.string s,.int .i64 p] w fun e w'=>e= .returned (.tuple #[.agg #[.int .u8 x0,.int .u8 x1,.int .u8 x2,.int .u8 x3,.string nm,.int .i64 po],.string ⟨#[]⟩,.agg #[.int .i64 0,.string ⟨#[]⟩,.string ⟨#[]⟩,.string ⟨#[]⟩,.string ⟨#[]⟩,.int .i64 0,.int .i64 0,.int .i64 0,.int .i64 0,.int .i64 0]])∧Below w.heap.size w w':=by
 have HS:=Lib.hid hS
 have HP:=Lib.hid HP0
 clear HP0
 clear hS
 have HA:=Lib.hid ((Blk.new w zD6 41).old (.cells zX 32))
 have HB:Hid (Blk ((w.alloc (.cells zD6 41)).alloc (.cells zX 32)) (w.heap.size+1) zX 32):=Lib.hid (by have:=Blk.new (w.alloc (.cells zD6 41)) zX 32;rwa [World.size_alloc] at this)
 have HW:=Lib.hid (below_alloc (below_alloc (Below.refl w.heap.size w) (.cells zD6 41)) (.cells zX 32))
 have hne1:w.heap.size≠w.heap.size+1:=by omega
 have hne2:=hne1.symm
 unfold zD6 dC zX bad3 at HA HB HW
 go_enter Tryz.func61,Tryz.ntmps61
 go_wp2_with (go_at_call 103;(with_reducible refine (HP.out _ (StdW.below HS.out HW.out)).mono ?_);rintro e wn ⟨rfl,hb⟩;have HA:=Lib.hid (HA.out.below hb);have HB:=Lib.hid (HB.out.below hb);have HW:=Lib.hid (below_then HW.out HW.out.size hb);clear hb;have hA:=HA.out;have hB:=HB.out;have hlt1:=hA.lt;have hlt2:=hB.lt;obtain ⟨d0,d1,d2,d3,d4,d5,f0,f1,f2,f3,f4,f5,-⟩:=hA.dids;obtain ⟨v0,v1,v2,v3,v4,v5,v6,v7,v8,v9,r0,r1,r2,r3,r4,r5,r6,r7,r8,r9⟩:=hB.ten)
 all_goals
  refine bodyPost_ret (v:= .tuple #[.agg #[.int .u8 x0,.int .u8 x1,.int .u8 x2,.int .u8 x3,.string nm,.int .i64 po],.string ⟨#[]⟩,.agg #[.int .i64 0,.string ⟨#[]⟩,.string ⟨#[]⟩,.string ⟨#[]⟩,.string ⟨#[]⟩,.int .i64 0,.int .i64 0,.int .i64 0,.int .i64 0,.int .i64 0]]) ?_ rfl ⟨rfl,?_⟩
  ·first
    |exact tg8_res _ _ w.heap.size (w.heap.size+1) x0 x1 x2 x3 nm po ⟨#[]⟩ 0 ⟨#[]⟩ ⟨#[]⟩ ⟨#[]⟩ 0 0 0 0 _ _ rfl rfl rfl (((Blk.othB 0 ⟨#[]⟩ ⟨#[]⟩ ⟨#[]⟩ 0 0 0 0 hne1 (Blk.set6 x0 x1 x2 x3 nm po hA)).old _).old _) (((Blk.setB 0 ⟨#[]⟩ ⟨#[]⟩ ⟨#[]⟩ 0 0 0 0 (Blk.oth6 x0 x1 x2 x3 nm po hne2 hB)).old _).old _)
    |exact tg8_res _ _ w.heap.size (w.heap.size+1) x0 x1 x2 x3 nm po ⟨#[]⟩ 0 ⟨#[]⟩ ⟨#[]⟩ ⟨#[]⟩ 0 0 0 0 _ _ rfl rfl rfl (Blk.drew1 (((Blk.othB 0 ⟨#[]⟩ ⟨#[]⟩ ⟨#[]⟩ 0 0 0 0 hne1 (Blk.set6 x0 x1 x2 x3 nm po hA)).old _).old _)) (Blk.drew1 (((Blk.setB 0 ⟨#[]⟩ ⟨#[]⟩ ⟨#[]⟩ 0 0 0 0 (Blk.oth6 x0 x1 x2 x3 nm po hne2 hB)).old _).old _))
  ·first
    |exact (below_alloc (below_alloc (setB_below (below6 x0 x1 x2 x3 nm po (Nat.le_refl _) HW.out) (Nat.le_succ _) 0 ⟨#[]⟩ ⟨#[]⟩ ⟨#[]⟩ 0 0 0 0) _) _)
    |exact below_drew1 (below_alloc (below_alloc (setB_below (below6 x0 x1 x2 x3 nm po (Nat.le_refl _) HW.out) (Nat.le_succ _) 0 ⟨#[]⟩ ⟨#[]⟩ ⟨#[]⟩ 0 0 0 0) _) _)
set_option maxRecDepth 100000 in
set_option maxHeartbeats 8000000 in
theorem tg_no (m s:ByteArray) (p:Int) (hm:(m.toList==[67,79,78,78,69,67,84])=false) (HE0: ∀ W,Calls Tryz.prog 27 #[.string s,.string ⟨#[104,116,116,112,58,47,47]⟩] W fun e w'=>e= .returned (.bool false)∧Below W.heap.size W w') (HF0: ∀ W,StdW W→Calls Tryz.prog 46 #[.int .i64 p,.int .i64 82] W fun e w'=>e= .returned (.agg #[.int .i64 1,.string headS,.string ⟨#[]⟩,.string ⟨#[]⟩,.string ⟨#[]⟩,.int .i64 p,.int .i64 0,.int .i64 0,.int .i64 0,.int .i64 82])∧Below W.heap.size W w') (w:World) (hS:StdW w):
  Calls Tryz.prog 61 #[.string m,.string s,.int .i64 p] w fun e w'=>e= .returned (.tuple #[.agg #[.int .u8 0,.int .u8 0,.int .u8 0,.int .u8 0,.string ⟨#[]⟩,.int .i64 0],.string ⟨#[]⟩,.agg #[.int .i64 1,.string headS,.string ⟨#[]⟩,.string ⟨#[]⟩,.string ⟨#[]⟩,.int .i64 p,.int .i64 0,.int .i64 0,.int .i64 0,.int .i64 82]])∧Below w.heap.size w w':=by
 have HS:=Lib.hid hS
 have HE:=Lib.hid HE0
 have HF:=Lib.hid HF0
 clear HE0 HF0
 clear hS
 have HA:=Lib.hid ((Blk.new w zD6 41).old (.cells zX 32))
 have HB:Hid (Blk ((w.alloc (.cells zD6 41)).alloc (.cells zX 32)) (w.heap.size+1) zX 32):=Lib.hid (by have:=Blk.new (w.alloc (.cells zD6 41)) zX 32;rwa [World.size_alloc] at this)
 have HW:=Lib.hid (below_alloc (below_alloc (Below.refl w.heap.size w) (.cells zD6 41)) (.cells zX 32))
 have hne1:w.heap.size≠w.heap.size+1:=by omega
 have hne2:=hne1.symm
 unfold zD6 dC zX bad3 at HA HB HW
 go_enter Tryz.func61,Tryz.ntmps61
 go_wp2_with (first|(go_at_call 27;(with_reducible refine (HE.out _).mono ?_);rintro e wn ⟨rfl,hb⟩;have HA:=Lib.hid (HA.out.below hb);have HB:=Lib.hid (HB.out.below hb);have HW:=Lib.hid (below_then HW.out HW.out.size hb);clear hb)|(go_at_call 46;(with_reducible refine (HF.out _ (StdW.below HS.out HW.out)).mono ?_);rintro e wn ⟨rfl,hb⟩;have HA:=Lib.hid (HA.out.below hb);have HB:=Lib.hid (HB.out.below hb);have HW:=Lib.hid (below_then HW.out HW.out.size hb);clear hb;have hA:=HA.out;have hB:=HB.out;have hlt1:=hA.lt;have hlt2:=hB.lt;obtain ⟨d0,d1,d2,d3,d4,d5,f0,f1,f2,f3,f4,f5,s0,s1,s2,s3,s4,s5⟩:=hA.dids;obtain ⟨v0,v1,v2,v3,v4,v5,v6,v7,v8,v9,r0,r1,r2,r3,r4,r5,r6,r7,r8,r9⟩:=hB.ten))
 all_goals
  refine bodyPost_ret (v:= .tuple #[.agg #[.int .u8 0,.int .u8 0,.int .u8 0,.int .u8 0,.string ⟨#[]⟩,.int .i64 0],.string ⟨#[]⟩,.agg #[.int .i64 1,.string headS,.string ⟨#[]⟩,.string ⟨#[]⟩,.string ⟨#[]⟩,.int .i64 p,.int .i64 0,.int .i64 0,.int .i64 0,.int .i64 82]]) ?_ rfl ⟨rfl,?_⟩
  ·first
    |exact tg8_res _ _ w.heap.size (w.heap.size+1) 0 0 0 0 ⟨#[]⟩ 0 ⟨#[]⟩ 1 headS ⟨#[]⟩ ⟨#[]⟩ p 0 0 82 _ _ rfl rfl rfl (Blk.othB 1 headS ⟨#[]⟩ ⟨#[]⟩ p 0 0 82 hne1 hA) (Blk.setB 1 headS ⟨#[]⟩ ⟨#[]⟩ p 0 0 82 hB)
    |exact tg8_res _ _ w.heap.size (w.heap.size+1) 0 0 0 0 ⟨#[]⟩ 0 ⟨#[]⟩ 1 headS ⟨#[]⟩ ⟨#[]⟩ p 0 0 82 _ _ rfl rfl rfl (Blk.drew1 (Blk.othB 1 headS ⟨#[]⟩ ⟨#[]⟩ p 0 0 82 hne1 hA)) (Blk.drew1 (Blk.setB 1 headS ⟨#[]⟩ ⟨#[]⟩ p 0 0 82 hB))
  ·first
    |exact (setB_below HW.out (Nat.le_succ _) 1 headS ⟨#[]⟩ ⟨#[]⟩ p 0 0 82)
    |exact below_drew1 (setB_below HW.out (Nat.le_succ _) 1 headS ⟨#[]⟩ ⟨#[]⟩ p 0 0 82)
set_option maxRecDepth 100000 in
set_option maxHeartbeats 8000000 in
theorem tg_hE0 (m s:ByteArray) (p:Int) (hm:(m.toList==[67,79,78,78,69,67,84])=false) (h7:7≤s.size) (rest:ByteArray) (hrest:s.extract 7 s.size=rest) (HE0: ∀ W,Calls Tryz.prog 27 #[.string s,.string ⟨#[104,116,116,112,58,47,47]⟩] W fun e w'=>e= .returned (.bool true)∧Below W.heap.size W w') (HI0: ∀ W,Calls Tryz.prog 102 #[.string rest,.string ⟨#[47]⟩] W fun e w'=>e= .returned (.int .i64 (-1))∧Below W.heap.size W w') (HL0: ∀ W,Calls Tryz.prog 66 #[.string ⟨#[47]⟩,.int .u8 33,.int .i64 2048] W fun e w'=>e= .returned (.bool true)∧Below W.heap.size W w') (hp7:wrap64 (p+7)=p+7) (HC0: ∀ W,Calls Tryz.prog 102 #[.string rest,.string ⟨#[58]⟩] W fun e w'=>e= .returned (.int .i64 (-1))∧Below W.heap.size W w') (n:Int) (l0 l1 l2:ByteArray) (a0 a1 a2 c:Int) (hn:n>0) (n':Int) (k0 k1 k2:ByteArray) (b0' b1' b2' d':Int) (HP0: ∀ W,StdW W→Calls Tryz.prog 104 #[.string rest] W fun e w'=>e= .returned (.tuple #[.agg #[.int .u8 0,.int .u8 0,.int .u8 0,.int .u8 0,.string ⟨#[]⟩],.agg #[.int .i64 n,.string l0,.string l1,.string l2,.string ⟨#[]⟩,.int .i64 a0,.int .i64 a1,.int .i64 a2,.int .i64 0,.int .i64 c]])∧Below W.heap.size W w') (HK0: ∀ W,Calls Tryz.prog 69 #[.string ⟨#[104,101,97,100]⟩,.int .i64 (p+7),.agg #[.int .i64 n,.string l0,.string l1,.string l2,.string ⟨#[]⟩,.int .i64 a0,.int .i64 a1,.int .i64 a2,.int .i64 0,.int .i64 c]] W fun e w'=>e= .returned (.agg #[.int .i64 n',.string k0,.string k1,.string k2,.string ⟨#[]⟩,.int .i64 b0',.int .i64 b1',.int .i64 b2',.int .i64 0,.int .i64 d'])∧Below W.heap.size W w') (w:World) (hS:StdW w):
  Calls Tryz.prog 61 #[.string m,.string s,.int .i64 p] w fun e w'=>e= .returned (.tuple #[.agg #[.int .u8 0,.int .u8 0,.int .u8 0,.int .u8 0,.string ⟨#[]⟩,.int .i64 0],.string ⟨#[]⟩,.agg #[.int .i64 n',.string k0,.string k1,.string k2,.string ⟨#[]⟩,.int .i64 b0',.int .i64 b1',.int .i64 b2',.int .i64 0,.int .i64 d']])∧Below w.heap.size w w':=by
 have HS:=Lib.hid hS
 have HE:=Lib.hid HE0
 have HI:=Lib.hid HI0
 clear HE0 HI0
 have h7i:(7:Int)≤(s.size:Int):=by omega
 have HL:=Lib.hid HL0
 have HC:=Lib.hid HC0
 have HP:=Lib.hid HP0
 have HK:=Lib.hid HK0
 clear HL0 HC0 HP0 HK0
 clear hS
 have HA:=Lib.hid ((Blk.new w zD6 41).old (.cells zX 32))
 have HB:Hid (Blk ((w.alloc (.cells zD6 41)).alloc (.cells zX 32)) (w.heap.size+1) zX 32):=Lib.hid (by have:=Blk.new (w.alloc (.cells zD6 41)) zX 32;rwa [World.size_alloc] at this)
 have HW:=Lib.hid (below_alloc (below_alloc (Below.refl w.heap.size w) (.cells zD6 41)) (.cells zX 32))
 have hne1:w.heap.size≠w.heap.size+1:=by omega
 have hne2:=hne1.symm
 unfold zD6 dC zX bad3 at HA HB HW
 go_enter Tryz.func61,Tryz.ntmps61
 go_wp2_with (first|(go_at_call 27;(with_reducible refine (HE.out _).mono ?_);rintro e wn ⟨rfl,hb⟩;have HA:=Lib.hid (HA.out.below hb);have HB:=Lib.hid (HB.out.below hb);have HW:=Lib.hid (below_then HW.out HW.out.size hb);clear hb)|(go_at_call 102;(with_reducible refine (HI.out _).mono ?_);rintro e wn ⟨rfl,hb⟩;have HA:=Lib.hid (HA.out.below hb);have HB:=Lib.hid (HB.out.below hb);have HW:=Lib.hid (below_then HW.out HW.out.size hb);clear hb)|(go_at_call 66;(with_reducible refine (HL.out _).mono ?_);rintro e wn ⟨rfl,hb⟩;have HA:=Lib.hid (HA.out.below hb);have HB:=Lib.hid (HB.out.below hb);have HW:=Lib.hid (below_then HW.out HW.out.size hb);clear hb)|(go_at_call 102;(with_reducible refine (HC.out _).mono ?_);rintro e wn ⟨rfl,hb⟩;have HA:=Lib.hid (HA.out.below hb);have HB:=Lib.hid (HB.out.below hb);have HW:=Lib.hid (below_then HW.out HW.out.size hb);clear hb)|(go_at_call 104;(with_reducible refine (HP.out _ (StdW.below HS.out HW.out)).mono ?_);rintro e wn ⟨rfl,hb⟩;have HA:=Lib.hid (HA.out.below hb);have HB:=Lib.hid (HB.out.below hb);have HW:=Lib.hid (below_then HW.out HW.out.size hb);clear hb))
 have hA7:Blk ((wn.alloc (.cells #[.int .u8 0,.int .u8 0,.int .u8 0,.int .u8 0,.string ⟨#[]⟩] 39)).alloc (.cells #[.int .i64 n,.string l0,.string l1,.string l2,.string ⟨#[]⟩,.int .i64 a0,.int .i64 a1,.int .i64 a2,.int .i64 0,.int .i64 c] 32)) w.heap.size zD6 _:=(HA.out.old _).old _
 have hB7:Blk ((wn.alloc (.cells #[.int .u8 0,.int .u8 0,.int .u8 0,.int .u8 0,.string ⟨#[]⟩] 39)).alloc (.cells #[.int .i64 n,.string l0,.string l1,.string l2,.string ⟨#[]⟩,.int .i64 a0,.int .i64 a1,.int .i64 a2,.int .i64 0,.int .i64 c] 32)) (w.heap.size+1) zX _:=(HB.out.old _).old _
 have hH7:Blk ((wn.alloc (.cells #[.int .u8 0,.int .u8 0,.int .u8 0,.int .u8 0,.string ⟨#[]⟩] 39)).alloc (.cells #[.int .i64 n,.string l0,.string l1,.string l2,.string ⟨#[]⟩,.int .i64 a0,.int .i64 a1,.int .i64 a2,.int .i64 0,.int .i64 c] 32)) wn.heap.size #[.int .u8 0,.int .u8 0,.int .u8 0,.int .u8 0,.string ⟨#[]⟩] 39:=(Blk.new wn #[.int .u8 0,.int .u8 0,.int .u8 0,.int .u8 0,.string ⟨#[]⟩] 39).old _
 have hX7:Blk ((wn.alloc (.cells #[.int .u8 0,.int .u8 0,.int .u8 0,.int .u8 0,.string ⟨#[]⟩] 39)).alloc (.cells #[.int .i64 n,.string l0,.string l1,.string l2,.string ⟨#[]⟩,.int .i64 a0,.int .i64 a1,.int .i64 a2,.int .i64 0,.int .i64 c] 32)) (wn.heap.size+1) #[.int .i64 n,.string l0,.string l1,.string l2,.string ⟨#[]⟩,.int .i64 a0,.int .i64 a1,.int .i64 a2,.int .i64 0,.int .i64 c] 32:=by
  have:=Blk.new (wn.alloc (.cells #[.int .u8 0,.int .u8 0,.int .u8 0,.int .u8 0,.string ⟨#[]⟩] 39)) #[.int .i64 n,.string l0,.string l1,.string l2,.string ⟨#[]⟩,.int .i64 a0,.int .i64 a1,.int .i64 a2,.int .i64 0,.int .i64 c] 32
  rwa [World.size_alloc] at this
 have hw7:Below w.heap.size w ((wn.alloc (.cells #[.int .u8 0,.int .u8 0,.int .u8 0,.int .u8 0,.string ⟨#[]⟩] 39)).alloc (.cells #[.int .i64 n,.string l0,.string l1,.string l2,.string ⟨#[]⟩,.int .i64 a0,.int .i64 a1,.int .i64 a2,.int .i64 0,.int .i64 c] 32)):=below_alloc (below_alloc HW.out _) _
 generalize ((wn.alloc (.cells #[.int .u8 0,.int .u8 0,.int .u8 0,.int .u8 0,.string ⟨#[]⟩] 39)).alloc (.cells #[.int .i64 n,.string l0,.string l1,.string l2,.string ⟨#[]⟩,.int .i64 a0,.int .i64 a1,.int .i64 a2,.int .i64 0,.int .i64 c] 32))=W7 at hA7 hB7 hH7 hX7 hw7 ⊢
 clear HA HB HW
 have HA:=Lib.hid hA7
 have HB:=Lib.hid hB7
 have HW:=Lib.hid hw7
 clear hA7 hB7 hH7 hX7 hw7
 go_wp2_with (go_at_call 69;(with_reducible refine (HK.out _).mono ?_);rintro e wn ⟨rfl,hb⟩;have HA:=Lib.hid (HA.out.below hb);have HB:=Lib.hid (HB.out.below hb);have HW:=Lib.hid (below_then HW.out HW.out.size hb);clear hb;have hA:=HA.out;have hB:=HB.out;have hlt1:=hA.lt;have hlt2:=hB.lt;obtain ⟨d0,d1,d2,d3,d4,d5,f0,f1,f2,f3,f4,f5,s0,s1,s2,s3,s4,s5⟩:=hA.dids;obtain ⟨v0,v1,v2,v3,v4,v5,v6,v7,v8,v9,r0,r1,r2,r3,r4,r5,r6,r7,r8,r9⟩:=hB.ten)
 all_goals
  refine bodyPost_ret (v:= .tuple #[.agg #[.int .u8 0,.int .u8 0,.int .u8 0,.int .u8 0,.string ⟨#[]⟩,.int .i64 0],.string ⟨#[]⟩,.agg #[.int .i64 n',.string k0,.string k1,.string k2,.string ⟨#[]⟩,.int .i64 b0',.int .i64 b1',.int .i64 b2',.int .i64 0,.int .i64 d']]) ?_ rfl ⟨rfl,?_⟩
  ·first
    |exact tg8_res _ _ w.heap.size (w.heap.size+1) 0 0 0 0 ⟨#[]⟩ 0 ⟨#[]⟩ n' k0 k1 k2 b0' b1' b2' d' _ _ rfl rfl rfl (Blk.othB n' k0 k1 k2 b0' b1' b2' d' hne1 hA) (Blk.setB n' k0 k1 k2 b0' b1' b2' d' hB)
    |exact tg8_res _ _ w.heap.size (w.heap.size+1) 0 0 0 0 ⟨#[]⟩ 0 ⟨#[]⟩ n' k0 k1 k2 b0' b1' b2' d' _ _ rfl rfl rfl (Blk.drew1 (Blk.othB n' k0 k1 k2 b0' b1' b2' d' hne1 hA)) (Blk.drew1 (Blk.setB n' k0 k1 k2 b0' b1' b2' d' hB))
  ·first
    |exact (setB_below HW.out (Nat.le_succ _) n' k0 k1 k2 b0' b1' b2' d')
    |exact below_drew1 (setB_below HW.out (Nat.le_succ _) n' k0 k1 k2 b0' b1' b2' d')
set_option maxRecDepth 100000 in
set_option maxHeartbeats 8000000 in
theorem tg_hO0 (m s:ByteArray) (p:Int) (hm:(m.toList==[67,79,78,78,69,67,84])=false) (h7:7≤s.size) (rest:ByteArray) (hrest:s.extract 7 s.size=rest) (HE0: ∀ W,Calls Tryz.prog 27 #[.string s,.string ⟨#[104,116,116,112,58,47,47]⟩] W fun e w'=>e= .returned (.bool true)∧Below W.heap.size W w') (HI0: ∀ W,Calls Tryz.prog 102 #[.string rest,.string ⟨#[47]⟩] W fun e w'=>e= .returned (.int .i64 (-1))∧Below W.heap.size W w') (HL0: ∀ W,Calls Tryz.prog 66 #[.string ⟨#[47]⟩,.int .u8 33,.int .i64 2048] W fun e w'=>e= .returned (.bool true)∧Below W.heap.size W w') (HC0: ∀ W,Calls Tryz.prog 102 #[.string rest,.string ⟨#[58]⟩] W fun e w'=>e= .returned (.int .i64 (-1))∧Below W.heap.size W w') (x0 x1 x2 x3:Int) (nm:ByteArray) (HP0: ∀ W,StdW W→Calls Tryz.prog 104 #[.string rest] W fun e w'=>e= .returned (.tuple #[.agg #[.int .u8 x0,.int .u8 x1,.int .u8 x2,.int .u8 x3,.string nm],.agg #[.int .i64 0,.string ⟨#[]⟩,.string ⟨#[]⟩,.string ⟨#[]⟩,.string ⟨#[]⟩,.int .i64 0,.int .i64 0,.int .i64 0,.int .i64 0,.int .i64 0]])∧Below W.heap.size W w') (w:World) (hS:StdW w):
  Calls Tryz.prog 61 #[.string m,.string s,.int .i64 p] w fun e w'=>e= .returned (.tuple #[.agg #[.int .u8 x0,.int .u8 x1,.int .u8 x2,.int .u8 x3,.string nm,.int .i64 80],.string ⟨#[47]⟩,.agg #[.int .i64 0,.string ⟨#[]⟩,.string ⟨#[]⟩,.string ⟨#[]⟩,.string ⟨#[]⟩,.int .i64 0,.int .i64 0,.int .i64 0,.int .i64 0,.int .i64 0]])∧Below w.heap.size w w':=by
 have HS:=Lib.hid hS
 have HE:=Lib.hid HE0
 have HI:=Lib.hid HI0
 clear HE0 HI0
 have h7i:(7:Int)≤(s.size:Int):=by omega
 have HL:=Lib.hid HL0
 have HC:=Lib.hid HC0
 have HP:=Lib.hid HP0
 clear HL0 HC0 HP0
 clear hS
 have HA:=Lib.hid ((Blk.new w zD6 41).old (.cells zX 32))
 have HB:Hid (Blk ((w.alloc (.cells zD6 41)).alloc (.cells zX 32)) (w.heap.size+1) zX 32):=Lib.hid (by have:=Blk.new (w.alloc (.cells zD6 41)) zX 32;rwa [World.size_alloc] at this)
 have HW:=Lib.hid (below_alloc (below_alloc (Below.refl w.heap.size w) (.cells zD6 41)) (.cells zX 32))
 have hne1:w.heap.size≠w.heap.size+1:=by omega
 have hne2:=hne1.symm
 unfold zD6 dC zX bad3 at HA HB HW
 go_enter Tryz.func61,Tryz.ntmps61
 go_wp2_with (first|(go_at_call 27;(with_reducible refine (HE.out _).mono ?_);rintro e wn ⟨rfl,hb⟩;have HA:=Lib.hid (HA.out.below hb);have HB:=Lib.hid (HB.out.below hb);have HW:=Lib.hid (below_then HW.out HW.out.size hb);clear hb)|(go_at_call 102;(with_reducible refine (HI.out _).mono ?_);rintro e wn ⟨rfl,hb⟩;have HA:=Lib.hid (HA.out.below hb);have HB:=Lib.hid (HB.out.below hb);have HW:=Lib.hid (below_then HW.out HW.out.size hb);clear hb)|(go_at_call 66;(with_reducible refine (HL.out _).mono ?_);rintro e wn ⟨rfl,hb⟩;have HA:=Lib.hid (HA.out.below hb);have HB:=Lib.hid (HB.out.below hb);have HW:=Lib.hid (below_then HW.out HW.out.size hb);clear hb)|(go_at_call 102;(with_reducible refine (HC.out _).mono ?_);rintro e wn ⟨rfl,hb⟩;have HA:=Lib.hid (HA.out.below hb);have HB:=Lib.hid (HB.out.below hb);have HW:=Lib.hid (below_then HW.out HW.out.size hb);clear hb)|(go_at_call 104;(with_reducible refine (HP.out _ (StdW.below HS.out HW.out)).mono ?_);rintro e wn ⟨rfl,hb⟩;have HA:=Lib.hid (HA.out.below hb);have HB:=Lib.hid (HB.out.below hb);have HW:=Lib.hid (below_then HW.out HW.out.size hb);clear hb;have hA:=HA.out;have hB:=HB.out;have hlt1:=hA.lt;have hlt2:=hB.lt;obtain ⟨d0,d1,d2,d3,d4,d5,f0,f1,f2,f3,f4,f5,-⟩:=hA.dids;obtain ⟨v0,v1,v2,v3,v4,v5,v6,v7,v8,v9,r0,r1,r2,r3,r4,r5,r6,r7,r8,r9⟩:=hB.ten))
 all_goals
  refine bodyPost_ret (v:= .tuple #[.agg #[.int .u8 x0,.int .u8 x1,.int .u8 x2,.int .u8 x3,.string nm,.int .i64 80],.string ⟨#[47]⟩,.agg #[.int .i64 0,.string ⟨#[]⟩,.string ⟨#[]⟩,.string ⟨#[]⟩,.string ⟨#[]⟩,.int .i64 0,.int .i64 0,.int .i64 0,.int .i64 0,.int .i64 0]]) ?_ rfl ⟨rfl,?_⟩
  ·first
    |exact tg8_res _ _ w.heap.size (w.heap.size+1) x0 x1 x2 x3 nm 80 ⟨#[47]⟩ 0 ⟨#[]⟩ ⟨#[]⟩ ⟨#[]⟩ 0 0 0 0 _ _ rfl rfl rfl (((Blk.othB 0 ⟨#[]⟩ ⟨#[]⟩ ⟨#[]⟩ 0 0 0 0 hne1 (Blk.set6 x0 x1 x2 x3 nm 80 hA)).old _).old _) (((Blk.setB 0 ⟨#[]⟩ ⟨#[]⟩ ⟨#[]⟩ 0 0 0 0 (Blk.oth6 x0 x1 x2 x3 nm 80 hne2 hB)).old _).old _)
    |exact tg8_res _ _ w.heap.size (w.heap.size+1) x0 x1 x2 x3 nm 80 ⟨#[47]⟩ 0 ⟨#[]⟩ ⟨#[]⟩ ⟨#[]⟩ 0 0 0 0 _ _ rfl rfl rfl (Blk.drew1 (((Blk.othB 0 ⟨#[]⟩ ⟨#[]⟩ ⟨#[]⟩ 0 0 0 0 hne1 (Blk.set6 x0 x1 x2 x3 nm 80 hA)).old _).old _)) (Blk.drew1 (((Blk.setB 0 ⟨#[]⟩ ⟨#[]⟩ ⟨#[]⟩ 0 0 0 0 (Blk.oth6 x0 x1 x2 x3 nm 80 hne2 hB)).old _).old _))
  ·first
    |exact (below_alloc (below_alloc (setB_below (below6 x0 x1 x2 x3 nm 80 (Nat.le_refl _) HW.out) (Nat.le_succ _) 0 ⟨#[]⟩ ⟨#[]⟩ ⟨#[]⟩ 0 0 0 0) _) _)
    |exact below_drew1 (below_alloc (below_alloc (setB_below (below6 x0 x1 x2 x3 nm 80 (Nat.le_refl _) HW.out) (Nat.le_succ _) 0 ⟨#[]⟩ ⟨#[]⟩ ⟨#[]⟩ 0 0 0 0) _) _)
set_option maxRecDepth 100000 in
set_option maxHeartbeats 8000000 in
theorem tg_dE0 (m s:ByteArray) (p:Int) (hm:(m.toList==[67,79,78,78,69,67,84])=false) (h7:7≤s.size) (rest:ByteArray) (hrest:s.extract 7 s.size=rest) (HE0: ∀ W,Calls Tryz.prog 27 #[.string s,.string ⟨#[104,116,116,112,58,47,47]⟩] W fun e w'=>e= .returned (.bool true)∧Below W.heap.size W w') (HI0: ∀ W,Calls Tryz.prog 102 #[.string rest,.string ⟨#[47]⟩] W fun e w'=>e= .returned (.int .i64 (-1))∧Below W.heap.size W w') (HL0: ∀ W,Calls Tryz.prog 66 #[.string ⟨#[47]⟩,.int .u8 33,.int .i64 2048] W fun e w'=>e= .returned (.bool true)∧Below W.heap.size W w') (hp7:wrap64 (p+7)=p+7) (kc:Int) (hkc: ¬ kc<0) (HC0: ∀ W,Calls Tryz.prog 102 #[.string rest,.string ⟨#[58]⟩] W fun e w'=>e= .returned (.int .i64 kc)∧Below W.heap.size W w') (n:Int) (l0 l1 l2:ByteArray) (a0 a1 a2 c:Int) (hn:n>0) (n':Int) (k0 k1 k2:ByteArray) (b0' b1' b2' d':Int) (HP0: ∀ W,StdW W→Calls Tryz.prog 103 #[.string rest] W fun e w'=>e= .returned (.tuple #[.agg #[.int .u8 0,.int .u8 0,.int .u8 0,.int .u8 0,.string ⟨#[]⟩,.int .i64 0],.agg #[.int .i64 n,.string l0,.string l1,.string l2,.string ⟨#[]⟩,.int .i64 a0,.int .i64 a1,.int .i64 a2,.int .i64 0,.int .i64 c]])∧Below W.heap.size W w') (HK0: ∀ W,Calls Tryz.prog 69 #[.string ⟨#[104,101,97,100]⟩,.int .i64 (p+7),.agg #[.int .i64 n,.string l0,.string l1,.string l2,.string ⟨#[]⟩,.int .i64 a0,.int .i64 a1,.int .i64 a2,.int .i64 0,.int .i64 c]] W fun e w'=>e= .returned (.agg #[.int .i64 n',.string k0,.string k1,.string k2,.string ⟨#[]⟩,.int .i64 b0',.int .i64 b1',.int .i64 b2',.int .i64 0,.int .i64 d'])∧Below W.heap.size W w') (w:World) (hS:StdW w):
  Calls Tryz.prog 61 #[.string m,.string s,.int .i64 p] w fun e w'=>e= .returned (.tuple #[.agg #[.int .u8 0,.int .u8 0,.int .u8 0,.int .u8 0,.string ⟨#[]⟩,.int .i64 0],.string ⟨#[]⟩,.agg #[.int .i64 n',.string k0,.string k1,.string k2,.string ⟨#[]⟩,.int .i64 b0',.int .i64 b1',.int .i64 b2',.int .i64 0,.int .i64 d']])∧Below w.heap.size w w':=by
 have HS:=Lib.hid hS
 have HE:=Lib.hid HE0
 have HI:=Lib.hid HI0
 clear HE0 HI0
 have h7i:(7:Int)≤(s.size:Int):=by omega
 have HL:=Lib.hid HL0
 have HC:=Lib.hid HC0
 have HP:=Lib.hid HP0
 have HK:=Lib.hid HK0
 clear HL0 HC0 HP0 HK0
 clear hS
 have HA:=Lib.hid ((Blk.new w zD6 41).old (.cells zX 32))
 have HB:Hid (Blk ((w.alloc (.cells zD6 41)).alloc (.cells zX 32)) (w.heap.size+1) zX 32):=Lib.hid (by have:=Blk.new (w.alloc (.cells zD6 41)) zX 32;rwa [World.size_alloc] at this)
 have HW:=Lib.hid (below_alloc (below_alloc (Below.refl w.heap.size w) (.cells zD6 41)) (.cells zX 32))
 have hne1:w.heap.size≠w.heap.size+1:=by omega
 have hne2:=hne1.symm
 unfold zD6 dC zX bad3 at HA HB HW
 go_enter Tryz.func61,Tryz.ntmps61
 go_wp2_with (first|(go_at_call 27;(with_reducible refine (HE.out _).mono ?_);rintro e wn ⟨rfl,hb⟩;have HA:=Lib.hid (HA.out.below hb);have HB:=Lib.hid (HB.out.below hb);have HW:=Lib.hid (below_then HW.out HW.out.size hb);clear hb)|(go_at_call 102;(with_reducible refine (HI.out _).mono ?_);rintro e wn ⟨rfl,hb⟩;have HA:=Lib.hid (HA.out.below hb);have HB:=Lib.hid (HB.out.below hb);have HW:=Lib.hid (below_then HW.out HW.out.size hb);clear hb)|(go_at_call 66;(with_reducible refine (HL.out _).mono ?_);rintro e wn ⟨rfl,hb⟩;have HA:=Lib.hid (HA.out.below hb);have HB:=Lib.hid (HB.out.below hb);have HW:=Lib.hid (below_then HW.out HW.out.size hb);clear hb)|(go_at_call 102;(with_reducible refine (HC.out _).mono ?_);rintro e wn ⟨rfl,hb⟩;have HA:=Lib.hid (HA.out.below hb);have HB:=Lib.hid (HB.out.below hb);have HW:=Lib.hid (below_then HW.out HW.out.size hb);clear hb)|(go_at_call 103;(with_reducible refine (HP.out _ (StdW.below HS.out HW.out)).mono ?_);rintro e wn ⟨rfl,hb⟩;have HA:=Lib.hid (HA.out.below hb);have HB:=Lib.hid (HB.out.below hb);have HW:=Lib.hid (below_then HW.out HW.out.size hb);clear hb))
 have hA7:Blk ((wn.alloc (.cells #[.int .u8 0,.int .u8 0,.int .u8 0,.int .u8 0,.string ⟨#[]⟩,.int .i64 0] 41)).alloc (.cells #[.int .i64 n,.string l0,.string l1,.string l2,.string ⟨#[]⟩,.int .i64 a0,.int .i64 a1,.int .i64 a2,.int .i64 0,.int .i64 c] 32)) w.heap.size zD6 _:=(HA.out.old _).old _
 have hB7:Blk ((wn.alloc (.cells #[.int .u8 0,.int .u8 0,.int .u8 0,.int .u8 0,.string ⟨#[]⟩,.int .i64 0] 41)).alloc (.cells #[.int .i64 n,.string l0,.string l1,.string l2,.string ⟨#[]⟩,.int .i64 a0,.int .i64 a1,.int .i64 a2,.int .i64 0,.int .i64 c] 32)) (w.heap.size+1) zX _:=(HB.out.old _).old _
 have hH7:Blk ((wn.alloc (.cells #[.int .u8 0,.int .u8 0,.int .u8 0,.int .u8 0,.string ⟨#[]⟩,.int .i64 0] 41)).alloc (.cells #[.int .i64 n,.string l0,.string l1,.string l2,.string ⟨#[]⟩,.int .i64 a0,.int .i64 a1,.int .i64 a2,.int .i64 0,.int .i64 c] 32)) wn.heap.size #[.int .u8 0,.int .u8 0,.int .u8 0,.int .u8 0,.string ⟨#[]⟩,.int .i64 0] 41:=(Blk.new wn #[.int .u8 0,.int .u8 0,.int .u8 0,.int .u8 0,.string ⟨#[]⟩,.int .i64 0] 41).old _
 have hX7:Blk ((wn.alloc (.cells #[.int .u8 0,.int .u8 0,.int .u8 0,.int .u8 0,.string ⟨#[]⟩,.int .i64 0] 41)).alloc (.cells #[.int .i64 n,.string l0,.string l1,.string l2,.string ⟨#[]⟩,.int .i64 a0,.int .i64 a1,.int .i64 a2,.int .i64 0,.int .i64 c] 32)) (wn.heap.size+1) #[.int .i64 n,.string l0,.string l1,.string l2,.string ⟨#[]⟩,.int .i64 a0,.int .i64 a1,.int .i64 a2,.int .i64 0,.int .i64 c] 32:=by
  have:=Blk.new (wn.alloc (.cells #[.int .u8 0,.int .u8 0,.int .u8 0,.int .u8 0,.string ⟨#[]⟩,.int .i64 0] 41)) #[.int .i64 n,.string l0,.string l1,.string l2,.string ⟨#[]⟩,.int .i64 a0,.int .i64 a1,.int .i64 a2,.int .i64 0,.int .i64 c] 32
  rwa [World.size_alloc] at this
 have hw7:Below w.heap.size w ((wn.alloc (.cells #[.int .u8 0,.int .u8 0,.int .u8 0,.int .u8 0,.string ⟨#[]⟩,.int .i64 0] 41)).alloc (.cells #[.int .i64 n,.string l0,.string l1,.string l2,.string ⟨#[]⟩,.int .i64 a0,.int .i64 a1,.int .i64 a2,.int .i64 0,.int .i64 c] 32)):=below_alloc (below_alloc HW.out _) _
 generalize ((wn.alloc (.cells #[.int .u8 0,.int .u8 0,.int .u8 0,.int .u8 0,.string ⟨#[]⟩,.int .i64 0] 41)).alloc (.cells #[.int .i64 n,.string l0,.string l1,.string l2,.string ⟨#[]⟩,.int .i64 a0,.int .i64 a1,.int .i64 a2,.int .i64 0,.int .i64 c] 32))=W7 at hA7 hB7 hH7 hX7 hw7 ⊢
 clear HA HB HW
 have HA:=Lib.hid hA7
 have HB:=Lib.hid hB7
 have HW:=Lib.hid hw7
 clear hA7 hB7 hH7 hX7 hw7
 go_wp2_with (go_at_call 69;(with_reducible refine (HK.out _).mono ?_);rintro e wn ⟨rfl,hb⟩;have HA:=Lib.hid (HA.out.below hb);have HB:=Lib.hid (HB.out.below hb);have HW:=Lib.hid (below_then HW.out HW.out.size hb);clear hb;have hA:=HA.out;have hB:=HB.out;have hlt1:=hA.lt;have hlt2:=hB.lt;obtain ⟨d0,d1,d2,d3,d4,d5,f0,f1,f2,f3,f4,f5,s0,s1,s2,s3,s4,s5⟩:=hA.dids;obtain ⟨v0,v1,v2,v3,v4,v5,v6,v7,v8,v9,r0,r1,r2,r3,r4,r5,r6,r7,r8,r9⟩:=hB.ten)
 all_goals
  refine bodyPost_ret (v:= .tuple #[.agg #[.int .u8 0,.int .u8 0,.int .u8 0,.int .u8 0,.string ⟨#[]⟩,.int .i64 0],.string ⟨#[]⟩,.agg #[.int .i64 n',.string k0,.string k1,.string k2,.string ⟨#[]⟩,.int .i64 b0',.int .i64 b1',.int .i64 b2',.int .i64 0,.int .i64 d']]) ?_ rfl ⟨rfl,?_⟩
  ·first
    |exact tg8_res _ _ w.heap.size (w.heap.size+1) 0 0 0 0 ⟨#[]⟩ 0 ⟨#[]⟩ n' k0 k1 k2 b0' b1' b2' d' _ _ rfl rfl rfl (Blk.othB n' k0 k1 k2 b0' b1' b2' d' hne1 hA) (Blk.setB n' k0 k1 k2 b0' b1' b2' d' hB)
    |exact tg8_res _ _ w.heap.size (w.heap.size+1) 0 0 0 0 ⟨#[]⟩ 0 ⟨#[]⟩ n' k0 k1 k2 b0' b1' b2' d' _ _ rfl rfl rfl (Blk.drew1 (Blk.othB n' k0 k1 k2 b0' b1' b2' d' hne1 hA)) (Blk.drew1 (Blk.setB n' k0 k1 k2 b0' b1' b2' d' hB))
  ·first
    |exact (setB_below HW.out (Nat.le_succ _) n' k0 k1 k2 b0' b1' b2' d')
    |exact below_drew1 (setB_below HW.out (Nat.le_succ _) n' k0 k1 k2 b0' b1' b2' d')
set_option maxRecDepth 100000 in
set_option maxHeartbeats 8000000 in
theorem tg_dO0 (m s:ByteArray) (p:Int) (hm:(m.toList==[67,79,78,78,69,67,84])=false) (h7:7≤s.size) (rest:ByteArray) (hrest:s.extract 7 s.size=rest) (HE0: ∀ W,Calls Tryz.prog 27 #[.string s,.string ⟨#[104,116,116,112,58,47,47]⟩] W fun e w'=>e= .returned (.bool true)∧Below W.heap.size W w') (HI0: ∀ W,Calls Tryz.prog 102 #[.string rest,.string ⟨#[47]⟩] W fun e w'=>e= .returned (.int .i64 (-1))∧Below W.heap.size W w') (HL0: ∀ W,Calls Tryz.prog 66 #[.string ⟨#[47]⟩,.int .u8 33,.int .i64 2048] W fun e w'=>e= .returned (.bool true)∧Below W.heap.size W w') (kc:Int) (hkc: ¬ kc<0) (HC0: ∀ W,Calls Tryz.prog 102 #[.string rest,.string ⟨#[58]⟩] W fun e w'=>e= .returned (.int .i64 kc)∧Below W.heap.size W w') (x0 x1 x2 x3:Int) (nm:ByteArray) (po:Int) (HP0: ∀ W,StdW W→Calls Tryz.prog 103 #[.string rest] W fun e w'=>e= .returned (.tuple #[.agg #[.int .u8 x0,.int .u8 x1,.int .u8 x2,.int .u8 x3,.string nm,.int .i64 po],.agg #[.int .i64 0,.string ⟨#[]⟩,.string ⟨#[]⟩,.string ⟨#[]⟩,.string ⟨#[]⟩,.int .i64 0,.int .i64 0,.int .i64 0,.int .i64 0,.int .i64 0]])∧Below W.heap.size W w') (w:World) (hS:StdW w):
  Calls Tryz.prog 61 #[.string m,.string s,.int .i64 p] w fun e w'=>e= .returned (.tuple #[.agg #[.int .u8 x0,.int .u8 x1,.int .u8 x2,.int .u8 x3,.string nm,.int .i64 po],.string ⟨#[47]⟩,.agg #[.int .i64 0,.string ⟨#[]⟩,.string ⟨#[]⟩,.string ⟨#[]⟩,.string ⟨#[]⟩,.int .i64 0,.int .i64 0,.int .i64 0,.int .i64 0,.int .i64 0]])∧Below w.heap.size w w':=by
 have HS:=Lib.hid hS
 have HE:=Lib.hid HE0
 have HI:=Lib.hid HI0
 clear HE0 HI0
 have h7i:(7:Int)≤(s.size:Int):=by omega
 have HL:=Lib.hid HL0
 have HC:=Lib.hid HC0
 have HP:=Lib.hid HP0
 clear HL0 HC0 HP0
 clear hS
 have HA:=Lib.hid ((Blk.new w zD6 41).old (.cells zX 32))
 have HB:Hid (Blk ((w.alloc (.cells zD6 41)).alloc (.cells zX 32)) (w.heap.size+1) zX 32):=Lib.hid (by have:=Blk.new (w.alloc (.cells zD6 41)) zX 32;rwa [World.size_alloc] at this)
 have HW:=Lib.hid (below_alloc (below_alloc (Below.refl w.heap.size w) (.cells zD6 41)) (.cells zX 32))
 have hne1:w.heap.size≠w.heap.size+1:=by omega
 have hne2:=hne1.symm
 unfold zD6 dC zX bad3 at HA HB HW
 go_enter Tryz.func61,Tryz.ntmps61
 go_wp2_with (first|(go_at_call 27;(with_reducible refine (HE.out _).mono ?_);rintro e wn ⟨rfl,hb⟩;have HA:=Lib.hid (HA.out.below hb);have HB:=Lib.hid (HB.out.below hb);have HW:=Lib.hid (below_then HW.out HW.out.size hb);clear hb)|(go_at_call 102;(with_reducible refine (HI.out _).mono ?_);rintro e wn ⟨rfl,hb⟩;have HA:=Lib.hid (HA.out.below hb);have HB:=Lib.hid (HB.out.below hb);have HW:=Lib.hid (below_then HW.out HW.out.size hb);clear hb)|(go_at_call 66;(with_reducible refine (HL.out _).mono ?_);rintro e wn ⟨rfl,hb⟩;have HA:=Lib.hid (HA.out.below hb);have HB:=Lib.hid (HB.out.below hb);have HW:=Lib.hid (below_then HW.out HW.out.size hb);clear hb)|(go_at_call 102;(with_reducible refine (HC.out _).mono ?_);rintro e wn ⟨rfl,hb⟩;have HA:=Lib.hid (HA.out.below hb);have HB:=Lib.hid (HB.out.below hb);have HW:=Lib.hid (below_then HW.out HW.out.size hb);clear hb)|(go_at_call 103;(with_reducible refine (HP.out _ (StdW.below HS.out HW.out)).mono ?_);rintro e wn ⟨rfl,hb⟩;have HA:=Lib.hid (HA.out.below hb);have HB:=Lib.hid (HB.out.below hb);have HW:=Lib.hid (below_then HW.out HW.out.size hb);clear hb;have hA:=HA.out;have hB:=HB.out;have hlt1:=hA.lt;have hlt2:=hB.lt;obtain ⟨d0,d1,d2,d3,d4,d5,f0,f1,f2,f3,f4,f5,-⟩:=hA.dids;obtain ⟨v0,v1,v2,v3,v4,v5,v6,v7,v8,v9,r0,r1,r2,r3,r4,r5,r6,r7,r8,r9⟩:=hB.ten))
 all_goals
  refine bodyPost_ret (v:= .tuple #[.agg #[.int .u8 x0,.int .u8 x1,.int .u8 x2,.int .u8 x3,.string nm,.int .i64 po],.string ⟨#[47]⟩,.agg #[.int .i64 0,.string ⟨#[]⟩,.string ⟨#[]⟩,.string ⟨#[]⟩,.string ⟨#[]⟩,.int .i64 0,.int .i64 0,.int .i64 0,.int .i64 0,.int .i64 0]]) ?_ rfl ⟨rfl,?_⟩
  ·first
    |exact tg8_res _ _ w.heap.size (w.heap.size+1) x0 x1 x2 x3 nm po ⟨#[47]⟩ 0 ⟨#[]⟩ ⟨#[]⟩ ⟨#[]⟩ 0 0 0 0 _ _ rfl rfl rfl (((Blk.othB 0 ⟨#[]⟩ ⟨#[]⟩ ⟨#[]⟩ 0 0 0 0 hne1 (Blk.set6 x0 x1 x2 x3 nm po hA)).old _).old _) (((Blk.setB 0 ⟨#[]⟩ ⟨#[]⟩ ⟨#[]⟩ 0 0 0 0 (Blk.oth6 x0 x1 x2 x3 nm po hne2 hB)).old _).old _)
    |exact tg8_res _ _ w.heap.size (w.heap.size+1) x0 x1 x2 x3 nm po ⟨#[47]⟩ 0 ⟨#[]⟩ ⟨#[]⟩ ⟨#[]⟩ 0 0 0 0 _ _ rfl rfl rfl (Blk.drew1 (((Blk.othB 0 ⟨#[]⟩ ⟨#[]⟩ ⟨#[]⟩ 0 0 0 0 hne1 (Blk.set6 x0 x1 x2 x3 nm po hA)).old _).old _)) (Blk.drew1 (((Blk.setB 0 ⟨#[]⟩ ⟨#[]⟩ ⟨#[]⟩ 0 0 0 0 (Blk.oth6 x0 x1 x2 x3 nm po hne2 hB)).old _).old _))
  ·first
    |exact (below_alloc (below_alloc (setB_below (below6 x0 x1 x2 x3 nm po (Nat.le_refl _) HW.out) (Nat.le_succ _) 0 ⟨#[]⟩ ⟨#[]⟩ ⟨#[]⟩ 0 0 0 0) _) _)
    |exact below_drew1 (below_alloc (below_alloc (setB_below (below6 x0 x1 x2 x3 nm po (Nat.le_refl _) HW.out) (Nat.le_succ _) 0 ⟨#[]⟩ ⟨#[]⟩ ⟨#[]⟩ 0 0 0 0) _) _)
set_option maxRecDepth 100000 in
set_option maxHeartbeats 8000000 in
theorem tg_pl1 (m s:ByteArray) (p:Int) (hm:(m.toList==[67,79,78,78,69,67,84])=false) (h7:7≤s.size) (rest:ByteArray) (hrest:s.extract 7 s.size=rest) (j:Nat) (hj:j≤rest.size) (HE0: ∀ W,Calls Tryz.prog 27 #[.string s,.string ⟨#[104,116,116,112,58,47,47]⟩] W fun e w'=>e= .returned (.bool true)∧Below W.heap.size W w') (HI0: ∀ W,Calls Tryz.prog 102 #[.string rest,.string ⟨#[47]⟩] W fun e w'=>e= .returned (.int .i64 (j:Int))∧Below W.heap.size W w') (HL0: ∀ W,Calls Tryz.prog 66 #[.string (rest.extract j rest.size),.int .u8 33,.int .i64 2048] W fun e w'=>e= .returned (.bool false)∧Below W.heap.size W w') (HF0: ∀ W,StdW W→Calls Tryz.prog 46 #[.int .i64 p,.int .i64 82] W fun e w'=>e= .returned (.agg #[.int .i64 1,.string headS,.string ⟨#[]⟩,.string ⟨#[]⟩,.string ⟨#[]⟩,.int .i64 p,.int .i64 0,.int .i64 0,.int .i64 0,.int .i64 82])∧Below W.heap.size W w') (w:World) (hS:StdW w):
  Calls Tryz.prog 61 #[.string m,.string s,.int .i64 p] w fun e w'=>e= .returned (.tuple #[.agg #[.int .u8 0,.int .u8 0,.int .u8 0,.int .u8 0,.string ⟨#[]⟩,.int .i64 0],.string ⟨#[]⟩,.agg #[.int .i64 1,.string headS,.string ⟨#[]⟩,.string ⟨#[]⟩,.string ⟨#[]⟩,.int .i64 p,.int .i64 0,.int .i64 0,.int .i64 0,.int .i64 82]])∧Below w.heap.size w w':=by
 have HS:=Lib.hid hS
 have HE:=Lib.hid HE0
 have HI:=Lib.hid HI0
 clear HE0 HI0
 have h7i:(7:Int)≤(s.size:Int):=by omega
 have hj0:(0:Int)≤(j:Int):=by omega
 have hj1:(j:Int)≤(rest.size:Int):=by omega
 have hj2: ¬ (j:Int)<0:=by omega
 have HL:=Lib.hid HL0
 have HF:=Lib.hid HF0
 clear HL0 HF0
 clear hS
 have HA:=Lib.hid ((Blk.new w zD6 41).old (.cells zX 32))
 have HB:Hid (Blk ((w.alloc (.cells zD6 41)).alloc (.cells zX 32)) (w.heap.size+1) zX 32):=Lib.hid (by have:=Blk.new (w.alloc (.cells zD6 41)) zX 32;rwa [World.size_alloc] at this)
 have HW:=Lib.hid (below_alloc (below_alloc (Below.refl w.heap.size w) (.cells zD6 41)) (.cells zX 32))
 have hne1:w.heap.size≠w.heap.size+1:=by omega
 have hne2:=hne1.symm
 unfold zD6 dC zX bad3 at HA HB HW
 go_enter Tryz.func61,Tryz.ntmps61
 go_wp2_with (first|(go_at_call 27;(with_reducible refine (HE.out _).mono ?_);rintro e wn ⟨rfl,hb⟩;have HA:=Lib.hid (HA.out.below hb);have HB:=Lib.hid (HB.out.below hb);have HW:=Lib.hid (below_then HW.out HW.out.size hb);clear hb)|(go_at_call 102;(with_reducible refine (HI.out _).mono ?_);rintro e wn ⟨rfl,hb⟩;have HA:=Lib.hid (HA.out.below hb);have HB:=Lib.hid (HB.out.below hb);have HW:=Lib.hid (below_then HW.out HW.out.size hb);clear hb)|(go_at_call 66;(with_reducible refine (HL.out _).mono ?_);rintro e wn ⟨rfl,hb⟩;have HA:=Lib.hid (HA.out.below hb);have HB:=Lib.hid (HB.out.below hb);have HW:=Lib.hid (below_then HW.out HW.out.size hb);clear hb)|(go_at_call 46;(with_reducible refine (HF.out _ (StdW.below HS.out HW.out)).mono ?_);rintro e wn ⟨rfl,hb⟩;have HA:=Lib.hid (HA.out.below hb);have HB:=Lib.hid (HB.out.below hb);have HW:=Lib.hid (below_then HW.out HW.out.size hb);clear hb;have hA:=HA.out;have hB:=HB.out;have hlt1:=hA.lt;have hlt2:=hB.lt;obtain ⟨d0,d1,d2,d3,d4,d5,f0,f1,f2,f3,f4,f5,s0,s1,s2,s3,s4,s5⟩:=hA.dids;obtain ⟨v0,v1,v2,v3,v4,v5,v6,v7,v8,v9,r0,r1,r2,r3,r4,r5,r6,r7,r8,r9⟩:=hB.ten))
 all_goals
  refine bodyPost_ret (v:= .tuple #[.agg #[.int .u8 0,.int .u8 0,.int .u8 0,.int .u8 0,.string ⟨#[]⟩,.int .i64 0],.string ⟨#[]⟩,.agg #[.int .i64 1,.string headS,.string ⟨#[]⟩,.string ⟨#[]⟩,.string ⟨#[]⟩,.int .i64 p,.int .i64 0,.int .i64 0,.int .i64 0,.int .i64 82]]) ?_ rfl ⟨rfl,?_⟩
  ·first
    |exact tg8_res _ _ w.heap.size (w.heap.size+1) 0 0 0 0 ⟨#[]⟩ 0 ⟨#[]⟩ 1 headS ⟨#[]⟩ ⟨#[]⟩ p 0 0 82 _ _ rfl rfl rfl (Blk.othB 1 headS ⟨#[]⟩ ⟨#[]⟩ p 0 0 82 hne1 hA) (Blk.setB 1 headS ⟨#[]⟩ ⟨#[]⟩ p 0 0 82 hB)
    |exact tg8_res _ _ w.heap.size (w.heap.size+1) 0 0 0 0 ⟨#[]⟩ 0 ⟨#[]⟩ 1 headS ⟨#[]⟩ ⟨#[]⟩ p 0 0 82 _ _ rfl rfl rfl (Blk.drew1 (Blk.othB 1 headS ⟨#[]⟩ ⟨#[]⟩ p 0 0 82 hne1 hA)) (Blk.drew1 (Blk.setB 1 headS ⟨#[]⟩ ⟨#[]⟩ p 0 0 82 hB))
  ·first
    |exact (setB_below HW.out (Nat.le_succ _) 1 headS ⟨#[]⟩ ⟨#[]⟩ p 0 0 82)
    |exact below_drew1 (setB_below HW.out (Nat.le_succ _) 1 headS ⟨#[]⟩ ⟨#[]⟩ p 0 0 82)
set_option maxRecDepth 100000 in
set_option maxHeartbeats 8000000 in
theorem tg_hE1 (m s:ByteArray) (p:Int) (hm:(m.toList==[67,79,78,78,69,67,84])=false) (h7:7≤s.size) (rest:ByteArray) (hrest:s.extract 7 s.size=rest) (j:Nat) (hj:j≤rest.size) (HE0: ∀ W,Calls Tryz.prog 27 #[.string s,.string ⟨#[104,116,116,112,58,47,47]⟩] W fun e w'=>e= .returned (.bool true)∧Below W.heap.size W w') (HI0: ∀ W,Calls Tryz.prog 102 #[.string rest,.string ⟨#[47]⟩] W fun e w'=>e= .returned (.int .i64 (j:Int))∧Below W.heap.size W w') (HL0: ∀ W,Calls Tryz.prog 66 #[.string (rest.extract j rest.size),.int .u8 33,.int .i64 2048] W fun e w'=>e= .returned (.bool true)∧Below W.heap.size W w') (hp7:wrap64 (p+7)=p+7) (HC0: ∀ W,Calls Tryz.prog 102 #[.string (rest.extract 0 j),.string ⟨#[58]⟩] W fun e w'=>e= .returned (.int .i64 (-1))∧Below W.heap.size W w') (n:Int) (l0 l1 l2:ByteArray) (a0 a1 a2 c:Int) (hn:n>0) (n':Int) (k0 k1 k2:ByteArray) (b0' b1' b2' d':Int) (HP0: ∀ W,StdW W→Calls Tryz.prog 104 #[.string (rest.extract 0 j)] W fun e w'=>e= .returned (.tuple #[.agg #[.int .u8 0,.int .u8 0,.int .u8 0,.int .u8 0,.string ⟨#[]⟩],.agg #[.int .i64 n,.string l0,.string l1,.string l2,.string ⟨#[]⟩,.int .i64 a0,.int .i64 a1,.int .i64 a2,.int .i64 0,.int .i64 c]])∧Below W.heap.size W w') (HK0: ∀ W,Calls Tryz.prog 69 #[.string ⟨#[104,101,97,100]⟩,.int .i64 (p+7),.agg #[.int .i64 n,.string l0,.string l1,.string l2,.string ⟨#[]⟩,.int .i64 a0,.int .i64 a1,.int .i64 a2,.int .i64 0,.int .i64 c]] W fun e w'=>e= .returned (.agg #[.int .i64 n',.string k0,.string k1,.string k2,.string ⟨#[]⟩,.int .i64 b0',.int .i64 b1',.int .i64 b2',.int .i64 0,.int .i64 d'])∧Below W.heap.size W w') (w:World) (hS:StdW w):
  Calls Tryz.prog 61 #[.string m,.string s,.int .i64 p] w fun e w'=>e= .returned (.tuple #[.agg #[.int .u8 0,.int .u8 0,.int .u8 0,.int .u8 0,.string ⟨#[]⟩,.int .i64 0],.string ⟨#[]⟩,.agg #[.int .i64 n',.string k0,.string k1,.string k2,.string ⟨#[]⟩,.int .i64 b0',.int .i64 b1',.int .i64 b2',.int .i64 0,.int .i64 d']])∧Below w.heap.size w w':=by
 have HS:=Lib.hid hS
 have HE:=Lib.hid HE0
 have HI:=Lib.hid HI0
 clear HE0 HI0
 have h7i:(7:Int)≤(s.size:Int):=by omega
 have hj0:(0:Int)≤(j:Int):=by omega
 have hj1:(j:Int)≤(rest.size:Int):=by omega
 have hj2: ¬ (j:Int)<0:=by omega
 have HL:=Lib.hid HL0
 have HC:=Lib.hid HC0
 have HP:=Lib.hid HP0
 have HK:=Lib.hid HK0
 clear HL0 HC0 HP0 HK0
 clear hS
 have HA:=Lib.hid ((Blk.new w zD6 41).old (.cells zX 32))
 have HB:Hid (Blk ((w.alloc (.cells zD6 41)).alloc (.cells zX 32)) (w.heap.size+1) zX 32):=Lib.hid (by have:=Blk.new (w.alloc (.cells zD6 41)) zX 32;rwa [World.size_alloc] at this)
 have HW:=Lib.hid (below_alloc (below_alloc (Below.refl w.heap.size w) (.cells zD6 41)) (.cells zX 32))
 have hne1:w.heap.size≠w.heap.size+1:=by omega
 have hne2:=hne1.symm
 unfold zD6 dC zX bad3 at HA HB HW
 go_enter Tryz.func61,Tryz.ntmps61
 go_wp2_with (first|(go_at_call 27;(with_reducible refine (HE.out _).mono ?_);rintro e wn ⟨rfl,hb⟩;have HA:=Lib.hid (HA.out.below hb);have HB:=Lib.hid (HB.out.below hb);have HW:=Lib.hid (below_then HW.out HW.out.size hb);clear hb)|(go_at_call 102;(with_reducible refine (HI.out _).mono ?_);rintro e wn ⟨rfl,hb⟩;have HA:=Lib.hid (HA.out.below hb);have HB:=Lib.hid (HB.out.below hb);have HW:=Lib.hid (below_then HW.out HW.out.size hb);clear hb)|(go_at_call 66;(with_reducible refine (HL.out _).mono ?_);rintro e wn ⟨rfl,hb⟩;have HA:=Lib.hid (HA.out.below hb);have HB:=Lib.hid (HB.out.below hb);have HW:=Lib.hid (below_then HW.out HW.out.size hb);clear hb)|(go_at_call 102;(with_reducible refine (HC.out _).mono ?_);rintro e wn ⟨rfl,hb⟩;have HA:=Lib.hid (HA.out.below hb);have HB:=Lib.hid (HB.out.below hb);have HW:=Lib.hid (below_then HW.out HW.out.size hb);clear hb)|(go_at_call 104;(with_reducible refine (HP.out _ (StdW.below HS.out HW.out)).mono ?_);rintro e wn ⟨rfl,hb⟩;have HA:=Lib.hid (HA.out.below hb);have HB:=Lib.hid (HB.out.below hb);have HW:=Lib.hid (below_then HW.out HW.out.size hb);clear hb))
 have hA7:Blk ((wn.alloc (.cells #[.int .u8 0,.int .u8 0,.int .u8 0,.int .u8 0,.string ⟨#[]⟩] 39)).alloc (.cells #[.int .i64 n,.string l0,.string l1,.string l2,.string ⟨#[]⟩,.int .i64 a0,.int .i64 a1,.int .i64 a2,.int .i64 0,.int .i64 c] 32)) w.heap.size zD6 _:=(HA.out.old _).old _
 have hB7:Blk ((wn.alloc (.cells #[.int .u8 0,.int .u8 0,.int .u8 0,.int .u8 0,.string ⟨#[]⟩] 39)).alloc (.cells #[.int .i64 n,.string l0,.string l1,.string l2,.string ⟨#[]⟩,.int .i64 a0,.int .i64 a1,.int .i64 a2,.int .i64 0,.int .i64 c] 32)) (w.heap.size+1) zX _:=(HB.out.old _).old _
 have hH7:Blk ((wn.alloc (.cells #[.int .u8 0,.int .u8 0,.int .u8 0,.int .u8 0,.string ⟨#[]⟩] 39)).alloc (.cells #[.int .i64 n,.string l0,.string l1,.string l2,.string ⟨#[]⟩,.int .i64 a0,.int .i64 a1,.int .i64 a2,.int .i64 0,.int .i64 c] 32)) wn.heap.size #[.int .u8 0,.int .u8 0,.int .u8 0,.int .u8 0,.string ⟨#[]⟩] 39:=(Blk.new wn #[.int .u8 0,.int .u8 0,.int .u8 0,.int .u8 0,.string ⟨#[]⟩] 39).old _
 have hX7:Blk ((wn.alloc (.cells #[.int .u8 0,.int .u8 0,.int .u8 0,.int .u8 0,.string ⟨#[]⟩] 39)).alloc (.cells #[.int .i64 n,.string l0,.string l1,.string l2,.string ⟨#[]⟩,.int .i64 a0,.int .i64 a1,.int .i64 a2,.int .i64 0,.int .i64 c] 32)) (wn.heap.size+1) #[.int .i64 n,.string l0,.string l1,.string l2,.string ⟨#[]⟩,.int .i64 a0,.int .i64 a1,.int .i64 a2,.int .i64 0,.int .i64 c] 32:=by
  have:=Blk.new (wn.alloc (.cells #[.int .u8 0,.int .u8 0,.int .u8 0,.int .u8 0,.string ⟨#[]⟩] 39)) #[.int .i64 n,.string l0,.string l1,.string l2,.string ⟨#[]⟩,.int .i64 a0,.int .i64 a1,.int .i64 a2,.int .i64 0,.int .i64 c] 32
  rwa [World.size_alloc] at this
 have hw7:Below w.heap.size w ((wn.alloc (.cells #[.int .u8 0,.int .u8 0,.int .u8 0,.int .u8 0,.string ⟨#[]⟩] 39)).alloc (.cells #[.int .i64 n,.string l0,.string l1,.string l2,.string ⟨#[]⟩,.int .i64 a0,.int .i64 a1,.int .i64 a2,.int .i64 0,.int .i64 c] 32)):=below_alloc (below_alloc HW.out _) _
 generalize ((wn.alloc (.cells #[.int .u8 0,.int .u8 0,.int .u8 0,.int .u8 0,.string ⟨#[]⟩] 39)).alloc (.cells #[.int .i64 n,.string l0,.string l1,.string l2,.string ⟨#[]⟩,.int .i64 a0,.int .i64 a1,.int .i64 a2,.int .i64 0,.int .i64 c] 32))=W7 at hA7 hB7 hH7 hX7 hw7 ⊢
 clear HA HB HW
 have HA:=Lib.hid hA7
 have HB:=Lib.hid hB7
 have HW:=Lib.hid hw7
 clear hA7 hB7 hH7 hX7 hw7
 go_wp2_with (go_at_call 69;(with_reducible refine (HK.out _).mono ?_);rintro e wn ⟨rfl,hb⟩;have HA:=Lib.hid (HA.out.below hb);have HB:=Lib.hid (HB.out.below hb);have HW:=Lib.hid (below_then HW.out HW.out.size hb);clear hb;have hA:=HA.out;have hB:=HB.out;have hlt1:=hA.lt;have hlt2:=hB.lt;obtain ⟨d0,d1,d2,d3,d4,d5,f0,f1,f2,f3,f4,f5,s0,s1,s2,s3,s4,s5⟩:=hA.dids;obtain ⟨v0,v1,v2,v3,v4,v5,v6,v7,v8,v9,r0,r1,r2,r3,r4,r5,r6,r7,r8,r9⟩:=hB.ten)
 all_goals
  refine bodyPost_ret (v:= .tuple #[.agg #[.int .u8 0,.int .u8 0,.int .u8 0,.int .u8 0,.string ⟨#[]⟩,.int .i64 0],.string ⟨#[]⟩,.agg #[.int .i64 n',.string k0,.string k1,.string k2,.string ⟨#[]⟩,.int .i64 b0',.int .i64 b1',.int .i64 b2',.int .i64 0,.int .i64 d']]) ?_ rfl ⟨rfl,?_⟩
  ·first
    |exact tg8_res _ _ w.heap.size (w.heap.size+1) 0 0 0 0 ⟨#[]⟩ 0 ⟨#[]⟩ n' k0 k1 k2 b0' b1' b2' d' _ _ rfl rfl rfl (Blk.othB n' k0 k1 k2 b0' b1' b2' d' hne1 hA) (Blk.setB n' k0 k1 k2 b0' b1' b2' d' hB)
    |exact tg8_res _ _ w.heap.size (w.heap.size+1) 0 0 0 0 ⟨#[]⟩ 0 ⟨#[]⟩ n' k0 k1 k2 b0' b1' b2' d' _ _ rfl rfl rfl (Blk.drew1 (Blk.othB n' k0 k1 k2 b0' b1' b2' d' hne1 hA)) (Blk.drew1 (Blk.setB n' k0 k1 k2 b0' b1' b2' d' hB))
  ·first
    |exact (setB_below HW.out (Nat.le_succ _) n' k0 k1 k2 b0' b1' b2' d')
    |exact below_drew1 (setB_below HW.out (Nat.le_succ _) n' k0 k1 k2 b0' b1' b2' d')
set_option maxRecDepth 100000 in
set_option maxHeartbeats 8000000 in
theorem tg_hO1 (m s:ByteArray) (p:Int) (hm:(m.toList==[67,79,78,78,69,67,84])=false) (h7:7≤s.size) (rest:ByteArray) (hrest:s.extract 7 s.size=rest) (j:Nat) (hj:j≤rest.size) (HE0: ∀ W,Calls Tryz.prog 27 #[.string s,.string ⟨#[104,116,116,112,58,47,47]⟩] W fun e w'=>e= .returned (.bool true)∧Below W.heap.size W w') (HI0: ∀ W,Calls Tryz.prog 102 #[.string rest,.string ⟨#[47]⟩] W fun e w'=>e= .returned (.int .i64 (j:Int))∧Below W.heap.size W w') (HL0: ∀ W,Calls Tryz.prog 66 #[.string (rest.extract j rest.size),.int .u8 33,.int .i64 2048] W fun e w'=>e= .returned (.bool true)∧Below W.heap.size W w') (HC0: ∀ W,Calls Tryz.prog 102 #[.string (rest.extract 0 j),.string ⟨#[58]⟩] W fun e w'=>e= .returned (.int .i64 (-1))∧Below W.heap.size W w') (x0 x1 x2 x3:Int) (nm:ByteArray) (HP0: ∀ W,StdW W→Calls Tryz.prog 104 #[.string (rest.extract 0 j)] W fun e w'=>e= .returned (.tuple #[.agg #[.int .u8 x0,.int .u8 x1,.int .u8 x2,.int .u8 x3,.string nm],.agg #[.int .i64 0,.string ⟨#[]⟩,.string ⟨#[]⟩,.string ⟨#[]⟩,.string ⟨#[]⟩,.int .i64 0,.int .i64 0,.int .i64 0,.int .i64 0,.int .i64 0]])∧Below W.heap.size W w') (w:World) (hS:StdW w):
  Calls Tryz.prog 61 #[.string m,.string s,.int .i64 p] w fun e w'=>e= .returned (.tuple #[.agg #[.int .u8 x0,.int .u8 x1,.int .u8 x2,.int .u8 x3,.string nm,.int .i64 80],.string (rest.extract j rest.size),.agg #[.int .i64 0,.string ⟨#[]⟩,.string ⟨#[]⟩,.string ⟨#[]⟩,.string ⟨#[]⟩,.int .i64 0,.int .i64 0,.int .i64 0,.int .i64 0,.int .i64 0]])∧Below w.heap.size w w':=by
 have HS:=Lib.hid hS
 have HE:=Lib.hid HE0
 have HI:=Lib.hid HI0
 clear HE0 HI0
 have h7i:(7:Int)≤(s.size:Int):=by omega
 have hj0:(0:Int)≤(j:Int):=by omega
 have hj1:(j:Int)≤(rest.size:Int):=by omega
 have hj2: ¬ (j:Int)<0:=by omega
 have HL:=Lib.hid HL0
 have HC:=Lib.hid HC0
 have HP:=Lib.hid HP0
 clear HL0 HC0 HP0
 clear hS
 have HA:=Lib.hid ((Blk.new w zD6 41).old (.cells zX 32))
 have HB:Hid (Blk ((w.alloc (.cells zD6 41)).alloc (.cells zX 32)) (w.heap.size+1) zX 32):=Lib.hid (by have:=Blk.new (w.alloc (.cells zD6 41)) zX 32;rwa [World.size_alloc] at this)
 have HW:=Lib.hid (below_alloc (below_alloc (Below.refl w.heap.size w) (.cells zD6 41)) (.cells zX 32))
 have hne1:w.heap.size≠w.heap.size+1:=by omega
 have hne2:=hne1.symm
 unfold zD6 dC zX bad3 at HA HB HW
 go_enter Tryz.func61,Tryz.ntmps61
 go_wp2_with (first|(go_at_call 27;(with_reducible refine (HE.out _).mono ?_);rintro e wn ⟨rfl,hb⟩;have HA:=Lib.hid (HA.out.below hb);have HB:=Lib.hid (HB.out.below hb);have HW:=Lib.hid (below_then HW.out HW.out.size hb);clear hb)|(go_at_call 102;(with_reducible refine (HI.out _).mono ?_);rintro e wn ⟨rfl,hb⟩;have HA:=Lib.hid (HA.out.below hb);have HB:=Lib.hid (HB.out.below hb);have HW:=Lib.hid (below_then HW.out HW.out.size hb);clear hb)|(go_at_call 66;(with_reducible refine (HL.out _).mono ?_);rintro e wn ⟨rfl,hb⟩;have HA:=Lib.hid (HA.out.below hb);have HB:=Lib.hid (HB.out.below hb);have HW:=Lib.hid (below_then HW.out HW.out.size hb);clear hb)|(go_at_call 102;(with_reducible refine (HC.out _).mono ?_);rintro e wn ⟨rfl,hb⟩;have HA:=Lib.hid (HA.out.below hb);have HB:=Lib.hid (HB.out.below hb);have HW:=Lib.hid (below_then HW.out HW.out.size hb);clear hb)|(go_at_call 104;(with_reducible refine (HP.out _ (StdW.below HS.out HW.out)).mono ?_);rintro e wn ⟨rfl,hb⟩;have HA:=Lib.hid (HA.out.below hb);have HB:=Lib.hid (HB.out.below hb);have HW:=Lib.hid (below_then HW.out HW.out.size hb);clear hb;have hA:=HA.out;have hB:=HB.out;have hlt1:=hA.lt;have hlt2:=hB.lt;obtain ⟨d0,d1,d2,d3,d4,d5,f0,f1,f2,f3,f4,f5,-⟩:=hA.dids;obtain ⟨v0,v1,v2,v3,v4,v5,v6,v7,v8,v9,r0,r1,r2,r3,r4,r5,r6,r7,r8,r9⟩:=hB.ten))
 all_goals
  refine bodyPost_ret (v:= .tuple #[.agg #[.int .u8 x0,.int .u8 x1,.int .u8 x2,.int .u8 x3,.string nm,.int .i64 80],.string (rest.extract j rest.size),.agg #[.int .i64 0,.string ⟨#[]⟩,.string ⟨#[]⟩,.string ⟨#[]⟩,.string ⟨#[]⟩,.int .i64 0,.int .i64 0,.int .i64 0,.int .i64 0,.int .i64 0]]) ?_ rfl ⟨rfl,?_⟩
  ·first
    |exact tg8_res _ _ w.heap.size (w.heap.size+1) x0 x1 x2 x3 nm 80 (rest.extract j rest.size) 0 ⟨#[]⟩ ⟨#[]⟩ ⟨#[]⟩ 0 0 0 0 _ _ rfl rfl rfl (((Blk.othB 0 ⟨#[]⟩ ⟨#[]⟩ ⟨#[]⟩ 0 0 0 0 hne1 (Blk.set6 x0 x1 x2 x3 nm 80 hA)).old _).old _) (((Blk.setB 0 ⟨#[]⟩ ⟨#[]⟩ ⟨#[]⟩ 0 0 0 0 (Blk.oth6 x0 x1 x2 x3 nm 80 hne2 hB)).old _).old _)
    |exact tg8_res _ _ w.heap.size (w.heap.size+1) x0 x1 x2 x3 nm 80 (rest.extract j rest.size) 0 ⟨#[]⟩ ⟨#[]⟩ ⟨#[]⟩ 0 0 0 0 _ _ rfl rfl rfl (Blk.drew1 (((Blk.othB 0 ⟨#[]⟩ ⟨#[]⟩ ⟨#[]⟩ 0 0 0 0 hne1 (Blk.set6 x0 x1 x2 x3 nm 80 hA)).old _).old _)) (Blk.drew1 (((Blk.setB 0 ⟨#[]⟩ ⟨#[]⟩ ⟨#[]⟩ 0 0 0 0 (Blk.oth6 x0 x1 x2 x3 nm 80 hne2 hB)).old _).old _))
  ·first
    |exact (below_alloc (below_alloc (setB_below (below6 x0 x1 x2 x3 nm 80 (Nat.le_refl _) HW.out) (Nat.le_succ _) 0 ⟨#[]⟩ ⟨#[]⟩ ⟨#[]⟩ 0 0 0 0) _) _)
    |exact below_drew1 (below_alloc (below_alloc (setB_below (below6 x0 x1 x2 x3 nm 80 (Nat.le_refl _) HW.out) (Nat.le_succ _) 0 ⟨#[]⟩ ⟨#[]⟩ ⟨#[]⟩ 0 0 0 0) _) _)
set_option maxRecDepth 100000 in
set_option maxHeartbeats 8000000 in
theorem tg_dE1 (m s:ByteArray) (p:Int) (hm:(m.toList==[67,79,78,78,69,67,84])=false) (h7:7≤s.size) (rest:ByteArray) (hrest:s.extract 7 s.size=rest) (j:Nat) (hj:j≤rest.size) (HE0: ∀ W,Calls Tryz.prog 27 #[.string s,.string ⟨#[104,116,116,112,58,47,47]⟩] W fun e w'=>e= .returned (.bool true)∧Below W.heap.size W w') (HI0: ∀ W,Calls Tryz.prog 102 #[.string rest,.string ⟨#[47]⟩] W fun e w'=>e= .returned (.int .i64 (j:Int))∧Below W.heap.size W w') (HL0: ∀ W,Calls Tryz.prog 66 #[.string (rest.extract j rest.size),.int .u8 33,.int .i64 2048] W fun e w'=>e= .returned (.bool true)∧Below W.heap.size W w') (hp7:wrap64 (p+7)=p+7) (kc:Int) (hkc: ¬ kc<0) (HC0: ∀ W,Calls Tryz.prog 102 #[.string (rest.extract 0 j),.string ⟨#[58]⟩] W fun e w'=>e= .returned (.int .i64 kc)∧Below W.heap.size W w') (n:Int) (l0 l1 l2:ByteArray) (a0 a1 a2 c:Int) (hn:n>0) (n':Int) (k0 k1 k2:ByteArray) (b0' b1' b2' d':Int) (HP0: ∀ W,StdW W→Calls Tryz.prog 103 #[.string (rest.extract 0 j)] W fun e w'=>e= .returned (.tuple #[.agg #[.int .u8 0,.int .u8 0,.int .u8 0,.int .u8 0,.string ⟨#[]⟩,.int .i64 0],.agg #[.int .i64 n,.string l0,.string l1,.string l2,.string ⟨#[]⟩,.int .i64 a0,.int .i64 a1,.int .i64 a2,.int .i64 0,.int .i64 c]])∧Below W.heap.size W w') (HK0: ∀ W,Calls Tryz.prog 69 #[.string ⟨#[104,101,97,100]⟩,.int .i64 (p+7),.agg #[.int .i64 n,.string l0,.string l1,.string l2,.string ⟨#[]⟩,.int .i64 a0,.int .i64 a1,.int .i64 a2,.int .i64 0,.int .i64 c]] W fun e w'=>e= .returned (.agg #[.int .i64 n',.string k0,.string k1,.string k2,.string ⟨#[]⟩,.int .i64 b0',.int .i64 b1',.int .i64 b2',.int .i64 0,.int .i64 d'])∧Below W.heap.size W w') (w:World) (hS:StdW w):
  Calls Tryz.prog 61 #[.string m,.string s,.int .i64 p] w fun e w'=>e= .returned (.tuple #[.agg #[.int .u8 0,.int .u8 0,.int .u8 0,.int .u8 0,.string ⟨#[]⟩,.int .i64 0],.string ⟨#[]⟩,.agg #[.int .i64 n',.string k0,.string k1,.string k2,.string ⟨#[]⟩,.int .i64 b0',.int .i64 b1',.int .i64 b2',.int .i64 0,.int .i64 d']])∧Below w.heap.size w w':=by
 have HS:=Lib.hid hS
 have HE:=Lib.hid HE0
 have HI:=Lib.hid HI0
 clear HE0 HI0
 have h7i:(7:Int)≤(s.size:Int):=by omega
 have hj0:(0:Int)≤(j:Int):=by omega
 have hj1:(j:Int)≤(rest.size:Int):=by omega
 have hj2: ¬ (j:Int)<0:=by omega
 have HL:=Lib.hid HL0
 have HC:=Lib.hid HC0
 have HP:=Lib.hid HP0
 have HK:=Lib.hid HK0
 clear HL0 HC0 HP0 HK0
 clear hS
 have HA:=Lib.hid ((Blk.new w zD6 41).old (.cells zX 32))
 have HB:Hid (Blk ((w.alloc (.cells zD6 41)).alloc (.cells zX 32)) (w.heap.size+1) zX 32):=Lib.hid (by have:=Blk.new (w.alloc (.cells zD6 41)) zX 32;rwa [World.size_alloc] at this)
 have HW:=Lib.hid (below_alloc (below_alloc (Below.refl w.heap.size w) (.cells zD6 41)) (.cells zX 32))
 have hne1:w.heap.size≠w.heap.size+1:=by omega
 have hne2:=hne1.symm
 unfold zD6 dC zX bad3 at HA HB HW
 go_enter Tryz.func61,Tryz.ntmps61
 go_wp2_with (first|(go_at_call 27;(with_reducible refine (HE.out _).mono ?_);rintro e wn ⟨rfl,hb⟩;have HA:=Lib.hid (HA.out.below hb);have HB:=Lib.hid (HB.out.below hb);have HW:=Lib.hid (below_then HW.out HW.out.size hb);clear hb)|(go_at_call 102;(with_reducible refine (HI.out _).mono ?_);rintro e wn ⟨rfl,hb⟩;have HA:=Lib.hid (HA.out.below hb);have HB:=Lib.hid (HB.out.below hb);have HW:=Lib.hid (below_then HW.out HW.out.size hb);clear hb)|(go_at_call 66;(with_reducible refine (HL.out _).mono ?_);rintro e wn ⟨rfl,hb⟩;have HA:=Lib.hid (HA.out.below hb);have HB:=Lib.hid (HB.out.below hb);have HW:=Lib.hid (below_then HW.out HW.out.size hb);clear hb)|(go_at_call 102;(with_reducible refine (HC.out _).mono ?_);rintro e wn ⟨rfl,hb⟩;have HA:=Lib.hid (HA.out.below hb);have HB:=Lib.hid (HB.out.below hb);have HW:=Lib.hid (below_then HW.out HW.out.size hb);clear hb)|(go_at_call 103;(with_reducible refine (HP.out _ (StdW.below HS.out HW.out)).mono ?_);rintro e wn ⟨rfl,hb⟩;have HA:=Lib.hid (HA.out.below hb);have HB:=Lib.hid (HB.out.below hb);have HW:=Lib.hid (below_then HW.out HW.out.size hb);clear hb))
 have hA7:Blk ((wn.alloc (.cells #[.int .u8 0,.int .u8 0,.int .u8 0,.int .u8 0,.string ⟨#[]⟩,.int .i64 0] 41)).alloc (.cells #[.int .i64 n,.string l0,.string l1,.string l2,.string ⟨#[]⟩,.int .i64 a0,.int .i64 a1,.int .i64 a2,.int .i64 0,.int .i64 c] 32)) w.heap.size zD6 _:=(HA.out.old _).old _
 have hB7:Blk ((wn.alloc (.cells #[.int .u8 0,.int .u8 0,.int .u8 0,.int .u8 0,.string ⟨#[]⟩,.int .i64 0] 41)).alloc (.cells #[.int .i64 n,.string l0,.string l1,.string l2,.string ⟨#[]⟩,.int .i64 a0,.int .i64 a1,.int .i64 a2,.int .i64 0,.int .i64 c] 32)) (w.heap.size+1) zX _:=(HB.out.old _).old _
 have hH7:Blk ((wn.alloc (.cells #[.int .u8 0,.int .u8 0,.int .u8 0,.int .u8 0,.string ⟨#[]⟩,.int .i64 0] 41)).alloc (.cells #[.int .i64 n,.string l0,.string l1,.string l2,.string ⟨#[]⟩,.int .i64 a0,.int .i64 a1,.int .i64 a2,.int .i64 0,.int .i64 c] 32)) wn.heap.size #[.int .u8 0,.int .u8 0,.int .u8 0,.int .u8 0,.string ⟨#[]⟩,.int .i64 0] 41:=(Blk.new wn #[.int .u8 0,.int .u8 0,.int .u8 0,.int .u8 0,.string ⟨#[]⟩,.int .i64 0] 41).old _
 have hX7:Blk ((wn.alloc (.cells #[.int .u8 0,.int .u8 0,.int .u8 0,.int .u8 0,.string ⟨#[]⟩,.int .i64 0] 41)).alloc (.cells #[.int .i64 n,.string l0,.string l1,.string l2,.string ⟨#[]⟩,.int .i64 a0,.int .i64 a1,.int .i64 a2,.int .i64 0,.int .i64 c] 32)) (wn.heap.size+1) #[.int .i64 n,.string l0,.string l1,.string l2,.string ⟨#[]⟩,.int .i64 a0,.int .i64 a1,.int .i64 a2,.int .i64 0,.int .i64 c] 32:=by
  have:=Blk.new (wn.alloc (.cells #[.int .u8 0,.int .u8 0,.int .u8 0,.int .u8 0,.string ⟨#[]⟩,.int .i64 0] 41)) #[.int .i64 n,.string l0,.string l1,.string l2,.string ⟨#[]⟩,.int .i64 a0,.int .i64 a1,.int .i64 a2,.int .i64 0,.int .i64 c] 32
  rwa [World.size_alloc] at this
 have hw7:Below w.heap.size w ((wn.alloc (.cells #[.int .u8 0,.int .u8 0,.int .u8 0,.int .u8 0,.string ⟨#[]⟩,.int .i64 0] 41)).alloc (.cells #[.int .i64 n,.string l0,.string l1,.string l2,.string ⟨#[]⟩,.int .i64 a0,.int .i64 a1,.int .i64 a2,.int .i64 0,.int .i64 c] 32)):=below_alloc (below_alloc HW.out _) _
 generalize ((wn.alloc (.cells #[.int .u8 0,.int .u8 0,.int .u8 0,.int .u8 0,.string ⟨#[]⟩,.int .i64 0] 41)).alloc (.cells #[.int .i64 n,.string l0,.string l1,.string l2,.string ⟨#[]⟩,.int .i64 a0,.int .i64 a1,.int .i64 a2,.int .i64 0,.int .i64 c] 32))=W7 at hA7 hB7 hH7 hX7 hw7 ⊢
 clear HA HB HW
 have HA:=Lib.hid hA7
 have HB:=Lib.hid hB7
 have HW:=Lib.hid hw7
 clear hA7 hB7 hH7 hX7 hw7
 go_wp2_with (go_at_call 69;(with_reducible refine (HK.out _).mono ?_);rintro e wn ⟨rfl,hb⟩;have HA:=Lib.hid (HA.out.below hb);have HB:=Lib.hid (HB.out.below hb);have HW:=Lib.hid (below_then HW.out HW.out.size hb);clear hb;have hA:=HA.out;have hB:=HB.out;have hlt1:=hA.lt;have hlt2:=hB.lt;obtain ⟨d0,d1,d2,d3,d4,d5,f0,f1,f2,f3,f4,f5,s0,s1,s2,s3,s4,s5⟩:=hA.dids;obtain ⟨v0,v1,v2,v3,v4,v5,v6,v7,v8,v9,r0,r1,r2,r3,r4,r5,r6,r7,r8,r9⟩:=hB.ten)
 all_goals
  refine bodyPost_ret (v:= .tuple #[.agg #[.int .u8 0,.int .u8 0,.int .u8 0,.int .u8 0,.string ⟨#[]⟩,.int .i64 0],.string ⟨#[]⟩,.agg #[.int .i64 n',.string k0,.string k1,.string k2,.string ⟨#[]⟩,.int .i64 b0',.int .i64 b1',.int .i64 b2',.int .i64 0,.int .i64 d']]) ?_ rfl ⟨rfl,?_⟩
  ·first
    |exact tg8_res _ _ w.heap.size (w.heap.size+1) 0 0 0 0 ⟨#[]⟩ 0 ⟨#[]⟩ n' k0 k1 k2 b0' b1' b2' d' _ _ rfl rfl rfl (Blk.othB n' k0 k1 k2 b0' b1' b2' d' hne1 hA) (Blk.setB n' k0 k1 k2 b0' b1' b2' d' hB)
    |exact tg8_res _ _ w.heap.size (w.heap.size+1) 0 0 0 0 ⟨#[]⟩ 0 ⟨#[]⟩ n' k0 k1 k2 b0' b1' b2' d' _ _ rfl rfl rfl (Blk.drew1 (Blk.othB n' k0 k1 k2 b0' b1' b2' d' hne1 hA)) (Blk.drew1 (Blk.setB n' k0 k1 k2 b0' b1' b2' d' hB))
  ·first
    |exact (setB_below HW.out (Nat.le_succ _) n' k0 k1 k2 b0' b1' b2' d')
    |exact below_drew1 (setB_below HW.out (Nat.le_succ _) n' k0 k1 k2 b0' b1' b2' d')
set_option maxRecDepth 100000 in
set_option maxHeartbeats 8000000 in
theorem tg_dO1 (m s:ByteArray) (p:Int) (hm:(m.toList==[67,79,78,78,69,67,84])=false) (h7:7≤s.size) (rest:ByteArray) (hrest:s.extract 7 s.size=rest) (j:Nat) (hj:j≤rest.size) (HE0: ∀ W,Calls Tryz.prog 27 #[.string s,.string ⟨#[104,116,116,112,58,47,47]⟩] W fun e w'=>e= .returned (.bool true)∧Below W.heap.size W w') (HI0: ∀ W,Calls Tryz.prog 102 #[.string rest,.string ⟨#[47]⟩] W fun e w'=>e= .returned (.int .i64 (j:Int))∧Below W.heap.size W w') (HL0: ∀ W,Calls Tryz.prog 66 #[.string (rest.extract j rest.size),.int .u8 33,.int .i64 2048] W fun e w'=>e= .returned (.bool true)∧Below W.heap.size W w') (kc:Int) (hkc: ¬ kc<0) (HC0: ∀ W,Calls Tryz.prog 102 #[.string (rest.extract 0 j),.string ⟨#[58]⟩] W fun e w'=>e= .returned (.int .i64 kc)∧Below W.heap.size W w') (x0 x1 x2 x3:Int) (nm:ByteArray) (po:Int) (HP0: ∀ W,StdW W→Calls Tryz.prog 103 #[.string (rest.extract 0 j)] W fun e w'=>e= .returned (.tuple #[.agg #[.int .u8 x0,.int .u8 x1,.int .u8 x2,.int .u8 x3,.string nm,.int .i64 po],.agg #[.int .i64 0,.string ⟨#[]⟩,.string ⟨#[]⟩,.string ⟨#[]⟩,.string ⟨#[]⟩,.int .i64 0,.int .i64 0,.int .i64 0,.int .i64 0,.int .i64 0]])∧Below W.heap.size W w') (w:World) (hS:StdW w):
  Calls Tryz.prog 61 #[.string m,.string s,.int .i64 p] w fun e w'=>e= .returned (.tuple #[.agg #[.int .u8 x0,.int .u8 x1,.int .u8 x2,.int .u8 x3,.string nm,.int .i64 po],.string (rest.extract j rest.size),.agg #[.int .i64 0,.string ⟨#[]⟩,.string ⟨#[]⟩,.string ⟨#[]⟩,.string ⟨#[]⟩,.int .i64 0,.int .i64 0,.int .i64 0,.int .i64 0,.int .i64 0]])∧Below w.heap.size w w':=by
 have HS:=Lib.hid hS
 have HE:=Lib.hid HE0
 have HI:=Lib.hid HI0
 clear HE0 HI0
 have h7i:(7:Int)≤(s.size:Int):=by omega
 have hj0:(0:Int)≤(j:Int):=by omega
 have hj1:(j:Int)≤(rest.size:Int):=by omega
 have hj2: ¬ (j:Int)<0:=by omega
 have HL:=Lib.hid HL0
 have HC:=Lib.hid HC0
 have HP:=Lib.hid HP0
 clear HL0 HC0 HP0
 clear hS
 have HA:=Lib.hid ((Blk.new w zD6 41).old (.cells zX 32))
 have HB:Hid (Blk ((w.alloc (.cells zD6 41)).alloc (.cells zX 32)) (w.heap.size+1) zX 32):=Lib.hid (by have:=Blk.new (w.alloc (.cells zD6 41)) zX 32;rwa [World.size_alloc] at this)
 have HW:=Lib.hid (below_alloc (below_alloc (Below.refl w.heap.size w) (.cells zD6 41)) (.cells zX 32))
 have hne1:w.heap.size≠w.heap.size+1:=by omega
 have hne2:=hne1.symm
 unfold zD6 dC zX bad3 at HA HB HW
 go_enter Tryz.func61,Tryz.ntmps61
 go_wp2_with (first|(go_at_call 27;(with_reducible refine (HE.out _).mono ?_);rintro e wn ⟨rfl,hb⟩;have HA:=Lib.hid (HA.out.below hb);have HB:=Lib.hid (HB.out.below hb);have HW:=Lib.hid (below_then HW.out HW.out.size hb);clear hb)|(go_at_call 102;(with_reducible refine (HI.out _).mono ?_);rintro e wn ⟨rfl,hb⟩;have HA:=Lib.hid (HA.out.below hb);have HB:=Lib.hid (HB.out.below hb);have HW:=Lib.hid (below_then HW.out HW.out.size hb);clear hb)|(go_at_call 66;(with_reducible refine (HL.out _).mono ?_);rintro e wn ⟨rfl,hb⟩;have HA:=Lib.hid (HA.out.below hb);have HB:=Lib.hid (HB.out.below hb);have HW:=Lib.hid (below_then HW.out HW.out.size hb);clear hb)|(go_at_call 102;(with_reducible refine (HC.out _).mono ?_);rintro e wn ⟨rfl,hb⟩;have HA:=Lib.hid (HA.out.below hb);have HB:=Lib.hid (HB.out.below hb);have HW:=Lib.hid (below_then HW.out HW.out.size hb);clear hb)|(go_at_call 103;(with_reducible refine (HP.out _ (StdW.below HS.out HW.out)).mono ?_);rintro e wn ⟨rfl,hb⟩;have HA:=Lib.hid (HA.out.below hb);have HB:=Lib.hid (HB.out.below hb);have HW:=Lib.hid (below_then HW.out HW.out.size hb);clear hb;have hA:=HA.out;have hB:=HB.out;have hlt1:=hA.lt;have hlt2:=hB.lt;obtain ⟨d0,d1,d2,d3,d4,d5,f0,f1,f2,f3,f4,f5,-⟩:=hA.dids;obtain ⟨v0,v1,v2,v3,v4,v5,v6,v7,v8,v9,r0,r1,r2,r3,r4,r5,r6,r7,r8,r9⟩:=hB.ten))
 all_goals
  refine bodyPost_ret (v:= .tuple #[.agg #[.int .u8 x0,.int .u8 x1,.int .u8 x2,.int .u8 x3,.string nm,.int .i64 po],.string (rest.extract j rest.size),.agg #[.int .i64 0,.string ⟨#[]⟩,.string ⟨#[]⟩,.string ⟨#[]⟩,.string ⟨#[]⟩,.int .i64 0,.int .i64 0,.int .i64 0,.int .i64 0,.int .i64 0]]) ?_ rfl ⟨rfl,?_⟩
  ·first
    |exact tg8_res _ _ w.heap.size (w.heap.size+1) x0 x1 x2 x3 nm po (rest.extract j rest.size) 0 ⟨#[]⟩ ⟨#[]⟩ ⟨#[]⟩ 0 0 0 0 _ _ rfl rfl rfl (((Blk.othB 0 ⟨#[]⟩ ⟨#[]⟩ ⟨#[]⟩ 0 0 0 0 hne1 (Blk.set6 x0 x1 x2 x3 nm po hA)).old _).old _) (((Blk.setB 0 ⟨#[]⟩ ⟨#[]⟩ ⟨#[]⟩ 0 0 0 0 (Blk.oth6 x0 x1 x2 x3 nm po hne2 hB)).old _).old _)
    |exact tg8_res _ _ w.heap.size (w.heap.size+1) x0 x1 x2 x3 nm po (rest.extract j rest.size) 0 ⟨#[]⟩ ⟨#[]⟩ ⟨#[]⟩ 0 0 0 0 _ _ rfl rfl rfl (Blk.drew1 (((Blk.othB 0 ⟨#[]⟩ ⟨#[]⟩ ⟨#[]⟩ 0 0 0 0 hne1 (Blk.set6 x0 x1 x2 x3 nm po hA)).old _).old _)) (Blk.drew1 (((Blk.setB 0 ⟨#[]⟩ ⟨#[]⟩ ⟨#[]⟩ 0 0 0 0 (Blk.oth6 x0 x1 x2 x3 nm po hne2 hB)).old _).old _))
  ·first
    |exact (below_alloc (below_alloc (setB_below (below6 x0 x1 x2 x3 nm po (Nat.le_refl _) HW.out) (Nat.le_succ _) 0 ⟨#[]⟩ ⟨#[]⟩ ⟨#[]⟩ 0 0 0 0) _) _)
    |exact below_drew1 (below_alloc (below_alloc (setB_below (below6 x0 x1 x2 x3 nm po (Nat.le_refl _) HW.out) (Nat.le_succ _) 0 ⟨#[]⟩ ⟨#[]⟩ ⟨#[]⟩ 0 0 0 0) _) _)
end Go.Proofs.YtgmpdjjoefkndaaGreatDoor.E

namespace Go.Proofs.YtgmpdjjoefkndaaGreatDoor.Hd
open Go.Lib

def cutK:Nat→Bs→List Bs
 |_,[]=>[[]]
 |n,c::l=>if c=32∧0<n then []::cutK (n - 1) l else match cutK n l with
  |[]=>[[c]]
  |p::r=>(c::p)::r
theorem cutK_cons: ∀ (l:Bs) (n:Nat),∃ p r,cutK n l=p::r
 |[],n=>⟨[],[],rfl⟩
 |c::l,n=>by
  unfold cutK
  split
  ·exact ⟨_,_,rfl⟩
  ·obtain ⟨p,r,e⟩:=cutK_cons l n
   rw [e];exact ⟨_,_,rfl⟩
theorem cutK_zero: ∀ l:Bs,cutK 0 l=[l]
 |[]=>rfl
 |c::l=>by unfold cutK;rw [if_neg (by omega),cutK_zero l]
theorem cutOn_c (x:UInt8) (l:Bs):Pt.cutOn 32 (x::l)=if x=32 then []::Pt.cutOn 32 l else match Pt.cutOn 32 l with
 |[]=>[[x]]
 |p::r=>(x::p)::r:=by rw [Pt.cutOn];rfl
theorem splitK_cutK: ∀ (l:Bs) (n:Nat),splitK [32] 0 n l=cutK n l
 |l,0=>by rw [cutK_zero];rfl
 |[],n+1=>by
  unfold splitK
  rw [show index ([]:Bs) [32]= -1 from by simp [index]]
  rfl
 |b::l,n+1=>by
  unfold cutK
  by_cases h:b=32
  ·subst h
   have hix:index ((32:UInt8)::l) [32]=0:=by rw [index];simp [List.isPrefixOf]
   rw [if_pos ⟨rfl,by omega⟩,← splitK_cutK l (n+1 - 1),show n+1 - 1=n by omega]
   unfold splitK
   rw [hix]
   cases n<;>rfl
  ·rw [if_neg (fun e=>h e.1),← splitK_cutK l (n+1)]
   have hp:([32]:List UInt8).isPrefixOf (b::l)=false:=by simp [List.isPrefixOf,Ne.symm h]
   have hix:index (b::l) [32]=if index l [32]== -1 then -1 else index l [32]+1:=by rw [index,hp];simp
   by_cases hm:index l [32]= -1
   ·unfold splitK
    rw [hix,hm];rfl
   ·have hge:=index_ge l [32]
    obtain ⟨j,hj⟩: ∃ j:Nat,index l [32]=j:=⟨(index l [32]).toNat,by omega⟩
    have hb:(index l [32]== -1)=false:=by rw [beq_eq_false_iff_ne];exact hm
    unfold splitK
    rw [hix,hb]
    have hb2:((index l [32]+1:Int)== -1)=false:=by rw [beq_eq_false_iff_ne];omega
    simp only [Bool.false_eq_true,if_false,hb2]
    rw [hj]
    have e1:((j:Int)+1).toNat=j+1:=by omega
    have e2:((j:Int)).toNat=j:=by omega
    rw [e1,e2]
    simp
theorem cutK_all: ∀ (l:Bs) (n:Nat),(Pt.cutOn 32 l).length≤n+1→cutK n l=Pt.cutOn 32 l
 |[],n,_=>rfl
 |c::l,n,h=>by
  obtain ⟨p,r,e⟩:=Pt.cutOn_cons 32 l
  rw [cutOn_c] at h ⊢
  unfold cutK
  by_cases hc:c=32
  ·rw [if_pos hc] at h ⊢
   rw [List.length_cons,e,List.length_cons] at h
   rw [if_pos ⟨hc,by omega⟩,cutK_all l (n - 1) (by rw [e,List.length_cons];omega)]
  ·rw [if_neg hc] at h ⊢
   rw [e] at h
   rw [if_neg (fun x=>hc x.1),cutK_all l n (by rw [e];exact h)]
   rfl
theorem cutK_more: ∀ (l:Bs) (n:Nat),n+1<(Pt.cutOn 32 l).length→(cutK n l).length=n+1
 |[],n,h=>by simp [Pt.cutOn] at h
 |c::l,n,h=>by
  obtain ⟨p,r,e⟩:=Pt.cutOn_cons 32 l
  rw [cutOn_c] at h
  unfold cutK
  by_cases hc:c=32
  ·rw [if_pos hc,List.length_cons] at h
   by_cases hn:0<n
   ·rw [if_pos ⟨hc,hn⟩,List.length_cons,cutK_more l (n - 1) (by omega)];omega
   ·have hn:n=0:=by omega
    subst hn
    rw [if_neg (by omega),cutK_zero];rfl
  ·rw [if_neg hc,e] at h
   rw [if_neg (fun x=>hc x.1)]
   have ih:=cutK_more l n (by rw [e];exact h)
   obtain ⟨p,r,e2⟩:=cutK_cons l n
   rw [e2] at ih ⊢
   exact ih
theorem cutOn_len (l:Bs):(Pt.cutOn 32 l).length≤l.length+1:=by
 have h:=Pt.tot_cutOn 32 l
 have: ∀ ps:List Bs,ps.length≤Pt.tot ps:=fun ps=>by
  induction ps with
  |nil=>exact Nat.zero_le _
  |cons p r ih=>unfold Pt.tot at ih ⊢;rw [List.map_cons,List.sum_cons,List.length_cons];omega
 have:=this (Pt.cutOn 32 l)
 omega
theorem cutK_min (l:Bs):cutK (min 3 (l.length+1) - 1) l=cutK 2 l:=by
 by_cases h:2≤l.length
 ·rw [show min 3 (l.length+1) - 1=2 by omega]
 ·have:=cutOn_len l
  rw [cutK_all l _ (by omega),cutK_all l 2 (by omega)]
def linesG:Bs→Bs→Nat→List (Bs×Nat)
 |[],_,_=>[]
 |[_],_,_=>[]
 |c::d::r,cur,from_=>if c=13∧d=10 then (cur,from_)::linesG r [] (from_+cur.length+2) else linesG (d::r) (cur++[c]) from_
def offs:List Bs→Nat→List (Bs×Nat)
 |[],_=>[]
 |l::r,p=>(l,p)::offs r (p+l.length+2)
theorem linesG_line: ∀ (l:Bs) (rest cur:Bs) (p:Nat),(∀ j,crAt l j=false)→linesG (l++13::10::rest) cur p=(cur++l,p)::linesG rest [] (p+(cur++l).length+2)
 |[],rest,cur,p,_=>by
  rw [List.nil_append,List.append_nil]
  conv=>lhs;rw [linesG]
  rw [if_pos ⟨rfl,rfl⟩]
 |[c],rest,cur,p,h=>by
  show linesG (c::13::10::rest) cur p=_
  rw [linesG,if_neg (by rintro ⟨-,e⟩;exact absurd e (by decide))]
  have:=linesG_line [] rest (cur++[c]) p (fun j=>no_nil j)
  rw [List.append_nil] at this
  exact this
 |c::d::l,rest,cur,p,h=>by
  have h0:=h 0
  show linesG (c::d::(l++13::10::rest)) cur p=_
  rw [linesG,if_neg (by
   rintro ⟨rfl,rfl⟩
   exact absurd h0 (by unfold crAt;simp))]
  have:=linesG_line (d::l) rest (cur++[c]) p (fun j=>by
   have:=h (j+1)
   unfold crAt at this ⊢
   simpa using this)
  rw [List.append_assoc] at this
  exact this
theorem linesG_text: ∀ (L:List Bs) (p:Nat),(∀ l ∈ L,okLine l)→ ∃ q,linesG (textOf L) [] p=offs L p++[([],q)]
 |[],p,_=>⟨p,rfl⟩
 |l::L,p,h=>by
  obtain ⟨q,e⟩:=linesG_text L (p+l.length+2) (fun x hx=>h x (List.mem_cons_of_mem _ hx))
  refine ⟨q,?_⟩
  rw [textOf_cons]
  show linesG (l++13::10::textOf L) [] p=_
  rw [linesG_line l (textOf L) [] p (h l List.mem_cons_self).2,List.nil_append,e]
  rfl
end Go.Proofs.YtgmpdjjoefkndaaGreatDoor.Hd

namespace Go.Proofs.YtgmpdjjoefkndaaGreatDoor.E
open Go.RowKit Go.Proofs.YtgmpdjjoefkndaaGreatDoorW.PrintWords Go.Proofs.YtgmpdjjoefkndaaGreatDoorW.PrintLast Go.Proofs.YtgmpdjjoefkndaaGreatDoor.XRf Go.Proofs.YtgmpdjjoefkndaaGreatDoor.XZ
set_option linter.unusedVariables false
set_option linter.unusedSimpArgs false
abbrev Bad11:Type:=Int×Int×ByteArray×ByteArray×ByteArray×ByteArray×Int×Int×Int×Int×Int
def endT:(Nat×Nat) ⊕ Nat→Bad11
 | .inl (a,c)=>(0,1,headS,⟨#[]⟩,⟨#[]⟩,⟨#[]⟩,(a:Int),0,0,0,(c:Int))
 | .inr n=>((n:Int),0,⟨#[]⟩,⟨#[]⟩,⟨#[]⟩,⟨#[]⟩,0,0,0,0,0)
theorem fault8 (a c:Int):sallyportref08_fault.f a c=some (1,headS,⟨#[]⟩,⟨#[]⟩,⟨#[]⟩,a,0,0,0,c):=rfl
theorem rd_byte (xs:List Int) (h: ∀ x ∈ xs,0≤x∧x<256) (i:Nat) (hi:i<xs.length):rd xs (i:Int)=(((Lib.bytesOf xs)[i]'(by rw [bytesOf_length];exact hi)).toNat:Int):=by
 have hx:=h _ (List.getElem_mem hi)
 have e1:rd xs (i:Int)=xs[i]:=by
  unfold rd
  rw [Int.toNat_natCast,List.getD_eq_getElem?_getD,List.getElem?_eq_getElem hi];rfl
 have e2:(Lib.bytesOf xs)[i]'(by rw [bytesOf_length];exact hi)=UInt8.ofNat (xs[i]).toNat:=by
  simp only [Lib.bytesOf,List.getElem_map]
 rw [e1,e2,UInt8.toNat_ofNat']
 omega
theorem crAt_take (bs:List UInt8) (i:Nat) (h1:i+1<bs.length) (h2:i+2≤8192):Hd.crAt (bs.take 8192) i=(bs[i]==13 && bs[i+1]==10):=by
 unfold Hd.crAt
 rw [List.getElem?_take_of_lt (by omega),List.getElem?_take_of_lt (by omega),List.getElem?_eq_getElem (by omega),List.getElem?_eq_getElem h1]
 rfl
theorem end_loop (xs:List Int) (h: ∀ x ∈ xs,0≤x∧x<256) (hl:xs.length≤281474976710656): ∀ (m k i:Nat),i+m=xs.length→3*m+6<k→(∀ j,j<i→Hd.empAt ((Lib.bytesOf xs).take 8192) j=false)→
  sallyportref08_End.l0 k xs (Hd.lastAt ((Lib.bytesOf xs).take 8192) i:Int) (i:Int)=some (endT (Hd.endR (Lib.bytesOf xs))):=by
 intro m
 induction m with
 |zero=> 
  intro k i hi hk hn
  obtain ⟨k,rfl⟩: ∃ j,k=j+2:=⟨k - 2,by omega⟩
  have hlb:=bytesOf_length xs
  have hno:Hd.headN ((Lib.bytesOf xs).take 8192)=none:=Hd.headN_no _ fun j=>by
   cases e:Hd.empAt ((Lib.bytesOf xs).take 8192) j
   ·rfl
   ·exfalso
    have hc:Hd.crAt ((Lib.bytesOf xs).take 8192) j=true:=by unfold Hd.empAt at e;rw [Bool.and_eq_true] at e;exact e.1
    have hlt:=Hd.crAt_lt hc
    rw [List.length_take,hlb] at hlt
    rw [hn j (by omega)] at e;cases e
  have hw:wrap64 ((i:Int)+1)=(i:Int)+1:=wrap64_id _ (by omega) (by omega)
  unfold Hd.endR
  rw [hno,hlb]
  simp only [sallyportref08_End.l0,sallyportref08_End.j1]
  rw [hw,if_neg (by omega)]
  simp only [Bool.false_eq_true,if_false,fault8,Option.bind_some]
  by_cases h8:8192≤xs.length
  ·rw [if_pos (by omega),if_pos h8];rfl
  ·rw [if_neg (by omega),if_neg h8];rfl
 |succ m ih=>
  intro k i hi hk hn
  obtain ⟨k,rfl⟩: ∃ j,k=j+3:=⟨k - 3,by omega⟩
  have hlb:=bytesOf_length xs
  have hw1:wrap64 ((i:Int)+1)=((i+1:Nat):Int):=by rw [wrap64_id _ (by omega) (by omega)];omega
  have hw2:wrap64 ((i:Int)+2)=((i+2:Nat):Int):=by rw [wrap64_id _ (by omega) (by omega)];omega
  by_cases hin:i+1<xs.length∧i+2≤8192
  ·have hb1:=rd_byte xs h i (by omega)
   have hb2:=rd_byte xs h (i+1) hin.1
   have hcr:=crAt_take (Lib.bytesOf xs) i (by omega) hin.2
   have hem:Hd.crAt ((Lib.bytesOf xs).take 8192) i=false→Hd.empAt ((Lib.bytesOf xs).take 8192) i=false:=fun e=>by unfold Hd.empAt;rw [e];rfl
   simp only [sallyportref08_End.l0,sallyportref08_End.j1,sallyportref08_End.j2]
   rw [hw1,hw2,if_pos (by omega),decide_eq_true (show ((i+2:Nat):Int)≤8192 by omega),if_pos rfl,if_pos (by omega),if_pos (by omega),hb1]
   have ihn:=ih (k+2) (i+1) (by omega) (by omega)
   by_cases h13:(Lib.bytesOf xs)[i]'(by omega)=13
   ·have e13:(((Lib.bytesOf xs)[i]'(by omega)).toNat:Int)=13:=by rw [h13];rfl
    rw [if_pos e13,if_pos (by omega),if_pos (by omega),hb2]
    by_cases h10:(Lib.bytesOf xs)[i+1]'(by omega)=10
    ·have e10:(((Lib.bytesOf xs)[i+1]'(by omega)).toNat:Int)=10:=by rw [h10];rfl
     have hc:Hd.crAt ((Lib.bytesOf xs).take 8192) i=true:=by rw [hcr,h13,h10];rfl
     have hle:=Hd.lastAt_emp _ i hc
     rw [show (((((Lib.bytesOf xs)[i+1]'(by omega)).toNat:Int)) !=10)=false by rw [e10];rfl,if_neg Bool.false_ne_true]
     by_cases hat:i=Hd.lastAt ((Lib.bytesOf xs).take 8192) i
     ·rw [if_pos (by omega)]
      rw [decide_eq_true hat] at hle
      have:=Hd.headN_min _ i hle hn
      unfold Hd.endR
      rw [this];rfl
     ·rw [if_neg (by omega)]
      rw [decide_eq_false hat] at hle
      have hl1:Hd.lastAt ((Lib.bytesOf xs).take 8192) (i+1)=i+2:=by rw [Hd.lastAt,hc,if_pos rfl]
      have:=ih k (i+1) (by omega) (by omega) (fun j hj=>by
       rcases Nat.lt_or_ge j i with h1|h1
       ·exact hn j h1
       ·rw [show j=i by omega];exact hle)
      rw [hl1] at this
      exact this
    ·have e10: ¬ (((Lib.bytesOf xs)[i+1]'(by omega)).toNat:Int)=10:=fun e=>h10 (UInt8.toNat_inj.1 (show _=(10:UInt8).toNat by show _=10;omega))
     have hc:Hd.crAt ((Lib.bytesOf xs).take 8192) i=false:=by rw [hcr,beq_eq_false_iff_ne.2 h10,Bool.and_false]
     rw [show (((((Lib.bytesOf xs)[i+1]'(by omega)).toNat:Int)) !=10)=true by rw [bne_iff_ne];exact e10,if_pos rfl]
     have hl1:Hd.lastAt ((Lib.bytesOf xs).take 8192) (i+1)=Hd.lastAt ((Lib.bytesOf xs).take 8192) i:=by rw [Hd.lastAt,hc,if_neg Bool.false_ne_true]
     have:=ih k (i+1) (by omega) (by omega) (fun j hj=>by
      rcases Nat.lt_or_ge j i with h1|h1
      ·exact hn j h1
      ·rw [show j=i by omega];exact hem hc)
     rw [hl1] at this
     exact this
   ·have e13: ¬ (((Lib.bytesOf xs)[i]'(by omega)).toNat:Int)=13:=fun e=>h13 (UInt8.toNat_inj.1 (show _=(13:UInt8).toNat by show _=13;omega))
    have hc:Hd.crAt ((Lib.bytesOf xs).take 8192) i=false:=by rw [hcr,beq_eq_false_iff_ne.2 h13,Bool.false_and]
    rw [if_neg e13,if_pos trivial]
    have hl1:Hd.lastAt ((Lib.bytesOf xs).take 8192) (i+1)=Hd.lastAt ((Lib.bytesOf xs).take 8192) i:=by rw [Hd.lastAt,hc,if_neg Bool.false_ne_true]
    have:=ih k (i+1) (by omega) (by omega) (fun j hj=>by
     rcases Nat.lt_or_ge j i with h1|h1
     ·exact hn j h1
     ·rw [show j=i by omega];exact hem hc)
    rw [hl1] at this
    exact this
  ·have hno:Hd.headN ((Lib.bytesOf xs).take 8192)=none:=Hd.headN_no _ fun j=>by
    cases e:Hd.empAt ((Lib.bytesOf xs).take 8192) j
    ·rfl
    ·exfalso
     have hc:Hd.crAt ((Lib.bytesOf xs).take 8192) j=true:=by unfold Hd.empAt at e;rw [Bool.and_eq_true] at e;exact e.1
     have hlt:=Hd.crAt_lt hc
     rw [List.length_take,hlb] at hlt
     rw [hn j (by omega)] at e;cases e
   unfold Hd.endR
   rw [hno,hlb]
   simp only [sallyportref08_End.l0,sallyportref08_End.j1]
   rw [hw1,hw2]
   have hgoal:(if (xs.length:Int)≥8192 then some (0,1,headS,(⟨#[]⟩:ByteArray),(⟨#[]⟩:ByteArray),(⟨#[]⟩:ByteArray),(8192:Int),(0:Int),(0:Int),(0:Int),(3:Int)) else some (0,1,headS,⟨#[]⟩,⟨#[]⟩,⟨#[]⟩,(xs.length:Int),0,0,0,6))=some (endT (if 8192≤xs.length then .inl (8192,3) else .inl (xs.length,6))):=by
    by_cases h8:8192≤xs.length
    ·rw [if_pos (by omega),if_pos h8];rfl
    ·rw [if_neg (by omega),if_neg h8];rfl
   by_cases h1:i+1<xs.length
   ·rw [if_pos (by omega),decide_eq_false (show ¬ ((i+2:Nat):Int)≤8192 by omega)]
    simp only [Bool.false_eq_true,if_false,fault8,Option.bind_some]
    exact hgoal
   ·rw [if_neg (by omega)]
    simp only [Bool.false_eq_true,if_false,fault8,Option.bind_some]
    exact hgoal
theorem rend_f (xs:List Int) (h: ∀ x ∈ xs,0≤x∧x<256) (hl:xs.length≤281474976710656):sallyportref08_End.f (3*xs.length+7) xs=some (endT (Hd.endR (Lib.bytesOf xs))):=
 end_loop xs h hl xs.length _ 0 (by omega) (by omega) (fun j hj=>absurd hj (Nat.not_lt_zero j))
theorem index_one (c:UInt8): ∀ l:List UInt8,decide (0≤Lib.index l [c])=l.contains c
 |[]=>rfl
 |b::l=>by
  have ih:=index_one c l
  have hg:=Lib.index_ge l [c]
  rw [Lib.index,List.contains_cons]
  by_cases h:c=b
  ·subst h
   rw [if_pos (by simp [List.isPrefixOf])]
   simp
  ·rw [if_neg (by simp [List.isPrefixOf,h]),beq_eq_false_iff_ne.2 h,Bool.false_or,← ih]
   by_cases h1:Lib.index l [c]= -1
   ·rw [h1];rfl
   ·rw [if_neg (by simpa using h1)]
    exact decide_eq_decide.2 (by omega)
theorem containsAny2 (a b:UInt8): ∀ l:List UInt8,Lib.containsAny l [a,b]=(l.contains a||l.contains b)
 |[]=>rfl
 |x::l=>by
  have ih:=containsAny2 a b l
  have hg:=Lib.indexAny_ge [a,b] l
  unfold Lib.containsAny at ih ⊢
  rw [List.contains_cons,List.contains_cons]
  by_cases h:([a,b]:List UInt8).contains x=true
  ·have:Lib.indexAny (x::l) [a,b]=(0:Nat):=Lib.indexAny_hit (Lib.NoAny.zero _ _) rfl h
   rw [this]
   simp only [List.contains_cons,List.contains_nil,Bool.or_false,Bool.or_eq_true,beq_iff_eq] at h
   rcases h with rfl|rfl<;>simp
  ·rw [Lib.indexAny,if_neg h]
   simp only [List.contains_cons,List.contains_nil,Bool.or_false,Bool.or_eq_true,beq_iff_eq,not_or] at h
   have h1:(a==x)=false:=beq_eq_false_iff_ne.2 (Ne.symm h.1)
   have h2:(b==x)=false:=beq_eq_false_iff_ne.2 (Ne.symm h.2)
   rw [h1,h2,Bool.false_or,Bool.false_or,← ih]
   by_cases h3:Lib.indexAny l [a,b]= -1
   ·rw [h3];rfl
   ·rw [if_neg (by simpa using h3)]
    exact decide_eq_decide.2 (by omega)
theorem ralone_f (s:ByteArray) (hs:s.size≤281474976710656) (k:Nat) (hk:s.size+1<k):sallyportref08_alone.f k s=some (Hd.broken s.data.toList):=by
 unfold sallyportref08_alone.f Hd.broken
 rw [find_f s ⟨#[13]⟩ hs (by decide) k hk,Option.bind_some,find_f s ⟨#[10]⟩ hs (by decide) k hk,Option.bind_some,containsAny2,← index_one,← index_one]
 show (if Lib.index s.data.toList [13]≥0 then some true else some (decide (Lib.index s.data.toList [10]≥0)))=_
 by_cases h:0≤Lib.index s.data.toList [13]
 ·rw [if_pos h,decide_eq_true h];rfl
 ·rw [if_neg h,decide_eq_false h];rfl
theorem rversion_f (s:ByteArray):sallyportref08_version.f s=some (verB s):=by
 unfold sallyportref08_version.f verB
 by_cases h:s.toList=[72,84,84,80,47,49,46,49]
 ·rw [if_pos h,h];rfl
 ·rw [if_neg h,beq_eq_false_iff_ne.2 h];rfl
def cutN:Nat→List UInt8→ByteArray→List ByteArray
 |_,[],last=>[last]
 |n,c::l,last=>if c=32∧0<n then last::cutN (n - 1) l ⟨#[]⟩ else cutN n l (last++⟨#[c]⟩)
theorem cutN_map: ∀ (l:List UInt8) (n:Nat) (last:ByteArray),(cutN n l last).map (·.data.toList)=match Hd.cutK n l with|[]=>[last.data.toList]|p::r=>(last.data.toList++p)::r
 |[],n,last=>by simp [cutN,Hd.cutK]
 |c::l,n,last=>by
  unfold cutN Hd.cutK
  by_cases h:c=32∧0<n
  ·rw [if_pos h,if_pos h,List.map_cons,cutN_map l]
   obtain ⟨p,r,e⟩:=Hd.cutK_cons l (n - 1)
   rw [e];simp
  ·rw [if_neg h,if_neg h,cutN_map l]
   obtain ⟨p,r,e⟩:=Hd.cutK_cons l n
   rw [e]
   simp only [data_append,List.append_assoc];rfl
theorem cutN_zero (l:List UInt8) (n:Nat):(cutN n l ⟨#[]⟩).map (·.data.toList)=Hd.cutK n l:=by
 rw [cutN_map]
 obtain ⟨p,r,e⟩:=Hd.cutK_cons l n
 rw [e];rfl
theorem cut_loop (s:ByteArray) (hs:s.size≤8192) (most:Nat): ∀ (m k i:Nat) (pre:List ByteArray) (last:ByteArray),i+m=s.size→m<k→pre.length≤i→pre.length+1≤most→last.size≤i→
  sallyportref08_cut.l0 k s (most:Int) (pre++[last]) (i:Int)=some (pre++cutN (most - 1 - pre.length) (s.data.toList.drop i) last)
 |0,k+1,i,pre,last,hi,hk,hp,hm,hl=>by
  unfold sallyportref08_cut.l0
  rw [if_neg (by omega),List.drop_of_length_le (by rw [len_size];omega)]
  rfl
 |m+1,k+1,i,pre,last,hi,hk,hp,hm,hl=>by
  have hlt:i<s.data.toList.length:=by rw [len_size];omega
  have hw:wrap64 ((i:Int)+1)=((i+1:Nat):Int):=by rw [wrap64_id _ (by omega) (by omega)];omega
  have hx:=extract_one s i hlt
  have hn:wrap64 (((pre++[last]).length:Int) - 1)=(pre.length:Int):=by rw [List.length_append,List.length_singleton,wrap64_id _ (by omega) (by omega)];omega
  have hrd:rdOf ByteArray.empty (pre++[last]) (pre.length:Int)=last:=by
   unfold rdOf;rw [Int.toNat_natCast,List.getD_eq_getElem?_getD,List.getElem?_append_right (Nat.le_refl _)];simp
  have hll:(pre++[last]).length=pre.length+1:=by rw [List.length_append,List.length_singleton]
  unfold sallyportref08_cut.l0
  rw [if_pos (by omega),if_pos (by omega),bt_get s i hlt,hw,List.drop_eq_getElem_cons hlt,hn,hrd]
  simp only [Int.toNat_natCast]
  rw [hx]
  generalize s.data.toList[i]=c
  have hset:(pre++[last]).set pre.length (last++⟨#[c]⟩)=pre++[last++⟨#[c]⟩]:=by
   rw [List.set_append_right _ _ (Nat.le_refl _)];simp
  have hsz:(last++(⟨#[c]⟩:ByteArray)).size=last.size+1:=by rw [ByteArray.size_append];rfl
  unfold cutN
  have step:=cut_loop s hs most m k (i+1) pre (last++⟨#[c]⟩) (by omega) (by omega) (by omega) (by omega) (by rw [hsz];omega)
  by_cases h:c=32
  ·subst h
   rw [if_pos (by decide)]
   by_cases h2:pre.length+1<most
   ·rw [if_pos (by rw [hll];omega),if_pos (by rw [hll];omega),if_pos ⟨rfl,by omega⟩,cut_loop s hs most m k (i+1) (pre++[last]) ⟨#[]⟩ (by omega) (by omega) (by rw [hll];omega) (by rw [hll];omega) (by show 0≤_;omega),hll,List.append_assoc]
    rfl
   ·rw [if_neg (by rw [hll];omega),if_pos (by omega),if_pos (by rw [hll];omega),if_pos (by omega),if_pos (by omega),if_pos (by show last.size+1≤_;omega),if_neg (by omega),hset]
    exact step
  ·have hc: ¬ (c.toNat:Int)=32:=fun e=>h (UInt8.toNat_inj.1 (show c.toNat=(32:UInt8).toNat by show c.toNat=32;omega))
   rw [if_neg hc,if_pos (by omega),if_pos (by rw [hll];omega),if_pos (by omega),if_pos (by omega),if_pos (by show last.size+1≤_;omega),if_neg (fun e=>h e.1),hset]
   exact step
theorem rcut_f (s:ByteArray) (hs:s.size≤8192) (most:Nat) (hm:1≤most) (k:Nat) (hk:s.size<k):sallyportref08_cut.f k s (most:Int)=some (cutN (most - 1) s.data.toList ⟨#[]⟩):=by
 unfold sallyportref08_cut.f
 have:=cut_loop s hs most s.size k 0 [] ⟨#[]⟩ (by omega) hk (by simp) hm (by show 0≤0;omega)
 rw [List.drop_zero] at this
 exact this
theorem cut99 (s:ByteArray):cutN 98 s.data.toList ⟨#[]⟩=wordsB s∨((wordsB s).length≠3∧(cutN 98 s.data.toList ⟨#[]⟩).length≠3):=by
 by_cases h:(Pt.cutOn 32 s.data.toList).length≤99
 ·exact .inl (map_data_inj _ _ (by rw [cutN_zero,words_data,Hd.cutK_all _ _ h]))
 ·refine .inr ⟨?_,?_⟩
  ·have:=congrArg List.length (words_data s)
   rw [List.length_map] at this;omega
  ·have:=congrArg List.length (cutN_zero s.data.toList 98)
   rw [List.length_map,Hd.cutK_more _ _ (by omega)] at this;omega
theorem cut3 (s:ByteArray):cutN 2 s.data.toList ⟨#[]⟩=wordsN s:=by
 refine map_data_inj _ _ ?_
 unfold wordsN
 rw [cutN_zero,Lib.splitB_data]
 show _=Lib.splitK [32] 0 (min 3 (s.size+1) - 1) s.data.toList
 rw [Hd.splitK_cutK,← len_size,Hd.cutK_min]
def linT (G:List (List UInt8×Nat)):List ByteArray×List Int:=(G.map (fun x=>⟨x.1.toArray⟩),G.map (fun x=>(x.2:Int)))
theorem extract_data (s:ByteArray) (a b:Nat):(s.extract a b).data.toList=(s.data.toList.drop a).take (b - a):=by
 rw [ByteArray.data_extract,Array.toList_extract,List.extract_eq_take_drop]
theorem extract_cur (s:ByteArray) (a b:Nat) (cur:List UInt8) (h:(s.data.toList.drop a).take (b - a)=cur):s.extract a b=⟨cur.toArray⟩:=by
 apply ByteArray.ext
 apply Array.ext'
 rw [extract_data,h]
theorem take_step (l:List UInt8) (a b:Nat) (cur:List UInt8) (hab:a≤b) (hb:b<l.length) (h:(l.drop a).take (b - a)=cur):(l.drop a).take (b+1 - a)=cur++[l[b]]:=by
 rw [show b+1 - a=(b - a)+1 by omega,List.take_succ_eq_append_getElem (by rw [List.length_drop];omega),h]
 congr 2
 rw [List.getElem_drop]
 congr 1;omega
theorem lines_no (s:ByteArray) (hs:s.size≤8192) (k i:Nat) (from_:Int) (out:List ByteArray) (at_:List Int) (h1:i<s.data.toList.length) (h2:i+1<s.data.toList.length) (hne: ¬ (s.data.toList[i]=13∧s.data.toList[i+1]=10)):
  sallyportref08_lines.l0 (k+1) s out at_ from_ (i:Int)=sallyportref08_lines.l0 k s out at_ from_ ((i+1:Nat):Int):=by
 have hl:=len_size s
 have hw:wrap64 ((i:Int)+1)=((i+1:Nat):Int):=by rw [wrap64_id _ (by omega) (by omega)];omega
 have g1:((i+1:Nat):Int)<(s.size:Int):=by omega
 have g2:0≤(i:Int):=by omega
 have g3:(i:Int)<(s.size:Int):=by omega
 have g4:0≤((i+1:Nat):Int):=by omega
 conv=>lhs;unfold sallyportref08_lines.l0
 rw [hw,if_pos g1,if_pos g2,if_pos g3,bt_get s i h1]
 by_cases h13:s.data.toList[i]=13
 ·have h10: ¬ s.data.toList[i+1]=10:=fun h=>hne ⟨h13,h⟩
  rw [if_pos (by rw [h13];rfl),if_pos g4,bt_get s (i+1) h2,if_neg (show ¬ ((s.data.toList[i+1].toNat:Int)=10) from fun e=>h10 (UInt8.toNat_inj.1 (Int.ofNat_inj.1 e)))]
 ·rw [if_neg (show ¬ ((s.data.toList[i].toNat:Int)=13) from fun e=>h13 (UInt8.toNat_inj.1 (Int.ofNat_inj.1 e)))]
theorem lines_yes (s:ByteArray) (hs:s.size≤8192) (k i from_:Nat) (out:List ByteArray) (at_:List Int) (h1:i<s.data.toList.length) (h2:i+1<s.data.toList.length) (h13:s.data.toList[i]=13) (h10:s.data.toList[i+1]=10) (hf:from_≤i) (ho:out.length≤i) (ha:at_.length≤i):
  sallyportref08_lines.l0 (k+1) s out at_ (from_:Int) (i:Int)=sallyportref08_lines.l0 k s (out++[s.extract from_ i]) (at_++[(from_:Int)]) ((i+2:Nat):Int) ((i+1:Nat):Int):=by
 have hl:=len_size s
 have hw:wrap64 ((i:Int)+1)=((i+1:Nat):Int):=by rw [wrap64_id _ (by omega) (by omega)];omega
 have hw2:wrap64 ((i:Int)+2)=((i+2:Nat):Int):=by rw [wrap64_id _ (by omega) (by omega)];omega
 have g1:((i+1:Nat):Int)<(s.size:Int):=by omega
 have g2:0≤(i:Int):=by omega
 have g3:(i:Int)<(s.size:Int):=by omega
 have g4:0≤((i+1:Nat):Int):=by omega
 have g5:(i:Int)≥(from_:Int):=by omega
 have g6:0≤(from_:Int):=by omega
 have g7:(i:Int)≤(s.size:Int):=by omega
 have g8:out.length<8796093022208:=by omega
 have g9:at_.length<17592186044416:=by omega
 conv=>lhs;unfold sallyportref08_lines.l0
 rw [hw,if_pos g1,if_pos g2,if_pos g3,bt_get s i h1,if_pos (by rw [h13];rfl),if_pos g4,bt_get s (i+1) h2,if_pos (by rw [h10];rfl),if_pos g5,if_pos g6,if_pos g5,if_pos g7,if_pos g8,if_pos g9,hw2]
 simp only [Int.toNat_natCast]
theorem lines_fin (s:ByteArray) (hs:s.size≤8192) (k i:Nat) (from_:Int) (out:List ByteArray) (at_:List Int) (hi:s.size≤i+1) (hi2:i≤s.size) (ho:out.length≤i) (ha:at_.length=out.length) (hp:0<out.length):
  sallyportref08_lines.l0 (k+1) s out at_ from_ (i:Int)=some (out.dropLast,at_.dropLast):=by
 have hw:wrap64 ((i:Int)+1)=((i+1:Nat):Int):=by rw [wrap64_id _ (by omega) (by omega)];omega
 have hw1:wrap64 ((out.length:Int) - 1)=((out.length - 1:Nat):Int):=by rw [wrap64_id _ (by omega) (by omega)];omega
 have g1: ¬ ((i+1:Nat):Int)<(s.size:Int):=by omega
 have g2:0≤((out.length - 1:Nat):Int):=by omega
 have g3:((out.length - 1:Nat):Int)≤(out.length:Int):=by omega
 conv=>lhs;unfold sallyportref08_lines.l0
 rw [hw,if_neg g1,ha,hw1,if_pos g2,if_pos g3,if_pos g2,if_pos g3,Int.toNat_natCast,List.dropLast_eq_take,List.dropLast_eq_take,ha]
theorem lines_loop (s:ByteArray) (hs:s.size≤8192): ∀ (m k i from_:Nat) (out:List ByteArray) (at_:List Int) (cur:List UInt8),i+m=s.size→m+2<k→from_≤i→out.length≤i→at_.length=out.length→(s.data.toList.drop from_).take (i - from_)=cur→
  0<out.length+(Hd.linesG (s.data.toList.drop i) cur from_).length→
  sallyportref08_lines.l0 k s out at_ (from_:Int) (i:Int)=some ((out++(linT (Hd.linesG (s.data.toList.drop i) cur from_)).1).dropLast,(at_++(linT (Hd.linesG (s.data.toList.drop i) cur from_)).2).dropLast):=by
 intro m
 induction m using Nat.strongRecOn with
 |_ m ih=>
 intro k i from_ out at_ cur hi hk hf ho ha hcur hpos
 have hl:=len_size s
 by_cases hlt:i+1<s.size
 ·have h1:i<s.data.toList.length:=by omega
  have h2:i+1<s.data.toList.length:=by omega
  obtain ⟨k,rfl⟩: ∃ j,k=j+2:=⟨k - 2,by omega⟩
  have a1:(i+1)+(m - 1)=s.size:=by omega
  have a2:m - 1<m:=by omega
  have a3:m - 1+2<k+1:=by omega
  have a4:i+2+(m - 2)=s.size:=by omega
  have a5:m - 2<m:=by omega
  have a6:m - 2+2<k+1:=by omega
  have a7:out.length+1≤i+2:=by omega
  have a8:at_.length≤i:=by omega
  have a9:s.size≤i+2+1∨ ¬ s.size≤i+2:=by omega
  have hcl:cur.length=i - from_:=by
   have:=congrArg List.length hcur
   rw [List.length_take,List.length_drop] at this;omega
  have hd:s.data.toList.drop i=s.data.toList[i]::s.data.toList[i+1]::s.data.toList.drop (i+2):=by
   rw [List.drop_eq_getElem_cons h1,List.drop_eq_getElem_cons h2]
  by_cases hcr:s.data.toList[i]=13∧s.data.toList[i+1]=10
  ·have e:Hd.linesG (s.data.toList.drop i) cur from_=(cur,from_)::Hd.linesG (s.data.toList.drop (i+2)) [] (i+2):=by
    have e0:from_+cur.length+2=i+2:=by rw [hcl];clear hcr hd ih hpos hcur;omega
    rw [hd,Hd.linesG,if_pos hcr,e0]
   rw [lines_yes s hs (k+1) i from_ out at_ h1 h2 hcr.1 hcr.2 hf ho a8,extract_cur s from_ i cur hcur,e]
   have hfinal:(out++(linT ((cur,from_)::Hd.linesG (s.data.toList.drop (i+2)) [] (i+2))).1,at_++(linT ((cur,from_)::Hd.linesG (s.data.toList.drop (i+2)) [] (i+2))).2)=((out++[(⟨cur.toArray⟩:ByteArray)])++(linT (Hd.linesG (s.data.toList.drop (i+2)) [] (i+2))).1,(at_++[(from_:Int)])++(linT (Hd.linesG (s.data.toList.drop (i+2)) [] (i+2))).2):=by
    unfold linT;simp
   injection hfinal with f1 f2
   rw [f1,f2]
   have hout:(out++[(⟨cur.toArray⟩:ByteArray)]).length=out.length+1:=by rw [List.length_append,List.length_singleton]
   have hat:(at_++[(from_:Int)]).length=out.length+1:=by rw [List.length_append,List.length_singleton,ha]
   have h10n: ¬ s.data.toList[i+1]=13:=fun h=>by rw [hcr.2] at h;exact absurd h (by decide)
   by_cases hl2:i+2<s.size
   ·have h3:i+1+1<s.data.toList.length:=by rw [hl];exact hl2
    rw [lines_no s hs k (i+1) _ _ _ h2 h3 (fun h=>h10n h.1)]
    refine ih (m - 2) a5 k (i+2) (i+2) _ _ [] a4 ?_ (Nat.le_refl _) (by rw [hout];exact a7) (by rw [hout,hat]) ?_ ?_
    ·clear hcr hd e f1 f2 h10n ih hpos hcur;omega
    ·rw [Nat.sub_self];rfl
    ·rw [hout];exact Nat.lt_of_lt_of_le (Nat.succ_pos _) (Nat.le_add_right _ _)
   ·have hz:s.data.toList.drop (i+2)=[]:=List.drop_of_length_le (by clear hcr hd e f1 f2 h10n ih hpos hcur;omega)
    rw [hz,lines_fin s hs k (i+1) _ _ _ (by clear hcr hd e f1 f2 h10n ih hpos hcur hz;omega) (by clear hcr hd e f1 f2 h10n ih hpos hcur hz;omega) (by rw [hout];exact Nat.succ_le_succ ho) (by rw [hout,hat]) (by rw [hout];exact Nat.succ_pos _)]
    show _=some ((_++[]).dropLast,(_++[]).dropLast)
    rw [List.append_nil,List.append_nil]
  ·have e:Hd.linesG (s.data.toList.drop i) cur from_=Hd.linesG (s.data.toList.drop (i+1)) (cur++[s.data.toList[i]]) from_:=by
    rw [hd,Hd.linesG,if_neg hcr,List.drop_eq_getElem_cons h2]
   rw [e] at hpos ⊢
   rw [lines_no s hs (k+1) i _ _ _ h1 h2 hcr]
   have hc2:=take_step s.data.toList from_ i cur hf h1 hcur
   exact ih (m - 1) a2 (k+1) (i+1) from_ out at_ (cur++[s.data.toList[i]]) a1 a3 (Nat.le_succ_of_le hf) (Nat.le_succ_of_le ho) ha hc2 hpos
 ·have hz:Hd.linesG (s.data.toList.drop i) cur from_=[]:=by
   by_cases h0:i<s.size
   ·rw [List.drop_eq_getElem_cons (by omega),List.drop_of_length_le (by omega)];rfl
   ·rw [List.drop_of_length_le (by omega)];rfl
  obtain ⟨k,rfl⟩: ∃ j,k=j+1:=⟨k - 1,by omega⟩
  rw [hz] at hpos ⊢
  rw [lines_fin s hs k i from_ out at_ (by omega) (by omega) ho ha (by simpa using hpos)]
  show _=some ((_++[]).dropLast,(_++[]).dropLast)
  rw [List.append_nil,List.append_nil]
theorem rlines_f (S:ByteArray) (hs:S.size≤8192) (L:List (List UInt8)) (hL:S.data.toList=Hd.textOf L) (hok: ∀ l ∈ L,Hd.okLine l) (k:Nat) (hk:S.size+2<k):sallyportref08_lines.f k S=some (linT (Hd.offs L 0)):=by
 obtain ⟨q,e⟩:=Hd.linesG_text L 0 hok
 have:=lines_loop S hs S.size k 0 0 [] [] [] (by omega) hk (Nat.le_refl _) (by simp) rfl rfl (by rw [List.drop_zero,hL,e];simp)
 rw [List.drop_zero,hL,e] at this
 unfold sallyportref08_lines.f
 refine this.trans ?_
 unfold linT
 simp
theorem prefix_extract (s:ByteArray) (w:List UInt8):((s.data.toList.take w.length==w) && decide (w.length≤s.size))=Lib.hasPrefix s.data.toList w:=by
 unfold Lib.hasPrefix
 rw [Bool.eq_iff_iff,List.isPrefixOf_iff_prefix,Bool.and_eq_true,beq_iff_eq,decide_eq_true_eq]
 constructor
 ·rintro ⟨h,-⟩
  have e:=List.take_append_drop w.length s.data.toList
  rw [h] at e
  exact ⟨s.data.toList.drop w.length,e⟩
 ·rintro ⟨t,ht⟩
  refine ⟨by rw [← ht,List.take_left'];rfl,?_⟩
  have:=congrArg List.length ht
  rw [List.length_append,len_size] at this
  omega
theorem rbegins_f (s:ByteArray):sallyportbase_Begins.f s httpS=some (Lib.hasPrefix s.data.toList [104,116,116,112,58,47,47]):=by
 rw [← prefix_extract]
 unfold sallyportbase_Begins.f
 have h7:httpS.size=7:=rfl
 have hl:([104,116,116,112,58,47,47]:List UInt8).length=7:=rfl
 have ht:httpS.toList=[104,116,116,112,58,47,47]:=by rw [ByteArray.toList_eq];rfl
 rw [h7,hl,ht]
 by_cases h:7≤s.size
 ·rw [if_pos (by omega),if_pos (by omega),if_pos (by omega),decide_eq_true h,Bool.and_true,ByteArray.toList_eq,extract_data]
  rfl
 ·rw [if_neg (by omega),decide_eq_false h,Bool.and_false]
theorem rbegins_c (s:ByteArray) (W:World):Calls Tryz.prog 27 #[.string s,.string httpS] W fun e w'=>e= .returned (.bool (Lib.hasPrefix s.data.toList [104,116,116,112,58,47,47]))∧Below W.heap.size W w':=
 (sallyportbase_Begins.calls s httpS _ W (rbegins_f s)).mono fun e w' ⟨h,d⟩=>⟨h,d.below⟩
theorem rfind_c (s sub:ByteArray) (hs:s.size≤281474976710656) (hsub:sub.size≤281474976710656) (W:World):Calls Tryz.prog 102 #[.string s,.string sub] W fun e w'=>e= .returned (.int .i64 (Lib.index s.data.toList sub.data.toList))∧Below W.heap.size W w':=
 (sallyportbase_Find.calls (s.size+2) s sub _ W (find_f s sub hs hsub _ (by omega))).mono fun e w' ⟨h,d⟩=>⟨h,d.below⟩
theorem rplain_c (s:ByteArray) (hs:s.size≤281474976710656) (least most:Nat) (W:World):Calls Tryz.prog 66 #[.string s,.int .u8 (least:Int),.int .i64 (most:Int)] W fun e w'=>e= .returned (.bool (Hd.plain s.data.toList least most))∧Below W.heap.size W w':=
 (sallyportref08_plain.calls (s.size+1) s least most _ W (plain_f s hs least most _ (by omega))).mono fun e w' ⟨h,d⟩=>⟨h,d.below⟩
theorem rfault_c (a c:Int) (W:World) (hS:StdW W):Calls Tryz.prog 46 #[.int .i64 a,.int .i64 c] W fun e w'=>e= .returned (.agg (bad3 1 headS ⟨#[]⟩ ⟨#[]⟩ a 0 0 c))∧Below W.heap.size W w':=
 sallyportref08_fault.calls a c 1 headS ⟨#[]⟩ ⟨#[]⟩ ⟨#[]⟩ a 0 0 0 c W hS rfl
def RTPost (r:(Int×List (ByteArray×Int)×Int) ⊕ (DestT×ByteArray)) (w:World) (e:Ending) (w':World):Prop:=
 Below w.heap.size w w'∧match r with
  | .inl (a,ch,c)=>e= .returned (.tuple #[.agg zD6,.string ⟨#[]⟩,.agg (badP ((headS,a)::ch) c)])
  | .inr ((x,y,z,u,n,po),q)=>e= .returned (.tuple #[.agg (dC x y z u n po),.string q,.agg zX])
theorem pdX_ch (s:ByteArray) (a:Int) (ch:List (ByteArray×Int)) (c:Int) (h:pdX s= .inl (a,ch,c)):ch=[]∨ch=[(hostS,0)]:=by
 unfold pdX at h
 split at h
 ·cases h;exact .inl rfl
 ·split at h
  ·cases h;exact .inl rfl
  ·split at h
   ·cases h;exact .inl rfl
   ·split at h
    ·cases h;exact .inr rfl
    ·cases h
theorem wrap_h (p a c:Int) (W:World):Calls Tryz.prog 69 #[.string headS,.int .i64 p,.agg (badP [(hostS,a)] c)] W fun e w'=>e= .returned (.agg (badP [(headS,p),(hostS,a)] c))∧Below W.heap.size W w':=wrap_one headS hostS p a c W
theorem wrap_hh (p a c:Int) (W:World):Calls Tryz.prog 69 #[.string headS,.int .i64 p,.agg (badP [(hostS,a),(hostS,0)] c)] W fun e w'=>e= .returned (.agg (badP [(headS,p),(hostS,a),(hostS,0)] c))∧Below W.heap.size W w':=wrap_two headS hostS hostS p a 0 c W
theorem take7 (s:ByteArray) (h:Lib.hasPrefix s.data.toList [104,116,116,112,58,47,47]=true):7≤s.size∧s.extract 7 s.size=restS s:=by
 have h2:=h
 rw [← prefix_extract,Bool.and_eq_true,decide_eq_true_eq] at h2
 refine ⟨h2.2,?_⟩
 unfold restS Lib.trimPrefix
 rw [if_pos h]
 refine extract_cur s 7 s.size _ ?_
 rw [← len_size,← List.length_drop,List.take_length]
 rfl
theorem rtarget_any (m s:ByteArray) (p:Int) (hs:s.size≤100000) (hp0:0≤p) (hp1:p≤100000) (w:World) (hS:StdW w):
  Calls Tryz.prog 61 #[.string m,.string s,.int .i64 p] w (RTPost (targetR m s p) w):=by
 unfold targetR
 by_cases hc:m.data.toList=[67,79,78,78,69,67,84]
 ·have hm:(m.toList==[67,79,78,78,69,67,84])=true:=by rw [ByteArray.toList_eq,beq_iff_eq];exact hc
  rw [if_pos hc]
  have HP:=fun W (h:StdW W)=>rpdest_any s W h
  cases hd:pdX s with
  |inl x=>
   obtain ⟨a,ch,c⟩:=x
   rw [hd] at HP
   rcases pdX_ch s a ch c hd with rfl|rfl
   ·exact (tg_cE m s p hm 1 hostS ⟨#[]⟩ ⟨#[]⟩ a 0 0 c (by decide) 2 headS hostS ⟨#[]⟩ p a 0 c (fun W h=>(HP W h).mono fun e w' ⟨hb,he⟩=>⟨he,hb⟩) (fun W=>wrap_h p a c W) w hS).mono fun e w' ⟨he,hb⟩=>⟨hb,he⟩
   ·exact (tg_cE m s p hm 2 hostS hostS ⟨#[]⟩ a 0 0 c (by decide) 3 headS hostS hostS p a 0 c (fun W h=>(HP W h).mono fun e w' ⟨hb,he⟩=>⟨he,hb⟩) (fun W=>wrap_hh p a c W) w hS).mono fun e w' ⟨he,hb⟩=>⟨hb,he⟩
  |inr x=>
   obtain ⟨x0,x1,x2,x3,nm,po⟩:=x
   rw [hd] at HP
   exact (tg_cO m s p hm x0 x1 x2 x3 nm po (fun W h=>(HP W h).mono fun e w' ⟨hb,he⟩=>⟨he,hb⟩) w hS).mono fun e w' ⟨he,hb⟩=>⟨hb,he⟩
 ·have hm:(m.toList==[67,79,78,78,69,67,84])=false:=by rw [ByteArray.toList_eq,beq_eq_false_iff_ne];exact hc
  rw [if_neg hc]
  have HE:=fun W=>rbegins_c s W
  have HF:=fun W (h:StdW W)=>rfault_c p 82 W h
  cases hpf:Lib.hasPrefix s.data.toList [104,116,116,112,58,47,47]
  ·rw [hpf] at HE
   exact (tg_no m s p hm HE HF w hS).mono fun e w' ⟨he,hb⟩=>⟨hb,he⟩
  ·rw [hpf] at HE
   obtain ⟨h7,hrest⟩:=take7 s hpf
   have hrz:=restS_size s
   generalize restS s=rest at*
   have hl:=len_size rest
   have HI:=fun W=>rfind_c rest ⟨#[47]⟩ (by omega) (by decide) W
   have hp7:wrap64 (p+7)=p+7:=wrap64_id _ (by omega) (by omega)
   have key: ∀ (place path:ByteArray) (hz:place.size≤100000) (T:Prop→Prop),
     (∀ (n:Int) (l0 l1 l2:ByteArray) (a0 a1 a2 c:Int),True)→True:=fun _ _ _ _ _=>trivial
   clear key
   rcases Lib.index_spec rest.data.toList [47] with ⟨ei,_⟩|⟨j,ei,hj0,ho,_⟩
   ·have ei':Lib.index rest.data.toList (⟨#[47]⟩:ByteArray).data.toList= -1:=ei
    rw [ei'] at HI
    have hcut:Lib.cut rest.data.toList [47]=(rest.data.toList,[],false):=by unfold Lib.cut;rw [ei,if_neg (by decide)]
    rw [hcut]
    have HL:=fun W=>rplain_c ⟨#[47]⟩ (by decide) 33 2048 W
    have hone:Hd.plain (⟨#[47]⟩:ByteArray).data.toList 33 2048=true:=by decide
    rw [hone] at HL
    have HC:=fun W=>rfind_c rest ⟨#[58]⟩ (by omega) (by decide) W
    have hpl:(⟨rest.data.toList.toArray⟩:ByteArray)=rest:=rfl
    simp only [Bool.not_true,Bool.false_or,Bool.false_and,Bool.false_eq_true,if_false]
    rw [hpl]
    unfold placeR Lib.contains
    cases hcc:decide (0≤Lib.index rest.data.toList [58])
    ·have hcn:Lib.index rest.data.toList (⟨#[58]⟩:ByteArray).data.toList= -1:=by
      have:=Lib.index_ge rest.data.toList [58]
      have:=of_decide_eq_false hcc
      show Lib.index rest.data.toList [58]= -1
      omega
     rw [hcn] at HC
     rw [if_neg Bool.false_ne_true]
     have HP:=fun W (h:StdW W)=>rparse_any rest (by omega) W h
     cases hr:hpRes rest with
     |inl x=>
      obtain ⟨a,c⟩:=x
      rw [hr] at HP
      exact (tg_hE0 m s p hm h7 rest hrest HE HI HL hp7 HC 1 hostS ⟨#[]⟩ ⟨#[]⟩ a 0 0 c (by decide) 2 headS hostS ⟨#[]⟩ (p+7) a 0 c (fun W h=>(HP W h).mono fun e w' ⟨hb,he⟩=>⟨he,hb⟩) (fun W=>wrap_h (p+7) a c W) w hS).mono fun e w' ⟨he,hb⟩=>⟨hb,he⟩
     |inr x=>
      obtain ⟨l,n⟩:=x
      rw [hr] at HP
      exact (tg_hO0 m s p hm h7 rest hrest HE HI HL HC (l.getD 0 0) (l.getD 1 0) (l.getD 2 0) (l.getD 3 0) n (fun W h=>(HP W h).mono fun e w' ⟨hb,he⟩=>⟨he,hb⟩) w hS).mono fun e w' ⟨he,hb⟩=>⟨hb,he⟩
    ·have hcn: ¬ Lib.index rest.data.toList (⟨#[58]⟩:ByteArray).data.toList<0:=by
      have:=of_decide_eq_true hcc
      show ¬ Lib.index rest.data.toList [58]<0
      omega
     rw [if_pos rfl]
     have HP:=fun W (h:StdW W)=>rpdest_any rest W h
     cases hd:pdX rest with
     |inl x=>
      obtain ⟨a,ch,c⟩:=x
      rw [hd] at HP
      rcases pdX_ch rest a ch c hd with rfl|rfl
      ·exact (tg_dE0 m s p hm h7 rest hrest HE HI HL hp7 _ hcn HC 1 hostS ⟨#[]⟩ ⟨#[]⟩ a 0 0 c (by decide) 2 headS hostS ⟨#[]⟩ (p+7) a 0 c (fun W h=>(HP W h).mono fun e w' ⟨hb,he⟩=>⟨he,hb⟩) (fun W=>wrap_h (p+7) a c W) w hS).mono fun e w' ⟨he,hb⟩=>⟨hb,he⟩
      ·exact (tg_dE0 m s p hm h7 rest hrest HE HI HL hp7 _ hcn HC 2 hostS hostS ⟨#[]⟩ a 0 0 c (by decide) 3 headS hostS hostS (p+7) a 0 c (fun W h=>(HP W h).mono fun e w' ⟨hb,he⟩=>⟨he,hb⟩) (fun W=>wrap_hh (p+7) a c W) w hS).mono fun e w' ⟨he,hb⟩=>⟨hb,he⟩
     |inr x=>
      obtain ⟨x0,x1,x2,x3,nm,po⟩:=x
      rw [hd] at HP
      exact (tg_dO0 m s p hm h7 rest hrest HE HI HL _ hcn HC x0 x1 x2 x3 nm po (fun W h=>(HP W h).mono fun e w' ⟨hb,he⟩=>⟨he,hb⟩) w hS).mono fun e w' ⟨he,hb⟩=>⟨hb,he⟩
   ·have ei':Lib.index rest.data.toList (⟨#[47]⟩:ByteArray).data.toList=(j:Int):=ei
    rw [ei'] at HI
    have hjl:j<rest.data.toList.length∧rest.data.toList.drop j=47::rest.data.toList.drop (j+1):=by
     unfold Lib.occAt at ho
     rcases Nat.lt_or_ge j rest.data.toList.length with h|h
     ·refine ⟨h,?_⟩
      rw [List.drop_eq_getElem_cons h] at ho ⊢
      have:(47:UInt8)=rest.data.toList[j]:=by simpa [List.isPrefixOf] using ho
      rw [← this]
     ·rw [List.drop_of_length_le h] at ho;cases ho
    have hcut:Lib.cut rest.data.toList [47]=(rest.data.toList.take j,rest.data.toList.drop (j+1),true):=by unfold Lib.cut;rw [ei,if_pos (by omega)];rfl
    have hplace:(⟨(rest.data.toList.take j).toArray⟩:ByteArray)=rest.extract 0 j:=(extract_cur rest 0 j _ (by rw [List.drop_zero,Nat.sub_zero])).symm
    have hpath:(⟨(47::rest.data.toList.drop (j+1)).toArray⟩:ByteArray)=rest.extract j rest.size:=by
     rw [← hjl.2]
     exact (extract_cur rest j rest.size _ (by rw [← hl,← List.length_drop,List.take_length])).symm
    have hpd:(47::rest.data.toList.drop (j+1))=(rest.extract j rest.size).data.toList:=by rw [← hpath]
    have hzp:(rest.extract 0 j).size≤100000:=by rw [ByteArray.size_extract];omega
    have hzq:(rest.extract j rest.size).size≤100000:=by rw [ByteArray.size_extract];omega
    have hj:j≤rest.size:=by omega
    rw [hcut]
    dsimp only
    rw [hpath,hplace,hpd]
    have HL:=fun W=>rplain_c (rest.extract j rest.size) (by omega) 33 2048 W
    have HC:=fun W=>rfind_c (rest.extract 0 j) ⟨#[58]⟩ (by omega) (by decide) W
    simp only [Bool.not_true,Bool.false_or,Bool.true_and]
    cases hpl:Hd.plain (rest.extract j rest.size).data.toList 33 2048
    ·rw [hpl] at HL
     exact (tg_pl1 m s p hm h7 rest hrest j hj HE HI HL HF w hS).mono fun e w' ⟨he,hb⟩=>⟨hb,he⟩
    ·rw [hpl] at HL
     rw [if_neg (by decide)]
     unfold placeR Lib.contains
     cases hcc:decide (0≤Lib.index (rest.extract 0 j).data.toList [58])
     ·have hcn:Lib.index (rest.extract 0 j).data.toList (⟨#[58]⟩:ByteArray).data.toList= -1:=by
       have:=Lib.index_ge (rest.extract 0 j).data.toList [58]
       have:=of_decide_eq_false hcc
       show Lib.index (rest.extract 0 j).data.toList [58]= -1
       omega
      rw [hcn] at HC
      rw [if_neg Bool.false_ne_true]
      have HP:=fun W (h:StdW W)=>rparse_any (rest.extract 0 j) (by omega) W h
      cases hr:hpRes (rest.extract 0 j) with
      |inl x=>
       obtain ⟨a,c⟩:=x
       rw [hr] at HP
       exact (tg_hE1 m s p hm h7 rest hrest j hj HE HI HL hp7 HC 1 hostS ⟨#[]⟩ ⟨#[]⟩ a 0 0 c (by decide) 2 headS hostS ⟨#[]⟩ (p+7) a 0 c (fun W h=>(HP W h).mono fun e w' ⟨hb,he⟩=>⟨he,hb⟩) (fun W=>wrap_h (p+7) a c W) w hS).mono fun e w' ⟨he,hb⟩=>⟨hb,he⟩
      |inr x=>
       obtain ⟨l,n⟩:=x
       rw [hr] at HP
       exact (tg_hO1 m s p hm h7 rest hrest j hj HE HI HL HC (l.getD 0 0) (l.getD 1 0) (l.getD 2 0) (l.getD 3 0) n (fun W h=>(HP W h).mono fun e w' ⟨hb,he⟩=>⟨he,hb⟩) w hS).mono fun e w' ⟨he,hb⟩=>⟨hb,he⟩
     ·have hcn: ¬ Lib.index (rest.extract 0 j).data.toList (⟨#[58]⟩:ByteArray).data.toList<0:=by
       have:=of_decide_eq_true hcc
       show ¬ Lib.index (rest.extract 0 j).data.toList [58]<0
       omega
      rw [if_pos rfl]
      have HP:=fun W (h:StdW W)=>rpdest_any (rest.extract 0 j) W h
      cases hd:pdX (rest.extract 0 j) with
      |inl x=>
       obtain ⟨a,ch,c⟩:=x
       rw [hd] at HP
       rcases pdX_ch _ a ch c hd with rfl|rfl
       ·exact (tg_dE1 m s p hm h7 rest hrest j hj HE HI HL hp7 _ hcn HC 1 hostS ⟨#[]⟩ ⟨#[]⟩ a 0 0 c (by decide) 2 headS hostS ⟨#[]⟩ (p+7) a 0 c (fun W h=>(HP W h).mono fun e w' ⟨hb,he⟩=>⟨he,hb⟩) (fun W=>wrap_h (p+7) a c W) w hS).mono fun e w' ⟨he,hb⟩=>⟨hb,he⟩
       ·exact (tg_dE1 m s p hm h7 rest hrest j hj HE HI HL hp7 _ hcn HC 2 hostS hostS ⟨#[]⟩ a 0 0 c (by decide) 3 headS hostS hostS (p+7) a 0 c (fun W h=>(HP W h).mono fun e w' ⟨hb,he⟩=>⟨he,hb⟩) (fun W=>wrap_hh (p+7) a c W) w hS).mono fun e w' ⟨he,hb⟩=>⟨hb,he⟩
      |inr x=>
       obtain ⟨x0,x1,x2,x3,nm,po⟩:=x
       rw [hd] at HP
       exact (tg_dO1 m s p hm h7 rest hrest j hj HE HI HL _ hcn HC x0 x1 x2 x3 nm po (fun W h=>(HP W h).mono fun e w' ⟨hb,he⟩=>⟨he,hb⟩) w hS).mono fun e w' ⟨he,hb⟩=>⟨hb,he⟩
end Go.Proofs.YtgmpdjjoefkndaaGreatDoor.E

namespace Go.Proofs.YtgmpdjjoefkndaaGreatDoor.E
open Go.RowKit Go.Proofs.YtgmpdjjoefkndaaGreatDoorW.PrintWords Go.Proofs.YtgmpdjjoefkndaaGreatDoorW.PrintLast Go.Proofs.YtgmpdjjoefkndaaGreatDoor.XK Go.Proofs.YtgmpdjjoefkndaaGreatDoor.XRf Go.Proofs.YtgmpdjjoefkndaaGreatDoor.XZ
set_option linter.unusedVariables false
set_option linter.unusedSimpArgs false
theorem trimB_blk (l:List UInt8):Fd.trimB l=((l.reverse.dropWhile blk).reverse).dropWhile blk:=by
 have hb: ∀ c:UInt8,([32,9]:List UInt8).contains c=blk c:=fun c=>by unfold blk;simp only [List.contains_cons,List.contains_nil,Bool.or_false]
 have hp:(fun c:UInt8=>([32,9]:List UInt8).contains c)=blk:=funext hb
 show ((l.reverse.dropWhile (fun c:UInt8=>([32,9]:List UInt8).contains c)).reverse).dropWhile (fun c:UInt8=>([32,9]:List UInt8).contains c)=_
 rw [hp]
theorem drop_all (l:List UInt8) (h: ∀ c ∈ l,blk c=true):l.dropWhile blk=[]:=by
 have:=List.dropWhile_append_of_pos (l₁:=l) (l₂:=[]) h
 rw [List.append_nil] at this
 exact this
theorem trimB_mid (p m r:List UInt8) (hp: ∀ c ∈ p,blk c=true) (hr: ∀ c ∈ r,blk c=true) (hm:m=[]∨((∃ c t,m=c::t∧blk c=false)∧ ∃ c t,m=t++[c]∧blk c=false)):Fd.trimB (p++(m++r))=m:=by
 rw [trimB_blk,List.reverse_append,List.reverse_append,List.append_assoc,List.dropWhile_append_of_pos (fun c hc=>hr c (List.mem_reverse.1 hc))]
 rcases hm with rfl|⟨⟨c,t,e1,hc⟩,d,u,e2,hd⟩
 ·rw [List.reverse_nil,List.nil_append,drop_all _ (fun c hc=>hp c (List.mem_reverse.1 hc))];rfl
 ·have e3:m.reverse++p.reverse=d::(u.reverse++p.reverse):=by rw [e2];simp
  rw [e3,List.dropWhile_cons_of_neg (by rw [hd];decide),← e3,List.reverse_append,List.reverse_reverse,List.reverse_reverse,List.dropWhile_append_of_pos hp,e1,List.dropWhile_cons_of_neg (by rw [hc];decide)]
def fieldsG:List (List UInt8×Nat)→List Fd.F→(Nat×Nat) ⊕ List Fd.F
 |[],out=> .inr out
 |(l,p)::r,out=>if out.length=64 then .inl (p,3) else match Hd.fieldR l with
  | .inl c=> .inl (p,c)
  | .inr f=>fieldsG r (out++[f])
theorem fieldsG_offs: ∀ (L:List (List UInt8)) (p:Nat) (out:List Fd.F),fieldsG (Hd.offs L p) out=Hd.fieldsL L p out
 |[],p,out=>rfl
 |l::r,p,out=>by
  unfold Hd.offs fieldsG Hd.fieldsL
  split
  ·rfl
  ·cases Hd.fieldR l with
   |inl c=>rfl
   |inr f=>exact fieldsG_offs r _ _
theorem mid_nonblk (l:List UInt8) (a b:Nat) (hab:a≤b) (hb:b≤l.length) (h1: ∀ h:a<l.length,blk l[a]=false) (h2:a<b→ ∀ h:b - 1<l.length,blk l[b - 1]=false):
  (l.drop a).take (b - a)=[]∨((∃ c t,(l.drop a).take (b - a)=c::t∧blk c=false)∧ ∃ c t,(l.drop a).take (b - a)=t++[c]∧blk c=false):=by
 by_cases h:a<b
 ·refine .inr ⟨⟨l[a],(l.drop (a+1)).take (b - a - 1),?_,h1 (by omega)⟩,l[b - 1],(l.drop a).take (b - 1 - a),?_,h2 h (by omega)⟩
  ·rw [List.drop_eq_getElem_cons (by omega),show b - a=(b - a - 1)+1 by omega,List.take_succ_cons]
   rfl
  ·have:=take_step l a (b - 1) _ (by omega) (by omega) rfl
   rw [show b - 1+1 - a=b - a by omega] at this
   exact this
 ·left
  rw [show b - a=0 by omega];rfl
theorem trim_parts (l:List UInt8) (q a b:Nat) (hq:q≤a) (hab:a≤b) (hb:b≤l.length) (h0: ∀ j (h:j<l.length),q≤j→j<a→blk l[j]=true) (h1: ∀ h:a<l.length,blk l[a]=false) (h2:a<b→ ∀ h:b - 1<l.length,blk l[b - 1]=false) (h3: ∀ j (h:j<l.length),b≤j→j<l.length→blk l[j]=true):
  Fd.trimB (l.drop q)=(l.drop a).take (b - a):=by
 have e:l.drop q=(l.drop q).take (a - q)++((l.drop a).take (b - a)++l.drop b):=by
  have e1:l.drop a=(l.drop a).take (b - a)++l.drop b:=by
   conv=>lhs;rw [← List.take_append_drop (b - a) (l.drop a)]
   rw [List.drop_drop,show a+(b - a)=b by omega]
  rw [← e1]
  conv=>lhs;rw [← List.take_append_drop (a - q) (l.drop q)]
  rw [List.drop_drop,show q+(a - q)=a by omega]
 rw [e]
 refine trimB_mid _ _ _ (fun c hc=>?_) (fun c hc=>?_) (mid_nonblk l a b hab hb h1 h2)
 ·obtain ⟨j,hj,rfl⟩:=List.mem_iff_getElem.1 hc
  rw [List.length_take,List.length_drop] at hj
  rw [List.getElem_take,List.getElem_drop]
  exact h0 _ _ (by omega) (by omega)
 ·obtain ⟨j,hj,rfl⟩:=List.mem_iff_getElem.1 hc
  rw [List.length_drop] at hj
  rw [List.getElem_drop]
  exact h3 _ _ (by omega) (by omega)
theorem cut_col (l:List UInt8):(Lib.index l [58]<0∧(Lib.cut l [58]).2.2=false)∨(∃ n:Nat,Lib.index l [58]=n∧n<l.length∧Lib.cut l [58]=(l.take n,l.drop (n+1),true)):=by
 rcases Lib.index_spec l [58] with ⟨e,_⟩|⟨n,e,hn,ho,_⟩
 ·left
  unfold Lib.cut
  rw [e,if_neg (by decide)]
  exact ⟨by decide,rfl⟩
 ·right
  have hlt:n<l.length:=by
   unfold Lib.occAt at ho
   rcases Nat.lt_or_ge n l.length with h|h
   ·exact h
   ·rw [List.drop_of_length_le h] at ho;cases ho
  refine ⟨n,e,hlt,?_⟩
  unfold Lib.cut
  rw [e,if_pos (by omega)]
  rfl
end Go.Proofs.YtgmpdjjoefkndaaGreatDoor.E
