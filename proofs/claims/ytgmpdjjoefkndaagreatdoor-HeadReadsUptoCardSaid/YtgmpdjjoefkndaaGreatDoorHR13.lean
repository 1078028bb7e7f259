/- What the cards of this seat rest on: the walks and plain laws, part 13. -/
import Derived.Test.YtgmpdjjoefkndaaGreatDoorHR11
import Derived.IntWalk
import Derived.Deep.RegionHeld3
import Derived.Test.YtgmpdjjoefkndaaGreatDoorHR12
import Derived.Test.YtgmpdjjoefkndaaGreatDoorHR2
import Derived.Test.YtgmpdjjoefkndaaGreatDoorHR9
import Derived.Test.YtgmpdjjoefkndaaGreatDoorHR8

namespace Go.Proofs.YtgmpdjjoefkndaaGreatDoor.E
open Go.RowKit Go.Proofs.YtgmpdjjoefkndaaGreatDoorW.PrintWords Go.Proofs.YtgmpdjjoefkndaaGreatDoorW.PrintLast Go.Proofs.YtgmpdjjoefkndaaGreatDoor.XK Go.Proofs.YtgmpdjjoefkndaaGreatDoor.XA Go.Proofs.YtgmpdjjoefkndaaGreatDoor.XD
set_option linter.unusedVariables false
set_option linter.unusedSimpArgs false
set_option maxRecDepth 100000 in
set_option maxHeartbeats 40000000 in
theorem rq_target (A:Option Addr) (n c:Nat) (w:World) (S l S2:ByteArray) (mm:Int) (pe:Nat) (p0 p1 p2:ByteArray) (hz:p0.size≤100000) (a:Int) (ch:List (ByteArray×Int)) (k:Int) (HOP0:OpC A n c S mm w) (HLN0:LnC S l S2 pe w) (HSP0:SpC l [p0,p1,p2] w) (HBK0:BkC l false) (HVE0:VeC p2 true) (HTK0:TkC p0 true w) (HTG0:TgE p0 p1 ((p0.size:Int)+1) a ch k w):
  Calls Tryz.prog 13 #[.slice A n c] w (RqPost (.inl (a,ch,k)) w):=by
 have HOP:=Lib.hid HOP0
 have HLN:=Lib.hid HLN0
 have HSP:=Lib.hid HSP0
 have HBK:=Lib.hid HBK0
 have HVE:=Lib.hid HVE0
 have HTK:=Lib.hid HTK0
 have HTG:=Lib.hid HTG0
 clear HOP0 HLN0 HSP0 HBK0 HVE0 HTK0 HTG0
 have HZ:=Lib.hid (Blk.new w rqZ 44)
 have HB:=Lib.hid (below_alloc (Below.refl w.heap.size w) (.cells rqZ 44))
 have HW:=Lib.hid hdwrong_no
 unfold rqZ rqC at*
 go_enter Tryz.func13,Tryz.ntmps13
 go_wp2_with (first|(go_at_call 48;(with_reducible refine (HOP.out _ HB.out).mono ?_);rintro e wn ⟨R,hR,rfl,hk,hb⟩;have HRW:=Lib.hid (show w.heap.size<R from Nat.lt_of_lt_of_le (by simp) hR);have HZ:=Lib.hid (HZ.out.below hb);have HK:=Lib.hid hk;have HB:=Lib.hid (below_then HB.out HB.out.size hb);clear hk hb hR)|(go_at_call 49;(with_reducible refine (HLN.out _ R HB.out (Nat.le_of_lt HRW.out) HK.out).mono ?_);rintro e wn ⟨rfl,hk,hkp,hb⟩;have HZ:=Lib.hid (HZ.out.keptR hkp (Nat.ne_of_lt HRW.out));have HK:=Lib.hid hk;have HB:=Lib.hid hb;clear hk hkp hb)|(go_at_call 50;(with_reducible refine (HSP.out _ HB.out).mono ?_);rintro e wn ⟨PB,hPB,rfl,hq,hb⟩;have HRQ:=Lib.hid (Nat.lt_of_lt_of_le HK.out.lt hPB);clear hPB;have HQ:=Lib.hid hq;have HZ:=Lib.hid (HZ.out.below hb);have HK:=Lib.hid (HK.out.below hb);have HB:=Lib.hid (below_then HB.out HB.out.size hb);clear hq hb;obtain ⟨q0,q1,q2⟩:=HQ.out.words3)|(go_at_call 51;(with_reducible refine (HBK.out _).mono ?_);rintro e wn ⟨rfl,hb⟩;have HQ:=Lib.hid (HQ.out.below hb);have HZ:=Lib.hid (HZ.out.below hb);have HK:=Lib.hid (HK.out.below hb);have HB:=Lib.hid (below_then HB.out HB.out.size hb);clear q0 q1 q2 hb;obtain ⟨q0,q1,q2⟩:=HQ.out.words3)|(go_at_call 52;(with_reducible refine (HVE.out _).mono ?_);rintro e wn ⟨rfl,hb⟩;have HQ:=Lib.hid (HQ.out.below hb);have HZ:=Lib.hid (HZ.out.below hb);have HK:=Lib.hid (HK.out.below hb);have HB:=Lib.hid (below_then HB.out HB.out.size hb);clear q0 q1 q2 hb;obtain ⟨q0,q1,q2⟩:=HQ.out.words3)|(go_at_call 53;(with_reducible refine (HTK.out _ HB.out).mono ?_);rintro e wn ⟨rfl,hb⟩;have HQ:=Lib.hid (HQ.out.below hb);have HZ:=Lib.hid (HZ.out.below hb);have HK:=Lib.hid (HK.out.below hb);have HB:=Lib.hid (below_then HB.out HB.out.size hb);clear q0 q1 q2 hb;obtain ⟨q0,q1,q2⟩:=HQ.out.words3))
 have hql:=HQ.out.lt
 have hrl:=HK.out.lt
 have hne0:=Nat.ne_of_gt hql
 have hzl:=HZ.out.lt
 have hwr:IntKind.i64.wrap ((p0.size:Int)+1)=(p0.size:Int)+1:=IntWalk.i64_in _ (by omega)
 have hwr0:wrap64 ((p0.size:Int)+1)=(p0.size:Int)+1:=by unfold wrap64;omega
 have hp1:(0:Int)≤(p0.size:Int)+1:=by omega
 go_region_held3 (fun w'=>w'.cell? ⟨PB,0,none⟩=some (.string p0)∧w'.cell? ⟨PB,1,none⟩=some (.string p1)) (first|(simp only [World.cell?_drew,q0,q1,and_self];done)|(simp only [World.cell?_drew,World.cell?_alloc_some,World.cell?_setCell_far,q0,q1,Option.isSome_some,ne_eq,not_false_eq_true,and_self,hne0];done)|(simp only [World.cell?_drew,World.cell?_alloc_some,World.cell?_setCell_far,q0,q1,Option.isSome_some,ne_eq,not_false_eq_true,and_self,hne0,hne1];done)) ((first|(go_at_call 54;(with_reducible refine (HTG.out _ (below_drew1 HB.out)).mono ?_);rintro e wm ⟨tx,ty,tz,tu,tn,tp,tq,v,rfl,he,hbd⟩;have hb:=below_of_drew hbd;obtain ⟨et,ex,rfl⟩:=he.iface;have HE:=Lib.hid he;clear he;have HZ:=Lib.hid (HZ.out.below hb);have HK:=Lib.hid (HK.out.below hb);have HQ:=Lib.hid (HQ.out.below hb);have HB:=Lib.hid (below_then HB.out HB.out.size hb);clear hb hbd q0 q1 q2;obtain ⟨q0,q1,q2⟩:=HQ.out.words3;have hne1:=Nat.ne_of_gt HQ.out.lt)|(go_at_call 54;(with_reducible refine (HTG.out _ (below_drew1 (below_alloc HB.out _))).mono ?_);rintro e wm ⟨tx,ty,tz,tu,tn,tp,tq,v,rfl,he,hbd⟩;have hb:=below_of_drew hbd;obtain ⟨et,ex,rfl⟩:=he.iface;have HE:=Lib.hid he;clear he;have HD:=Lib.hid ((Blk.new _ _ _).below hb);have HZ:=Lib.hid ((HZ.out.old _).below hb);have HK:=Lib.hid ((HK.out.old _).below hb);have HQ:=Lib.hid ((HQ.out.old _).below hb);have HB:=Lib.hid (below_then (below_alloc HB.out _) (below_alloc HB.out _).size hb);obtain ⟨d0,d1,d2,d3,d4,d5,g0,g1,g2,g3,g4,g5⟩:=Blk.dix HD.out;clear hb hbd q0 q1 q2;obtain ⟨q0,q1,q2⟩:=HQ.out.words3;have hne1:=Nat.ne_of_gt HQ.out.lt)))
 ·have HRD:=Lib.hid HK.out.lt
  have HD:=Lib.hid (Blk.new wm #[.int .u8 tx,.int .u8 ty,.int .u8 tz,.int .u8 tu,.string tn,.int .i64 tp] 41)
  have HZ:=Lib.hid (HZ.out.old (.cells #[.int .u8 tx,.int .u8 ty,.int .u8 tz,.int .u8 tu,.string tn,.int .i64 tp] 41))
  have HK:=Lib.hid (HK.out.old (.cells #[.int .u8 tx,.int .u8 ty,.int .u8 tz,.int .u8 tu,.string tn,.int .i64 tp] 41))
  have HQ:=Lib.hid (HQ.out.old (.cells #[.int .u8 tx,.int .u8 ty,.int .u8 tz,.int .u8 tu,.string tn,.int .i64 tp] 41))
  have HB:=Lib.hid (below_alloc HB.out (.cells #[.int .u8 tx,.int .u8 ty,.int .u8 tz,.int .u8 tu,.string tn,.int .i64 tp] 41))
  have HE:=Lib.hid (ErrIs.below (below_alloc (Below.refl wm.heap.size wm) (.cells #[.int .u8 tx,.int .u8 ty,.int .u8 tz,.int .u8 tu,.string tn,.int .i64 tp] 41)) HE.out)
  clear q0 q1 q2 hne1 hne0 hql hzl hrl
  generalize wm.heap.size=DB at HRD HD ⊢
  generalize (wm.alloc (.cells #[.int .u8 tx,.int .u8 ty,.int .u8 tz,.int .u8 tu,.string tn,.int .i64 tp] 41))=W7 at HD HZ HK HQ HB HE ⊢
  have HZL:=Lib.hid HZ.out.lt
  obtain ⟨c0,c1,c2,c3,c4,c5,c6,c7,c8,f0,f1,f2,f3,f4,f5,f6,f7,f8,s0,s1,s2,s3,s4,s5,s6,s7,s8⟩:=HZ.out.rqz
  go_wp2
  refine bodyPost_ret (v:= .tuple #[.agg #[.string ⟨#[]⟩,.int .u8 0,.int .u8 0,.int .u8 0,.int .u8 0,.string ⟨#[]⟩,.int .i64 0,.string ⟨#[]⟩,.slice none 0 0],.int .i64 0,_]) ?_ rfl ⟨HB.out,_,rfl,HE.out⟩
  exact rq_res _ _ _ _ _ _ _ _ _ _ _ _ _ _ _ rfl rfl rfl (show Blk _ _ rqZ _ from HZ.out)
 ·have HRD:=Lib.hid hrl
  have HE:=Lib.hid (show ErrIs _ _ _ _ from EOr.put6 (o:=some ((headS,a)::ch,k)) (a:=tx) (b:=ty) (c:=tz) (d:=tu) (n:=tn) (po:=tp) HD.out HE.out)
  have HD:=Lib.hid (show Blk _ _ (#[.int .u8 tx,.int .u8 ty,.int .u8 tz,.int .u8 tu,.string tn,.int .i64 tp]:Array Value) _ from ((((((HD.out.set 0 (.int .u8 tx)).set 1 (.int .u8 ty)).set 2 (.int .u8 tz)).set 3 (.int .u8 tu)).set 4 (.string tn)).set 5 (.int .i64 tp)))
  have HZ:=Lib.hid (oth (oth (oth (oth (oth (oth HZ.out 0 hzl (.int .u8 tx)) 1 hzl (.int .u8 ty)) 2 hzl (.int .u8 tz)) 3 hzl (.int .u8 tu)) 4 hzl (.string tn)) 5 hzl (.int .i64 tp))
  have HK:=Lib.hid (oth (oth (oth (oth (oth (oth HK.out 0 hrl (.int .u8 tx)) 1 hrl (.int .u8 ty)) 2 hrl (.int .u8 tz)) 3 hrl (.int .u8 tu)) 4 hrl (.string tn)) 5 hrl (.int .i64 tp))
  have HQ:=Lib.hid (oth (oth (oth (oth (oth (oth HQ.out 0 hql (.int .u8 tx)) 1 hql (.int .u8 ty)) 2 hql (.int .u8 tz)) 3 hql (.int .u8 tu)) 4 hql (.string tn)) 5 hql (.int .i64 tp))
  have HB:=Lib.hid (bset (bset (bset (bset (bset (bset HB.out 0 hzl (.int .u8 tx)) 1 hzl (.int .u8 ty)) 2 hzl (.int .u8 tz)) 3 hzl (.int .u8 tu)) 4 hzl (.string tn)) 5 hzl (.int .i64 tp))
  clear q0 q1 q2 hne1 hne0 hql hzl hrl d0 d1 d2 d3 d4 d5 g0 g1 g2 g3 g4 g5
  generalize ((((((wm.setCell ⟨wn.heap.size,0,none⟩ (.int .u8 tx)).setCell ⟨wn.heap.size,1,none⟩ (.int .u8 ty)).setCell ⟨wn.heap.size,2,none⟩ (.int .u8 tz)).setCell ⟨wn.heap.size,3,none⟩ (.int .u8 tu)).setCell ⟨wn.heap.size,4,none⟩ (.string tn)).setCell ⟨wn.heap.size,5,none⟩ (.int .i64 tp))=W7 at HD HZ HK HQ HB HE ⊢
  generalize wn.heap.size=DB at HRD HD ⊢
  have HZL:=Lib.hid HZ.out.lt
  obtain ⟨c0,c1,c2,c3,c4,c5,c6,c7,c8,f0,f1,f2,f3,f4,f5,f6,f7,f8,s0,s1,s2,s3,s4,s5,s6,s7,s8⟩:=HZ.out.rqz
  go_wp2
  refine bodyPost_ret (v:= .tuple #[.agg #[.string ⟨#[]⟩,.int .u8 0,.int .u8 0,.int .u8 0,.int .u8 0,.string ⟨#[]⟩,.int .i64 0,.string ⟨#[]⟩,.slice none 0 0],.int .i64 0,_]) ?_ rfl ⟨HB.out,_,rfl,HE.out⟩
  exact rq_res _ _ _ _ _ _ _ _ _ _ _ _ _ _ _ rfl rfl rfl (show Blk _ _ rqZ _ from HZ.out)
set_option maxRecDepth 100000 in
set_option maxHeartbeats 40000000 in
theorem rq_fields (A:Option Addr) (n c:Nat) (w:World) (S l S2:ByteArray) (mm:Int) (pe:Nat) (p0 p1 p2:ByteArray) (hz:p0.size≤100000) (tx ty tz tu:Int) (tn:ByteArray) (tp:Int) (tq:ByteArray) (a k:Int) (HOP0:OpC A n c S mm w) (HLN0:LnC S l S2 pe w) (HSP0:SpC l [p0,p1,p2] w) (HBK0:BkC l false) (HVE0:VeC p2 true) (HTK0:TkC p0 true w) (HTG0:TgC p0 p1 ((p0.size:Int)+1) tx ty tz tu tn tp tq w) (HFL0:FlE S2 pe a k w):
  Calls Tryz.prog 13 #[.slice A n c] w (RqPost (.inl (a,[],k)) w):=by
 have HOP:=Lib.hid HOP0
 have HLN:=Lib.hid HLN0
 have HSP:=Lib.hid HSP0
 have HBK:=Lib.hid HBK0
 have HVE:=Lib.hid HVE0
 have HTK:=Lib.hid HTK0
 have HTG:=Lib.hid HTG0
 have HFL:=Lib.hid HFL0
 clear HOP0 HLN0 HSP0 HBK0 HVE0 HTK0 HTG0 HFL0
 have HZ:=Lib.hid (Blk.new w rqZ 44)
 have HB:=Lib.hid (below_alloc (Below.refl w.heap.size w) (.cells rqZ 44))
 have HW:=Lib.hid hdwrong_no
 unfold rqZ rqC at*
 go_enter Tryz.func13,Tryz.ntmps13
 go_wp2_with (first|(go_at_call 48;(with_reducible refine (HOP.out _ HB.out).mono ?_);rintro e wn ⟨R,hR,rfl,hk,hb⟩;have HRW:=Lib.hid (show w.heap.size<R from Nat.lt_of_lt_of_le (by simp) hR);have HZ:=Lib.hid (HZ.out.below hb);have HK:=Lib.hid hk;have HB:=Lib.hid (below_then HB.out HB.out.size hb);clear hk hb hR)|(go_at_call 49;(with_reducible refine (HLN.out _ R HB.out (Nat.le_of_lt HRW.out) HK.out).mono ?_);rintro e wn ⟨rfl,hk,hkp,hb⟩;have HZ:=Lib.hid (HZ.out.keptR hkp (Nat.ne_of_lt HRW.out));have HK:=Lib.hid hk;have HB:=Lib.hid hb;clear hk hkp hb)|(go_at_call 50;(with_reducible refine (HSP.out _ HB.out).mono ?_);rintro e wn ⟨PB,hPB,rfl,hq,hb⟩;have HRQ:=Lib.hid (Nat.lt_of_lt_of_le HK.out.lt hPB);clear hPB;have HQ:=Lib.hid hq;have HZ:=Lib.hid (HZ.out.below hb);have HK:=Lib.hid (HK.out.below hb);have HB:=Lib.hid (below_then HB.out HB.out.size hb);clear hq hb;obtain ⟨q0,q1,q2⟩:=HQ.out.words3)|(go_at_call 51;(with_reducible refine (HBK.out _).mono ?_);rintro e wn ⟨rfl,hb⟩;have HQ:=Lib.hid (HQ.out.below hb);have HZ:=Lib.hid (HZ.out.below hb);have HK:=Lib.hid (HK.out.below hb);have HB:=Lib.hid (below_then HB.out HB.out.size hb);clear q0 q1 q2 hb;obtain ⟨q0,q1,q2⟩:=HQ.out.words3)|(go_at_call 52;(with_reducible refine (HVE.out _).mono ?_);rintro e wn ⟨rfl,hb⟩;have HQ:=Lib.hid (HQ.out.below hb);have HZ:=Lib.hid (HZ.out.below hb);have HK:=Lib.hid (HK.out.below hb);have HB:=Lib.hid (below_then HB.out HB.out.size hb);clear q0 q1 q2 hb;obtain ⟨q0,q1,q2⟩:=HQ.out.words3)|(go_at_call 53;(with_reducible refine (HTK.out _ HB.out).mono ?_);rintro e wn ⟨rfl,hb⟩;have HQ:=Lib.hid (HQ.out.below hb);have HZ:=Lib.hid (HZ.out.below hb);have HK:=Lib.hid (HK.out.below hb);have HB:=Lib.hid (below_then HB.out HB.out.size hb);clear q0 q1 q2 hb;obtain ⟨q0,q1,q2⟩:=HQ.out.words3))
 have hql:=HQ.out.lt
 have hrl:=HK.out.lt
 have hne0:=Nat.ne_of_gt hql
 have hzl:=HZ.out.lt
 have hwr:IntKind.i64.wrap ((p0.size:Int)+1)=(p0.size:Int)+1:=IntWalk.i64_in _ (by omega)
 have hwr0:wrap64 ((p0.size:Int)+1)=(p0.size:Int)+1:=by unfold wrap64;omega
 have hp1:(0:Int)≤(p0.size:Int)+1:=by omega
 go_region_held3 (fun w'=>w'.cell? ⟨PB,0,none⟩=some (.string p0)∧w'.cell? ⟨PB,1,none⟩=some (.string p1)) (first|(simp only [World.cell?_drew,q0,q1,and_self];done)|(simp only [World.cell?_drew,World.cell?_alloc_some,World.cell?_setCell_far,q0,q1,Option.isSome_some,ne_eq,not_false_eq_true,and_self,hne0];done)|(simp only [World.cell?_drew,World.cell?_alloc_some,World.cell?_setCell_far,q0,q1,Option.isSome_some,ne_eq,not_false_eq_true,and_self,hne0,hne1];done)) ((first|(go_at_call 54;(with_reducible refine (HTG.out _ (below_drew1 HB.out)).mono ?_);rintro e wm ⟨rfl,hbd⟩;have hb:=below_of_drew hbd;have HZ:=Lib.hid (HZ.out.below hb);have HK:=Lib.hid (HK.out.below hb);have HQ:=Lib.hid (HQ.out.below hb);have HB:=Lib.hid (below_then HB.out HB.out.size hb);clear hb hbd q0 q1 q2;obtain ⟨q0,q1,q2⟩:=HQ.out.words3;have hne1:=Nat.ne_of_gt HQ.out.lt)|(go_at_call 54;(with_reducible refine (HTG.out _ (below_drew1 (below_alloc HB.out _))).mono ?_);rintro e wm ⟨rfl,hbd⟩;have hb:=below_of_drew hbd;have HD:=Lib.hid ((Blk.new _ _ _).below hb);have HZ:=Lib.hid ((HZ.out.old _).below hb);have HK:=Lib.hid ((HK.out.old _).below hb);have HQ:=Lib.hid ((HQ.out.old _).below hb);have HB:=Lib.hid (below_then (below_alloc HB.out _) (below_alloc HB.out _).size hb);obtain ⟨d0,d1,d2,d3,d4,d5,g0,g1,g2,g3,g4,g5⟩:=Blk.dix HD.out;clear hb hbd q0 q1 q2;obtain ⟨q0,q1,q2⟩:=HQ.out.words3;have hne1:=Nat.ne_of_gt HQ.out.lt)))
 ·have HRD:=Lib.hid HK.out.lt
  have HD:=Lib.hid (Blk.new wm #[.int .u8 tx,.int .u8 ty,.int .u8 tz,.int .u8 tu,.string tn,.int .i64 tp] 41)
  have HZ:=Lib.hid (HZ.out.old (.cells #[.int .u8 tx,.int .u8 ty,.int .u8 tz,.int .u8 tu,.string tn,.int .i64 tp] 41))
  have HK:=Lib.hid (HK.out.old (.cells #[.int .u8 tx,.int .u8 ty,.int .u8 tz,.int .u8 tu,.string tn,.int .i64 tp] 41))
  have HQ:=Lib.hid (HQ.out.old (.cells #[.int .u8 tx,.int .u8 ty,.int .u8 tz,.int .u8 tu,.string tn,.int .i64 tp] 41))
  have HB:=Lib.hid (below_alloc HB.out (.cells #[.int .u8 tx,.int .u8 ty,.int .u8 tz,.int .u8 tu,.string tn,.int .i64 tp] 41))
  clear q0 q1 q2 hne1 hne0 hql hzl hrl
  generalize wm.heap.size=DB at HRD HD ⊢
  generalize (wm.alloc (.cells #[.int .u8 tx,.int .u8 ty,.int .u8 tz,.int .u8 tu,.string tn,.int .i64 tp] 41))=W7 at HD HZ HK HQ HB ⊢
  have HZL:=Lib.hid HZ.out.lt
  go_wp2_with (first|(go_at_call 55;(with_reducible refine (HFL.out _ R HB.out (Nat.le_of_lt HRW.out) HK.out).mono ?_);rintro e wn ⟨v,rfl,he,hkp,hb⟩;obtain ⟨et,ex,rfl⟩:=he.iface;have HE:=Lib.hid he;clear he;have HZ:=Lib.hid (HZ.out.keptR hkp (Nat.ne_of_lt HRW.out));have HQ:=Lib.hid (HQ.out.keptR hkp (Nat.ne_of_gt HRQ.out));have HD:=Lib.hid (HD.out.keptR hkp (Nat.ne_of_gt HRD.out));have HB:=Lib.hid hb;clear hkp hb;obtain ⟨c0,c1,c2,c3,c4,c5,c6,c7,c8,f0,f1,f2,f3,f4,f5,f6,f7,f8,s0,s1,s2,s3,s4,s5,s6,s7,s8⟩:=HZ.out.rqz))
  refine bodyPost_ret (v:= .tuple #[.agg #[.string ⟨#[]⟩,.int .u8 0,.int .u8 0,.int .u8 0,.int .u8 0,.string ⟨#[]⟩,.int .i64 0,.string ⟨#[]⟩,.slice none 0 0],.int .i64 0,_]) ?_ rfl ⟨HB.out,_,rfl,HE.out⟩
  exact rq_res _ _ _ _ _ _ _ _ _ _ _ _ _ _ _ rfl rfl rfl (show Blk _ _ rqZ _ from HZ.out)
 ·have HRD:=Lib.hid hrl
  have HD:=Lib.hid (show Blk _ _ (#[.int .u8 tx,.int .u8 ty,.int .u8 tz,.int .u8 tu,.string tn,.int .i64 tp]:Array Value) _ from ((((((HD.out.set 0 (.int .u8 tx)).set 1 (.int .u8 ty)).set 2 (.int .u8 tz)).set 3 (.int .u8 tu)).set 4 (.string tn)).set 5 (.int .i64 tp)))
  have HZ:=Lib.hid (oth (oth (oth (oth (oth (oth HZ.out 0 hzl (.int .u8 tx)) 1 hzl (.int .u8 ty)) 2 hzl (.int .u8 tz)) 3 hzl (.int .u8 tu)) 4 hzl (.string tn)) 5 hzl (.int .i64 tp))
  have HK:=Lib.hid (oth (oth (oth (oth (oth (oth HK.out 0 hrl (.int .u8 tx)) 1 hrl (.int .u8 ty)) 2 hrl (.int .u8 tz)) 3 hrl (.int .u8 tu)) 4 hrl (.string tn)) 5 hrl (.int .i64 tp))
  have HQ:=Lib.hid (oth (oth (oth (oth (oth (oth HQ.out 0 hql (.int .u8 tx)) 1 hql (.int .u8 ty)) 2 hql (.int .u8 tz)) 3 hql (.int .u8 tu)) 4 hql (.string tn)) 5 hql (.int .i64 tp))
  have HB:=Lib.hid (bset (bset (bset (bset (bset (bset HB.out 0 hzl (.int .u8 tx)) 1 hzl (.int .u8 ty)) 2 hzl (.int .u8 tz)) 3 hzl (.int .u8 tu)) 4 hzl (.string tn)) 5 hzl (.int .i64 tp))
  clear q0 q1 q2 hne1 hne0 hql hzl hrl d0 d1 d2 d3 d4 d5 g0 g1 g2 g3 g4 g5
  generalize ((((((wm.setCell ⟨wn.heap.size,0,none⟩ (.int .u8 tx)).setCell ⟨wn.heap.size,1,none⟩ (.int .u8 ty)).setCell ⟨wn.heap.size,2,none⟩ (.int .u8 tz)).setCell ⟨wn.heap.size,3,none⟩ (.int .u8 tu)).setCell ⟨wn.heap.size,4,none⟩ (.string tn)).setCell ⟨wn.heap.size,5,none⟩ (.int .i64 tp))=W7 at HD HZ HK HQ HB ⊢
  generalize wn.heap.size=DB at HRD HD ⊢
  have HZL:=Lib.hid HZ.out.lt
  go_wp2_with (first|(go_at_call 55;(with_reducible refine (HFL.out _ R HB.out (Nat.le_of_lt HRW.out) HK.out).mono ?_);rintro e wn ⟨v,rfl,he,hkp,hb⟩;obtain ⟨et,ex,rfl⟩:=he.iface;have HE:=Lib.hid he;clear he;have HZ:=Lib.hid (HZ.out.keptR hkp (Nat.ne_of_lt HRW.out));have HQ:=Lib.hid (HQ.out.keptR hkp (Nat.ne_of_gt HRQ.out));have HD:=Lib.hid (HD.out.keptR hkp (Nat.ne_of_gt HRD.out));have HB:=Lib.hid hb;clear hkp hb;obtain ⟨c0,c1,c2,c3,c4,c5,c6,c7,c8,f0,f1,f2,f3,f4,f5,f6,f7,f8,s0,s1,s2,s3,s4,s5,s6,s7,s8⟩:=HZ.out.rqz))
  refine bodyPost_ret (v:= .tuple #[.agg #[.string ⟨#[]⟩,.int .u8 0,.int .u8 0,.int .u8 0,.int .u8 0,.string ⟨#[]⟩,.int .i64 0,.string ⟨#[]⟩,.slice none 0 0],.int .i64 0,_]) ?_ rfl ⟨HB.out,_,rfl,HE.out⟩
  exact rq_res _ _ _ _ _ _ _ _ _ _ _ _ _ _ _ rfl rfl rfl (show Blk _ _ rqZ _ from HZ.out)
set_option maxRecDepth 100000 in
set_option maxHeartbeats 40000000 in
theorem rq_whole (A:Option Addr) (n c:Nat) (w:World) (S l S2:ByteArray) (mn:Nat) (pe:Nat) (p0 p1 p2:ByteArray) (hz:p0.size≤100000) (tx ty tz tu:Int) (tn:ByteArray) (tp:Int) (tq:ByteArray) (fs:List Fd.F) (HOP0:OpC A n c S (mn:Int) w) (HLN0:LnC S l S2 pe w) (HSP0:SpC l [p0,p1,p2] w) (HBK0:BkC l false) (HVE0:VeC p2 true) (HTK0:TkC p0 true w) (HTG0:TgC p0 p1 ((p0.size:Int)+1) tx ty tz tu tn tp tq w) (HFL0:FlC S2 pe fs w):
  Calls Tryz.prog 13 #[.slice A n c] w (RqPost (.inr (p0,(tx,ty,tz,tu,tn,tp),tq,fs,mn)) w):=by
 have HOP:=Lib.hid HOP0
 have HLN:=Lib.hid HLN0
 have HSP:=Lib.hid HSP0
 have HBK:=Lib.hid HBK0
 have HVE:=Lib.hid HVE0
 have HTK:=Lib.hid HTK0
 have HTG:=Lib.hid HTG0
 have HFL:=Lib.hid HFL0
 clear HOP0 HLN0 HSP0 HBK0 HVE0 HTK0 HTG0 HFL0
 have HZ:=Lib.hid (Blk.new w rqZ 44)
 have HB:=Lib.hid (below_alloc (Below.refl w.heap.size w) (.cells rqZ 44))
 have HW:=Lib.hid hdwrong_no
 unfold rqZ rqC at*
 go_enter Tryz.func13,Tryz.ntmps13
 go_wp2_with (first|(go_at_call 48;(with_reducible refine (HOP.out _ HB.out).mono ?_);rintro e wn ⟨R,hR,rfl,hk,hb⟩;have HRW:=Lib.hid (show w.heap.size<R from Nat.lt_of_lt_of_le (by simp) hR);have HZ:=Lib.hid (HZ.out.below hb);have HK:=Lib.hid hk;have HB:=Lib.hid (below_then HB.out HB.out.size hb);clear hk hb hR)|(go_at_call 49;(with_reducible refine (HLN.out _ R HB.out (Nat.le_of_lt HRW.out) HK.out).mono ?_);rintro e wn ⟨rfl,hk,hkp,hb⟩;have HZ:=Lib.hid (HZ.out.keptR hkp (Nat.ne_of_lt HRW.out));have HK:=Lib.hid hk;have HB:=Lib.hid hb;clear hk hkp hb)|(go_at_call 50;(with_reducible refine (HSP.out _ HB.out).mono ?_);rintro e wn ⟨PB,hPB,rfl,hq,hb⟩;have HRQ:=Lib.hid (Nat.lt_of_lt_of_le HK.out.lt hPB);clear hPB;have HQ:=Lib.hid hq;have HZ:=Lib.hid (HZ.out.below hb);have HK:=Lib.hid (HK.out.below hb);have HB:=Lib.hid (below_then HB.out HB.out.size hb);clear hq hb;obtain ⟨q0,q1,q2⟩:=HQ.out.words3)|(go_at_call 51;(with_reducible refine (HBK.out _).mono ?_);rintro e wn ⟨rfl,hb⟩;have HQ:=Lib.hid (HQ.out.below hb);have HZ:=Lib.hid (HZ.out.below hb);have HK:=Lib.hid (HK.out.below hb);have HB:=Lib.hid (below_then HB.out HB.out.size hb);clear q0 q1 q2 hb;obtain ⟨q0,q1,q2⟩:=HQ.out.words3)|(go_at_call 52;(with_reducible refine (HVE.out _).mono ?_);rintro e wn ⟨rfl,hb⟩;have HQ:=Lib.hid (HQ.out.below hb);have HZ:=Lib.hid (HZ.out.below hb);have HK:=Lib.hid (HK.out.below hb);have HB:=Lib.hid (below_then HB.out HB.out.size hb);clear q0 q1 q2 hb;obtain ⟨q0,q1,q2⟩:=HQ.out.words3)|(go_at_call 53;(with_reducible refine (HTK.out _ HB.out).mono ?_);rintro e wn ⟨rfl,hb⟩;have HQ:=Lib.hid (HQ.out.below hb);have HZ:=Lib.hid (HZ.out.below hb);have HK:=Lib.hid (HK.out.below hb);have HB:=Lib.hid (below_then HB.out HB.out.size hb);clear q0 q1 q2 hb;obtain ⟨q0,q1,q2⟩:=HQ.out.words3))
 have hql:=HQ.out.lt
 have hrl:=HK.out.lt
 have hne0:=Nat.ne_of_gt hql
 have hzl:=HZ.out.lt
 have hwr:IntKind.i64.wrap ((p0.size:Int)+1)=(p0.size:Int)+1:=IntWalk.i64_in _ (by omega)
 have hwr0:wrap64 ((p0.size:Int)+1)=(p0.size:Int)+1:=by unfold wrap64;omega
 have hp1:(0:Int)≤(p0.size:Int)+1:=by omega
 go_region_held3 (fun w'=>w'.cell? ⟨PB,0,none⟩=some (.string p0)∧w'.cell? ⟨PB,1,none⟩=some (.string p1)) (first|(simp only [World.cell?_drew,q0,q1,and_self];done)|(simp only [World.cell?_drew,World.cell?_alloc_some,World.cell?_setCell_far,q0,q1,Option.isSome_some,ne_eq,not_false_eq_true,and_self,hne0];done)|(simp only [World.cell?_drew,World.cell?_alloc_some,World.cell?_setCell_far,q0,q1,Option.isSome_some,ne_eq,not_false_eq_true,and_self,hne0,hne1];done)) ((first|(go_at_call 54;(with_reducible refine (HTG.out _ (below_drew1 HB.out)).mono ?_);rintro e wm ⟨rfl,hbd⟩;have hb:=below_of_drew hbd;have HZ:=Lib.hid (HZ.out.below hb);have HK:=Lib.hid (HK.out.below hb);have HQ:=Lib.hid (HQ.out.below hb);have HB:=Lib.hid (below_then HB.out HB.out.size hb);clear hb hbd q0 q1 q2;obtain ⟨q0,q1,q2⟩:=HQ.out.words3;have hne1:=Nat.ne_of_gt HQ.out.lt)|(go_at_call 54;(with_reducible refine (HTG.out _ (below_drew1 (below_alloc HB.out _))).mono ?_);rintro e wm ⟨rfl,hbd⟩;have hb:=below_of_drew hbd;have HD:=Lib.hid ((Blk.new _ _ _).below hb);have HZ:=Lib.hid ((HZ.out.old _).below hb);have HK:=Lib.hid ((HK.out.old _).below hb);have HQ:=Lib.hid ((HQ.out.old _).below hb);have HB:=Lib.hid (below_then (below_alloc HB.out _) (below_alloc HB.out _).size hb);obtain ⟨d0,d1,d2,d3,d4,d5,g0,g1,g2,g3,g4,g5⟩:=Blk.dix HD.out;clear hb hbd q0 q1 q2;obtain ⟨q0,q1,q2⟩:=HQ.out.words3;have hne1:=Nat.ne_of_gt HQ.out.lt)))
 ·have HRD:=Lib.hid HK.out.lt
  have HD:=Lib.hid (Blk.new wm #[.int .u8 tx,.int .u8 ty,.int .u8 tz,.int .u8 tu,.string tn,.int .i64 tp] 41)
  have HZ:=Lib.hid (HZ.out.old (.cells #[.int .u8 tx,.int .u8 ty,.int .u8 tz,.int .u8 tu,.string tn,.int .i64 tp] 41))
  have HK:=Lib.hid (HK.out.old (.cells #[.int .u8 tx,.int .u8 ty,.int .u8 tz,.int .u8 tu,.string tn,.int .i64 tp] 41))
  have HQ:=Lib.hid (HQ.out.old (.cells #[.int .u8 tx,.int .u8 ty,.int .u8 tz,.int .u8 tu,.string tn,.int .i64 tp] 41))
  have HB:=Lib.hid (below_alloc HB.out (.cells #[.int .u8 tx,.int .u8 ty,.int .u8 tz,.int .u8 tu,.string tn,.int .i64 tp] 41))
  clear q0 q1 q2 hne1 hne0 hql hzl hrl
  generalize wm.heap.size=DB at HRD HD ⊢
  generalize (wm.alloc (.cells #[.int .u8 tx,.int .u8 ty,.int .u8 tz,.int .u8 tu,.string tn,.int .i64 tp] 41))=W7 at HD HZ HK HQ HB ⊢
  have HZL:=Lib.hid HZ.out.lt
  go_wp2_with (first|(go_at_call 55;(with_reducible refine (HFL.out _ R HB.out (Nat.le_of_lt HRW.out) HK.out).mono ?_);rintro e wn ⟨v,rfl,hrf,hkp,hb⟩;obtain ⟨fA,fc,rfl,flc,fC⟩:=Kd.R_reads hrf;clear flc fC;rw [List.length_map] at hrf;have HF:=Lib.hid hrf;clear hrf;have HZ:=Lib.hid (HZ.out.keptR hkp (Nat.ne_of_lt HRW.out));have HQ:=Lib.hid (HQ.out.keptR hkp (Nat.ne_of_gt HRQ.out));have HD:=Lib.hid (HD.out.keptR hkp (Nat.ne_of_gt HRD.out));have HB:=Lib.hid hb;clear hkp hb;obtain ⟨q0,q1,q2⟩:=HQ.out.words3;obtain ⟨d0,d1,d2,d3,d4,d5,-⟩:=Blk.dix (show Blk _ _ (dC tx ty tz tu tn tp) _ from HD.out);obtain ⟨c0,c1,c2,c3,c4,c5,c6,c7,c8,f0,f1,f2,f3,f4,f5,f6,f7,f8,s0,s1,s2,s3,s4,s5,s6,s7,s8⟩:=HZ.out.rqz))
  go_region
  go_wp2
  have hzl:=HZL.out
  exact bodyPost_ret (v:= .tuple #[.agg #[.string p0,.int .u8 tx,.int .u8 ty,.int .u8 tz,.int .u8 tu,.string tn,.int .i64 tp,.string tq,.slice fA fs.length fc],.int .i64 (mn:Int),.nilIface]) (rq_res _ _ w.heap.size p0 tx ty tz tu tn tp tq (.slice fA fs.length fc) (.int .i64 (mn:Int)) .nilIface 44 rfl rfl rfl (setRq_blk p0 tx ty tz tu tn tp tq (.slice fA fs.length fc) HZ.out)) rfl ⟨setRq_below HB.out (Nat.le_refl _) p0 tx ty tz tu tn tp tq (.slice fA fs.length fc),_,rfl,setRq_rows HF.out (Nat.le_refl _) hzl p0 tx ty tz tu tn tp tq (.slice fA fs.length fc)⟩
 ·have HRD:=Lib.hid hrl
  have HD:=Lib.hid (show Blk _ _ (#[.int .u8 tx,.int .u8 ty,.int .u8 tz,.int .u8 tu,.string tn,.int .i64 tp]:Array Value) _ from ((((((HD.out.set 0 (.int .u8 tx)).set 1 (.int .u8 ty)).set 2 (.int .u8 tz)).set 3 (.int .u8 tu)).set 4 (.string tn)).set 5 (.int .i64 tp)))
  have HZ:=Lib.hid (oth (oth (oth (oth (oth (oth HZ.out 0 hzl (.int .u8 tx)) 1 hzl (.int .u8 ty)) 2 hzl (.int .u8 tz)) 3 hzl (.int .u8 tu)) 4 hzl (.string tn)) 5 hzl (.int .i64 tp))
  have HK:=Lib.hid (oth (oth (oth (oth (oth (oth HK.out 0 hrl (.int .u8 tx)) 1 hrl (.int .u8 ty)) 2 hrl (.int .u8 tz)) 3 hrl (.int .u8 tu)) 4 hrl (.string tn)) 5 hrl (.int .i64 tp))
  have HQ:=Lib.hid (oth (oth (oth (oth (oth (oth HQ.out 0 hql (.int .u8 tx)) 1 hql (.int .u8 ty)) 2 hql (.int .u8 tz)) 3 hql (.int .u8 tu)) 4 hql (.string tn)) 5 hql (.int .i64 tp))
  have HB:=Lib.hid (bset (bset (bset (bset (bset (bset HB.out 0 hzl (.int .u8 tx)) 1 hzl (.int .u8 ty)) 2 hzl (.int .u8 tz)) 3 hzl (.int .u8 tu)) 4 hzl (.string tn)) 5 hzl (.int .i64 tp))
  clear q0 q1 q2 hne1 hne0 hql hzl hrl d0 d1 d2 d3 d4 d5 g0 g1 g2 g3 g4 g5
  generalize ((((((wm.setCell ⟨wn.heap.size,0,none⟩ (.int .u8 tx)).setCell ⟨wn.heap.size,1,none⟩ (.int .u8 ty)).setCell ⟨wn.heap.size,2,none⟩ (.int .u8 tz)).setCell ⟨wn.heap.size,3,none⟩ (.int .u8 tu)).setCell ⟨wn.heap.size,4,none⟩ (.string tn)).setCell ⟨wn.heap.size,5,none⟩ (.int .i64 tp))=W7 at HD HZ HK HQ HB ⊢
  generalize wn.heap.size=DB at HRD HD ⊢
  have HZL:=Lib.hid HZ.out.lt
  go_wp2_with (first|(go_at_call 55;(with_reducible refine (HFL.out _ R HB.out (Nat.le_of_lt HRW.out) HK.out).mono ?_);rintro e wn ⟨v,rfl,hrf,hkp,hb⟩;obtain ⟨fA,fc,rfl,flc,fC⟩:=Kd.R_reads hrf;clear flc fC;rw [List.length_map] at hrf;have HF:=Lib.hid hrf;clear hrf;have HZ:=Lib.hid (HZ.out.keptR hkp (Nat.ne_of_lt HRW.out));have HQ:=Lib.hid (HQ.out.keptR hkp (Nat.ne_of_gt HRQ.out));have HD:=Lib.hid (HD.out.keptR hkp (Nat.ne_of_gt HRD.out));have HB:=Lib.hid hb;clear hkp hb;obtain ⟨q0,q1,q2⟩:=HQ.out.words3;obtain ⟨d0,d1,d2,d3,d4,d5,-⟩:=Blk.dix (show Blk _ _ (dC tx ty tz tu tn tp) _ from HD.out);obtain ⟨c0,c1,c2,c3,c4,c5,c6,c7,c8,f0,f1,f2,f3,f4,f5,f6,f7,f8,s0,s1,s2,s3,s4,s5,s6,s7,s8⟩:=HZ.out.rqz))
  go_region
  go_wp2
  have hzl:=HZL.out
  exact bodyPost_ret (v:= .tuple #[.agg #[.string p0,.int .u8 tx,.int .u8 ty,.int .u8 tz,.int .u8 tu,.string tn,.int .i64 tp,.string tq,.slice fA fs.length fc],.int .i64 (mn:Int),.nilIface]) (rq_res _ _ w.heap.size p0 tx ty tz tu tn tp tq (.slice fA fs.length fc) (.int .i64 (mn:Int)) .nilIface 44 rfl rfl rfl (setRq_blk p0 tx ty tz tu tn tp tq (.slice fA fs.length fc) HZ.out)) rfl ⟨setRq_below HB.out (Nat.le_refl _) p0 tx ty tz tu tn tp tq (.slice fA fs.length fc),_,rfl,setRq_rows HF.out (Nat.le_refl _) hzl p0 tx ty tz tu tn tp tq (.slice fA fs.length fc)⟩
theorem words_data (s:ByteArray):(wordsB s).map (·.data.toList)=Pt.cutOn 32 s.data.toList:=by
 unfold wordsB
 rw [Lib.splitB_data,← Pt.splitK_cutOn]
 first|done|rfl
theorem words_size (s p:ByteArray) (h:p ∈ wordsB s):p.size≤s.size:=by
 have h1:=size_mem (wordsB s) p h
 rw [sumAt_eq,words_data,Pt.tot_cutOn,← Lib.size_eq] at h1
 omega
def headRq (S:ByteArray) (n:Nat):FaultT ⊕ RqT:=
 match wordsB (cutL S) with
 |[p0,p1,p2]=>
  if Hd.broken (cutL S).data.toList then .inl (0,[],80) else if !verB p2 then .inl (0,[],80) else if !tokB p0 then .inl (0,[],81) else
   match targetR p0 p1 ((p0.size:Int)+1) with
   | .inl x=> .inl x
   | .inr (d,q)=>match Hd.fieldsR 66 (cutR2 S).data.toList ((cutL S).size+2) [] with
    | .inl (a,k)=> .inl ((a:Int),[],(k:Int))
    | .inr fs=> .inr (p0,d,q,fs,n)
 |_=> .inl (0,[],80)
def reqR (b:List UInt8):FaultT ⊕ RqT:=match Hd.endR b with
 | .inl (a,k)=> .inl ((a:Int),[],(k:Int))
 | .inr n=>headRq ⟨(b.take n).toArray⟩ n
theorem three_words (ps:List ByteArray):(∃ p0 p1 p2,ps=[p0,p1,p2])∨ps.length≠3:=by
 match ps with
 |[]=>exact .inr (by decide)
 |[_]=>exact .inr (by simp)
 |[_,_]=>exact .inr (by simp)
 |[a,b,c]=>exact .inl ⟨a,b,c,rfl⟩
 |_::_::_::_::_=>exact .inr (by simp)
theorem headRq_no (S:ByteArray) (n:Nat) (h:(wordsB (cutL S)).length≠3):headRq S n= .inl (0,[],80):=by
 unfold headRq
 split
 ·rename_i e;rw [e] at h;exact absurd rfl h
 ·rfl
theorem headRq_yes (S:ByteArray) (n:Nat) (p0 p1 p2:ByteArray) (h:wordsB (cutL S)=[p0,p1,p2]):headRq S n=if Hd.broken (cutL S).data.toList then .inl (0,[],80) else if !verB p2 then .inl (0,[],80) else if !tokB p0 then .inl (0,[],81) else
  match targetR p0 p1 ((p0.size:Int)+1) with
  | .inl x=> .inl x
  | .inr (d,q)=>match Hd.fieldsR 66 (cutR2 S).data.toList ((cutL S).size+2) [] with
   | .inl (a,k)=> .inl ((a:Int),[],(k:Int))
   | .inr fs=> .inr (p0,d,q,fs,n):=by
 unfold headRq;rw [h]
theorem line_c (S:ByteArray) (hz:S.size≤8192) (w:World) (hS:StdW w):LnC S (cutL S) (cutR2 S) ((cutL S).size+2) w:=fun W R hB hR hK=>by
 refine (line_any S 0 R W (StdW.below hS hB) (by omega) (by omega) hK).mono ?_
 rintro e w' ⟨rfl,w1,hb,rfl⟩
 rw [show 0+(cutL S).size+2=(cutL S).size+2 by omega]
 exact ⟨rfl,((hK.below hb).set 0 (.string (cutR2 S))).set 1 _,((((KeptR.refl R W).below hb).setCell 0 _).setCell 1 _),((below_then hB hB.size hb).setCell hR _).setCell hR _⟩
theorem request_any (A:Option Addr) (n c:Nat) (xs:List Int) (w:World) (hS:StdE w) (hx:xs.length=n) (hr: ∀ x ∈ xs,0≤x∧x<256) (h:Lib.BytesIn w A n xs) (hA:A=none→c=0) (hcap:n≤c) (hc63:c≤9223372036854775807):
  Calls Tryz.prog 13 #[.slice A n c] w (RqPost (reqR (Lib.bytesOf xs)) w):=by
 have HOP:=fun W (hb:Below w.heap.size w W)=>opened_any A n c xs W (StdW.below hS.std hb) hx hr (bytesIn_below h hb) hA hcap hc63
 unfold reqR
 cases hR:Hd.endR (Lib.bytesOf xs) with
 |inl x=>
  obtain ⟨a,k⟩:=x
  rw [hR] at HOP
  exact rq_open A n c w a k (fun W hb=>(HOP W hb).mono fun e w' ⟨h1,v,h2,h3⟩=>⟨v,h2,h3,h1⟩)
 |inr m=>
  rw [hR] at HOP
  have hle:=Hd.endR_le hR
  dsimp only
  have hz:(⟨((Lib.bytesOf xs).take m).toArray⟩:ByteArray).size≤8192:=by show ((Lib.bytesOf xs).take m).toArray.size≤_;rw [List.size_toArray,List.length_take];omega
  have HO:OpC A n c ⟨((Lib.bytesOf xs).take m).toArray⟩ (m:Int) w:=fun W hb=>(HOP W hb).mono fun e w' ⟨h1,R,h2,h3,h4⟩=>⟨R,h2,h3,h4,h1⟩
  clear HOP
  generalize (⟨((Lib.bytesOf xs).take m).toArray⟩:ByteArray)=S at HO hz ⊢
  have HL:=line_c S hz w hS.std
  have hlz:=cutL_size S
  have hlr:=cutLR_size S
  have HSP:SpC (cutL S) (wordsB (cutL S)) w:=fun W hb=>(split_blank (cutL S) (by omega) W (StdW.below hS.std hb)).mono fun e w' ⟨h1,h2,h3⟩=>⟨_,Nat.le_refl _,h1,h2,h3⟩
  rcases three_words (wordsB (cutL S)) with ⟨p0,p1,p2,hp⟩|hp
  ·rw [headRq_yes S m p0 p1 p2 hp]
   have hz0:=words_size (cutL S) p0 (by rw [hp];exact List.mem_cons_self)
   have hz1:=words_size (cutL S) p1 (by rw [hp];exact List.mem_cons_of_mem _ List.mem_cons_self)
   rw [hp] at HSP
   have HBK:BkC (cutL S) (Hd.broken (cutL S).data.toList):=fun W=>broken_any (cutL S) (by omega) W
   have HVE:VeC p2 (verB p2):=fun W=>version_any p2 W
   have HTK:TkC p0 (tokB p0) w:=fun W hb=>token_any p0 (by omega) W (StdW.below hS.std hb)
   have HTG:=fun W (hb:Below w.heap.size w W)=>target_any p0 p1 ((p0.size:Int)+1) (by omega) (by omega) (by omega) (by omega) W (StdE.below hS hb)
   have HFL:=fun W R (hb:Below w.heap.size w W) (hR:w.heap.size≤R) (hK:Blk W R (rdC (cutR2 S) (((cutL S).size+2:Nat):Int)) TRd)=>fields_any (cutR2 S) ((cutL S).size+2) R w W hS.std hb hR hK (by omega) (by omega)
   cases hbk:Hd.broken (cutL S).data.toList
   ·rw [hbk] at HBK
    rw [if_neg Bool.false_ne_true]
    cases hve:verB p2
    ·rw [hve] at HVE
     rw [if_pos (show (!false)=true from rfl)]
     exact rq_version A n c w S (cutL S) (cutR2 S) m _ p0 p1 p2 HO HL HSP HBK HVE
    ·rw [hve] at HVE
     rw [if_neg (show ¬ (!true)=true by decide)]
     cases htk:tokB p0
     ·rw [htk] at HTK
      rw [if_pos (show (!false)=true from rfl)]
      exact rq_token A n c w S (cutL S) (cutR2 S) m _ p0 p1 p2 HO HL HSP HBK HVE HTK
     ·rw [htk] at HTK
      rw [if_neg (show ¬ (!true)=true by decide)]
      cases htg:targetR p0 p1 ((p0.size:Int)+1) with
      |inl x=>
       obtain ⟨a,ch,k⟩:=x
       rw [htg] at HTG
       exact rq_target A n c w S (cutL S) (cutR2 S) m _ p0 p1 p2 (by omega) a ch k HO HL HSP HBK HVE HTK (fun W hb=>(HTG W hb).mono fun e w' ⟨h1,x,y,z,u,nm,po,q,v,h2,h3⟩=>⟨x,y,z,u,nm,po,q,v,h2,h3,h1⟩)
      |inr x=>
       obtain ⟨⟨tx,ty,tz,tu,tn,tp⟩,tq⟩:=x
       rw [htg] at HTG
       have HT:TgC p0 p1 ((p0.size:Int)+1) tx ty tz tu tn tp tq w:=fun W hb=>(HTG W hb).mono fun e w' ⟨h1,h2⟩=>⟨h2,h1⟩
       dsimp only
       cases hfl:Hd.fieldsR 66 (cutR2 S).data.toList ((cutL S).size+2) [] with
       |inl x=>
        obtain ⟨a,k⟩:=x
        rw [hfl] at HFL
        exact rq_fields A n c w S (cutL S) (cutR2 S) m _ p0 p1 p2 (by omega) tx ty tz tu tn tp tq a k HO HL HSP HBK HVE HTK HT (fun W R hb hR hK=>(HFL W R hb hR hK).mono fun e w' ⟨h1,h2,v,h3,h4⟩=>⟨v,h3,h4,h2,h1⟩)
       |inr fs=>
        rw [hfl] at HFL
        exact rq_whole A n c w S (cutL S) (cutR2 S) m _ p0 p1 p2 (by omega) tx ty tz tu tn tp tq fs HO HL HSP HBK HVE HTK HT (fun W R hb hR hK=>(HFL W R hb hR hK).mono fun e w' ⟨h1,h2,v,h3,h4⟩=>⟨v,h3,h4,h2,h1⟩)
   ·rw [hbk] at HBK
    rw [if_pos rfl]
    exact rq_broken A n c w S (cutL S) (cutR2 S) m _ p0 p1 p2 HO HL HSP HBK
  ·rw [headRq_no S m hp]
   exact rq_words A n c w S (cutL S) (cutR2 S) m _ (wordsB (cutL S)) hp HO HL HSP
def codeOk (l:List UInt8):Bool:=match Lib.atoiAll l with| .ok v=>decide (100≤v) && (decide (v≤599) && (Lib.itoa v==l))|_=>false
set_option maxHeartbeats 1000000 in
theorem hcode_ok (s:ByteArray) (v:Int) (hv0: -9223372036854775808≤v) (hv1:v≤9223372036854775807) (w:World)
  (A:Calls Tryz.prog 107 #[.string s] w fun e w'=>e= .returned (.tuple #[.int .i64 v,.nilIface])∧Below w.heap.size w w') (hS:StdW w):
  Calls Tryz.prog 65 #[.string s] w fun e w'=>e= .returned (.tuple #[.int .i64 v,.bool (decide (100≤v) && (decide (v≤599) && (Lib.itoa v==s.toList)))])∧Below w.heap.size w w':=by
 have HA:=Lib.hid A
 have HS:=Lib.hid hS
 clear A hS
 by_cases h0:100≤v
 ·by_cases h1:v≤599
  ·rw [decide_eq_true h0,decide_eq_true h1,Bool.true_and,Bool.true_and]
   go_enter Tryz.func65,Tryz.ntmps65
   go_wp2_with (first|(go_at_call 107;refine HA.out.mono ?_;rintro e w1 ⟨rfl,hb1⟩)|(go_at_call 108;refine (Itoa.calls v ⟨(Lib.itoa v).toArray⟩ _ (StdW.below HS.out hb1) (by unfold Itoa.f;rw [if_pos ⟨hv0,hv1⟩])).mono ?_;rintro e w2 ⟨rfl,hb2⟩))
   go_ret2
   exact ⟨rfl,below_then hb1 hb1.size hb2⟩
  ·rw [decide_eq_true h0,decide_eq_false h1,Bool.true_and,Bool.false_and]
   have h1':decide (v≤599)=false:=decide_eq_false h1
   go_enter Tryz.func65,Tryz.ntmps65
   go_wp2_with (go_at_call 107;refine HA.out.mono ?_;rintro e w1 ⟨rfl,hb1⟩)
   go_ret2
   exact ⟨rfl,hb1⟩
 ·rw [decide_eq_false h0,Bool.false_and]
  have h0':decide (100≤v)=false:=decide_eq_false h0
  go_enter Tryz.func65,Tryz.ntmps65
  go_wp2_with (go_at_call 107;refine HA.out.mono ?_;rintro e w1 ⟨rfl,hb1⟩)
  go_ret2
  exact ⟨rfl,hb1⟩
set_option maxHeartbeats 1000000 in
theorem hcode_no (s:ByteArray) (v:Int) (w:World)
  (A:Calls Tryz.prog 107 #[.string s] w fun e w'=>(∃ N,e= .returned (.tuple #[.int .i64 v,.iface 251 (.pointer (some ⟨N,0,none⟩))]))∧Below w.heap.size w w'):
  Calls Tryz.prog 65 #[.string s] w fun e w'=>e= .returned (.tuple #[.int .i64 v,.bool false])∧Below w.heap.size w w':=by
 have HA:=Lib.hid A
 clear A
 go_enter Tryz.func65,Tryz.ntmps65
 go_wp2_with (go_at_call 107;refine HA.out.mono ?_;rintro e w1 ⟨⟨N,rfl⟩,hb1⟩)
 go_ret2
 exact ⟨rfl,hb1⟩
theorem hcode_any (s:ByteArray) (hs:s.size≤281474976710656) (w:World) (hS:StdW w):
   Calls Tryz.prog 65 #[.string s] w fun e w'=>e= .returned (.tuple #[.int .i64 (atoiV s.data.toList),.bool (codeOk s.data.toList)])∧Below w.heap.size w w':=by
 have A:=atoi_any s hs w hS
 unfold codeOk
 rcases h:Lib.atoiAll s.data.toList with v|_|_
 ·
   have hv:atoiV s.data.toList=v:=by unfold atoiV;rw [h]
   rw [hv] at A ⊢
   obtain ⟨b0,b1⟩:=atoiAll_bounds _ _ h
   have:=hcode_ok s v b0 b1 w (A.mono fun e w' hh=>by
    obtain ⟨er,rfl,he,hb⟩:=hh
    rw [h] at he
    subst he
    exact ⟨rfl,hb⟩) hS
   rw [ByteArray.toList_eq] at this
   exact this
 ·
   exact hcode_no s _ w (A.mono fun e w' hh=>by
    obtain ⟨er,rfl,he,hb⟩:=hh
    rw [h] at he
    obtain ⟨N,rfl⟩:=he
    exact ⟨⟨N,rfl⟩,hb⟩)
 ·
   exact hcode_no s _ w (A.mono fun e w' hh=>by
    obtain ⟨er,rfl,he,hb⟩:=hh
    rw [h] at he
    obtain ⟨N,rfl⟩:=he
    exact ⟨⟨N,rfl⟩,hb⟩)
def rpC (st:Int) (re:ByteArray) (fs:Value):Array Value:= #[.int .i64 st,.string re,fs]
def rpZ:Array Value:=rpC 0 ⟨#[]⟩ (.slice none 0 0)
theorem Blk.rpz {w:World} {R:Nat} {T:TypeId} (h:Blk w R rpZ T):(w.cell? ⟨R,0,none⟩=some (.int .i64 0)∧w.cell? ⟨R,1,none⟩=some (.string ⟨#[]⟩)∧w.cell? ⟨R,2,none⟩=some (.slice none 0 0))∧(w.frozen? ⟨R,0,none⟩=false∧w.frozen? ⟨R,1,none⟩=false∧w.frozen? ⟨R,2,none⟩=false)∧w.setCell ⟨R,0,none⟩ (.int .i64 0)=w∧w.setCell ⟨R,1,none⟩ (.string ⟨#[]⟩)=w∧w.setCell ⟨R,2,none⟩ (.slice none 0 0)=w:=
 ⟨⟨h.cell 0 _ rfl,h.cell 1 _ rfl,h.cell 2 _ rfl⟩,⟨h.free 0,h.free 1,h.free 2⟩,setCell_id _ _ _ _ (h.cell 0 _ rfl),setCell_id _ _ _ _ (h.cell 1 _ rfl),setCell_id _ _ _ _ (h.cell 2 _ rfl)⟩
abbrev RpT:Type:=Int×ByteArray×List Fd.F×Nat
def RpPost (r:(Int×Int) ⊕ RpT) (w:World) (e:Ending) (w':World):Prop:=
 Below w.heap.size w w'∧match r with
  | .inl (a,k)=> ∃ v,e= .returned (.tuple #[.agg rpZ,.int .i64 0,v])∧ErrIs w' v [(headS,a)] k
  | .inr (st,re,fs,k)=> ∃ v,e= .returned (.tuple #[.agg (rpC st re v),.int .i64 (k:Int),.nilIface])∧RF w w w' v (fs.map ofF)
theorem rp_res (A:Array Value) (W:World) (R:Nat) (st:Int) (re:ByteArray) (fs x3 x4:Value) (T:TypeId) (h2:A.getD 2 undef= .pointer (some ⟨R,0,none⟩)) (h3:A.getD 3 undef=x3) (h4:A.getD 4 undef=x4) (hB:Blk W R (rpC st re fs) T):
  (results Tryz.f16 A).run Tryz.prog W= .ok (.tuple #[.agg #[.int .i64 st,.string re,fs],x3,x4]) W:=by
 have e0:W.cell? ⟨R,0,none⟩=some (.int .i64 st):=hB.cell 0 _ rfl
 have e1:W.cell? ⟨R,1,none⟩=some (.string re):=hB.cell 1 _ rfl
 have e2:W.cell? ⟨R,2,none⟩=some fs:=hB.cell 2 _ rfl
 rw [Array.getD_eq_getD_getElem?] at h2 h3 h4
 simp [results,Tryz.results16,go_sem,h2,h3,h4,e0,e1,e2]
abbrev SnC (l:ByteArray) (ps:List ByteArray) (w:World):Prop:= ∀ W,Below w.heap.size w W→Calls Tryz.prog 63 #[.string l,.string ⟨#[32]⟩,.int .i64 3] W fun e w'=> ∃ PB cp,W.heap.size≤PB∧e= .returned (.slice (some ⟨PB,0,none⟩) ps.length cp)∧(ps.length=3→Blk w' PB (ps.map Value.string).toArray 9)∧Below W.heap.size W w'
abbrev WiC (p:ByteArray) (wi:Bool):Prop:= ∀ W,Calls Tryz.prog 64 #[.string p,.int .u8 32,.int .i64 256] W fun e w'=>e= .returned (.bool wi)∧Below W.heap.size W w'
abbrev CoC (p:ByteArray) (st:Int) (co:Bool) (w:World):Prop:= ∀ W,Below w.heap.size w W→Calls Tryz.prog 65 #[.string p] W fun e w'=>e= .returned (.tuple #[.int .i64 st,.bool co])∧Below W.heap.size W w'
def wordsN (s:ByteArray):List ByteArray:=Lib.splitB ⟨#[32]⟩ 0 (min 3 (s.size+1) - 1) s
theorem splitn_calls (s:ByteArray) (hs:s.size<4294967281) (w:World) (hS:StdW w):SnC s (wordsN s) w:=fun W hb=>by
 obtain ⟨m,hm⟩:=(StdW.below hS hb).max
 refine (Tryz.strings_SplitN s ⟨#[32]⟩ 3 m W hs hm (Nat.le_refl _) (by decide) (by decide)).mono ?_
 rintro e w' ⟨rfl,rfl⟩
 refine ⟨W.heap.size,min 3 (s.size+1),Nat.le_refl _,rfl,fun h3=>?_,below_alloc (Below.refl _ _) _⟩
 have hle:=Lib.splitB_length_le ⟨#[32]⟩ 0 (min 3 (s.size+1) - 1) s
 have hc:min 3 (s.size+1)=3:=by unfold wordsN at h3;omega
 have hl:(wordsN s).length=3:=h3
 have hcells:Lib.cellsOf (Lib.splitB ⟨#[32]⟩ 0 (min 3 (s.size+1) - 1) s) (min 3 (s.size+1))=((wordsN s).map Value.string).toArray:=by
  rw [hc]
  have e:Lib.splitB ⟨#[32]⟩ 0 (3 - 1) s=wordsN s:=by unfold wordsN;rw [hc]
  rw [e]
  unfold Lib.cellsOf
  simp [hl]
 rw [hcells]
 exact Blk.new _ _ _
theorem add0 (ad:Addr):ad.add (Int.toNat 0)=ad:=by
 first
  |exact Addr.add_zero' ad
  |(unfold Addr.add;split<;>simp_all)
abbrev CEn (A:Addr) (n c mm:Nat) (w:World):Prop:= ∀ W,Below w.heap.size w W→Calls Tryz.prog 11 #[.slice (some A) n c] W fun e w'=>e= .returned (.tuple #[.int .i64 (mm:Int),.agg #[.int .i64 0,.string ⟨#[]⟩,.string ⟨#[]⟩,.string ⟨#[]⟩,.string ⟨#[]⟩,.int .i64 0,.int .i64 0,.int .i64 0,.int .i64 0,.int .i64 0]])∧Below W.heap.size W w'
abbrev CKc (A:Addr) (mm c:Nat) (S:ByteArray) (w:World):Prop:= ∀ W,Below w.heap.size w W→(convert 22 9 (.slice (some A) mm c)).run Tryz.prog W= .ok (.string S) W
abbrev CLi (S:ByteArray) (L:List ByteArray) (ats:List Int) (w:World):Prop:= ∀ W,Below w.heap.size w W→Calls Tryz.prog 56 #[.string S] W fun e w'=> ∃ v0_ v1_:Value,e= .returned (.tuple #[v0_,v1_])∧Kd.R Kd.string 9 w' W.heap.size (fun _=>True) v0_ L∧Kd.R (Kd.int .i64) 3 w' W.heap.size (fun _=>True) v1_ ats∧Below W.heap.size W w'
abbrev CCu (most:Int) (l:ByteArray) (ps:List ByteArray):Prop:= ∀ W,Calls Tryz.prog 57 #[.string l,.int .i64 most] W fun e w'=> ∃ v0_:Value,e= .returned v0_∧Kd.R Kd.string 9 w' W.heap.size (fun _=>True) v0_ ps∧Below W.heap.size W w'
abbrev CBo (f:Nat) (s:ByteArray) (b:Bool):Prop:= ∀ W,Calls Tryz.prog f #[.string s] W fun e w'=>e= .returned (.bool b)∧Below W.heap.size W w'
abbrev CPl (s:ByteArray) (b:Bool):Prop:= ∀ W,Calls Tryz.prog 66 #[.string s,.int .u8 32,.int .i64 256] W fun e w'=>e= .returned (.bool b)∧Below W.heap.size W w'
abbrev CWh (s:ByteArray) (v:Int) (b:Bool):Prop:= ∀ W,Calls Tryz.prog 67 #[.string s,.int .i64 3] W fun e w'=>e= .returned (.tuple #[.int .i64 v,.bool b])∧Below W.heap.size W w'
abbrev CFa (k:Int):Prop:= ∀ W,StdW W→Calls Tryz.prog 46 #[.int .i64 0,.int .i64 k] W fun e w'=>e= .returned (.agg #[.int .i64 1,.string headS,.string ⟨#[]⟩,.string ⟨#[]⟩,.string ⟨#[]⟩,.int .i64 0,.int .i64 0,.int .i64 0,.int .i64 0,.int .i64 k])∧Below W.heap.size W w'
theorem rr_res (A:Array Value) (W:World) (P R:Nat) (m:ByteArray) (x y z u:Int) (nm:ByteArray) (po:Int) (pa:ByteArray) (fs:Value) (i:Int) (n:Int) (l0 l1 l2:ByteArray) (a0 a1 a2 c:Int) (T1 T2:TypeId) (h2:A.getD 2 undef= .pointer (some ⟨P,0,none⟩)) (h3:A.getD 3 undef= .int .i64 i) (h4:A.getD 4 undef= .pointer (some ⟨R,0,none⟩)) (hA:Blk W P (rqC m x y z u nm po pa fs) T1) (hB:Blk W R (bad3 n l0 l1 l2 a0 a1 a2 c) T2):
  (results Tryz.f14 A).run Tryz.prog W= .ok (.tuple #[.agg (rqC m x y z u nm po pa fs),.int .i64 i,.agg (bad3 n l0 l1 l2 a0 a1 a2 c)]) W:=by
 obtain ⟨e0,e1,e2,e3,e4,e5,e6,e7,e8,-⟩:=hA.rq
 obtain ⟨b0,b1,b2,b3,b4,b5,b6,b7,b8,b9,-⟩:=hB.ten
 rw [Array.getD_eq_getD_getElem?] at h2 h3 h4
 simp [results,Tryz.results14,go_sem,h2,h3,h4,e0,e1,e2,e3,e4,e5,e6,e7,e8,b0,b1,b2,b3,b4,b5,b6,b7,b8,b9,rqC,bad3]
set_option maxRecDepth 100000 in
set_option maxHeartbeats 8000000 in
theorem rr_end (A:Option Addr) (n c:Nat) (n':Int) (l0 l1 l2:ByteArray) (a0 a1 a2 c':Int) (hn:n'>0) (w:World) (HEN0: ∀ W,Below w.heap.size w W→Calls Tryz.prog 11 #[.slice A n c] W fun e w'=>e= .returned (.tuple #[.int .i64 0,.agg #[.int .i64 n',.string l0,.string l1,.string l2,.string ⟨#[]⟩,.int .i64 a0,.int .i64 a1,.int .i64 a2,.int .i64 0,.int .i64 c']])∧Below W.heap.size W w') (hS:StdW w):
  Calls Tryz.prog 14 #[.slice A n c] w fun e w'=>e= .returned (.tuple #[.agg #[.string ⟨#[]⟩,.int .u8 0,.int .u8 0,.int .u8 0,.int .u8 0,.string ⟨#[]⟩,.int .i64 0,.string ⟨#[]⟩,.slice none 0 0],.int .i64 0,.agg #[.int .i64 n',.string l0,.string l1,.string l2,.string ⟨#[]⟩,.int .i64 a0,.int .i64 a1,.int .i64 a2,.int .i64 0,.int .i64 c']])∧Below w.heap.size w w':=by
 have HS:=Lib.hid hS
 have HEN:=Lib.hid HEN0
 clear HEN0
 clear hS
 have HA:=Lib.hid ((Blk.new w rqZ 44).old (.cells zX 32))
 have HB:Hid (Blk ((w.alloc (.cells rqZ 44)).alloc (.cells zX 32)) (w.heap.size+1) zX 32):=Lib.hid (by have:=Blk.new (w.alloc (.cells rqZ 44)) zX 32;rwa [World.size_alloc] at this)
 have HW:=Lib.hid (below_alloc (below_alloc (Below.refl w.heap.size w) (.cells rqZ 44)) (.cells zX 32))
 have hne1:w.heap.size≠w.heap.size+1:=by omega
 have hne2:=hne1.symm
 unfold rqZ rqC zX bad3 at HA HB HW
 go_enter Tryz.func14,Tryz.ntmps14
 go_wp2_with (go_at_call 11;(with_reducible refine (HEN.out _ HW.out).mono ?_);rintro e wn ⟨rfl,hb⟩;have HA:=Lib.hid (HA.out.below hb);have HB:=Lib.hid (HB.out.below hb);have HW:=Lib.hid (below_then HW.out HW.out.size hb);clear hb)
 have hA7:Blk (wn.alloc (.cells #[.int .i64 n',.string l0,.string l1,.string l2,.string ⟨#[]⟩,.int .i64 a0,.int .i64 a1,.int .i64 a2,.int .i64 0,.int .i64 c'] 32)) w.heap.size _ _:=HA.out.old _
 have hB7:Blk (wn.alloc (.cells #[.int .i64 n',.string l0,.string l1,.string l2,.string ⟨#[]⟩,.int .i64 a0,.int .i64 a1,.int .i64 a2,.int .i64 0,.int .i64 c'] 32)) (w.heap.size+1) _ _:=HB.out.old _
 have hX7:Blk (wn.alloc (.cells #[.int .i64 n',.string l0,.string l1,.string l2,.string ⟨#[]⟩,.int .i64 a0,.int .i64 a1,.int .i64 a2,.int .i64 0,.int .i64 c'] 32)) wn.heap.size #[.int .i64 n',.string l0,.string l1,.string l2,.string ⟨#[]⟩,.int .i64 a0,.int .i64 a1,.int .i64 a2,.int .i64 0,.int .i64 c'] 32:=Blk.new _ _ _
 have hw7:Below w.heap.size w (wn.alloc (.cells #[.int .i64 n',.string l0,.string l1,.string l2,.string ⟨#[]⟩,.int .i64 a0,.int .i64 a1,.int .i64 a2,.int .i64 0,.int .i64 c'] 32)):=below_alloc HW.out _
 have hl1:=HA.out.lt
 have hl2:=HB.out.lt
 generalize (wn.alloc (.cells #[.int .i64 n',.string l0,.string l1,.string l2,.string ⟨#[]⟩,.int .i64 a0,.int .i64 a1,.int .i64 a2,.int .i64 0,.int .i64 c'] 32))=W7 at hA7 hB7 hX7 hw7 ⊢
 generalize wn.heap.size=X1 at hX7 hl1 hl2 ⊢
 clear HA HB HW
 have HA:=Lib.hid hA7
 have HB:=Lib.hid hB7
 have HW:=Lib.hid hw7
 have hn3:w.heap.size≠X1:=by omega
 have hn4:w.heap.size+1≠X1:=by omega
 have hA:=HA.out
 have hB:=HB.out
 obtain ⟨d0,d1,d2,d3,d4,d5,d6,d7,d8,f0,f1,f2,f3,f4,f5,f6,f7,f8,s0,s1,s2,s3,s4,s5,s6,s7,s8⟩:=hA.rqz
 obtain ⟨v0,v1,v2,v3,v4,v5,v6,v7,v8,v9,r0,r1,r2,r3,r4,r5,r6,r7,r8,r9⟩:=hB.ten
 obtain ⟨y0,y1,y2,y3,y4,y5,y6,y7,y8,y9,w0,w1,w2,w3,w4,w5,w6,w7,w8,w9⟩:=hX7.ten
 go_region
 go_wp2
 all_goals
  refine bodyPost_ret (v:= .tuple #[.agg #[.string ⟨#[]⟩,.int .u8 0,.int .u8 0,.int .u8 0,.int .u8 0,.string ⟨#[]⟩,.int .i64 0,.string ⟨#[]⟩,.slice none 0 0],.int .i64 0,.agg #[.int .i64 n',.string l0,.string l1,.string l2,.string ⟨#[]⟩,.int .i64 a0,.int .i64 a1,.int .i64 a2,.int .i64 0,.int .i64 c']]) ?_ rfl ⟨rfl,?_⟩
  ·exact rr_res _ _ w.heap.size (w.heap.size+1) ⟨#[]⟩ 0 0 0 0 ⟨#[]⟩ 0 ⟨#[]⟩ (.slice none 0 0) 0 n' l0 l1 l2 a0 a1 a2 c' _ _ rfl rfl rfl (Blk.drew1 (Blk.othB n' l0 l1 l2 a0 a1 a2 c' hne1 hA)) (Blk.drew1 (Blk.setB n' l0 l1 l2 a0 a1 a2 c' hB))
  ·exact (below_drew1 (setB_below HW.out (Nat.le_succ _) n' l0 l1 l2 a0 a1 a2 c'))
set_option maxRecDepth 100000 in
set_option maxHeartbeats 8000000 in
theorem rr_nil (A:Addr) (n c:Nat) (mm:Nat) (hm0:(0:Int)≤(mm:Int)) (hm1:(mm:Int)≤(c:Int)) (S:ByteArray) (L:List ByteArray) (ats:List Int) (w:World) (HEN0:CEn A n c mm w) (KC0:CKc A mm c S w) (HLI0:CLi S L ats w) (hL:((L.length:Int)==0)=true) (HF0:CFa 80) (hS:StdW w):
  Calls Tryz.prog 14 #[.slice (some A) n c] w fun e w'=>e= .returned (.tuple #[.agg #[.string ⟨#[]⟩,.int .u8 0,.int .u8 0,.int .u8 0,.int .u8 0,.string ⟨#[]⟩,.int .i64 0,.string ⟨#[]⟩,.slice none 0 0],.int .i64 0,.agg #[.int .i64 1,.string headS,.string ⟨#[]⟩,.string ⟨#[]⟩,.string ⟨#[]⟩,.int .i64 0,.int .i64 0,.int .i64 0,.int .i64 0,.int .i64 80]])∧Below w.heap.size w w':=by
 have HS:=Lib.hid hS
 have HEN:=Lib.hid HEN0
 have KC:=Lib.hid KC0
 have HLI:=Lib.hid HLI0
 have HF:=Lib.hid HF0
 clear HEN0 KC0 HLI0 HF0
 clear hS
 have HA:=Lib.hid ((Blk.new w rqZ 44).old (.cells zX 32))
 have HB:Hid (Blk ((w.alloc (.cells rqZ 44)).alloc (.cells zX 32)) (w.heap.size+1) zX 32):=Lib.hid (by have:=Blk.new (w.alloc (.cells rqZ 44)) zX 32;rwa [World.size_alloc] at this)
 have HW:=Lib.hid (below_alloc (below_alloc (Below.refl w.heap.size w) (.cells rqZ 44)) (.cells zX 32))
 have hne1:w.heap.size≠w.heap.size+1:=by omega
 have hne2:=hne1.symm
 unfold rqZ rqC zX bad3 at HA HB HW
 go_enter Tryz.func14,Tryz.ntmps14
 go_wp2_with (first|(go_at_call 11;(with_reducible refine (HEN.out _ HW.out).mono ?_);rintro e wn ⟨rfl,hb⟩;have HA:=Lib.hid (HA.out.below hb);have HB:=Lib.hid (HB.out.below hb);have HW:=Lib.hid (below_then HW.out HW.out.size hb);clear hb;have kc:=KC.out _ (below_alloc HW.out (.cells #[.int .i64 0,.string ⟨#[]⟩,.string ⟨#[]⟩,.string ⟨#[]⟩,.string ⟨#[]⟩,.int .i64 0,.int .i64 0,.int .i64 0,.int .i64 0,.int .i64 0] 32)))|(go_at_call 56;(with_reducible refine (HLI.out _ (below_alloc HW.out _)).mono ?_);rintro e wl ⟨vv0,vv1,rfl,hv0,hv1,hb⟩;obtain ⟨A0,c0,rfl,hl0,hC0⟩:=Kd.R_reads hv0;obtain ⟨A1,c1,rfl,hl1,hC1⟩:=Kd.R_reads hv1;clear hv0 hv1;have HPX:=Lib.hid HA.out.lt;have HRX:=Lib.hid HB.out.lt;have HA:=Lib.hid ((HA.out.old _).below hb);have HB:=Lib.hid ((HB.out.old _).below hb);have HX:=Lib.hid ((Blk.new wn #[.int .i64 0,.string ⟨#[]⟩,.string ⟨#[]⟩,.string ⟨#[]⟩,.string ⟨#[]⟩,.int .i64 0,.int .i64 0,.int .i64 0,.int .i64 0,.int .i64 0] 32).below hb);have HW:=Lib.hid (below_then (below_alloc HW.out _) (below_alloc HW.out _).size hb);have HC0:=Lib.hid hC0;have HC1:=Lib.hid hC1;have HL0:=Lib.hid hl0;have HL1:=Lib.hid hl1;clear hb hC0 hC1 hl0 hl1 kc)|(go_at_call 46;(with_reducible refine (HF.out _ (StdW.below HS.out HW.out)).mono ?_);rintro e wf ⟨rfl,hb⟩;have HA:=Lib.hid (HA.out.below hb);have HB:=Lib.hid (HB.out.below hb);have HW:=Lib.hid (below_then HW.out HW.out.size hb);clear hb;have hA:=HA.out;have hB:=HB.out;have hlt1:=hA.lt;have hlt2:=hB.lt;obtain ⟨d0,d1,d2,d3,d4,d5,d6,d7,d8,f0,f1,f2,f3,f4,f5,f6,f7,f8,s0,s1,s2,s3,s4,s5,s6,s7,s8⟩:=hA.rqz;obtain ⟨v0,v1,v2,v3,v4,v5,v6,v7,v8,v9,r0,r1,r2,r3,r4,r5,r6,r7,r8,r9⟩:=hB.ten))
 all_goals
  refine bodyPost_ret (v:= .tuple #[.agg #[.string ⟨#[]⟩,.int .u8 0,.int .u8 0,.int .u8 0,.int .u8 0,.string ⟨#[]⟩,.int .i64 0,.string ⟨#[]⟩,.slice none 0 0],.int .i64 0,.agg #[.int .i64 1,.string headS,.string ⟨#[]⟩,.string ⟨#[]⟩,.string ⟨#[]⟩,.int .i64 0,.int .i64 0,.int .i64 0,.int .i64 0,.int .i64 80]]) ?_ rfl ⟨rfl,?_⟩
  ·exact rr_res _ _ w.heap.size (w.heap.size+1) ⟨#[]⟩ 0 0 0 0 ⟨#[]⟩ 0 ⟨#[]⟩ (.slice none 0 0) 0 1 headS ⟨#[]⟩ ⟨#[]⟩ 0 0 0 80 _ _ rfl rfl rfl (Blk.othB 1 headS ⟨#[]⟩ ⟨#[]⟩ 0 0 0 80 hne1 hA) (Blk.setB 1 headS ⟨#[]⟩ ⟨#[]⟩ 0 0 0 80 hB)
  ·exact (setB_below HW.out (Nat.le_succ _) 1 headS ⟨#[]⟩ ⟨#[]⟩ 0 0 0 80)
set_option maxRecDepth 100000 in
set_option maxHeartbeats 8000000 in
theorem rr_len (A:Addr) (n c:Nat) (mm:Nat) (hm0:(0:Int)≤(mm:Int)) (hm1:(mm:Int)≤(c:Int)) (S:ByteArray) (L:List ByteArray) (ats:List Int) (w:World) (HEN0:CEn A n c mm w) (KC0:CKc A mm c S w) (HLI0:CLi S L ats w) (hL:((L.length:Int)==0)=false) (hLP:(0:Int)<(L.length:Int)) (l:ByteArray) (HL000:rdOf ByteArray.empty L 0=l) (ps:List ByteArray) (HCU0:CCu 99 l ps) (hp:((ps.length:Int)==3)=false) (HF0:CFa 80) (hS:StdW w):
  Calls Tryz.prog 14 #[.slice (some A) n c] w fun e w'=>e= .returned (.tuple #[.agg #[.string ⟨#[]⟩,.int .u8 0,.int .u8 0,.int .u8 0,.int .u8 0,.string ⟨#[]⟩,.int .i64 0,.string ⟨#[]⟩,.slice none 0 0],.int .i64 0,.agg #[.int .i64 1,.string headS,.string ⟨#[]⟩,.string ⟨#[]⟩,.string ⟨#[]⟩,.int .i64 0,.int .i64 0,.int .i64 0,.int .i64 0,.int .i64 80]])∧Below w.heap.size w w':=by
 have HS:=Lib.hid hS
 have HEN:=Lib.hid HEN0
 have KC:=Lib.hid KC0
 have HLI:=Lib.hid HLI0
 have HL00:=Lib.hid HL000
 have HCU:=Lib.hid HCU0
 clear HEN0 KC0 HLI0 HL000 HCU0
 have HF:=Lib.hid HF0
 clear HF0
 have hp2:((ps.length:Int) !=3)=true:=by unfold bne;rw [hp];rfl
 clear hS
 have HA:=Lib.hid ((Blk.new w rqZ 44).old (.cells zX 32))
 have HB:Hid (Blk ((w.alloc (.cells rqZ 44)).alloc (.cells zX 32)) (w.heap.size+1) zX 32):=Lib.hid (by have:=Blk.new (w.alloc (.cells rqZ 44)) zX 32;rwa [World.size_alloc] at this)
 have HW:=Lib.hid (below_alloc (below_alloc (Below.refl w.heap.size w) (.cells rqZ 44)) (.cells zX 32))
 have hne1:w.heap.size≠w.heap.size+1:=by omega
 have hne2:=hne1.symm
 unfold rqZ rqC zX bad3 at HA HB HW
 go_enter Tryz.func14,Tryz.ntmps14
 go_wp2_with (first|(go_at_call 11;(with_reducible refine (HEN.out _ HW.out).mono ?_);rintro e wn ⟨rfl,hb⟩;have HA:=Lib.hid (HA.out.below hb);have HB:=Lib.hid (HB.out.below hb);have HW:=Lib.hid (below_then HW.out HW.out.size hb);clear hb;have kc:=KC.out _ (below_alloc HW.out (.cells #[.int .i64 0,.string ⟨#[]⟩,.string ⟨#[]⟩,.string ⟨#[]⟩,.string ⟨#[]⟩,.int .i64 0,.int .i64 0,.int .i64 0,.int .i64 0,.int .i64 0] 32)))|(go_at_call 56;(with_reducible refine (HLI.out _ (below_alloc HW.out _)).mono ?_);rintro e wl ⟨vv0,vv1,rfl,hv0,hv1,hb⟩;obtain ⟨A0,c0,rfl,hl0,hC0⟩:=Kd.R_reads hv0;obtain ⟨A1,c1,rfl,hl1,hC1⟩:=Kd.R_reads hv1;clear hv0 hv1;have HPX:=Lib.hid HA.out.lt;have HRX:=Lib.hid HB.out.lt;have HA:=Lib.hid ((HA.out.old _).below hb);have HB:=Lib.hid ((HB.out.old _).below hb);have HX:=Lib.hid ((Blk.new wn #[.int .i64 0,.string ⟨#[]⟩,.string ⟨#[]⟩,.string ⟨#[]⟩,.string ⟨#[]⟩,.int .i64 0,.int .i64 0,.int .i64 0,.int .i64 0,.int .i64 0] 32).below hb);have HW:=Lib.hid (below_then (below_alloc HW.out _) (below_alloc HW.out _).size hb);have HC0:=Lib.hid hC0;have HC1:=Lib.hid hC1;have HL0:=Lib.hid hl0;have HL1:=Lib.hid hl1;clear hb hC0 hC1 hl0 hl1 kc;obtain ⟨ad,hadE,hcell0⟩:=Kd.at_string HC0.out 0 (Int.le_refl _) hLP;subst hadE;rw [HL00.out] at hcell0;rw [add0] at hcell0;have hcell:=hcell0;clear hcell0)|(go_at_call 57;(with_reducible refine (HCU.out _).mono ?_);rintro e wl ⟨vv,rfl,hv,hb⟩;obtain ⟨A2,c2,rfl,hl2,hC2⟩:=Kd.R_reads hv;have HA:=Lib.hid (HA.out.below hb);have HB:=Lib.hid (HB.out.below hb);have HX:=Lib.hid (HX.out.below hb);have HC0:=Lib.hid (Kd.C_below HC0.out hb);have HC1:=Lib.hid (Kd.C_below HC1.out hb);have HW:=Lib.hid (below_then HW.out HW.out.size hb);have HC2:=Lib.hid hC2;have hcell:=pw_cell_below hb hcell;clear hb hv hl2 hC2)|(go_at_call 46;(with_reducible refine (HF.out _ (StdW.below HS.out HW.out)).mono ?_);rintro e wf ⟨rfl,hb⟩;have HA:=Lib.hid (HA.out.below hb);have HB:=Lib.hid (HB.out.below hb);have HW:=Lib.hid (below_then HW.out HW.out.size hb);clear hb;have hA:=HA.out;have hB:=HB.out;have hlt1:=hA.lt;have hlt2:=hB.lt;obtain ⟨d0,d1,d2,d3,d4,d5,d6,d7,d8,f0,f1,f2,f3,f4,f5,f6,f7,f8,s0,s1,s2,s3,s4,s5,s6,s7,s8⟩:=hA.rqz;obtain ⟨v0,v1,v2,v3,v4,v5,v6,v7,v8,v9,r0,r1,r2,r3,r4,r5,r6,r7,r8,r9⟩:=hB.ten))
 all_goals
  refine bodyPost_ret (v:= .tuple #[.agg #[.string ⟨#[]⟩,.int .u8 0,.int .u8 0,.int .u8 0,.int .u8 0,.string ⟨#[]⟩,.int .i64 0,.string ⟨#[]⟩,.slice none 0 0],.int .i64 0,.agg #[.int .i64 1,.string headS,.string ⟨#[]⟩,.string ⟨#[]⟩,.string ⟨#[]⟩,.int .i64 0,.int .i64 0,.int .i64 0,.int .i64 0,.int .i64 80]]) ?_ rfl ⟨rfl,?_⟩
  ·exact rr_res _ _ w.heap.size (w.heap.size+1) ⟨#[]⟩ 0 0 0 0 ⟨#[]⟩ 0 ⟨#[]⟩ (.slice none 0 0) 0 1 headS ⟨#[]⟩ ⟨#[]⟩ 0 0 0 80 _ _ rfl rfl rfl (Blk.othB 1 headS ⟨#[]⟩ ⟨#[]⟩ 0 0 0 80 hne1 hA) (Blk.setB 1 headS ⟨#[]⟩ ⟨#[]⟩ 0 0 0 80 hB)
  ·exact (setB_below HW.out (Nat.le_succ _) 1 headS ⟨#[]⟩ ⟨#[]⟩ 0 0 0 80)
set_option maxRecDepth 100000 in
set_option maxHeartbeats 8000000 in
theorem rr_bk (A:Addr) (n c:Nat) (mm:Nat) (hm0:(0:Int)≤(mm:Int)) (hm1:(mm:Int)≤(c:Int)) (S:ByteArray) (L:List ByteArray) (ats:List Int) (w:World) (HEN0:CEn A n c mm w) (KC0:CKc A mm c S w) (HLI0:CLi S L ats w) (hL:((L.length:Int)==0)=false) (hLP:(0:Int)<(L.length:Int)) (l:ByteArray) (HL000:rdOf ByteArray.empty L 0=l) (p0 p1 p2:ByteArray) (HCU0:CCu 99 l [p0,p1,p2]) (HAL0:CBo 58 l true) (HF0:CFa 80) (hS:StdW w):
  Calls Tryz.prog 14 #[.slice (some A) n c] w fun e w'=>e= .returned (.tuple #[.agg #[.string ⟨#[]⟩,.int .u8 0,.int .u8 0,.int .u8 0,.int .u8 0,.string ⟨#[]⟩,.int .i64 0,.string ⟨#[]⟩,.slice none 0 0],.int .i64 0,.agg #[.int .i64 1,.string headS,.string ⟨#[]⟩,.string ⟨#[]⟩,.string ⟨#[]⟩,.int .i64 0,.int .i64 0,.int .i64 0,.int .i64 0,.int .i64 80]])∧Below w.heap.size w w':=by
 have HS:=Lib.hid hS
 have HEN:=Lib.hid HEN0
 have KC:=Lib.hid KC0
 have HLI:=Lib.hid HLI0
 have HL00:=Lib.hid HL000
 have HCU:=Lib.hid HCU0
 clear HEN0 KC0 HLI0 HL000 HCU0
 have HAL:=Lib.hid HAL0
 have HF:=Lib.hid HF0
 clear HAL0 HF0
 clear hS
 have HA:=Lib.hid ((Blk.new w rqZ 44).old (.cells zX 32))
 have HB:Hid (Blk ((w.alloc (.cells rqZ 44)).alloc (.cells zX 32)) (w.heap.size+1) zX 32):=Lib.hid (by have:=Blk.new (w.alloc (.cells rqZ 44)) zX 32;rwa [World.size_alloc] at this)
 have HW:=Lib.hid (below_alloc (below_alloc (Below.refl w.heap.size w) (.cells rqZ 44)) (.cells zX 32))
 have hne1:w.heap.size≠w.heap.size+1:=by omega
 have hne2:=hne1.symm
 unfold rqZ rqC zX bad3 at HA HB HW
 go_enter Tryz.func14,Tryz.ntmps14
 go_wp2_with (first|(go_at_call 11;(with_reducible refine (HEN.out _ HW.out).mono ?_);rintro e wn ⟨rfl,hb⟩;have HA:=Lib.hid (HA.out.below hb);have HB:=Lib.hid (HB.out.below hb);have HW:=Lib.hid (below_then HW.out HW.out.size hb);clear hb;have kc:=KC.out _ (below_alloc HW.out (.cells #[.int .i64 0,.string ⟨#[]⟩,.string ⟨#[]⟩,.string ⟨#[]⟩,.string ⟨#[]⟩,.int .i64 0,.int .i64 0,.int .i64 0,.int .i64 0,.int .i64 0] 32)))|(go_at_call 56;(with_reducible refine (HLI.out _ (below_alloc HW.out _)).mono ?_);rintro e wl ⟨vv0,vv1,rfl,hv0,hv1,hb⟩;obtain ⟨A0,c0,rfl,hl0,hC0⟩:=Kd.R_reads hv0;obtain ⟨A1,c1,rfl,hl1,hC1⟩:=Kd.R_reads hv1;clear hv0 hv1;have HPX:=Lib.hid HA.out.lt;have HRX:=Lib.hid HB.out.lt;have HA:=Lib.hid ((HA.out.old _).below hb);have HB:=Lib.hid ((HB.out.old _).below hb);have HX:=Lib.hid ((Blk.new wn #[.int .i64 0,.string ⟨#[]⟩,.string ⟨#[]⟩,.string ⟨#[]⟩,.string ⟨#[]⟩,.int .i64 0,.int .i64 0,.int .i64 0,.int .i64 0,.int .i64 0] 32).below hb);have HW:=Lib.hid (below_then (below_alloc HW.out _) (below_alloc HW.out _).size hb);have HC0:=Lib.hid hC0;have HC1:=Lib.hid hC1;have HL0:=Lib.hid hl0;have HL1:=Lib.hid hl1;clear hb hC0 hC1 hl0 hl1 kc;obtain ⟨ad,hadE,hcell0⟩:=Kd.at_string HC0.out 0 (Int.le_refl _) hLP;subst hadE;rw [HL00.out] at hcell0;rw [add0] at hcell0;have hcell:=hcell0;clear hcell0)|(go_at_call 57;(with_reducible refine (HCU.out _).mono ?_);rintro e wl ⟨vv,rfl,hv,hb⟩;obtain ⟨A2,c2,rfl,hl2,hC2⟩:=Kd.R_reads hv;have HA:=Lib.hid (HA.out.below hb);have HB:=Lib.hid (HB.out.below hb);have HX:=Lib.hid (HX.out.below hb);have HC0:=Lib.hid (Kd.C_below HC0.out hb);have HC1:=Lib.hid (Kd.C_below HC1.out hb);have HW:=Lib.hid (below_then HW.out HW.out.size hb);have HC2:=Lib.hid hC2;have hcell:=pw_cell_below hb hcell;clear hb hv hl2 hC2;obtain ⟨pd,hpE,hq0⟩:=Kd.at_string HC2.out 0 (by decide) (show (0:Int)<((3:Nat):Int) by decide);subst hpE;obtain ⟨_,hpE,hq1⟩:=Kd.at_string HC2.out 1 (by decide) (show (1:Int)<((3:Nat):Int) by decide);cases hpE;obtain ⟨_,hpE,hq2⟩:=Kd.at_string HC2.out 2 (by decide) (show (2:Int)<((3:Nat):Int) by decide);cases hpE;rw [add0] at hq0;have e0:wl.cell? pd=some (.string p0):=hq0;have e1:wl.cell? ⟨pd.block,pd.off+1,none⟩=some (.string p1):=hq1;have e2:wl.cell? ⟨pd.block,pd.off+2,none⟩=some (.string p2):=hq2;clear hq0 hq1 hq2)|(go_at_call 58;(with_reducible refine (HAL.out _).mono ?_);rintro e wl ⟨rfl,hb⟩;have HA:=Lib.hid (HA.out.below hb);have HB:=Lib.hid (HB.out.below hb);have HX:=Lib.hid (HX.out.below hb);have HC0:=Lib.hid (Kd.C_below HC0.out hb);have HC1:=Lib.hid (Kd.C_below HC1.out hb);have HW:=Lib.hid (below_then HW.out HW.out.size hb);have hcell:=pw_cell_below hb hcell;have HC2:=Lib.hid (Kd.C_below HC2.out hb);have e0:=pw_cell_below hb e0;have e1:=pw_cell_below hb e1;have e2:=pw_cell_below hb e2;clear hb)|(go_at_call 46;(with_reducible refine (HF.out _ (StdW.below HS.out HW.out)).mono ?_);rintro e wf ⟨rfl,hb⟩;have HA:=Lib.hid (HA.out.below hb);have HB:=Lib.hid (HB.out.below hb);have HW:=Lib.hid (below_then HW.out HW.out.size hb);clear hb;have hA:=HA.out;have hB:=HB.out;have hlt1:=hA.lt;have hlt2:=hB.lt;obtain ⟨d0,d1,d2,d3,d4,d5,d6,d7,d8,f0,f1,f2,f3,f4,f5,f6,f7,f8,s0,s1,s2,s3,s4,s5,s6,s7,s8⟩:=hA.rqz;obtain ⟨v0,v1,v2,v3,v4,v5,v6,v7,v8,v9,r0,r1,r2,r3,r4,r5,r6,r7,r8,r9⟩:=hB.ten))
 all_goals
  refine bodyPost_ret (v:= .tuple #[.agg #[.string ⟨#[]⟩,.int .u8 0,.int .u8 0,.int .u8 0,.int .u8 0,.string ⟨#[]⟩,.int .i64 0,.string ⟨#[]⟩,.slice none 0 0],.int .i64 0,.agg #[.int .i64 1,.string headS,.string ⟨#[]⟩,.string ⟨#[]⟩,.string ⟨#[]⟩,.int .i64 0,.int .i64 0,.int .i64 0,.int .i64 0,.int .i64 80]]) ?_ rfl ⟨rfl,?_⟩
  ·exact rr_res _ _ w.heap.size (w.heap.size+1) ⟨#[]⟩ 0 0 0 0 ⟨#[]⟩ 0 ⟨#[]⟩ (.slice none 0 0) 0 1 headS ⟨#[]⟩ ⟨#[]⟩ 0 0 0 80 _ _ rfl rfl rfl (Blk.othB 1 headS ⟨#[]⟩ ⟨#[]⟩ 0 0 0 80 hne1 hA) (Blk.setB 1 headS ⟨#[]⟩ ⟨#[]⟩ 0 0 0 80 hB)
  ·exact (setB_below HW.out (Nat.le_succ _) 1 headS ⟨#[]⟩ ⟨#[]⟩ 0 0 0 80)
set_option maxRecDepth 100000 in
set_option maxHeartbeats 8000000 in
theorem rr_ve (A:Addr) (n c:Nat) (mm:Nat) (hm0:(0:Int)≤(mm:Int)) (hm1:(mm:Int)≤(c:Int)) (S:ByteArray) (L:List ByteArray) (ats:List Int) (w:World) (HEN0:CEn A n c mm w) (KC0:CKc A mm c S w) (HLI0:CLi S L ats w) (hL:((L.length:Int)==0)=false) (hLP:(0:Int)<(L.length:Int)) (l:ByteArray) (HL000:rdOf ByteArray.empty L 0=l) (p0 p1 p2:ByteArray) (HCU0:CCu 99 l [p0,p1,p2]) (HAL0:CBo 58 l false) (HVE0:CBo 59 p2 false) (HF0:CFa 80) (hS:StdW w):
  Calls Tryz.prog 14 #[.slice (some A) n c] w fun e w'=>e= .returned (.tuple #[.agg #[.string ⟨#[]⟩,.int .u8 0,.int .u8 0,.int .u8 0,.int .u8 0,.string ⟨#[]⟩,.int .i64 0,.string ⟨#[]⟩,.slice none 0 0],.int .i64 0,.agg #[.int .i64 1,.string headS,.string ⟨#[]⟩,.string ⟨#[]⟩,.string ⟨#[]⟩,.int .i64 0,.int .i64 0,.int .i64 0,.int .i64 0,.int .i64 80]])∧Below w.heap.size w w':=by
 have HS:=Lib.hid hS
 have HEN:=Lib.hid HEN0
 have KC:=Lib.hid KC0
 have HLI:=Lib.hid HLI0
 have HL00:=Lib.hid HL000
 have HCU:=Lib.hid HCU0
 clear HEN0 KC0 HLI0 HL000 HCU0
 have HAL:=Lib.hid HAL0
 have HVE:=Lib.hid HVE0
 have HF:=Lib.hid HF0
 clear HAL0 HVE0 HF0
 clear hS
 have HA:=Lib.hid ((Blk.new w rqZ 44).old (.cells zX 32))
 have HB:Hid (Blk ((w.alloc (.cells rqZ 44)).alloc (.cells zX 32)) (w.heap.size+1) zX 32):=Lib.hid (by have:=Blk.new (w.alloc (.cells rqZ 44)) zX 32;rwa [World.size_alloc] at this)
 have HW:=Lib.hid (below_alloc (below_alloc (Below.refl w.heap.size w) (.cells rqZ 44)) (.cells zX 32))
 have hne1:w.heap.size≠w.heap.size+1:=by omega
 have hne2:=hne1.symm
 unfold rqZ rqC zX bad3 at HA HB HW
 go_enter Tryz.func14,Tryz.ntmps14
 go_wp2_with (first|(go_at_call 11;(with_reducible refine (HEN.out _ HW.out).mono ?_);rintro e wn ⟨rfl,hb⟩;have HA:=Lib.hid (HA.out.below hb);have HB:=Lib.hid (HB.out.below hb);have HW:=Lib.hid (below_then HW.out HW.out.size hb);clear hb;have kc:=KC.out _ (below_alloc HW.out (.cells #[.int .i64 0,.string ⟨#[]⟩,.string ⟨#[]⟩,.string ⟨#[]⟩,.string ⟨#[]⟩,.int .i64 0,.int .i64 0,.int .i64 0,.int .i64 0,.int .i64 0] 32)))|(go_at_call 56;(with_reducible refine (HLI.out _ (below_alloc HW.out _)).mono ?_);rintro e wl ⟨vv0,vv1,rfl,hv0,hv1,hb⟩;obtain ⟨A0,c0,rfl,hl0,hC0⟩:=Kd.R_reads hv0;obtain ⟨A1,c1,rfl,hl1,hC1⟩:=Kd.R_reads hv1;clear hv0 hv1;have HPX:=Lib.hid HA.out.lt;have HRX:=Lib.hid HB.out.lt;have HA:=Lib.hid ((HA.out.old _).below hb);have HB:=Lib.hid ((HB.out.old _).below hb);have HX:=Lib.hid ((Blk.new wn #[.int .i64 0,.string ⟨#[]⟩,.string ⟨#[]⟩,.string ⟨#[]⟩,.string ⟨#[]⟩,.int .i64 0,.int .i64 0,.int .i64 0,.int .i64 0,.int .i64 0] 32).below hb);have HW:=Lib.hid (below_then (below_alloc HW.out _) (below_alloc HW.out _).size hb);have HC0:=Lib.hid hC0;have HC1:=Lib.hid hC1;have HL0:=Lib.hid hl0;have HL1:=Lib.hid hl1;clear hb hC0 hC1 hl0 hl1 kc;obtain ⟨ad,hadE,hcell0⟩:=Kd.at_string HC0.out 0 (Int.le_refl _) hLP;subst hadE;rw [HL00.out] at hcell0;rw [add0] at hcell0;have hcell:=hcell0;clear hcell0)|(go_at_call 57;(with_reducible refine (HCU.out _).mono ?_);rintro e wl ⟨vv,rfl,hv,hb⟩;obtain ⟨A2,c2,rfl,hl2,hC2⟩:=Kd.R_reads hv;have HA:=Lib.hid (HA.out.below hb);have HB:=Lib.hid (HB.out.below hb);have HX:=Lib.hid (HX.out.below hb);have HC0:=Lib.hid (Kd.C_below HC0.out hb);have HC1:=Lib.hid (Kd.C_below HC1.out hb);have HW:=Lib.hid (below_then HW.out HW.out.size hb);have HC2:=Lib.hid hC2;have hcell:=pw_cell_below hb hcell;clear hb hv hl2 hC2;obtain ⟨pd,hpE,hq0⟩:=Kd.at_string HC2.out 0 (by decide) (show (0:Int)<((3:Nat):Int) by decide);subst hpE;obtain ⟨_,hpE,hq1⟩:=Kd.at_string HC2.out 1 (by decide) (show (1:Int)<((3:Nat):Int) by decide);cases hpE;obtain ⟨_,hpE,hq2⟩:=Kd.at_string HC2.out 2 (by decide) (show (2:Int)<((3:Nat):Int) by decide);cases hpE;rw [add0] at hq0;have e0:wl.cell? pd=some (.string p0):=hq0;have e1:wl.cell? ⟨pd.block,pd.off+1,none⟩=some (.string p1):=hq1;have e2:wl.cell? ⟨pd.block,pd.off+2,none⟩=some (.string p2):=hq2;clear hq0 hq1 hq2)|(go_at_call 58;(with_reducible refine (HAL.out _).mono ?_);rintro e wl ⟨rfl,hb⟩;have HA:=Lib.hid (HA.out.below hb);have HB:=Lib.hid (HB.out.below hb);have HX:=Lib.hid (HX.out.below hb);have HC0:=Lib.hid (Kd.C_below HC0.out hb);have HC1:=Lib.hid (Kd.C_below HC1.out hb);have HW:=Lib.hid (below_then HW.out HW.out.size hb);have hcell:=pw_cell_below hb hcell;have HC2:=Lib.hid (Kd.C_below HC2.out hb);have e0:=pw_cell_below hb e0;have e1:=pw_cell_below hb e1;have e2:=pw_cell_below hb e2;clear hb)|(go_at_call 59;(with_reducible refine (HVE.out _).mono ?_);rintro e wl ⟨rfl,hb⟩;have HA:=Lib.hid (HA.out.below hb);have HB:=Lib.hid (HB.out.below hb);have HX:=Lib.hid (HX.out.below hb);have HC0:=Lib.hid (Kd.C_below HC0.out hb);have HC1:=Lib.hid (Kd.C_below HC1.out hb);have HW:=Lib.hid (below_then HW.out HW.out.size hb);have hcell:=pw_cell_below hb hcell;have HC2:=Lib.hid (Kd.C_below HC2.out hb);have e0:=pw_cell_below hb e0;have e1:=pw_cell_below hb e1;have e2:=pw_cell_below hb e2;clear hb)|(go_at_call 46;(with_reducible refine (HF.out _ (StdW.below HS.out HW.out)).mono ?_);rintro e wf ⟨rfl,hb⟩;have HA:=Lib.hid (HA.out.below hb);have HB:=Lib.hid (HB.out.below hb);have HW:=Lib.hid (below_then HW.out HW.out.size hb);clear hb;have hA:=HA.out;have hB:=HB.out;have hlt1:=hA.lt;have hlt2:=hB.lt;obtain ⟨d0,d1,d2,d3,d4,d5,d6,d7,d8,f0,f1,f2,f3,f4,f5,f6,f7,f8,s0,s1,s2,s3,s4,s5,s6,s7,s8⟩:=hA.rqz;obtain ⟨v0,v1,v2,v3,v4,v5,v6,v7,v8,v9,r0,r1,r2,r3,r4,r5,r6,r7,r8,r9⟩:=hB.ten))
 all_goals
  refine bodyPost_ret (v:= .tuple #[.agg #[.string ⟨#[]⟩,.int .u8 0,.int .u8 0,.int .u8 0,.int .u8 0,.string ⟨#[]⟩,.int .i64 0,.string ⟨#[]⟩,.slice none 0 0],.int .i64 0,.agg #[.int .i64 1,.string headS,.string ⟨#[]⟩,.string ⟨#[]⟩,.string ⟨#[]⟩,.int .i64 0,.int .i64 0,.int .i64 0,.int .i64 0,.int .i64 80]]) ?_ rfl ⟨rfl,?_⟩
  ·exact rr_res _ _ w.heap.size (w.heap.size+1) ⟨#[]⟩ 0 0 0 0 ⟨#[]⟩ 0 ⟨#[]⟩ (.slice none 0 0) 0 1 headS ⟨#[]⟩ ⟨#[]⟩ 0 0 0 80 _ _ rfl rfl rfl (Blk.othB 1 headS ⟨#[]⟩ ⟨#[]⟩ 0 0 0 80 hne1 hA) (Blk.setB 1 headS ⟨#[]⟩ ⟨#[]⟩ 0 0 0 80 hB)
  ·exact (setB_below HW.out (Nat.le_succ _) 1 headS ⟨#[]⟩ ⟨#[]⟩ 0 0 0 80)
set_option maxRecDepth 100000 in
set_option maxHeartbeats 8000000 in
theorem rr_tk (A:Addr) (n c:Nat) (mm:Nat) (hm0:(0:Int)≤(mm:Int)) (hm1:(mm:Int)≤(c:Int)) (S:ByteArray) (L:List ByteArray) (ats:List Int) (w:World) (HEN0:CEn A n c mm w) (KC0:CKc A mm c S w) (HLI0:CLi S L ats w) (hL:((L.length:Int)==0)=false) (hLP:(0:Int)<(L.length:Int)) (l:ByteArray) (HL000:rdOf ByteArray.empty L 0=l) (p0 p1 p2:ByteArray) (HCU0:CCu 99 l [p0,p1,p2]) (HAL0:CBo 58 l false) (HVE0:CBo 59 p2 true) (HTK0:CBo 60 p0 false) (HF0:CFa 81) (hS:StdW w):
  Calls Tryz.prog 14 #[.slice (some A) n c] w fun e w'=>e= .returned (.tuple #[.agg #[.string ⟨#[]⟩,.int .u8 0,.int .u8 0,.int .u8 0,.int .u8 0,.string ⟨#[]⟩,.int .i64 0,.string ⟨#[]⟩,.slice none 0 0],.int .i64 0,.agg #[.int .i64 1,.string headS,.string ⟨#[]⟩,.string ⟨#[]⟩,.string ⟨#[]⟩,.int .i64 0,.int .i64 0,.int .i64 0,.int .i64 0,.int .i64 81]])∧Below w.heap.size w w':=by
 have HS:=Lib.hid hS
 have HEN:=Lib.hid HEN0
 have KC:=Lib.hid KC0
 have HLI:=Lib.hid HLI0
 have HL00:=Lib.hid HL000
 have HCU:=Lib.hid HCU0
 clear HEN0 KC0 HLI0 HL000 HCU0
 have HAL:=Lib.hid HAL0
 have HVE:=Lib.hid HVE0
 have HTK:=Lib.hid HTK0
 have HF:=Lib.hid HF0
 clear HAL0 HVE0 HTK0 HF0
 clear hS
 have HA:=Lib.hid ((Blk.new w rqZ 44).old (.cells zX 32))
 have HB:Hid (Blk ((w.alloc (.cells rqZ 44)).alloc (.cells zX 32)) (w.heap.size+1) zX 32):=Lib.hid (by have:=Blk.new (w.alloc (.cells rqZ 44)) zX 32;rwa [World.size_alloc] at this)
 have HW:=Lib.hid (below_alloc (below_alloc (Below.refl w.heap.size w) (.cells rqZ 44)) (.cells zX 32))
 have hne1:w.heap.size≠w.heap.size+1:=by omega
 have hne2:=hne1.symm
 unfold rqZ rqC zX bad3 at HA HB HW
 go_enter Tryz.func14,Tryz.ntmps14
 go_wp2_with (first|(go_at_call 11;(with_reducible refine (HEN.out _ HW.out).mono ?_);rintro e wn ⟨rfl,hb⟩;have HA:=Lib.hid (HA.out.below hb);have HB:=Lib.hid (HB.out.below hb);have HW:=Lib.hid (below_then HW.out HW.out.size hb);clear hb;have kc:=KC.out _ (below_alloc HW.out (.cells #[.int .i64 0,.string ⟨#[]⟩,.string ⟨#[]⟩,.string ⟨#[]⟩,.string ⟨#[]⟩,.int .i64 0,.int .i64 0,.int .i64 0,.int .i64 0,.int .i64 0] 32)))|(go_at_call 56;(with_reducible refine (HLI.out _ (below_alloc HW.out _)).mono ?_);rintro e wl ⟨vv0,vv1,rfl,hv0,hv1,hb⟩;obtain ⟨A0,c0,rfl,hl0,hC0⟩:=Kd.R_reads hv0;obtain ⟨A1,c1,rfl,hl1,hC1⟩:=Kd.R_reads hv1;clear hv0 hv1;have HPX:=Lib.hid HA.out.lt;have HRX:=Lib.hid HB.out.lt;have HA:=Lib.hid ((HA.out.old _).below hb);have HB:=Lib.hid ((HB.out.old _).below hb);have HX:=Lib.hid ((Blk.new wn #[.int .i64 0,.string ⟨#[]⟩,.string ⟨#[]⟩,.string ⟨#[]⟩,.string ⟨#[]⟩,.int .i64 0,.int .i64 0,.int .i64 0,.int .i64 0,.int .i64 0] 32).below hb);have HW:=Lib.hid (below_then (below_alloc HW.out _) (below_alloc HW.out _).size hb);have HC0:=Lib.hid hC0;have HC1:=Lib.hid hC1;have HL0:=Lib.hid hl0;have HL1:=Lib.hid hl1;clear hb hC0 hC1 hl0 hl1 kc;obtain ⟨ad,hadE,hcell0⟩:=Kd.at_string HC0.out 0 (Int.le_refl _) hLP;subst hadE;rw [HL00.out] at hcell0;rw [add0] at hcell0;have hcell:=hcell0;clear hcell0)|(go_at_call 57;(with_reducible refine (HCU.out _).mono ?_);rintro e wl ⟨vv,rfl,hv,hb⟩;obtain ⟨A2,c2,rfl,hl2,hC2⟩:=Kd.R_reads hv;have HA:=Lib.hid (HA.out.below hb);have HB:=Lib.hid (HB.out.below hb);have HX:=Lib.hid (HX.out.below hb);have HC0:=Lib.hid (Kd.C_below HC0.out hb);have HC1:=Lib.hid (Kd.C_below HC1.out hb);have HW:=Lib.hid (below_then HW.out HW.out.size hb);have HC2:=Lib.hid hC2;have hcell:=pw_cell_below hb hcell;clear hb hv hl2 hC2;obtain ⟨pd,hpE,hq0⟩:=Kd.at_string HC2.out 0 (by decide) (show (0:Int)<((3:Nat):Int) by decide);subst hpE;obtain ⟨_,hpE,hq1⟩:=Kd.at_string HC2.out 1 (by decide) (show (1:Int)<((3:Nat):Int) by decide);cases hpE;obtain ⟨_,hpE,hq2⟩:=Kd.at_string HC2.out 2 (by decide) (show (2:Int)<((3:Nat):Int) by decide);cases hpE;rw [add0] at hq0;have e0:wl.cell? pd=some (.string p0):=hq0;have e1:wl.cell? ⟨pd.block,pd.off+1,none⟩=some (.string p1):=hq1;have e2:wl.cell? ⟨pd.block,pd.off+2,none⟩=some (.string p2):=hq2;clear hq0 hq1 hq2)|(go_at_call 58;(with_reducible refine (HAL.out _).mono ?_);rintro e wl ⟨rfl,hb⟩;have HA:=Lib.hid (HA.out.below hb);have HB:=Lib.hid (HB.out.below hb);have HX:=Lib.hid (HX.out.below hb);have HC0:=Lib.hid (Kd.C_below HC0.out hb);have HC1:=Lib.hid (Kd.C_below HC1.out hb);have HW:=Lib.hid (below_then HW.out HW.out.size hb);have hcell:=pw_cell_below hb hcell;have HC2:=Lib.hid (Kd.C_below HC2.out hb);have e0:=pw_cell_below hb e0;have e1:=pw_cell_below hb e1;have e2:=pw_cell_below hb e2;clear hb)|(go_at_call 59;(with_reducible refine (HVE.out _).mono ?_);rintro e wl ⟨rfl,hb⟩;have HA:=Lib.hid (HA.out.below hb);have HB:=Lib.hid (HB.out.below hb);have HX:=Lib.hid (HX.out.below hb);have HC0:=Lib.hid (Kd.C_below HC0.out hb);have HC1:=Lib.hid (Kd.C_below HC1.out hb);have HW:=Lib.hid (below_then HW.out HW.out.size hb);have hcell:=pw_cell_below hb hcell;have HC2:=Lib.hid (Kd.C_below HC2.out hb);have e0:=pw_cell_below hb e0;have e1:=pw_cell_below hb e1;have e2:=pw_cell_below hb e2;clear hb)|(go_at_call 60;(with_reducible refine (HTK.out _).mono ?_);rintro e wl ⟨rfl,hb⟩;have HA:=Lib.hid (HA.out.below hb);have HB:=Lib.hid (HB.out.below hb);have HX:=Lib.hid (HX.out.below hb);have HC0:=Lib.hid (Kd.C_below HC0.out hb);have HC1:=Lib.hid (Kd.C_below HC1.out hb);have HW:=Lib.hid (below_then HW.out HW.out.size hb);have hcell:=pw_cell_below hb hcell;have HC2:=Lib.hid (Kd.C_below HC2.out hb);have e0:=pw_cell_below hb e0;have e1:=pw_cell_below hb e1;have e2:=pw_cell_below hb e2;clear hb)|(go_at_call 46;(with_reducible refine (HF.out _ (StdW.below HS.out HW.out)).mono ?_);rintro e wf ⟨rfl,hb⟩;have HA:=Lib.hid (HA.out.below hb);have HB:=Lib.hid (HB.out.below hb);have HW:=Lib.hid (below_then HW.out HW.out.size hb);clear hb;have hA:=HA.out;have hB:=HB.out;have hlt1:=hA.lt;have hlt2:=hB.lt;obtain ⟨d0,d1,d2,d3,d4,d5,d6,d7,d8,f0,f1,f2,f3,f4,f5,f6,f7,f8,s0,s1,s2,s3,s4,s5,s6,s7,s8⟩:=hA.rqz;obtain ⟨v0,v1,v2,v3,v4,v5,v6,v7,v8,v9,r0,r1,r2,r3,r4,r5,r6,r7,r8,r9⟩:=hB.ten))
 all_goals
  refine bodyPost_ret (v:= .tuple #[.agg #[.string ⟨#[]⟩,.int .u8 0,.int .u8 0,.int .u8 0,.int .u8 0,.string ⟨#[]⟩,.int .i64 0,.string ⟨#[]⟩,.slice none 0 0],.int .i64 0,.agg #[.int .i64 1,.string headS,.string ⟨#[]⟩,.string ⟨#[]⟩,.string ⟨#[]⟩,.int .i64 0,.int .i64 0,.int .i64 0,.int .i64 0,.int .i64 81]]) ?_ rfl ⟨rfl,?_⟩
  ·exact rr_res _ _ w.heap.size (w.heap.size+1) ⟨#[]⟩ 0 0 0 0 ⟨#[]⟩ 0 ⟨#[]⟩ (.slice none 0 0) 0 1 headS ⟨#[]⟩ ⟨#[]⟩ 0 0 0 81 _ _ rfl rfl rfl (Blk.othB 1 headS ⟨#[]⟩ ⟨#[]⟩ 0 0 0 81 hne1 hA) (Blk.setB 1 headS ⟨#[]⟩ ⟨#[]⟩ 0 0 0 81 hB)
  ·exact (setB_below HW.out (Nat.le_succ _) 1 headS ⟨#[]⟩ ⟨#[]⟩ 0 0 0 81)
theorem C_tail_str {w:World} {ad:Addr} {n:Nat} {l:ByteArray} {L:List ByteArray} (h:Kd.C Kd.string w (some ad) (n+1) (l::L)) (hn:L.length=n):Kd.C Kd.string w (some ⟨ad.block,ad.off+1,none⟩) n L:=by
 refine Kd.C_of_reads (enc:=Value.string) (d:=ByteArray.empty) (h1:=fun _=>rfl) ⟨hn,by have:=h.2.1;omega,fun hp=>⟨_,rfl,fun i hi=>?_⟩⟩
 obtain ⟨a2,e,hc⟩:=Kd.at_string h ((i+1:Nat):Int) (by omega) (by omega)
 cases e
 rw [Int.toNat_natCast] at hc
 have e1:ad.add (i+1)=(⟨ad.block,ad.off+1,none⟩:Addr).add i:=by
  unfold Addr.add
  cases i with
  |zero=>simp
  |succ j=>simp;omega
 rw [e1] at hc
 exact hc
theorem C_tail_int {w:World} {ad:Addr} {n:Nat} {l:Int} {L:List Int} (h:Kd.C (Kd.int .i64) w (some ad) (n+1) (l::L)) (hn:L.length=n):Kd.C (Kd.int .i64) w (some ⟨ad.block,ad.off+1,none⟩) n L:=by
 refine Kd.C_of_reads (enc:=Value.int .i64) (d:=(0:Int)) (h1:=fun _=>rfl) ⟨hn,by have:=h.2.1;omega,fun hp=>⟨_,rfl,fun i hi=>?_⟩⟩
 obtain ⟨a2,e,hc⟩:=Kd.at_int h ((i+1:Nat):Int) (by omega) (by omega)
 cases e
 rw [Int.toNat_natCast] at hc
 have e1:ad.add (i+1)=(⟨ad.block,ad.off+1,none⟩:Addr).add i:=by
  unfold Addr.add
  cases i with
  |zero=>simp
  |succ j=>simp;omega
 rw [e1] at hc
 exact hc
theorem C_zero_str (w:World) (A:Option Addr):Kd.C Kd.string w A 0 []:=Kd.C_of_reads (enc:=Value.string) (d:=ByteArray.empty) (h1:=fun _=>rfl) ⟨rfl,by decide,fun hp=>absurd hp (by decide)⟩
theorem C_zero_int (w:World) (A:Option Addr):Kd.C (Kd.int .i64) w A 0 []:=Kd.C_of_reads (enc:=Value.int .i64) (d:=(0:Int)) (h1:=fun _=>rfl) ⟨rfl,by decide,fun hp=>absurd hp (by decide)⟩
theorem R_setB {α:Type} {d:Kd α} {e base R:Nat} {w:World} {ok:Nat→Prop} {v:Value} {xs:List α} (n:Int) (l0 l1 l2:ByteArray) (a0 a1 a2 c:Int) (h:d.R e w base ok v xs) (hk: ∀ k,ok k→k≠R):d.R e (setB w R n l0 l1 l2 a0 a1 a2 c) base ok v xs:=by
 unfold setB
 iterate 10 refine Kd.R_far ?_ hk _
 exact h
theorem R_block {α:Type} {d:Kd α} {e base n c:Nat} {w:World} {ok:Nat→Prop} {pd:Addr} {xs:List α} (h:d.R e w base ok (.slice (some pd) n c) xs):base≤pd.block:=by
 obtain ⟨h0,inner,ho,_⟩:=Kd.R_bound h
 rcases ho.2 with ⟨e,_⟩|⟨g,cap,cur,e,_⟩
 ·cases e
 ·cases e
  exact (h0 g rfl).2.1
theorem Blk.setRqP {w:World} {R:Nat} {T:TypeId} (m:ByteArray) (a b c d:Int) (n:ByteArray) (po:Int) (pa:ByteArray) (fs:Value) (h:Blk w R rqZ T):Blk (setRq w R m a b c d n po pa fs) R (rqC m a b c d n po pa fs) T:=by
 have h0:Blk _ R (rqC m 0 0 0 0 ⟨#[]⟩ 0 ⟨#[]⟩ (.slice none 0 0)) T:=h.set 0 (.string m)
 have h1:Blk _ R (rqC m a 0 0 0 ⟨#[]⟩ 0 ⟨#[]⟩ (.slice none 0 0)) T:=h0.set 1 (.int .u8 a)
 have h2:Blk _ R (rqC m a b 0 0 ⟨#[]⟩ 0 ⟨#[]⟩ (.slice none 0 0)) T:=h1.set 2 (.int .u8 b)
 have h3:Blk _ R (rqC m a b c 0 ⟨#[]⟩ 0 ⟨#[]⟩ (.slice none 0 0)) T:=h2.set 3 (.int .u8 c)
 have h4:Blk _ R (rqC m a b c d ⟨#[]⟩ 0 ⟨#[]⟩ (.slice none 0 0)) T:=h3.set 4 (.int .u8 d)
 have h5:Blk _ R (rqC m a b c d n 0 ⟨#[]⟩ (.slice none 0 0)) T:=h4.set 5 (.string n)
 have h6:Blk _ R (rqC m a b c d n po ⟨#[]⟩ (.slice none 0 0)) T:=h5.set 6 (.int .i64 po)
 have h7:Blk _ R (rqC m a b c d n po pa (.slice none 0 0)) T:=h6.set 7 (.string pa)
 have h8:Blk _ R (rqC m a b c d n po pa fs) T:=h7.set 8 fs
 unfold setRq
 exact h8
theorem Blk.othRq {w:World} {R Q:Nat} {C:Array Value} {T:TypeId} (m:ByteArray) (a b c d:Int) (n:ByteArray) (po:Int) (pa:ByteArray) (fs:Value) (hn:Q≠R) (h:Blk w Q C T):Blk (setRq w R m a b c d n po pa fs) Q C T:=by
 unfold setRq
 iterate 9 refine Blk.other ?_ _ hn _
 exact h
theorem setRq_below9 {B R:Nat} {w W:World} (m:ByteArray) (a b c d:Int) (n:ByteArray) (po:Int) (pa:ByteArray) (fs:Value) (hb:Below B w W) (hR:B≤R):Below B w (setRq W R m a b c d n po pa fs):=by
 unfold setRq
 iterate 9 refine Below.setCell ?_ hR _
 exact hb
theorem R_setRq {α:Type} {k:Kd α} {e base R:Nat} {w:World} {ok:Nat→Prop} {v:Value} {xs:List α} (m:ByteArray) (a b c d:Int) (n:ByteArray) (po:Int) (pa:ByteArray) (fs:Value) (h:k.R e w base ok v xs) (hk: ∀ q,ok q→q≠R):k.R e (setRq w R m a b c d n po pa fs) base ok v xs:=by
 unfold setRq
 iterate 9 refine Kd.R_far ?_ hk _
 exact h
end Go.Proofs.YtgmpdjjoefkndaaGreatDoor.E
