/- What the cards of this seat rest on: the walks and plain laws, part 12. -/
import Derived.Test.YtgmpdjjoefkndaaGreatDoorHR11

namespace Go.Proofs.YtgmpdjjoefkndaaGreatDoor.E
open Go.RowKit Go.Proofs.YtgmpdjjoefkndaaGreatDoorW.PrintWords Go.Proofs.YtgmpdjjoefkndaaGreatDoorW.PrintLast Go.Proofs.YtgmpdjjoefkndaaGreatDoor.XK Go.Proofs.YtgmpdjjoefkndaaGreatDoor.XA Go.Proofs.YtgmpdjjoefkndaaGreatDoor.XD
set_option linter.unusedVariables false
set_option linter.unusedSimpArgs false
set_option maxRecDepth 100000 in
set_option maxHeartbeats 40000000 in
theorem rq_open (A:Option Addr) (n c:Nat) (w:World) (a k:Int) (HOP0:OpE A n c a k w):
  Calls Tryz.prog 13 #[.slice A n c] w (RqPost (.inl (a,[],k)) w):=by
 have HOP:=Lib.hid HOP0
 clear HOP0
 have HZ:=Lib.hid (Blk.new w rqZ 44)
 have HB:=Lib.hid (below_alloc (Below.refl w.heap.size w) (.cells rqZ 44))
 have HW:=Lib.hid hdwrong_no
 unfold rqZ rqC at*
 go_enter Tryz.func13,Tryz.ntmps13
 go_wp2_with (first|(go_at_call 48;(with_reducible refine (HOP.out _ HB.out).mono ?_);rintro e wn ⟨v,rfl,he,hb⟩;obtain ⟨t,x,rfl⟩:=he.iface;have HE:=Lib.hid he;have HZ:=Lib.hid (HZ.out.below hb);have HB:=Lib.hid (below_then HB.out HB.out.size hb);clear he hb;obtain ⟨c0,c1,c2,c3,c4,c5,c6,c7,c8,f0,f1,f2,f3,f4,f5,f6,f7,f8,s0,s1,s2,s3,s4,s5,s6,s7,s8⟩:=HZ.out.rqz))
 refine bodyPost_ret (v:= .tuple #[.agg #[.string ⟨#[]⟩,.int .u8 0,.int .u8 0,.int .u8 0,.int .u8 0,.string ⟨#[]⟩,.int .i64 0,.string ⟨#[]⟩,.slice none 0 0],.int .i64 0,_]) ?_ rfl ⟨HB.out,_,rfl,HE.out⟩
 exact rq_res _ _ _ _ _ _ _ _ _ _ _ _ _ _ _ rfl rfl rfl (show Blk _ _ rqZ _ from HZ.out)
set_option maxRecDepth 100000 in
set_option maxHeartbeats 40000000 in
theorem rq_words (A:Option Addr) (n c:Nat) (w:World) (S l S2:ByteArray) (mm:Int) (p2:Nat) (ps:List ByteArray) (hn0:ps.length≠3) (HOP0:OpC A n c S mm w) (HLN0:LnC S l S2 p2 w) (HSP0:SpC l ps w):
  Calls Tryz.prog 13 #[.slice A n c] w (RqPost (.inl (0,[],80)) w):=by
 have HOP:=Lib.hid HOP0
 have HLN:=Lib.hid HLN0
 have HSP:=Lib.hid HSP0
 clear HOP0 HLN0 HSP0
 have HZ:=Lib.hid (Blk.new w rqZ 44)
 have HB:=Lib.hid (below_alloc (Below.refl w.heap.size w) (.cells rqZ 44))
 have HW:=Lib.hid hdwrong_no
 unfold rqZ rqC at*
 have hn:((ps.length:Int)==3)=false:=by rw [beq_eq_false_iff_ne];omega
 have hn2:((ps.length:Int) !=3)=true:=by unfold bne;rw [hn];rfl
 clear hn0
 go_enter Tryz.func13,Tryz.ntmps13
 go_wp2_with (first|(go_at_call 48;(with_reducible refine (HOP.out _ HB.out).mono ?_);rintro e wn ⟨R,hR,rfl,hk,hb⟩;have HRW:=Lib.hid (show w.heap.size<R from Nat.lt_of_lt_of_le (by simp) hR);have HZ:=Lib.hid (HZ.out.below hb);have HK:=Lib.hid hk;have HB:=Lib.hid (below_then HB.out HB.out.size hb);clear hk hb hR)|(go_at_call 49;(with_reducible refine (HLN.out _ R HB.out (Nat.le_of_lt HRW.out) HK.out).mono ?_);rintro e wn ⟨rfl,hk,hkp,hb⟩;have HZ:=Lib.hid (HZ.out.keptR hkp (Nat.ne_of_lt HRW.out));have HK:=Lib.hid hk;have HB:=Lib.hid hb;clear hk hkp hb)|(go_at_call 50;(with_reducible refine (HSP.out _ HB.out).mono ?_);rintro e wn ⟨PB,hPB,rfl,hq,hb⟩;have HZ:=Lib.hid (HZ.out.below hb);have HK:=Lib.hid (HK.out.below hb);have HB:=Lib.hid (below_then HB.out HB.out.size hb);clear hq hb)|(go_at_call 45;(with_reducible refine (HW.out _ _ _).mono ?_);rintro e wn ⟨v,rfl,he,hb⟩;have HE:=Lib.hid he;have HZ:=Lib.hid (HZ.out.below hb);have HB:=Lib.hid (below_then HB.out HB.out.size hb);clear he hb;obtain ⟨c0,c1,c2,c3,c4,c5,c6,c7,c8,f0,f1,f2,f3,f4,f5,f6,f7,f8,s0,s1,s2,s3,s4,s5,s6,s7,s8⟩:=HZ.out.rqz))
 refine bodyPost_ret (v:= .tuple #[.agg #[.string ⟨#[]⟩,.int .u8 0,.int .u8 0,.int .u8 0,.int .u8 0,.string ⟨#[]⟩,.int .i64 0,.string ⟨#[]⟩,.slice none 0 0],.int .i64 0,_]) ?_ rfl ⟨HB.out,_,rfl,HE.out⟩
 exact rq_res _ _ _ _ _ _ _ _ _ _ _ _ _ _ _ rfl rfl rfl (show Blk _ _ rqZ _ from HZ.out)
set_option maxRecDepth 100000 in
set_option maxHeartbeats 40000000 in
theorem rq_broken (A:Option Addr) (n c:Nat) (w:World) (S l S2:ByteArray) (mm:Int) (pe:Nat) (p0 p1 p2:ByteArray) (HOP0:OpC A n c S mm w) (HLN0:LnC S l S2 pe w) (HSP0:SpC l [p0,p1,p2] w) (HBK0:BkC l true):
  Calls Tryz.prog 13 #[.slice A n c] w (RqPost (.inl (0,[],80)) w):=by
 have HOP:=Lib.hid HOP0
 have HLN:=Lib.hid HLN0
 have HSP:=Lib.hid HSP0
 have HBK:=Lib.hid HBK0
 clear HOP0 HLN0 HSP0 HBK0
 have HZ:=Lib.hid (Blk.new w rqZ 44)
 have HB:=Lib.hid (below_alloc (Below.refl w.heap.size w) (.cells rqZ 44))
 have HW:=Lib.hid hdwrong_no
 unfold rqZ rqC at*
 go_enter Tryz.func13,Tryz.ntmps13
 go_wp2_with (first|(go_at_call 48;(with_reducible refine (HOP.out _ HB.out).mono ?_);rintro e wn ⟨R,hR,rfl,hk,hb⟩;have HRW:=Lib.hid (show w.heap.size<R from Nat.lt_of_lt_of_le (by simp) hR);have HZ:=Lib.hid (HZ.out.below hb);have HK:=Lib.hid hk;have HB:=Lib.hid (below_then HB.out HB.out.size hb);clear hk hb hR)|(go_at_call 49;(with_reducible refine (HLN.out _ R HB.out (Nat.le_of_lt HRW.out) HK.out).mono ?_);rintro e wn ⟨rfl,hk,hkp,hb⟩;have HZ:=Lib.hid (HZ.out.keptR hkp (Nat.ne_of_lt HRW.out));have HK:=Lib.hid hk;have HB:=Lib.hid hb;clear hk hkp hb)|(go_at_call 50;(with_reducible refine (HSP.out _ HB.out).mono ?_);rintro e wn ⟨PB,hPB,rfl,hq,hb⟩;have HRQ:=Lib.hid (Nat.lt_of_lt_of_le HK.out.lt hPB);clear hPB;have HQ:=Lib.hid hq;have HZ:=Lib.hid (HZ.out.below hb);have HK:=Lib.hid (HK.out.below hb);have HB:=Lib.hid (below_then HB.out HB.out.size hb);clear hq hb;obtain ⟨q0,q1,q2⟩:=HQ.out.words3)|(go_at_call 51;(with_reducible refine (HBK.out _).mono ?_);rintro e wn ⟨rfl,hb⟩;have HQ:=Lib.hid (HQ.out.below hb);have HZ:=Lib.hid (HZ.out.below hb);have HK:=Lib.hid (HK.out.below hb);have HB:=Lib.hid (below_then HB.out HB.out.size hb);clear q0 q1 q2 hb;obtain ⟨q0,q1,q2⟩:=HQ.out.words3)|(go_at_call 45;(with_reducible refine (HW.out _ _ _).mono ?_);rintro e wn ⟨v,rfl,he,hb⟩;have HE:=Lib.hid he;have HZ:=Lib.hid (HZ.out.below hb);have HB:=Lib.hid (below_then HB.out HB.out.size hb);clear he hb;obtain ⟨c0,c1,c2,c3,c4,c5,c6,c7,c8,f0,f1,f2,f3,f4,f5,f6,f7,f8,s0,s1,s2,s3,s4,s5,s6,s7,s8⟩:=HZ.out.rqz))
 refine bodyPost_ret (v:= .tuple #[.agg #[.string ⟨#[]⟩,.int .u8 0,.int .u8 0,.int .u8 0,.int .u8 0,.string ⟨#[]⟩,.int .i64 0,.string ⟨#[]⟩,.slice none 0 0],.int .i64 0,_]) ?_ rfl ⟨HB.out,_,rfl,HE.out⟩
 exact rq_res _ _ _ _ _ _ _ _ _ _ _ _ _ _ _ rfl rfl rfl (show Blk _ _ rqZ _ from HZ.out)
set_option maxRecDepth 100000 in
set_option maxHeartbeats 40000000 in
theorem rq_version (A:Option Addr) (n c:Nat) (w:World) (S l S2:ByteArray) (mm:Int) (pe:Nat) (p0 p1 p2:ByteArray) (HOP0:OpC A n c S mm w) (HLN0:LnC S l S2 pe w) (HSP0:SpC l [p0,p1,p2] w) (HBK0:BkC l false) (HVE0:VeC p2 false):
  Calls Tryz.prog 13 #[.slice A n c] w (RqPost (.inl (0,[],80)) w):=by
 have HOP:=Lib.hid HOP0
 have HLN:=Lib.hid HLN0
 have HSP:=Lib.hid HSP0
 have HBK:=Lib.hid HBK0
 have HVE:=Lib.hid HVE0
 clear HOP0 HLN0 HSP0 HBK0 HVE0
 have HZ:=Lib.hid (Blk.new w rqZ 44)
 have HB:=Lib.hid (below_alloc (Below.refl w.heap.size w) (.cells rqZ 44))
 have HW:=Lib.hid hdwrong_no
 unfold rqZ rqC at*
 go_enter Tryz.func13,Tryz.ntmps13
 go_wp2_with (first|(go_at_call 48;(with_reducible refine (HOP.out _ HB.out).mono ?_);rintro e wn ⟨R,hR,rfl,hk,hb⟩;have HRW:=Lib.hid (show w.heap.size<R from Nat.lt_of_lt_of_le (by simp) hR);have HZ:=Lib.hid (HZ.out.below hb);have HK:=Lib.hid hk;have HB:=Lib.hid (below_then HB.out HB.out.size hb);clear hk hb hR)|(go_at_call 49;(with_reducible refine (HLN.out _ R HB.out (Nat.le_of_lt HRW.out) HK.out).mono ?_);rintro e wn ⟨rfl,hk,hkp,hb⟩;have HZ:=Lib.hid (HZ.out.keptR hkp (Nat.ne_of_lt HRW.out));have HK:=Lib.hid hk;have HB:=Lib.hid hb;clear hk hkp hb)|(go_at_call 50;(with_reducible refine (HSP.out _ HB.out).mono ?_);rintro e wn ⟨PB,hPB,rfl,hq,hb⟩;have HRQ:=Lib.hid (Nat.lt_of_lt_of_le HK.out.lt hPB);clear hPB;have HQ:=Lib.hid hq;have HZ:=Lib.hid (HZ.out.below hb);have HK:=Lib.hid (HK.out.below hb);have HB:=Lib.hid (below_then HB.out HB.out.size hb);clear hq hb;obtain ⟨q0,q1,q2⟩:=HQ.out.words3)|(go_at_call 51;(with_reducible refine (HBK.out _).mono ?_);rintro e wn ⟨rfl,hb⟩;have HQ:=Lib.hid (HQ.out.below hb);have HZ:=Lib.hid (HZ.out.below hb);have HK:=Lib.hid (HK.out.below hb);have HB:=Lib.hid (below_then HB.out HB.out.size hb);clear q0 q1 q2 hb;obtain ⟨q0,q1,q2⟩:=HQ.out.words3)|(go_at_call 52;(with_reducible refine (HVE.out _).mono ?_);rintro e wn ⟨rfl,hb⟩;have HQ:=Lib.hid (HQ.out.below hb);have HZ:=Lib.hid (HZ.out.below hb);have HK:=Lib.hid (HK.out.below hb);have HB:=Lib.hid (below_then HB.out HB.out.size hb);clear q0 q1 q2 hb;obtain ⟨q0,q1,q2⟩:=HQ.out.words3)|(go_at_call 45;(with_reducible refine (HW.out _ _ _).mono ?_);rintro e wn ⟨v,rfl,he,hb⟩;have HE:=Lib.hid he;have HZ:=Lib.hid (HZ.out.below hb);have HB:=Lib.hid (below_then HB.out HB.out.size hb);clear he hb;obtain ⟨c0,c1,c2,c3,c4,c5,c6,c7,c8,f0,f1,f2,f3,f4,f5,f6,f7,f8,s0,s1,s2,s3,s4,s5,s6,s7,s8⟩:=HZ.out.rqz))
 refine bodyPost_ret (v:= .tuple #[.agg #[.string ⟨#[]⟩,.int .u8 0,.int .u8 0,.int .u8 0,.int .u8 0,.string ⟨#[]⟩,.int .i64 0,.string ⟨#[]⟩,.slice none 0 0],.int .i64 0,_]) ?_ rfl ⟨HB.out,_,rfl,HE.out⟩
 exact rq_res _ _ _ _ _ _ _ _ _ _ _ _ _ _ _ rfl rfl rfl (show Blk _ _ rqZ _ from HZ.out)
set_option maxRecDepth 100000 in
set_option maxHeartbeats 40000000 in
theorem rq_token (A:Option Addr) (n c:Nat) (w:World) (S l S2:ByteArray) (mm:Int) (pe:Nat) (p0 p1 p2:ByteArray) (HOP0:OpC A n c S mm w) (HLN0:LnC S l S2 pe w) (HSP0:SpC l [p0,p1,p2] w) (HBK0:BkC l false) (HVE0:VeC p2 true) (HTK0:TkC p0 false w):
  Calls Tryz.prog 13 #[.slice A n c] w (RqPost (.inl (0,[],81)) w):=by
 have HOP:=Lib.hid HOP0
 have HLN:=Lib.hid HLN0
 have HSP:=Lib.hid HSP0
 have HBK:=Lib.hid HBK0
 have HVE:=Lib.hid HVE0
 have HTK:=Lib.hid HTK0
 clear HOP0 HLN0 HSP0 HBK0 HVE0 HTK0
 have HZ:=Lib.hid (Blk.new w rqZ 44)
 have HB:=Lib.hid (below_alloc (Below.refl w.heap.size w) (.cells rqZ 44))
 have HW:=Lib.hid hdwrong_no
 unfold rqZ rqC at*
 go_enter Tryz.func13,Tryz.ntmps13
 go_wp2_with (first|(go_at_call 48;(with_reducible refine (HOP.out _ HB.out).mono ?_);rintro e wn ⟨R,hR,rfl,hk,hb⟩;have HRW:=Lib.hid (show w.heap.size<R from Nat.lt_of_lt_of_le (by simp) hR);have HZ:=Lib.hid (HZ.out.below hb);have HK:=Lib.hid hk;have HB:=Lib.hid (below_then HB.out HB.out.size hb);clear hk hb hR)|(go_at_call 49;(with_reducible refine (HLN.out _ R HB.out (Nat.le_of_lt HRW.out) HK.out).mono ?_);rintro e wn ⟨rfl,hk,hkp,hb⟩;have HZ:=Lib.hid (HZ.out.keptR hkp (Nat.ne_of_lt HRW.out));have HK:=Lib.hid hk;have HB:=Lib.hid hb;clear hk hkp hb)|(go_at_call 50;(with_reducible refine (HSP.out _ HB.out).mono ?_);rintro e wn ⟨PB,hPB,rfl,hq,hb⟩;have HRQ:=Lib.hid (Nat.lt_of_lt_of_le HK.out.lt hPB);clear hPB;have HQ:=Lib.hid hq;have HZ:=Lib.hid (HZ.out.below hb);have HK:=Lib.hid (HK.out.below hb);have HB:=Lib.hid (below_then HB.out HB.out.size hb);clear hq hb;obtain ⟨q0,q1,q2⟩:=HQ.out.words3)|(go_at_call 51;(with_reducible refine (HBK.out _).mono ?_);rintro e wn ⟨rfl,hb⟩;have HQ:=Lib.hid (HQ.out.below hb);have HZ:=Lib.hid (HZ.out.below hb);have HK:=Lib.hid (HK.out.below hb);have HB:=Lib.hid (below_then HB.out HB.out.size hb);clear q0 q1 q2 hb;obtain ⟨q0,q1,q2⟩:=HQ.out.words3)|(go_at_call 52;(with_reducible refine (HVE.out _).mono ?_);rintro e wn ⟨rfl,hb⟩;have HQ:=Lib.hid (HQ.out.below hb);have HZ:=Lib.hid (HZ.out.below hb);have HK:=Lib.hid (HK.out.below hb);have HB:=Lib.hid (below_then HB.out HB.out.size hb);clear q0 q1 q2 hb;obtain ⟨q0,q1,q2⟩:=HQ.out.words3)|(go_at_call 53;(with_reducible refine (HTK.out _ HB.out).mono ?_);rintro e wn ⟨rfl,hb⟩;have HQ:=Lib.hid (HQ.out.below hb);have HZ:=Lib.hid (HZ.out.below hb);have HK:=Lib.hid (HK.out.below hb);have HB:=Lib.hid (below_then HB.out HB.out.size hb);clear q0 q1 q2 hb;obtain ⟨q0,q1,q2⟩:=HQ.out.words3)|(go_at_call 45;(with_reducible refine (HW.out _ _ _).mono ?_);rintro e wn ⟨v,rfl,he,hb⟩;have HE:=Lib.hid he;have HZ:=Lib.hid (HZ.out.below hb);have HB:=Lib.hid (below_then HB.out HB.out.size hb);clear he hb;obtain ⟨c0,c1,c2,c3,c4,c5,c6,c7,c8,f0,f1,f2,f3,f4,f5,f6,f7,f8,s0,s1,s2,s3,s4,s5,s6,s7,s8⟩:=HZ.out.rqz))
 refine bodyPost_ret (v:= .tuple #[.agg #[.string ⟨#[]⟩,.int .u8 0,.int .u8 0,.int .u8 0,.int .u8 0,.string ⟨#[]⟩,.int .i64 0,.string ⟨#[]⟩,.slice none 0 0],.int .i64 0,_]) ?_ rfl ⟨HB.out,_,rfl,HE.out⟩
 exact rq_res _ _ _ _ _ _ _ _ _ _ _ _ _ _ _ rfl rfl rfl (show Blk _ _ rqZ _ from HZ.out)
end Go.Proofs.YtgmpdjjoefkndaaGreatDoor.E
