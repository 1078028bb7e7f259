/- What the cards of this seat rest on: the walks and plain laws, part 5. -/
import Derived.Test.YtgmpdjjoefkndaaGreatDoorHR4
import Derived.Test.YtgmpdjjoefkndaaGreatDoorHR2

namespace Go.Proofs.YtgmpdjjoefkndaaGreatDoor.XR
open Go.Proofs.YtgmpdjjoefkndaaGreatDoor.XV Go.RowKit Go.Proofs.YtgmpdjjoefkndaaGreatDoorW.PrintWords Go.Proofs.YtgmpdjjoefkndaaGreatDoorW.PrintLast Go.Proofs.YtgmpdjjoefkndaaGreatDoorW.PrintMore
attribute [local go_sem] max2_int min2_int max_two min_two max_three min_three max_four min_four
set_option linter.unusedVariables false
set_option linter.unusedSimpArgs false
mutual
def sallyportref06_ParseName.l0:Nat→ByteArray→List ByteArray→List Int→Int→Option (ByteArray×Int×ByteArray×ByteArray×ByteArray×ByteArray×Int×Int×Int×Int×Int)
 |0,_,_,_,_=>none
 |k+1,x4,x5,x6,x7=>if x7<(x5.length:Int) then (if 0≤x7 then ((sallyportref06_label.f k (rdOf ByteArray.empty x5 x7)).bind fun t146=>(if t146=true then (sallyportref06_ParseName.l0 k x4 x5 x6 (wrap64 (x7+1))) else (if x7<(x6.length:Int) then ((sallyportref06_fault.f (rd x6 x7) 61).bind fun bt148=>(some ((⟨#[]⟩:ByteArray),bt148.1,bt148.2.1,bt148.2.2.1,bt148.2.2.2.1,bt148.2.2.2.2.1,bt148.2.2.2.2.2.1,bt148.2.2.2.2.2.2.1,bt148.2.2.2.2.2.2.2.1,bt148.2.2.2.2.2.2.2.2.1,bt148.2.2.2.2.2.2.2.2.2))) else (none)))) else (none)) else (if 0≤(wrap64 ((x5.length:Int) - 1)) then (if (wrap64 ((x5.length:Int) - 1))<(x5.length:Int) then (sallyportref06_ParseName.l1 k x4 x5 x6 (rdOf ByteArray.empty x5 (wrap64 ((x5.length:Int) - 1))) true 0) else (none)) else (none))
def sallyportref06_ParseName.l1:Nat→ByteArray→List ByteArray→List Int→ByteArray→Bool→Int→Option (ByteArray×Int×ByteArray×ByteArray×ByteArray×ByteArray×Int×Int×Int×Int×Int)
 |0,_,_,_,_,_,_=>none
 |k+1,x4,x5,x6,x8,x9,x10=>if x10<(x8.size:Int) then (if x9=true then (if 0≤x10 then ((sallyportref06_digit.f (bt x8 x10)).bind fun t159=>(sallyportref06_ParseName.l1 k x4 x5 x6 x8 t159 (wrap64 (x10+1)))) else (none)) else (sallyportref06_ParseName.l1 k x4 x5 x6 x8 false (wrap64 (x10+1)))) else (if x9=true then (if 0≤(wrap64 ((x5.length:Int) - 1)) then (if (wrap64 ((x5.length:Int) - 1))<(x6.length:Int) then ((sallyportref06_fault.f (rd x6 (wrap64 ((x5.length:Int) - 1))) 63).bind fun bt161=>(some ((⟨#[]⟩:ByteArray),bt161.1,bt161.2.1,bt161.2.2.1,bt161.2.2.2.1,bt161.2.2.2.2.1,bt161.2.2.2.2.2.1,bt161.2.2.2.2.2.2.1,bt161.2.2.2.2.2.2.2.1,bt161.2.2.2.2.2.2.2.2.1,bt161.2.2.2.2.2.2.2.2.2))) else (none)) else (none)) else (some (x4,0,(⟨#[]⟩:ByteArray),(⟨#[]⟩:ByteArray),(⟨#[]⟩:ByteArray),(⟨#[]⟩:ByteArray),0,0,0,0,0)))
end
def sallyportref06_ParseName.f (k:Nat) (a0:ByteArray):Option (ByteArray×Int×ByteArray×ByteArray×ByteArray×ByteArray×Int×Int×Int×Int×Int):=if (a0.size:Int)>253 then ((sallyportref06_fault.f 253 3).bind fun bt128=>(some ((⟨#[]⟩:ByteArray),bt128.1,bt128.2.1,bt128.2.2.1,bt128.2.2.2.1,bt128.2.2.2.2.1,bt128.2.2.2.2.2.1,bt128.2.2.2.2.2.2.1,bt128.2.2.2.2.2.2.2.1,bt128.2.2.2.2.2.2.2.2.1,bt128.2.2.2.2.2.2.2.2.2))) else ((E.Lower.f a0).bind fun t138=>((sallyportref06_parts.f k t138).bind fun bt139=>(sallyportref06_ParseName.l0 k t138 bt139.1 bt139.2 0)))
set_option maxHeartbeats 8000000 in
set_option maxRecDepth 100000 in
theorem sallyportref06_ParseName.calls (k:Nat) (a0:ByteArray) (r1:ByteArray) (r2:Int) (r3:ByteArray) (r4:ByteArray) (r5:ByteArray) (r6:ByteArray) (r7:Int) (r8:Int) (r9:Int) (r10:Int) (r11:Int) (w:World) (hS_:StdW w) (h:sallyportref06_ParseName.f k a0=some (r1,r2,r3,r4,r5,r6,r7,r8,r9,r10,r11)):
  Calls Tryz.prog 153 #[.string a0] w fun e w'=>e= .returned (.tuple #[.string r1,.agg #[.int .i64 r2,.string r3,.string r4,.string r5,.string r6,.int .i64 r7,.int .i64 r8,.int .i64 r9,.int .i64 r10,.int .i64 r11]])∧Below w.heap.size w w':=by
 have hu32:=Tryz.underlying32
 have HS_:=Aside0.mk hS_
 clear hS_
 have HB:=Aside0.mk (Below.refl w.heap.size w)
 have H:(if (a0.size:Int)>253 then ((sallyportref06_fault.f 253 3).bind fun bt128=>(some ((⟨#[]⟩:ByteArray),bt128.1,bt128.2.1,bt128.2.2.1,bt128.2.2.2.1,bt128.2.2.2.2.1,bt128.2.2.2.2.2.1,bt128.2.2.2.2.2.2.1,bt128.2.2.2.2.2.2.2.1,bt128.2.2.2.2.2.2.2.2.1,bt128.2.2.2.2.2.2.2.2.2))) else ((E.Lower.f a0).bind fun t138=>((sallyportref06_parts.f k t138).bind fun bt139=>(sallyportref06_ParseName.l0 k t138 bt139.1 bt139.2 0))))=some (r1,r2,r3,r4,r5,r6,r7,r8,r9,r10,r11):=h
 clear h
 by_cases c2:(a0.size:Int)>253
 ·rw [if_pos c2] at H
  have c2b0:decide (253<(a0.size:Int))=true:=decide_eq_true c2
  have c2b1:decide (253<a0.size)=true:=decide_eq_true (by omega)
  clear c2
  replace H:=Option.bind_eq_some_iff.mp H
  obtain ⟨⟨t128,t129,t130,t131,t132,t133,t134,t135,t136,t137⟩,A30,H⟩:=H
  replace H:(some ((⟨#[]⟩:ByteArray),t128,t129,t130,t131,t132,t133,t134,t135,t136,t137))=some (r1,r2,r3,r4,r5,r6,r7,r8,r9,r10,r11):=H
  have A3:=Aside0.mk A30
  clear A30
  simp only [Option.some.injEq,Prod.mk.injEq] at H
  obtain ⟨rfl,rfl,rfl,rfl,rfl,rfl,rfl,rfl,rfl,rfl,rfl⟩:=H
  go_enter Tryz.func153,Tryz.ntmps153
  go_wp2_with (first|((with_reducible refine gate_dst (N:=3) rfl ?_);refine box_event ?hg (N:=3) ?hd (cs:= #[.int .i64 0,.string (⟨#[]⟩:ByteArray),.string (⟨#[]⟩:ByteArray),.string (⟨#[]⟩:ByteArray),.string (⟨#[]⟩:ByteArray),.int .i64 0,.int .i64 0,.int .i64 0,.int .i64 0,.int .i64 0]) (t:=32) ?hr ?_;(case hd=>rfl);(case hg=>rfl);(case hr=>first|(go_simp;done)|(go_simp;rfl));intro gb127 hg w4 hbox hb;have n0_:=Aside0.mk (below_step (by repeat (first|(with_reducible first|exact HB.out|apply below_alloc|apply pw_below_drewN|apply below_drew1)|exact HB.out)) hb);have n1_:=Aside0.mk (hbox);have n2_:=Aside0.mk ((by rw [hg];exact (below_size (by repeat (first|(with_reducible first|exact HB.out|apply below_alloc|apply pw_below_drewN|apply below_drew1)|exact HB.out))):w.heap.size≤gb127));have n3_:=Aside0.mk ((by rw [hg];exact (below_size (by repeat (first|(with_reducible first|exact HB.out|apply below_alloc|apply pw_below_drewN|apply below_drew1)|exact HB.out))):w.heap.size≤gb127));clear HB;have HB:=n0_;have BK127:=n1_;have GW127:=n2_;have GE127:=n3_;clear n0_ n1_ n2_ n3_;clear hb hbox hg)|((with_reducible refine gate_callee (f:=149) rfl ?_);refine goesL_ (some 14) rfl rfl Tryz.func149 (by kernel_rfl) rfl #[.int .i64 253,.int .i64 3] rfl (by (try simp only [List.map_toArray,List.map_cons,List.map_nil]);first|done|rfl|(simp only [List.length_drop,List.length_take];rfl)) ?_;(with_reducible refine (sallyportref06_fault.calls 253 3 t128 t129 t130 t131 t132 t133 t134 t135 t136 t137 _ ?side1 A3.out).mono ?_);(case side1=>exact StdW.below HS_.out (by repeat (first|(with_reducible first|exact HB.out|apply below_alloc|apply pw_below_drewN|apply below_drew1|refine below_set ?_ GE127.out)|exact HB.out)));rintro e w5 ⟨rfl,hb⟩;refine ⟨_,rfl,?_⟩;have n0_:=Aside0.mk (blk_below (g:=gb127) (o:= .cells #[.int .i64 0,.string (⟨#[]⟩:ByteArray),.string (⟨#[]⟩:ByteArray),.string (⟨#[]⟩:ByteArray),.string (⟨#[]⟩:ByteArray),.int .i64 0,.int .i64 0,.int .i64 0,.int .i64 0,.int .i64 0] 32 (0,0)) (by (with_reducible repeat (first|refine blk_drewN ?_ _|refine blk_drew ?_|refine blk_alloc ?_ _));exact BK127.out) hb);have n1_:=Aside0.mk (below_step (by repeat (first|(with_reducible first|exact HB.out|apply below_alloc|apply pw_below_drewN|apply below_drew1|refine below_set ?_ GE127.out)|exact HB.out)) hb);clear BK127;clear HB;have BK127:=n0_;have HB:=n1_;clear n0_ n1_;(try clear hb);(try clear hb2);(try clear hk);(try clear hi);have hcz6_0:w5.cell? ⟨gb127,0,none⟩=some (.int .i64 0):=(blk_cell BK127.out 0).trans rfl;have hcz6_1:w5.cell? ⟨gb127,1,none⟩=some (.string (⟨#[]⟩:ByteArray)):=(blk_cell BK127.out 1).trans rfl;have hcz6_2:w5.cell? ⟨gb127,2,none⟩=some (.string (⟨#[]⟩:ByteArray)):=(blk_cell BK127.out 2).trans rfl;have hcz6_3:w5.cell? ⟨gb127,3,none⟩=some (.string (⟨#[]⟩:ByteArray)):=(blk_cell BK127.out 3).trans rfl;have hcz6_4:w5.cell? ⟨gb127,4,none⟩=some (.string (⟨#[]⟩:ByteArray)):=(blk_cell BK127.out 4).trans rfl;have hcz6_5:w5.cell? ⟨gb127,5,none⟩=some (.int .i64 0):=(blk_cell BK127.out 5).trans rfl;have hcz6_6:w5.cell? ⟨gb127,6,none⟩=some (.int .i64 0):=(blk_cell BK127.out 6).trans rfl;have hcz6_7:w5.cell? ⟨gb127,7,none⟩=some (.int .i64 0):=(blk_cell BK127.out 7).trans rfl;have hcz6_8:w5.cell? ⟨gb127,8,none⟩=some (.int .i64 0):=(blk_cell BK127.out 8).trans rfl;have hcz6_9:w5.cell? ⟨gb127,9,none⟩=some (.int .i64 0):=(blk_cell BK127.out 9).trans rfl;have hfz6_0:=blk_frozen BK127.out 0;have hfz6_1:=blk_frozen BK127.out 1;have hfz6_2:=blk_frozen BK127.out 2;have hfz6_3:=blk_frozen BK127.out 3;have hfz6_4:=blk_frozen BK127.out 4;have hfz6_5:=blk_frozen BK127.out 5;have hfz6_6:=blk_frozen BK127.out 6;have hfz6_7:=blk_frozen BK127.out 7;have hfz6_8:=blk_frozen BK127.out 8;have hfz6_9:=blk_frozen BK127.out 9))
  refine bodyPost_ret (results_tc rfl _ _ gb127 32 #[.int .i64 t128,.string t129,.string t130,.string t131,.string t132,.int .i64 t133,.int .i64 t134,.int .i64 t135,.int .i64 t136,.int .i64 t137] (0,0) _ rfl (by (with_reducible repeat (first|refine blk_drewN ?_ _|refine blk_drew ?_|refine blk_alloc ?_ _));refine blk_put (cs:= #[.int .i64 t128,.string t129,.string t130,.string t131,.string t132,.int .i64 t133,.int .i64 t134,.int .i64 t135,.int .i64 t136,.int .i64 0]) ?_ 9 _ rfl;(with_reducible repeat (first|refine blk_drewN ?_ _|refine blk_drew ?_|refine blk_alloc ?_ _));refine blk_put (cs:= #[.int .i64 t128,.string t129,.string t130,.string t131,.string t132,.int .i64 t133,.int .i64 t134,.int .i64 t135,.int .i64 0,.int .i64 0]) ?_ 8 _ rfl;(with_reducible repeat (first|refine blk_drewN ?_ _|refine blk_drew ?_|refine blk_alloc ?_ _));refine blk_put (cs:= #[.int .i64 t128,.string t129,.string t130,.string t131,.string t132,.int .i64 t133,.int .i64 t134,.int .i64 0,.int .i64 0,.int .i64 0]) ?_ 7 _ rfl;(with_reducible repeat (first|refine blk_drewN ?_ _|refine blk_drew ?_|refine blk_alloc ?_ _));refine blk_put (cs:= #[.int .i64 t128,.string t129,.string t130,.string t131,.string t132,.int .i64 t133,.int .i64 0,.int .i64 0,.int .i64 0,.int .i64 0]) ?_ 6 _ rfl;(with_reducible repeat (first|refine blk_drewN ?_ _|refine blk_drew ?_|refine blk_alloc ?_ _));refine blk_put (cs:= #[.int .i64 t128,.string t129,.string t130,.string t131,.string t132,.int .i64 0,.int .i64 0,.int .i64 0,.int .i64 0,.int .i64 0]) ?_ 5 _ rfl;(with_reducible repeat (first|refine blk_drewN ?_ _|refine blk_drew ?_|refine blk_alloc ?_ _));refine blk_put (cs:= #[.int .i64 t128,.string t129,.string t130,.string t131,.string (⟨#[]⟩:ByteArray),.int .i64 0,.int .i64 0,.int .i64 0,.int .i64 0,.int .i64 0]) ?_ 4 _ rfl;(with_reducible repeat (first|refine blk_drewN ?_ _|refine blk_drew ?_|refine blk_alloc ?_ _));refine blk_put (cs:= #[.int .i64 t128,.string t129,.string t130,.string (⟨#[]⟩:ByteArray),.string (⟨#[]⟩:ByteArray),.int .i64 0,.int .i64 0,.int .i64 0,.int .i64 0,.int .i64 0]) ?_ 3 _ rfl;(with_reducible repeat (first|refine blk_drewN ?_ _|refine blk_drew ?_|refine blk_alloc ?_ _));refine blk_put (cs:= #[.int .i64 t128,.string t129,.string (⟨#[]⟩:ByteArray),.string (⟨#[]⟩:ByteArray),.string (⟨#[]⟩:ByteArray),.int .i64 0,.int .i64 0,.int .i64 0,.int .i64 0,.int .i64 0]) ?_ 2 _ rfl;(with_reducible repeat (first|refine blk_drewN ?_ _|refine blk_drew ?_|refine blk_alloc ?_ _));refine blk_put (cs:= #[.int .i64 t128,.string (⟨#[]⟩:ByteArray),.string (⟨#[]⟩:ByteArray),.string (⟨#[]⟩:ByteArray),.string (⟨#[]⟩:ByteArray),.int .i64 0,.int .i64 0,.int .i64 0,.int .i64 0,.int .i64 0]) ?_ 1 _ rfl;(with_reducible repeat (first|refine blk_drewN ?_ _|refine blk_drew ?_|refine blk_alloc ?_ _));refine blk_put (cs:= #[.int .i64 0,.string (⟨#[]⟩:ByteArray),.string (⟨#[]⟩:ByteArray),.string (⟨#[]⟩:ByteArray),.string (⟨#[]⟩:ByteArray),.int .i64 0,.int .i64 0,.int .i64 0,.int .i64 0,.int .i64 0]) ?_ 0 _ rfl;(with_reducible repeat (first|refine blk_drewN ?_ _|refine blk_drew ?_|refine blk_alloc ?_ _));exact BK127.out) Tryz.underlying32 rfl (by kernel_rfl)) rfl ?_
  exact ⟨by first|rfl|(simp [errW_none,errW_some]<;>rfl)|(simp [*,errW_none,errW_some]<;>rfl),by repeat (first|(with_reducible first|exact HB.out|apply below_alloc|apply pw_below_drewN|apply below_drew1|refine below_set ?_ GE127.out)|exact HB.out)⟩
 ·rw [if_neg c2] at H
  have c2b0:decide (253<(a0.size:Int))=false:=decide_eq_false c2
  have c2b1:decide (253<a0.size)=false:=decide_eq_false (by omega)
  clear c2
  replace H:=Option.bind_eq_some_iff.mp H
  obtain ⟨t138,A70,H⟩:=H
  replace H:((sallyportref06_parts.f k t138).bind fun bt139=>(sallyportref06_ParseName.l0 k t138 bt139.1 bt139.2 0))=some (r1,r2,r3,r4,r5,r6,r7,r8,r9,r10,r11):=H
  have A7:=Aside0.mk A70
  clear A70
  replace H:=Option.bind_eq_some_iff.mp H
  obtain ⟨⟨t139,t140⟩,A80,H⟩:=H
  replace H:(sallyportref06_ParseName.l0 k t138 t139 t140 0)=some (r1,r2,r3,r4,r5,r6,r7,r8,r9,r10,r11):=H
  have A8:=Aside0.mk A80
  clear A80
  have H':=Aside0.mk H
  clear H
  go_enter Tryz.func153,Tryz.ntmps153
  go_wp2_with (first|((with_reducible refine gate_dst (N:=3) rfl ?_);refine box_event ?hg (N:=3) ?hd (cs:= #[.int .i64 0,.string (⟨#[]⟩:ByteArray),.string (⟨#[]⟩:ByteArray),.string (⟨#[]⟩:ByteArray),.string (⟨#[]⟩:ByteArray),.int .i64 0,.int .i64 0,.int .i64 0,.int .i64 0,.int .i64 0]) (t:=32) ?hr ?_;(case hd=>rfl);(case hg=>rfl);(case hr=>first|(go_simp;done)|(go_simp;rfl));intro gb127 hg w9 hbox hb;have n0_:=Aside0.mk (below_step (by repeat (first|(with_reducible first|exact HB.out|apply below_alloc|apply pw_below_drewN|apply below_drew1)|exact HB.out)) hb);have n1_:=Aside0.mk (hbox);have n2_:=Aside0.mk ((by rw [hg];exact (below_size (by repeat (first|(with_reducible first|exact HB.out|apply below_alloc|apply pw_below_drewN|apply below_drew1)|exact HB.out))):w.heap.size≤gb127));have n3_:=Aside0.mk ((by rw [hg];exact (below_size (by repeat (first|(with_reducible first|exact HB.out|apply below_alloc|apply pw_below_drewN|apply below_drew1)|exact HB.out))):w.heap.size≤gb127));clear HB;have HB:=n0_;have BK127:=n1_;have GW127:=n2_;have GE127:=n3_;clear n0_ n1_ n2_ n3_;clear hb hbox hg)|((with_reducible refine gate_callee (f:=29) rfl ?_);refine goesL_ (some 16) rfl rfl Tryz.func29 (by kernel_rfl) rfl #[.string a0] rfl (by (try simp only [List.map_toArray,List.map_cons,List.map_nil]);first|done|rfl|(simp only [List.length_drop,List.length_take];rfl)) ?_;(with_reducible refine (E.Lower.calls a0 t138 _ ?side1 A7.out).mono ?_);(case side1=>exact StdW.below HS_.out (by repeat (first|(with_reducible first|exact HB.out|apply below_alloc|apply pw_below_drewN|apply below_drew1|refine below_set ?_ GE127.out)|exact HB.out)));rintro e w10 ⟨rfl,hb⟩;refine ⟨_,rfl,?_⟩;have n0_:=Aside0.mk (blk_below (g:=gb127) (o:= .cells #[.int .i64 0,.string (⟨#[]⟩:ByteArray),.string (⟨#[]⟩:ByteArray),.string (⟨#[]⟩:ByteArray),.string (⟨#[]⟩:ByteArray),.int .i64 0,.int .i64 0,.int .i64 0,.int .i64 0,.int .i64 0] 32 (0,0)) (by (with_reducible repeat (first|refine blk_drewN ?_ _|refine blk_drew ?_|refine blk_alloc ?_ _));exact BK127.out) hb);have n1_:=Aside0.mk (below_step (by repeat (first|(with_reducible first|exact HB.out|apply below_alloc|apply pw_below_drewN|apply below_drew1|refine below_set ?_ GE127.out)|exact HB.out)) hb);clear BK127;clear HB;have BK127:=n0_;have HB:=n1_;clear n0_ n1_;(try clear hb);(try clear hb2);(try clear hk);(try clear hi))|((with_reducible refine gate_callee (f:=190) rfl ?_);refine goesL_ (some 19) rfl rfl Tryz.func190 (by kernel_rfl) rfl #[.string t138] rfl (by (try simp only [List.map_toArray,List.map_cons,List.map_nil]);first|done|rfl|(simp only [List.length_drop,List.length_take];rfl)) ?_;(with_reducible refine (sallyportref06_parts.calls k t138 t139 t140 _ A8.out).mono ?_);rintro e w11 ⟨v141,v143,rfl,ho0,ho1,hb⟩;refine ⟨_,rfl,?_⟩;have n0_:=Aside0.mk (Kd.R_lower ho0 (below_size (by repeat (first|(with_reducible first|exact HB.out|apply below_alloc|apply pw_below_drewN|apply below_drew1|refine below_set ?_ GE127.out)|exact HB.out))));have n1_:=Aside0.mk (Kd.R_lower ho1 (below_size (by repeat (first|(with_reducible first|exact HB.out|apply below_alloc|apply pw_below_drewN|apply below_drew1|refine below_set ?_ GE127.out)|exact HB.out))));have n2_:=Aside0.mk (blk_below (g:=gb127) (o:= .cells #[.int .i64 0,.string (⟨#[]⟩:ByteArray),.string (⟨#[]⟩:ByteArray),.string (⟨#[]⟩:ByteArray),.string (⟨#[]⟩:ByteArray),.int .i64 0,.int .i64 0,.int .i64 0,.int .i64 0,.int .i64 0] 32 (0,0)) (by (with_reducible repeat (first|refine blk_drewN ?_ _|refine blk_drew ?_|refine blk_alloc ?_ _));exact BK127.out) hb);have n3_:=Aside0.mk (below_step (by repeat (first|(with_reducible first|exact HB.out|apply below_alloc|apply pw_below_drewN|apply below_drew1|refine below_set ?_ GE127.out)|exact HB.out)) hb);clear BK127;clear HB;have HO142:=n0_;have HO144:=n1_;have BK127:=n2_;have HB:=n3_;clear n0_ n1_ n2_ n3_;(try clear hb);(try clear hb2);(try clear hk);(try clear hi);(try clear ho0);(try clear ho1)))
  go_loopg [7] k (fun kq v7 w'=> ∃ (x7_1:Int) (x128000_1:Int) (x128001_1:ByteArray) (x128002_1:ByteArray) (x128003_1:ByteArray) (x128004_1:ByteArray) (x128005_1:Int) (x128006_1:Int) (x128007_1:Int) (x128008_1:Int) (x128009_1:Int),v7= .int .i64 x7_1∧Aside0 (sallyportref06_ParseName.l0 kq t138 t139 t140 x7_1=some (r1,r2,r3,r4,r5,r6,r7,r8,r9,r10,r11))∧Aside0 (kq≤k)∧Aside0 (Kd.R Kd.string 9 w' w.heap.size (fun _=>True) v141 t139)∧Aside0 (Kd.R (Kd.int .i64) 3 w' w.heap.size (fun _=>True) v143 t140)∧Aside0 (w'.heap[gb127]? =some (.cells #[.int .i64 x128000_1,.string x128001_1,.string x128002_1,.string x128003_1,.string x128004_1,.int .i64 x128005_1,.int .i64 x128006_1,.int .i64 x128007_1,.int .i64 x128008_1,.int .i64 x128009_1] 32 (0,0)))∧Aside0 (Below w.heap.size w w'))
  case atStart=>exact ⟨(0),(0),((⟨#[]⟩:ByteArray)),((⟨#[]⟩:ByteArray)),((⟨#[]⟩:ByteArray)),((⟨#[]⟩:ByteArray)),(0),(0),(0),(0),(0),(by first|rfl|(simp;done)|(simp [*];done)),H',⟨Nat.le_refl _⟩,⟨by (with_reducible repeat (first|apply Kd.R_alloc|apply Kd.R_drewN|apply Kd.R_drew));exact HO142.out⟩,⟨by (with_reducible repeat (first|apply Kd.R_alloc|apply Kd.R_drewN|apply Kd.R_drew));exact HO144.out⟩,⟨by (with_reducible repeat (first|refine blk_drewN ?_ _|refine blk_drew ?_|refine blk_alloc ?_ _));exact BK127.out⟩,⟨by repeat (first|(with_reducible first|exact HB.out|apply below_alloc|apply pw_below_drewN|apply below_drew1|refine below_set ?_ GE127.out)|exact HB.out)⟩⟩
  case round=>
   clear H'
   try clear c1
   try clear c2
   try clear c2b0
   try clear c2b1
   try clear p2
   try clear hcz6_0
   try clear hcz6_1
   try clear hcz6_2
   try clear hcz6_3
   try clear hcz6_4
   try clear hcz6_5
   try clear hcz6_6
   try clear hcz6_7
   try clear hcz6_8
   try clear hcz6_9
   try clear hfz6_0
   try clear hfz6_1
   try clear hfz6_2
   try clear hfz6_3
   try clear hfz6_4
   try clear hfz6_5
   try clear hfz6_6
   try clear hfz6_7
   try clear hfz6_8
   try clear hfz6_9
   obtain ⟨x7_1,x128000_1,x128001_1,x128002_1,x128003_1,x128004_1,x128005_1,x128006_1,x128007_1,x128008_1,x128009_1,rfl,HA,HK1,HO_5,HO_6,BK127,HB⟩:=hrel
   cases gk with
   |zero=>exact absurd HA.out (by simp [sallyportref06_ParseName.l0])
   |succ k1=>
    have H:=HA.out
    clear HA
    simp only [sallyportref06_ParseName.l0] at H
    by_cases c12:x7_1<(t139.length:Int)
    ·rw [if_pos c12] at H
     have c12b0:decide (x7_1<(t139.length:Int))=true:=decide_eq_true c12
     clear c12
     by_cases c13:0≤x7_1
     ·rw [if_pos c13] at H
      have c13b0:decide (0≤x7_1)=true:=decide_eq_true c13
      clear c13
      replace H:=Option.bind_eq_some_iff.mp H
      obtain ⟨t146,A140,H⟩:=H
      replace H:(if t146=true then (sallyportref06_ParseName.l0 k1 t138 t139 t140 (wrap64 (x7_1+1))) else (if x7_1<(t140.length:Int) then ((sallyportref06_fault.f (rd t140 x7_1) 61).bind fun bt148=>(some ((⟨#[]⟩:ByteArray),bt148.1,bt148.2.1,bt148.2.2.1,bt148.2.2.2.1,bt148.2.2.2.2.1,bt148.2.2.2.2.2.1,bt148.2.2.2.2.2.2.1,bt148.2.2.2.2.2.2.2.1,bt148.2.2.2.2.2.2.2.2.1,bt148.2.2.2.2.2.2.2.2.2))) else (none)))=some (r1,r2,r3,r4,r5,r6,r7,r8,r9,r10,r11):=H
      have A14:=Aside0.mk A140
      clear A140
      by_cases c15:t146=true
      ·subst c15
       have H1:(sallyportref06_ParseName.l0 k1 t138 t139 t140 (wrap64 (x7_1+1)))=some (r1,r2,r3,r4,r5,r6,r7,r8,r9,r10,r11):=by rw [if_pos rfl] at H;exact H
       clear H
       have H:=H1
       clear H1
       have H':=Aside0.mk H
       clear H
       obtain ⟨Ao16,co16,eo16⟩:=Kd.R_slice HO_5.out
       subst eo16
       have p145:0≤(x7_1:Int):=of_decide_eq_true (by first|(with_reducible assumption)|assumption)
       have q145:x7_1<(t139.length:Int):=of_decide_eq_true (by first|(with_reducible assumption)|assumption)
       obtain ⟨ad145,e145,hx145_0⟩:=Kd.at_string (Kd.R_reads' HO_5.out).2.2 x7_1 p145 q145
       cases e145
       replace p145:=eq_true p145
       replace q145:=eq_true q145
       go_wp2_with (first|((with_reducible refine gate_callee (f:=191) rfl ?_);refine goesL_ (some 32) rfl rfl Tryz.func191 (by kernel_rfl) rfl #[.string (rdOf ByteArray.empty t139 x7_1)] rfl (by (try simp only [List.map_toArray,List.map_cons,List.map_nil]);first|done|rfl|(simp only [List.length_drop,List.length_take];rfl)) ?_;(with_reducible refine (sallyportref06_label.calls k1 (rdOf ByteArray.empty t139 x7_1) true _ A14.out).mono ?_);rintro e w' ⟨rfl,⟨nd,rfl⟩⟩;refine ⟨_,rfl,?_⟩))
       go_roundg k1
       case measure=>have:=HK1.out;omega
       case rel=>exact ⟨(wrap64 (x7_1+1)),(x128000_1),(x128001_1),(x128002_1),(x128003_1),(x128004_1),(x128005_1),(x128006_1),(x128007_1),(x128008_1),(x128009_1),(by first|rfl|(simp;done)|(simp [*];done)),H',⟨by have:=HK1.out;omega⟩,⟨by (with_reducible repeat (first|apply Kd.R_alloc|apply Kd.R_drewN|apply Kd.R_drew));exact HO_5.out⟩,⟨by (with_reducible repeat (first|apply Kd.R_alloc|apply Kd.R_drewN|apply Kd.R_drew));exact HO_6.out⟩,⟨by (with_reducible repeat (first|refine blk_drewN ?_ _|refine blk_drew ?_|refine blk_alloc ?_ _));exact BK127.out⟩,⟨by repeat (first|(with_reducible first|exact HB.out|apply below_alloc|apply pw_below_drewN|apply below_drew1|refine below_set ?_ GE127.out)|exact HB.out)⟩⟩
      ·replace c15:=Bool.eq_false_iff.mpr c15
       subst c15
       have H1:(if x7_1<(t140.length:Int) then ((sallyportref06_fault.f (rd t140 x7_1) 61).bind fun bt148=>(some ((⟨#[]⟩:ByteArray),bt148.1,bt148.2.1,bt148.2.2.1,bt148.2.2.2.1,bt148.2.2.2.2.1,bt148.2.2.2.2.2.1,bt148.2.2.2.2.2.2.1,bt148.2.2.2.2.2.2.2.1,bt148.2.2.2.2.2.2.2.2.1,bt148.2.2.2.2.2.2.2.2.2))) else (none))=some (r1,r2,r3,r4,r5,r6,r7,r8,r9,r10,r11):=by rw [if_neg (show ¬ (false=true) by decide)] at H;exact H
       clear H
       have H:=H1
       clear H1
       by_cases c17:x7_1<(t140.length:Int)
       ·rw [if_pos c17] at H
        have c17b0:decide (x7_1<(t140.length:Int))=true:=decide_eq_true c17
        clear c17
        replace H:=Option.bind_eq_some_iff.mp H
        obtain ⟨⟨t148,t149,t150,t151,t152,t153,t154,t155,t156,t157⟩,A180,H⟩:=H
        replace H:(some ((⟨#[]⟩:ByteArray),t148,t149,t150,t151,t152,t153,t154,t155,t156,t157))=some (r1,r2,r3,r4,r5,r6,r7,r8,r9,r10,r11):=H
        have A18:=Aside0.mk A180
        clear A180
        simp only [Option.some.injEq,Prod.mk.injEq] at H
        obtain ⟨rfl,rfl,rfl,rfl,rfl,rfl,rfl,rfl,rfl,rfl,rfl⟩:=H
        obtain ⟨Ao19,co19,eo19⟩:=Kd.R_slice HO_5.out
        subst eo19
        have p145:0≤(x7_1:Int):=of_decide_eq_true (by first|(with_reducible assumption)|assumption)
        have q145:x7_1<(t139.length:Int):=of_decide_eq_true (by first|(with_reducible assumption)|assumption)
        obtain ⟨ad145,e145,hx145_0⟩:=Kd.at_string (Kd.R_reads' HO_5.out).2.2 x7_1 p145 q145
        cases e145
        replace p145:=eq_true p145
        replace q145:=eq_true q145
        go_wp2_with (first|((with_reducible refine gate_callee (f:=191) rfl ?_);refine goesL_ (some 32) rfl rfl Tryz.func191 (by kernel_rfl) rfl #[.string (rdOf ByteArray.empty t139 x7_1)] rfl (by (try simp only [List.map_toArray,List.map_cons,List.map_nil]);first|done|rfl|(simp only [List.length_drop,List.length_take];rfl)) ?_;(with_reducible refine (sallyportref06_label.calls k1 (rdOf ByteArray.empty t139 x7_1) false _ A14.out).mono ?_);rintro e w' ⟨rfl,⟨nd,rfl⟩⟩;refine ⟨_,rfl,?_⟩;(try (rw [drewN_self wr];generalize hq_:World.drewN wr _=wr;have n0_:Aside0 (Kd.R Kd.string 9 wr w.heap.size (fun _=>True) (.slice (some ad145) t139.length co19) t139):=⟨by rw [← hq_];exact (by (with_reducible repeat (first|apply Kd.R_alloc|apply Kd.R_drewN|apply Kd.R_drew));exact HO_5.out)⟩;have n1_:Aside0 (Kd.R (Kd.int .i64) 3 wr w.heap.size (fun _=>True) v143 t140):=⟨by rw [← hq_];exact (by (with_reducible repeat (first|apply Kd.R_alloc|apply Kd.R_drewN|apply Kd.R_drew));exact HO_6.out)⟩;have n2_:Aside0 (wr.heap[gb127]? =some (.cells #[.int .i64 x128000_1,.string x128001_1,.string x128002_1,.string x128003_1,.string x128004_1,.int .i64 x128005_1,.int .i64 x128006_1,.int .i64 x128007_1,.int .i64 x128008_1,.int .i64 x128009_1] 32 (0,0))):=⟨by rw [← hq_];exact (by (with_reducible repeat (first|refine blk_drewN ?_ _|refine blk_drew ?_|refine blk_alloc ?_ _));exact BK127.out)⟩;have n3_:Aside0 (Below w.heap.size w wr):=⟨by rw [← hq_];exact (by repeat (first|(with_reducible first|exact HB.out|apply below_alloc|apply pw_below_drewN|apply below_drew1|refine below_set ?_ GE127.out)|exact HB.out))⟩;clear HO_5 HO_6 BK127 HB hq_;have HO_5:=n0_;have HO_6:=n1_;have BK127:=n2_;have HB:=n3_;clear n0_ n1_ n2_ n3_));obtain ⟨Ao20,co20,eo20⟩:=Kd.R_slice HO_6.out;subst eo20;have p147:0≤(x7_1:Int):=of_decide_eq_true (by first|(with_reducible assumption)|assumption);have q147:x7_1<(t140.length:Int):=of_decide_eq_true (by first|(with_reducible assumption)|assumption);obtain ⟨ad147,e147,hx147_0⟩:=Kd.at_int (Kd.R_reads' HO_6.out).2.2 x7_1 p147 q147;cases e147;replace p147:=eq_true p147;replace q147:=eq_true q147)|((with_reducible refine gate_callee (f:=149) rfl ?_);refine goesL_ (some 38) rfl rfl Tryz.func149 (by kernel_rfl) rfl #[.int .i64 (rd t140 x7_1),.int .i64 61] rfl (by (try simp only [List.map_toArray,List.map_cons,List.map_nil]);first|done|rfl|(simp only [List.length_drop,List.length_take];rfl)) ?_;(with_reducible refine (sallyportref06_fault.calls (rd t140 x7_1) 61 t148 t149 t150 t151 t152 t153 t154 t155 t156 t157 _ ?side1 A18.out).mono ?_);(case side1=>exact StdW.below HS_.out (by repeat (first|(with_reducible first|exact HB.out|apply below_alloc|apply pw_below_drewN|apply below_drew1|refine below_set ?_ GE127.out)|exact HB.out)));rintro e w21 ⟨rfl,hb⟩;refine ⟨_,rfl,?_⟩;have n0_:=Aside0.mk (Kd.R_below (by (with_reducible repeat (first|apply Kd.R_alloc|apply Kd.R_drewN|apply Kd.R_drew));exact HO_5.out) hb);have n1_:=Aside0.mk (Kd.R_below (by (with_reducible repeat (first|apply Kd.R_alloc|apply Kd.R_drewN|apply Kd.R_drew));exact HO_6.out) hb);have n2_:=Aside0.mk (blk_below (g:=gb127) (o:= .cells #[.int .i64 x128000_1,.string x128001_1,.string x128002_1,.string x128003_1,.string x128004_1,.int .i64 x128005_1,.int .i64 x128006_1,.int .i64 x128007_1,.int .i64 x128008_1,.int .i64 x128009_1] 32 (0,0)) (by (with_reducible repeat (first|refine blk_drewN ?_ _|refine blk_drew ?_|refine blk_alloc ?_ _));exact BK127.out) hb);have n3_:=Aside0.mk (below_step (by repeat (first|(with_reducible first|exact HB.out|apply below_alloc|apply pw_below_drewN|apply below_drew1|refine below_set ?_ GE127.out)|exact HB.out)) hb);clear HO_5;clear HO_6;clear BK127;clear HB;have HO_5:=n0_;have HO_6:=n1_;have BK127:=n2_;have HB:=n3_;clear n0_ n1_ n2_ n3_;(try clear hb);(try clear hb2);(try clear hk);(try clear hi);have hcz22_0:w21.cell? ⟨gb127,0,none⟩=some (.int .i64 x128000_1):=(blk_cell BK127.out 0).trans rfl;have hcz22_1:w21.cell? ⟨gb127,1,none⟩=some (.string x128001_1):=(blk_cell BK127.out 1).trans rfl;have hcz22_2:w21.cell? ⟨gb127,2,none⟩=some (.string x128002_1):=(blk_cell BK127.out 2).trans rfl;have hcz22_3:w21.cell? ⟨gb127,3,none⟩=some (.string x128003_1):=(blk_cell BK127.out 3).trans rfl;have hcz22_4:w21.cell? ⟨gb127,4,none⟩=some (.string x128004_1):=(blk_cell BK127.out 4).trans rfl;have hcz22_5:w21.cell? ⟨gb127,5,none⟩=some (.int .i64 x128005_1):=(blk_cell BK127.out 5).trans rfl;have hcz22_6:w21.cell? ⟨gb127,6,none⟩=some (.int .i64 x128006_1):=(blk_cell BK127.out 6).trans rfl;have hcz22_7:w21.cell? ⟨gb127,7,none⟩=some (.int .i64 x128007_1):=(blk_cell BK127.out 7).trans rfl;have hcz22_8:w21.cell? ⟨gb127,8,none⟩=some (.int .i64 x128008_1):=(blk_cell BK127.out 8).trans rfl;have hcz22_9:w21.cell? ⟨gb127,9,none⟩=some (.int .i64 x128009_1):=(blk_cell BK127.out 9).trans rfl;have hfz22_0:=blk_frozen BK127.out 0;have hfz22_1:=blk_frozen BK127.out 1;have hfz22_2:=blk_frozen BK127.out 2;have hfz22_3:=blk_frozen BK127.out 3;have hfz22_4:=blk_frozen BK127.out 4;have hfz22_5:=blk_frozen BK127.out 5;have hfz22_6:=blk_frozen BK127.out 6;have hfz22_7:=blk_frozen BK127.out 7;have hfz22_8:=blk_frozen BK127.out 8;have hfz22_9:=blk_frozen BK127.out 9))
        refine bodyPost_ret (results_tc rfl _ _ gb127 32 #[.int .i64 t148,.string t149,.string t150,.string t151,.string t152,.int .i64 t153,.int .i64 t154,.int .i64 t155,.int .i64 t156,.int .i64 t157] (0,0) _ rfl (by (with_reducible repeat (first|refine blk_drewN ?_ _|refine blk_drew ?_|refine blk_alloc ?_ _));refine blk_put (cs:= #[.int .i64 t148,.string t149,.string t150,.string t151,.string t152,.int .i64 t153,.int .i64 t154,.int .i64 t155,.int .i64 t156,.int .i64 x128009_1]) ?_ 9 _ rfl;(with_reducible repeat (first|refine blk_drewN ?_ _|refine blk_drew ?_|refine blk_alloc ?_ _));refine blk_put (cs:= #[.int .i64 t148,.string t149,.string t150,.string t151,.string t152,.int .i64 t153,.int .i64 t154,.int .i64 t155,.int .i64 x128008_1,.int .i64 x128009_1]) ?_ 8 _ rfl;(with_reducible repeat (first|refine blk_drewN ?_ _|refine blk_drew ?_|refine blk_alloc ?_ _));refine blk_put (cs:= #[.int .i64 t148,.string t149,.string t150,.string t151,.string t152,.int .i64 t153,.int .i64 t154,.int .i64 x128007_1,.int .i64 x128008_1,.int .i64 x128009_1]) ?_ 7 _ rfl;(with_reducible repeat (first|refine blk_drewN ?_ _|refine blk_drew ?_|refine blk_alloc ?_ _));refine blk_put (cs:= #[.int .i64 t148,.string t149,.string t150,.string t151,.string t152,.int .i64 t153,.int .i64 x128006_1,.int .i64 x128007_1,.int .i64 x128008_1,.int .i64 x128009_1]) ?_ 6 _ rfl;(with_reducible repeat (first|refine blk_drewN ?_ _|refine blk_drew ?_|refine blk_alloc ?_ _));refine blk_put (cs:= #[.int .i64 t148,.string t149,.string t150,.string t151,.string t152,.int .i64 x128005_1,.int .i64 x128006_1,.int .i64 x128007_1,.int .i64 x128008_1,.int .i64 x128009_1]) ?_ 5 _ rfl;(with_reducible repeat (first|refine blk_drewN ?_ _|refine blk_drew ?_|refine blk_alloc ?_ _));refine blk_put (cs:= #[.int .i64 t148,.string t149,.string t150,.string t151,.string x128004_1,.int .i64 x128005_1,.int .i64 x128006_1,.int .i64 x128007_1,.int .i64 x128008_1,.int .i64 x128009_1]) ?_ 4 _ rfl;(with_reducible repeat (first|refine blk_drewN ?_ _|refine blk_drew ?_|refine blk_alloc ?_ _));refine blk_put (cs:= #[.int .i64 t148,.string t149,.string t150,.string x128003_1,.string x128004_1,.int .i64 x128005_1,.int .i64 x128006_1,.int .i64 x128007_1,.int .i64 x128008_1,.int .i64 x128009_1]) ?_ 3 _ rfl;(with_reducible repeat (first|refine blk_drewN ?_ _|refine blk_drew ?_|refine blk_alloc ?_ _));refine blk_put (cs:= #[.int .i64 t148,.string t149,.string x128002_1,.string x128003_1,.string x128004_1,.int .i64 x128005_1,.int .i64 x128006_1,.int .i64 x128007_1,.int .i64 x128008_1,.int .i64 x128009_1]) ?_ 2 _ rfl;(with_reducible repeat (first|refine blk_drewN ?_ _|refine blk_drew ?_|refine blk_alloc ?_ _));refine blk_put (cs:= #[.int .i64 t148,.string x128001_1,.string x128002_1,.string x128003_1,.string x128004_1,.int .i64 x128005_1,.int .i64 x128006_1,.int .i64 x128007_1,.int .i64 x128008_1,.int .i64 x128009_1]) ?_ 1 _ rfl;(with_reducible repeat (first|refine blk_drewN ?_ _|refine blk_drew ?_|refine blk_alloc ?_ _));refine blk_put (cs:= #[.int .i64 x128000_1,.string x128001_1,.string x128002_1,.string x128003_1,.string x128004_1,.int .i64 x128005_1,.int .i64 x128006_1,.int .i64 x128007_1,.int .i64 x128008_1,.int .i64 x128009_1]) ?_ 0 _ rfl;(with_reducible repeat (first|refine blk_drewN ?_ _|refine blk_drew ?_|refine blk_alloc ?_ _));exact BK127.out) Tryz.underlying32 rfl (by kernel_rfl)) rfl ?_
        exact ⟨by first|rfl|(simp [errW_none,errW_some]<;>rfl)|(simp [*,errW_none,errW_some]<;>rfl),by repeat (first|(with_reducible first|exact HB.out|apply below_alloc|apply pw_below_drewN|apply below_drew1|refine below_set ?_ GE127.out)|exact HB.out)⟩
       ·rw [if_neg c17] at H
        exact absurd H (by simp)
     ·rw [if_neg c13] at H
      exact absurd H (by simp)
    ·rw [if_neg c12] at H
     have c12b0:decide (x7_1<(t139.length:Int))=false:=decide_eq_false c12
     clear c12
     obtain ⟨ji23,hji23⟩: ∃ j_:Int,(wrap64 ((t139.length:Int) - 1))=j_:=⟨_,rfl⟩
     replace H:(if 0≤(ji23) then (if (ji23)<(t139.length:Int) then (sallyportref06_ParseName.l1 k1 t138 t139 t140 (rdOf ByteArray.empty t139 (ji23)) true 0) else (none)) else (none))=some (r1,r2,r3,r4,r5,r6,r7,r8,r9,r10,r11):=by first|(rw [hji23] at H;exact H)|(simp only [hji23] at H ⊢;exact H)
     have hji23w:(IntKind.i64.wrap ((t139.length:Int) - 1))=ji23:=(i64_w _).trans hji23
     by_cases c24:0≤(ji23)
     ·rw [if_pos c24] at H
      have c24b0:decide (0≤(ji23))=true:=decide_eq_true c24
      clear c24
      by_cases c25:(ji23)<(t139.length:Int)
      ·rw [if_pos c25] at H
       have c25b0:decide ((ji23)<(t139.length:Int))=true:=decide_eq_true c25
       clear c25
       have H':=Aside0.mk H
       clear H
       obtain ⟨Ao26,co26,eo26⟩:=Kd.R_slice HO_5.out
       subst eo26
       have p158:0≤((ji23):Int):=of_decide_eq_true (by first|(with_reducible assumption)|assumption)
       have q158:(ji23)<(t139.length:Int):=of_decide_eq_true (by first|(with_reducible assumption)|assumption)
       obtain ⟨ad158,e158,hx158_0⟩:=Kd.at_string (Kd.R_reads' HO_5.out).2.2 (ji23) p158 q158
       cases e158
       replace p158:=eq_true p158
       replace q158:=eq_true q158
       go_wp2
       go_loopg [9,10] k1 (fun kq v9 v10 w'=> ∃ (x9_2:Bool) (x10_2:Int),v9= .bool x9_2∧v10= .int .i64 x10_2∧Aside0 (sallyportref06_ParseName.l1 kq t138 t139 t140 (rdOf ByteArray.empty t139 (ji23)) x9_2 x10_2=some (r1,r2,r3,r4,r5,r6,r7,r8,r9,r10,r11))∧Aside0 (kq≤k1)∧Aside0 (Kd.R Kd.string 9 w' w.heap.size (fun _=>True) (.slice (some ad158) t139.length co26) t139)∧Aside0 (Kd.R (Kd.int .i64) 3 w' w.heap.size (fun _=>True) v143 t140)∧Aside0 (w'.heap[gb127]? =some (.cells #[.int .i64 x128000_1,.string x128001_1,.string x128002_1,.string x128003_1,.string x128004_1,.int .i64 x128005_1,.int .i64 x128006_1,.int .i64 x128007_1,.int .i64 x128008_1,.int .i64 x128009_1] 32 (0,0)))∧Aside0 (Below w.heap.size w w'))
       case atStart=>exact ⟨(true),(0),(by first|rfl|(simp;done)|(simp [*];done)),(by first|rfl|(simp;done)|(simp [*];done)),H',⟨Nat.le_refl _⟩,⟨by (with_reducible repeat (first|apply Kd.R_alloc|apply Kd.R_drewN|apply Kd.R_drew));exact HO_5.out⟩,⟨by (with_reducible repeat (first|apply Kd.R_alloc|apply Kd.R_drewN|apply Kd.R_drew));exact HO_6.out⟩,⟨by (with_reducible repeat (first|refine blk_drewN ?_ _|refine blk_drew ?_|refine blk_alloc ?_ _));exact BK127.out⟩,⟨by repeat (first|(with_reducible first|exact HB.out|apply below_alloc|apply pw_below_drewN|apply below_drew1|refine below_set ?_ GE127.out)|exact HB.out)⟩⟩
       case round=>
        clear H'
        try clear c1
        try clear p1
        try clear q1
        try clear hx1
        try clear c2
        try clear c2b0
        try clear c2b1
        try clear p2
        try clear p6
        try clear c12
        try clear c12b0
        try clear c13
        try clear c13b0
        try clear c14
        try clear p14
        try clear q14
        try clear hx14
        try clear c15
        try clear p15
        try clear q15
        try clear hx15
        try clear c17
        try clear c17b0
        try clear c19
        try clear c24
        try clear c24b0
        try clear c25
        try clear c25b0
        try clear hcz22_0
        try clear hcz22_1
        try clear hcz22_2
        try clear hcz22_3
        try clear hcz22_4
        try clear hcz22_5
        try clear hcz22_6
        try clear hcz22_7
        try clear hcz22_8
        try clear hcz22_9
        try clear hcz6_0
        try clear hcz6_1
        try clear hcz6_2
        try clear hcz6_3
        try clear hcz6_4
        try clear hcz6_5
        try clear hcz6_6
        try clear hcz6_7
        try clear hcz6_8
        try clear hcz6_9
        try clear hfz22_0
        try clear hfz22_1
        try clear hfz22_2
        try clear hfz22_3
        try clear hfz22_4
        try clear hfz22_5
        try clear hfz22_6
        try clear hfz22_7
        try clear hfz22_8
        try clear hfz22_9
        try clear hfz6_0
        try clear hfz6_1
        try clear hfz6_2
        try clear hfz6_3
        try clear hfz6_4
        try clear hfz6_5
        try clear hfz6_6
        try clear hfz6_7
        try clear hfz6_8
        try clear hfz6_9
        try clear hx145_0
        try clear hx147_0
        try clear hx158_0
        try clear p145
        try clear p147
        try clear p158
        try clear p2
        try clear q145
        try clear q147
        try clear q158
        obtain ⟨x9_2,x10_2,rfl,rfl,HA,HK2,HO_5,HO_6,BK127,HB⟩:=hrel
        cases gk with
        |zero=>exact absurd HA.out (by simp [sallyportref06_ParseName.l1])
        |succ k2=>
         have H:=HA.out
         clear HA
         simp only [sallyportref06_ParseName.l1] at H
         by_cases c27:x10_2<((rdOf ByteArray.empty t139 (ji23)).size:Int)
         ·rw [if_pos c27] at H
          have c27b0:decide (x10_2<((rdOf ByteArray.empty t139 (ji23)).size:Int))=true:=decide_eq_true c27
          clear c27
          by_cases c28:x9_2=true
          ·subst c28
           have H1:(if 0≤x10_2 then ((sallyportref06_digit.f (bt (rdOf ByteArray.empty t139 (ji23)) x10_2)).bind fun t159=>(sallyportref06_ParseName.l1 k2 t138 t139 t140 (rdOf ByteArray.empty t139 (ji23)) t159 (wrap64 (x10_2+1)))) else (none))=some (r1,r2,r3,r4,r5,r6,r7,r8,r9,r10,r11):=by rw [if_pos rfl] at H;exact H
           clear H
           have H:=H1
           clear H1
           by_cases c29:0≤x10_2
           ·rw [if_pos c29] at H
            have c29b0:decide (0≤x10_2)=true:=decide_eq_true c29
            clear c29
            replace H:=Option.bind_eq_some_iff.mp H
            obtain ⟨t159,A310,H⟩:=H
            replace H:(sallyportref06_ParseName.l1 k2 t138 t139 t140 (rdOf ByteArray.empty t139 (ji23)) t159 (wrap64 (x10_2+1)))=some (r1,r2,r3,r4,r5,r6,r7,r8,r9,r10,r11):=H
            have A31:=Aside0.mk A310
            clear A310
            have H':=Aside0.mk H
            clear H
            have p30:0≤(x10_2:Int):=of_decide_eq_true (by first|(with_reducible assumption)|assumption)
            have q30:x10_2<((rdOf ByteArray.empty t139 (ji23)).size:Int):=of_decide_eq_true (by first|(with_reducible assumption)|assumption)
            have hx30:=bt_at (rdOf ByteArray.empty t139 (ji23)) x10_2
            replace p30:=eq_true p30
            replace q30:=eq_true q30
            go_wp2_with (first|(go_at_call 151;(with_reducible refine (sallyportref06_digit.calls (bt (rdOf ByteArray.empty t139 (ji23)) x10_2) t159 _ A31.out).mono ?_);rintro e w' ⟨rfl,⟨nd,rfl⟩⟩))
            go_roundg k2
            case measure=>have:=HK1.out;have:=HK2.out;omega
            case rel=>exact ⟨(t159),(wrap64 (x10_2+1)),(by first|rfl|(simp;done)|(simp [*];done)),(by first|rfl|(simp;done)|(simp [*];done)),H',⟨by have:=HK1.out;have:=HK2.out;omega⟩,⟨by (with_reducible repeat (first|apply Kd.R_alloc|apply Kd.R_drewN|apply Kd.R_drew));exact HO_5.out⟩,⟨by (with_reducible repeat (first|apply Kd.R_alloc|apply Kd.R_drewN|apply Kd.R_drew));exact HO_6.out⟩,⟨by (with_reducible repeat (first|refine blk_drewN ?_ _|refine blk_drew ?_|refine blk_alloc ?_ _));exact BK127.out⟩,⟨by repeat (first|(with_reducible first|exact HB.out|apply below_alloc|apply pw_below_drewN|apply below_drew1|refine below_set ?_ GE127.out)|exact HB.out)⟩⟩
           ·rw [if_neg c29] at H
            exact absurd H (by simp)
          ·replace c28:=Bool.eq_false_iff.mpr c28
           subst c28
           have H1:(sallyportref06_ParseName.l1 k2 t138 t139 t140 (rdOf ByteArray.empty t139 (ji23)) false (wrap64 (x10_2+1)))=some (r1,r2,r3,r4,r5,r6,r7,r8,r9,r10,r11):=by rw [if_neg (show ¬ (false=true) by decide)] at H;exact H
           clear H
           have H:=H1
           clear H1
           have H':=Aside0.mk H
           clear H
           go_wp2
           go_roundg k2
           case measure=>have:=HK1.out;have:=HK2.out;omega
           case rel=>exact ⟨(false),(wrap64 (x10_2+1)),(by first|rfl|(simp;done)|(simp [*];done)),(by first|rfl|(simp;done)|(simp [*];done)),H',⟨by have:=HK1.out;have:=HK2.out;omega⟩,⟨by (with_reducible repeat (first|apply Kd.R_alloc|apply Kd.R_drewN|apply Kd.R_drew));exact HO_5.out⟩,⟨by (with_reducible repeat (first|apply Kd.R_alloc|apply Kd.R_drewN|apply Kd.R_drew));exact HO_6.out⟩,⟨by (with_reducible repeat (first|refine blk_drewN ?_ _|refine blk_drew ?_|refine blk_alloc ?_ _));exact BK127.out⟩,⟨by repeat (first|(with_reducible first|exact HB.out|apply below_alloc|apply pw_below_drewN|apply below_drew1|refine below_set ?_ GE127.out)|exact HB.out)⟩⟩
         ·rw [if_neg c27] at H
          have c27b0:decide (x10_2<((rdOf ByteArray.empty t139 (ji23)).size:Int))=false:=decide_eq_false c27
          clear c27
          by_cases c32:x9_2=true
          ·subst c32
           have H1:(if 0≤(wrap64 ((t139.length:Int) - 1)) then (if (wrap64 ((t139.length:Int) - 1))<(t140.length:Int) then ((sallyportref06_fault.f (rd t140 (wrap64 ((t139.length:Int) - 1))) 63).bind fun bt161=>(some ((⟨#[]⟩:ByteArray),bt161.1,bt161.2.1,bt161.2.2.1,bt161.2.2.2.1,bt161.2.2.2.2.1,bt161.2.2.2.2.2.1,bt161.2.2.2.2.2.2.1,bt161.2.2.2.2.2.2.2.1,bt161.2.2.2.2.2.2.2.2.1,bt161.2.2.2.2.2.2.2.2.2))) else (none)) else (none))=some (r1,r2,r3,r4,r5,r6,r7,r8,r9,r10,r11):=by rw [if_pos rfl] at H;exact H
           clear H
           have H:=H1
           clear H1
           obtain ⟨ji33,hji33⟩: ∃ j_:Int,(wrap64 ((t139.length:Int) - 1))=j_:=⟨_,rfl⟩
           replace H:(if 0≤(ji33) then (if (ji33)<(t140.length:Int) then ((sallyportref06_fault.f (rd t140 (ji33)) 63).bind fun bt161=>(some ((⟨#[]⟩:ByteArray),bt161.1,bt161.2.1,bt161.2.2.1,bt161.2.2.2.1,bt161.2.2.2.2.1,bt161.2.2.2.2.2.1,bt161.2.2.2.2.2.2.1,bt161.2.2.2.2.2.2.2.1,bt161.2.2.2.2.2.2.2.2.1,bt161.2.2.2.2.2.2.2.2.2))) else (none)) else (none))=some (r1,r2,r3,r4,r5,r6,r7,r8,r9,r10,r11):=by first|(rw [hji33] at H;exact H)|(simp only [hji33] at H ⊢;exact H)
           have hji33w:(IntKind.i64.wrap ((t139.length:Int) - 1))=ji33:=(i64_w _).trans hji33
           (try clear hji23w)
           by_cases c34:0≤(ji33)
           ·rw [if_pos c34] at H
            have c34b0:decide (0≤(ji33))=true:=decide_eq_true c34
            clear c34
            by_cases c35:(ji33)<(t140.length:Int)
            ·rw [if_pos c35] at H
             have c35b0:decide ((ji33)<(t140.length:Int))=true:=decide_eq_true c35
             clear c35
             replace H:=Option.bind_eq_some_iff.mp H
             obtain ⟨⟨t161,t162,t163,t164,t165,t166,t167,t168,t169,t170⟩,A360,H⟩:=H
             replace H:(some ((⟨#[]⟩:ByteArray),t161,t162,t163,t164,t165,t166,t167,t168,t169,t170))=some (r1,r2,r3,r4,r5,r6,r7,r8,r9,r10,r11):=H
             have A36:=Aside0.mk A360
             clear A360
             simp only [Option.some.injEq,Prod.mk.injEq] at H
             obtain ⟨rfl,rfl,rfl,rfl,rfl,rfl,rfl,rfl,rfl,rfl,rfl⟩:=H
             obtain ⟨Ao37,co37,eo37⟩:=Kd.R_slice HO_6.out
             subst eo37
             have p160:0≤((ji33):Int):=of_decide_eq_true (by first|(with_reducible assumption)|assumption)
             have q160:(ji33)<(t140.length:Int):=of_decide_eq_true (by first|(with_reducible assumption)|assumption)
             obtain ⟨ad160,e160,hx160_0⟩:=Kd.at_int (Kd.R_reads' HO_6.out).2.2 (ji33) p160 q160
             cases e160
             replace p160:=eq_true p160
             replace q160:=eq_true q160
             go_wp2_with (first|((with_reducible refine gate_callee (f:=149) rfl ?_);refine goesL_ (some 65) rfl rfl Tryz.func149 (by kernel_rfl) rfl #[.int .i64 (rd t140 (ji33)),.int .i64 63] rfl (by (try simp only [List.map_toArray,List.map_cons,List.map_nil]);first|done|(simp only [hji33];rfl)|rfl|(simp only [List.length_drop,List.length_take];rfl)) ?_;(with_reducible refine (sallyportref06_fault.calls (rd t140 (ji33)) 63 t161 t162 t163 t164 t165 t166 t167 t168 t169 t170 _ ?side1 A36.out).mono ?_);(case side1=>exact StdW.below HS_.out (by repeat (first|(with_reducible first|exact HB.out|apply below_alloc|apply pw_below_drewN|apply below_drew1|refine below_set ?_ GE127.out)|exact HB.out)));rintro e w38 ⟨rfl,hb⟩;refine ⟨_,rfl,?_⟩;have n0_:=Aside0.mk (Kd.R_below (by (with_reducible repeat (first|apply Kd.R_alloc|apply Kd.R_drewN|apply Kd.R_drew));exact HO_5.out) hb);have n1_:=Aside0.mk (Kd.R_below (by (with_reducible repeat (first|apply Kd.R_alloc|apply Kd.R_drewN|apply Kd.R_drew));exact HO_6.out) hb);have n2_:=Aside0.mk (blk_below (g:=gb127) (o:= .cells #[.int .i64 x128000_1,.string x128001_1,.string x128002_1,.string x128003_1,.string x128004_1,.int .i64 x128005_1,.int .i64 x128006_1,.int .i64 x128007_1,.int .i64 x128008_1,.int .i64 x128009_1] 32 (0,0)) (by (with_reducible repeat (first|refine blk_drewN ?_ _|refine blk_drew ?_|refine blk_alloc ?_ _));exact BK127.out) hb);have n3_:=Aside0.mk (below_step (by repeat (first|(with_reducible first|exact HB.out|apply below_alloc|apply pw_below_drewN|apply below_drew1|refine below_set ?_ GE127.out)|exact HB.out)) hb);clear HO_5;clear HO_6;clear BK127;clear HB;have HO_5:=n0_;have HO_6:=n1_;have BK127:=n2_;have HB:=n3_;clear n0_ n1_ n2_ n3_;(try clear hb);(try clear hb2);(try clear hk);(try clear hi);have hcz39_0:w38.cell? ⟨gb127,0,none⟩=some (.int .i64 x128000_1):=(blk_cell BK127.out 0).trans rfl;have hcz39_1:w38.cell? ⟨gb127,1,none⟩=some (.string x128001_1):=(blk_cell BK127.out 1).trans rfl;have hcz39_2:w38.cell? ⟨gb127,2,none⟩=some (.string x128002_1):=(blk_cell BK127.out 2).trans rfl;have hcz39_3:w38.cell? ⟨gb127,3,none⟩=some (.string x128003_1):=(blk_cell BK127.out 3).trans rfl;have hcz39_4:w38.cell? ⟨gb127,4,none⟩=some (.string x128004_1):=(blk_cell BK127.out 4).trans rfl;have hcz39_5:w38.cell? ⟨gb127,5,none⟩=some (.int .i64 x128005_1):=(blk_cell BK127.out 5).trans rfl;have hcz39_6:w38.cell? ⟨gb127,6,none⟩=some (.int .i64 x128006_1):=(blk_cell BK127.out 6).trans rfl;have hcz39_7:w38.cell? ⟨gb127,7,none⟩=some (.int .i64 x128007_1):=(blk_cell BK127.out 7).trans rfl;have hcz39_8:w38.cell? ⟨gb127,8,none⟩=some (.int .i64 x128008_1):=(blk_cell BK127.out 8).trans rfl;have hcz39_9:w38.cell? ⟨gb127,9,none⟩=some (.int .i64 x128009_1):=(blk_cell BK127.out 9).trans rfl;have hfz39_0:=blk_frozen BK127.out 0;have hfz39_1:=blk_frozen BK127.out 1;have hfz39_2:=blk_frozen BK127.out 2;have hfz39_3:=blk_frozen BK127.out 3;have hfz39_4:=blk_frozen BK127.out 4;have hfz39_5:=blk_frozen BK127.out 5;have hfz39_6:=blk_frozen BK127.out 6;have hfz39_7:=blk_frozen BK127.out 7;have hfz39_8:=blk_frozen BK127.out 8;have hfz39_9:=blk_frozen BK127.out 9))
             refine bodyPost_ret (results_tc rfl _ _ gb127 32 #[.int .i64 t161,.string t162,.string t163,.string t164,.string t165,.int .i64 t166,.int .i64 t167,.int .i64 t168,.int .i64 t169,.int .i64 t170] (0,0) _ rfl (by (with_reducible repeat (first|refine blk_drewN ?_ _|refine blk_drew ?_|refine blk_alloc ?_ _));refine blk_put (cs:= #[.int .i64 t161,.string t162,.string t163,.string t164,.string t165,.int .i64 t166,.int .i64 t167,.int .i64 t168,.int .i64 t169,.int .i64 x128009_1]) ?_ 9 _ rfl;(with_reducible repeat (first|refine blk_drewN ?_ _|refine blk_drew ?_|refine blk_alloc ?_ _));refine blk_put (cs:= #[.int .i64 t161,.string t162,.string t163,.string t164,.string t165,.int .i64 t166,.int .i64 t167,.int .i64 t168,.int .i64 x128008_1,.int .i64 x128009_1]) ?_ 8 _ rfl;(with_reducible repeat (first|refine blk_drewN ?_ _|refine blk_drew ?_|refine blk_alloc ?_ _));refine blk_put (cs:= #[.int .i64 t161,.string t162,.string t163,.string t164,.string t165,.int .i64 t166,.int .i64 t167,.int .i64 x128007_1,.int .i64 x128008_1,.int .i64 x128009_1]) ?_ 7 _ rfl;(with_reducible repeat (first|refine blk_drewN ?_ _|refine blk_drew ?_|refine blk_alloc ?_ _));refine blk_put (cs:= #[.int .i64 t161,.string t162,.string t163,.string t164,.string t165,.int .i64 t166,.int .i64 x128006_1,.int .i64 x128007_1,.int .i64 x128008_1,.int .i64 x128009_1]) ?_ 6 _ rfl;(with_reducible repeat (first|refine blk_drewN ?_ _|refine blk_drew ?_|refine blk_alloc ?_ _));refine blk_put (cs:= #[.int .i64 t161,.string t162,.string t163,.string t164,.string t165,.int .i64 x128005_1,.int .i64 x128006_1,.int .i64 x128007_1,.int .i64 x128008_1,.int .i64 x128009_1]) ?_ 5 _ rfl;(with_reducible repeat (first|refine blk_drewN ?_ _|refine blk_drew ?_|refine blk_alloc ?_ _));refine blk_put (cs:= #[.int .i64 t161,.string t162,.string t163,.string t164,.string x128004_1,.int .i64 x128005_1,.int .i64 x128006_1,.int .i64 x128007_1,.int .i64 x128008_1,.int .i64 x128009_1]) ?_ 4 _ rfl;(with_reducible repeat (first|refine blk_drewN ?_ _|refine blk_drew ?_|refine blk_alloc ?_ _));refine blk_put (cs:= #[.int .i64 t161,.string t162,.string t163,.string x128003_1,.string x128004_1,.int .i64 x128005_1,.int .i64 x128006_1,.int .i64 x128007_1,.int .i64 x128008_1,.int .i64 x128009_1]) ?_ 3 _ rfl;(with_reducible repeat (first|refine blk_drewN ?_ _|refine blk_drew ?_|refine blk_alloc ?_ _));refine blk_put (cs:= #[.int .i64 t161,.string t162,.string x128002_1,.string x128003_1,.string x128004_1,.int .i64 x128005_1,.int .i64 x128006_1,.int .i64 x128007_1,.int .i64 x128008_1,.int .i64 x128009_1]) ?_ 2 _ rfl;(with_reducible repeat (first|refine blk_drewN ?_ _|refine blk_drew ?_|refine blk_alloc ?_ _));refine blk_put (cs:= #[.int .i64 t161,.string x128001_1,.string x128002_1,.string x128003_1,.string x128004_1,.int .i64 x128005_1,.int .i64 x128006_1,.int .i64 x128007_1,.int .i64 x128008_1,.int .i64 x128009_1]) ?_ 1 _ rfl;(with_reducible repeat (first|refine blk_drewN ?_ _|refine blk_drew ?_|refine blk_alloc ?_ _));refine blk_put (cs:= #[.int .i64 x128000_1,.string x128001_1,.string x128002_1,.string x128003_1,.string x128004_1,.int .i64 x128005_1,.int .i64 x128006_1,.int .i64 x128007_1,.int .i64 x128008_1,.int .i64 x128009_1]) ?_ 0 _ rfl;(with_reducible repeat (first|refine blk_drewN ?_ _|refine blk_drew ?_|refine blk_alloc ?_ _));exact BK127.out) Tryz.underlying32 rfl (by kernel_rfl)) rfl ?_
             exact ⟨by first|rfl|(simp [errW_none,errW_some]<;>rfl)|(simp only [← hji23,← hji33];first|rfl|(simp [errW_none,errW_some]<;>rfl))|(simp [*,errW_none,errW_some]<;>rfl),by repeat (first|(with_reducible first|exact HB.out|apply below_alloc|apply pw_below_drewN|apply below_drew1|refine below_set ?_ GE127.out)|exact HB.out)⟩
            ·rw [if_neg c35] at H
             exact absurd H (by simp)
           ·rw [if_neg c34] at H
            exact absurd H (by simp)
          ·replace c32:=Bool.eq_false_iff.mpr c32
           subst c32
           have H1:(some (t138,0,(⟨#[]⟩:ByteArray),(⟨#[]⟩:ByteArray),(⟨#[]⟩:ByteArray),(⟨#[]⟩:ByteArray),0,0,0,0,0))=some (r1,r2,r3,r4,r5,r6,r7,r8,r9,r10,r11):=by rw [if_neg (show ¬ (false=true) by decide)] at H;exact H
           clear H
           have H:=H1
           clear H1
           simp only [Option.some.injEq,Prod.mk.injEq] at H
           obtain ⟨rfl,rfl,rfl,rfl,rfl,rfl,rfl,rfl,rfl,rfl,rfl⟩:=H
           have hcz40_0:wr.cell? ⟨gb127,0,none⟩=some (.int .i64 x128000_1):=(blk_cell BK127.out 0).trans rfl
           have hcz40_1:wr.cell? ⟨gb127,1,none⟩=some (.string x128001_1):=(blk_cell BK127.out 1).trans rfl
           have hcz40_2:wr.cell? ⟨gb127,2,none⟩=some (.string x128002_1):=(blk_cell BK127.out 2).trans rfl
           have hcz40_3:wr.cell? ⟨gb127,3,none⟩=some (.string x128003_1):=(blk_cell BK127.out 3).trans rfl
           have hcz40_4:wr.cell? ⟨gb127,4,none⟩=some (.string x128004_1):=(blk_cell BK127.out 4).trans rfl
           have hcz40_5:wr.cell? ⟨gb127,5,none⟩=some (.int .i64 x128005_1):=(blk_cell BK127.out 5).trans rfl
           have hcz40_6:wr.cell? ⟨gb127,6,none⟩=some (.int .i64 x128006_1):=(blk_cell BK127.out 6).trans rfl
           have hcz40_7:wr.cell? ⟨gb127,7,none⟩=some (.int .i64 x128007_1):=(blk_cell BK127.out 7).trans rfl
           have hcz40_8:wr.cell? ⟨gb127,8,none⟩=some (.int .i64 x128008_1):=(blk_cell BK127.out 8).trans rfl
           have hcz40_9:wr.cell? ⟨gb127,9,none⟩=some (.int .i64 x128009_1):=(blk_cell BK127.out 9).trans rfl
           have hfz40_0:=blk_frozen BK127.out 0
           have hfz40_1:=blk_frozen BK127.out 1
           have hfz40_2:=blk_frozen BK127.out 2
           have hfz40_3:=blk_frozen BK127.out 3
           have hfz40_4:=blk_frozen BK127.out 4
           have hfz40_5:=blk_frozen BK127.out 5
           have hfz40_6:=blk_frozen BK127.out 6
           have hfz40_7:=blk_frozen BK127.out 7
           have hfz40_8:=blk_frozen BK127.out 8
           have hfz40_9:=blk_frozen BK127.out 9
           go_wp2
           refine bodyPost_ret (results_tc rfl _ _ gb127 32 #[.int .i64 0,.string (⟨#[]⟩:ByteArray),.string (⟨#[]⟩:ByteArray),.string (⟨#[]⟩:ByteArray),.string (⟨#[]⟩:ByteArray),.int .i64 0,.int .i64 0,.int .i64 0,.int .i64 0,.int .i64 0] (0,0) _ rfl (by (with_reducible repeat (first|refine blk_drewN ?_ _|refine blk_drew ?_|refine blk_alloc ?_ _));refine blk_put (cs:= #[.int .i64 0,.string (⟨#[]⟩:ByteArray),.string (⟨#[]⟩:ByteArray),.string (⟨#[]⟩:ByteArray),.string (⟨#[]⟩:ByteArray),.int .i64 0,.int .i64 0,.int .i64 0,.int .i64 0,.int .i64 x128009_1]) ?_ 9 _ rfl;(with_reducible repeat (first|refine blk_drewN ?_ _|refine blk_drew ?_|refine blk_alloc ?_ _));refine blk_put (cs:= #[.int .i64 0,.string (⟨#[]⟩:ByteArray),.string (⟨#[]⟩:ByteArray),.string (⟨#[]⟩:ByteArray),.string (⟨#[]⟩:ByteArray),.int .i64 0,.int .i64 0,.int .i64 0,.int .i64 x128008_1,.int .i64 x128009_1]) ?_ 8 _ rfl;(with_reducible repeat (first|refine blk_drewN ?_ _|refine blk_drew ?_|refine blk_alloc ?_ _));refine blk_put (cs:= #[.int .i64 0,.string (⟨#[]⟩:ByteArray),.string (⟨#[]⟩:ByteArray),.string (⟨#[]⟩:ByteArray),.string (⟨#[]⟩:ByteArray),.int .i64 0,.int .i64 0,.int .i64 x128007_1,.int .i64 x128008_1,.int .i64 x128009_1]) ?_ 7 _ rfl;(with_reducible repeat (first|refine blk_drewN ?_ _|refine blk_drew ?_|refine blk_alloc ?_ _));refine blk_put (cs:= #[.int .i64 0,.string (⟨#[]⟩:ByteArray),.string (⟨#[]⟩:ByteArray),.string (⟨#[]⟩:ByteArray),.string (⟨#[]⟩:ByteArray),.int .i64 0,.int .i64 x128006_1,.int .i64 x128007_1,.int .i64 x128008_1,.int .i64 x128009_1]) ?_ 6 _ rfl;(with_reducible repeat (first|refine blk_drewN ?_ _|refine blk_drew ?_|refine blk_alloc ?_ _));refine blk_put (cs:= #[.int .i64 0,.string (⟨#[]⟩:ByteArray),.string (⟨#[]⟩:ByteArray),.string (⟨#[]⟩:ByteArray),.string (⟨#[]⟩:ByteArray),.int .i64 x128005_1,.int .i64 x128006_1,.int .i64 x128007_1,.int .i64 x128008_1,.int .i64 x128009_1]) ?_ 5 _ rfl;(with_reducible repeat (first|refine blk_drewN ?_ _|refine blk_drew ?_|refine blk_alloc ?_ _));refine blk_put (cs:= #[.int .i64 0,.string (⟨#[]⟩:ByteArray),.string (⟨#[]⟩:ByteArray),.string (⟨#[]⟩:ByteArray),.string x128004_1,.int .i64 x128005_1,.int .i64 x128006_1,.int .i64 x128007_1,.int .i64 x128008_1,.int .i64 x128009_1]) ?_ 4 _ rfl;(with_reducible repeat (first|refine blk_drewN ?_ _|refine blk_drew ?_|refine blk_alloc ?_ _));refine blk_put (cs:= #[.int .i64 0,.string (⟨#[]⟩:ByteArray),.string (⟨#[]⟩:ByteArray),.string x128003_1,.string x128004_1,.int .i64 x128005_1,.int .i64 x128006_1,.int .i64 x128007_1,.int .i64 x128008_1,.int .i64 x128009_1]) ?_ 3 _ rfl;(with_reducible repeat (first|refine blk_drewN ?_ _|refine blk_drew ?_|refine blk_alloc ?_ _));refine blk_put (cs:= #[.int .i64 0,.string (⟨#[]⟩:ByteArray),.string x128002_1,.string x128003_1,.string x128004_1,.int .i64 x128005_1,.int .i64 x128006_1,.int .i64 x128007_1,.int .i64 x128008_1,.int .i64 x128009_1]) ?_ 2 _ rfl;(with_reducible repeat (first|refine blk_drewN ?_ _|refine blk_drew ?_|refine blk_alloc ?_ _));refine blk_put (cs:= #[.int .i64 0,.string x128001_1,.string x128002_1,.string x128003_1,.string x128004_1,.int .i64 x128005_1,.int .i64 x128006_1,.int .i64 x128007_1,.int .i64 x128008_1,.int .i64 x128009_1]) ?_ 1 _ rfl;(with_reducible repeat (first|refine blk_drewN ?_ _|refine blk_drew ?_|refine blk_alloc ?_ _));refine blk_put (cs:= #[.int .i64 x128000_1,.string x128001_1,.string x128002_1,.string x128003_1,.string x128004_1,.int .i64 x128005_1,.int .i64 x128006_1,.int .i64 x128007_1,.int .i64 x128008_1,.int .i64 x128009_1]) ?_ 0 _ rfl;(with_reducible repeat (first|refine blk_drewN ?_ _|refine blk_drew ?_|refine blk_alloc ?_ _));exact BK127.out) Tryz.underlying32 rfl (by kernel_rfl)) rfl ?_
           exact ⟨by first|rfl|(simp [errW_none,errW_some]<;>rfl)|(simp only [← hji23];first|rfl|(simp [errW_none,errW_some]<;>rfl))|(simp [*,errW_none,errW_some]<;>rfl),by repeat (first|(with_reducible first|exact HB.out|apply below_alloc|apply pw_below_drewN|apply below_drew1|refine below_set ?_ GE127.out)|exact HB.out)⟩
      ·rw [if_neg c25] at H
       exact absurd H (by simp)
     ·rw [if_neg c24] at H
      exact absurd H (by simp)
end Go.Proofs.YtgmpdjjoefkndaaGreatDoor.XR

namespace Go.Proofs.YtgmpdjjoefkndaaGreatDoor.E
open Go.RowKit Go.Proofs.YtgmpdjjoefkndaaGreatDoorW.PrintWords Go.Proofs.YtgmpdjjoefkndaaGreatDoorW.PrintLast Go.Proofs.YtgmpdjjoefkndaaGreatDoorW.PrintMore Go.Proofs.YtgmpdjjoefkndaaGreatDoor.XR
set_option linter.unusedVariables false
set_option linter.unusedSimpArgs false
theorem bt_get (s:ByteArray) (i:Nat) (h:i<s.data.toList.length):bt s (i:Int)=((s.data.toList[i]'h).toNat:Int):=by
 have h':i<s.size:=by rw [Array.length_toList] at h;exact h
 unfold bt
 rw [Int.toNat_natCast,dif_pos h'];rfl
theorem len_size (s:ByteArray):s.data.toList.length=s.size:=Array.length_toList
def digR (c:UInt8):Bool:=decide (48≤c.toNat) && decide (c.toNat≤57)
theorem digit_f (c:UInt8):sallyportref06_digit.f (c.toNat:Int)=some (digR c):=by
 unfold sallyportref06_digit.f digR
 by_cases h:(c.toNat:Int)≥48
 ·rw [if_pos h,decide_eq_true (show 48≤c.toNat by omega),Bool.true_and]
  congr 1
  exact decide_eq_decide.2 (by omega)
 ·rw [if_neg h,decide_eq_false (show ¬ 48≤c.toNat by omega),Bool.false_and]
def okr (c:UInt8):Bool:=c.toNat==45||digR c||(decide (97≤c.toNat) && decide (c.toNat≤122))
theorem okr_low (c:UInt8):okr (Lib.lowerB c)=([2,3,4]:List Int).contains (kindZ (c.toNat:Int)):=by
 have h: ∀ n:Fin 256,okr (Lib.lowerB (UInt8.ofNat n.1))=([2,3,4]:List Int).contains (kindZ ((UInt8.ofNat n.1).toNat:Int)):=by decide+kernel
 have:=h ⟨c.toNat,c.toNat_lt⟩
 simpa using this
theorem digR_low (c:UInt8):digR (Lib.lowerB c)=([2]:List Int).contains (kindZ (c.toNat:Int)):=by
 have h: ∀ n:Fin 256,digR (Lib.lowerB (UInt8.ofNat n.1))=([2]:List Int).contains (kindZ ((UInt8.ofNat n.1).toNat:Int)):=by decide+kernel
 have:=h ⟨c.toNat,c.toNat_lt⟩
 simpa using this
theorem dash_low (c:UInt8):((Lib.lowerB c).toNat==45)=(c.toNat==45):=by
 have h: ∀ n:Fin 256,((Lib.lowerB (UInt8.ofNat n.1)).toNat==45)=((UInt8.ofNat n.1).toNat==45):=by decide+kernel
 have:=h ⟨c.toNat,c.toNat_lt⟩
 simpa using this
theorem dot_low (c:UInt8):(Lib.lowerB c=46)↔c=46:=by
 have h: ∀ n:Fin 256,(Lib.lowerB (UInt8.ofNat n.1)=46)↔(UInt8.ofNat n.1)=46:=by decide+kernel
 have:=h ⟨c.toNat,c.toNat_lt⟩
 simpa using this
theorem label_loop (s:ByteArray) (hs:s.size≤281474976710656): ∀ (m k i:Nat),i+m=s.size→m<k→sallyportref06_label.l0 k s (i:Int)=some ((s.data.toList.drop i).all okr)
 |0,k+1,i,hi,hk=>by
  unfold sallyportref06_label.l0
  rw [if_neg (by omega),List.drop_of_length_le (by rw [len_size];omega)];rfl
 |m+1,k+1,i,hi,hk=>by
  have hl:i<s.data.toList.length:=by rw [len_size];omega
  have ih:=label_loop s hs m k (i+1) (by omega) (by omega)
  have hw:wrap64 ((i:Int)+1)=((i+1:Nat):Int):=by rw [wrap64_id _ (by omega) (by omega)];omega
  unfold sallyportref06_label.l0
  rw [if_pos (by omega),if_pos (by omega),bt_get s i hl,hw,ih,List.drop_eq_getElem_cons hl,List.all_cons,digit_f,Option.bind_some]
  generalize s.data.toList[i]=c
  unfold okr
  by_cases h1:(c.toNat:Int)=45
  ·rw [if_pos h1,beq_iff_eq.2 (show c.toNat=45 by omega)];simp
  ·rw [if_neg h1,beq_eq_false_iff_ne.2 (show c.toNat≠45 by omega),Bool.false_or]
   cases digR c
   ·rw [if_neg (by simp),Bool.false_or]
    by_cases h2:(c.toNat:Int)<97
    ·rw [if_pos h2,decide_eq_false (show ¬ 97≤c.toNat by omega)];simp
    ·rw [if_neg h2,decide_eq_true (show 97≤c.toNat by omega)]
     by_cases h3:(c.toNat:Int)>122
     ·rw [if_pos h3,decide_eq_false (show ¬ c.toNat≤122 by omega)];simp
     ·rw [if_neg h3,decide_eq_true (show c.toNat≤122 by omega)];simp
   ·rw [if_pos rfl];simp
def labR (l:List UInt8):Bool:= !l.isEmpty && (decide (l.length≤63) && (l.all okr && (!((l.headD 0).toNat==45) && !((l.getLastD 0).toNat==45))))
theorem label_f (s:ByteArray) (hs:s.size≤281474976710656) (k:Nat) (hk:s.size+1<k):sallyportref06_label.f k s=some (labR s.data.toList):=by
 obtain ⟨j,rfl⟩: ∃ j,k=j+1:=⟨k - 1,by omega⟩
 have jt:sallyportref06_label.j0 (j+1) s true=some false:=by simp only [sallyportref06_label.j0,if_true]
 have jf:sallyportref06_label.j0 (j+1) s false=some (s.data.toList.all okr):=by
  have:=label_loop s hs s.size j 0 (by omega) (by omega)
  rw [List.drop_zero] at this
  simp only [sallyportref06_label.j0,Bool.false_eq_true,if_false]
  exact this
 have hl:=len_size s
 have htl:s.toList=s.data.toList:=ByteArray.toList_eq s
 unfold sallyportref06_label.f labR
 rw [jt,htl]
 by_cases h0:s.data.toList=[]
 ·rw [if_pos h0,h0];rfl
 ·rw [if_neg h0]
  have hpos:0<s.data.toList.length:=List.length_pos_iff.2 h0
  have he:s.data.toList.isEmpty=false:=by rw [List.isEmpty_eq_false_iff];exact h0
  rw [he,Bool.not_false,Bool.true_and]
  by_cases h1:(s.size:Int)>63
  ·rw [if_pos h1,decide_eq_false (show ¬ s.data.toList.length≤63 by omega)];rfl
  ·rw [if_neg h1,decide_eq_true (show s.data.toList.length≤63 by omega),Bool.true_and,if_pos (by omega)]
   have hb0:bt s 0=(s.data.toList[0].toNat:Int):=bt_get s 0 hpos
   have hh:s.data.toList.headD 0=s.data.toList[0]:=by
    rw [List.headD_eq_head?_getD,List.head?_eq_getElem?,List.getElem?_eq_getElem hpos];rfl
   have hw:wrap64 ((s.size:Int) - 1)=((s.data.toList.length - 1:Nat):Int):=by rw [wrap64_id _ (by omega) (by omega)];omega
   have hgl:s.data.toList.getLastD 0=s.data.toList[s.data.toList.length - 1]:=by
    rw [List.getLastD_eq_getLast?,List.getLast?_eq_getElem?,List.getElem?_eq_getElem (by omega)];rfl
   rw [hb0,hw,bt_get s _ (by omega),hh,hgl]
   by_cases h2:(s.data.toList[0].toNat:Int)=45
   ·rw [if_pos h2,beq_iff_eq.2 (show s.data.toList[0].toNat=45 by omega)];simp
   ·rw [if_neg h2,if_pos (by omega),if_pos (by omega),beq_eq_false_iff_ne.2 (show s.data.toList[0].toNat≠45 by omega)]
    by_cases h3:s.data.toList[s.data.toList.length - 1].toNat=45
    ·rw [show ((s.data.toList[s.data.toList.length - 1].toNat:Int)==45)=true by rw [beq_iff_eq];omega,jt,beq_iff_eq.2 h3];simp
    ·rw [show ((s.data.toList[s.data.toList.length - 1].toNat:Int)==45)=false by rw [beq_eq_false_iff_ne];omega,jf,beq_eq_false_iff_ne.2 h3];simp
theorem labR_low (l:List UInt8):labR (l.map Lib.lowerB)=lblOk l:=by
 unfold labR lblOk onlyZ
 have h1:(l.map Lib.lowerB).isEmpty=l.isEmpty:=by cases l<;>rfl
 have h2:((l.map Lib.lowerB).all okr)=l.all fun c=>([2,3,4]:List Int).contains (kindZ (c.toNat:Int)):=by
  rw [List.all_map]
  congr 1
  funext c
  exact okr_low c
 rw [h1,h2,List.length_map]
 cases l with
 |nil=>rfl
 |cons a r=>
  have h3:((((a::r).map Lib.lowerB).headD 0).toNat==45)=(((a::r).headD 0).toNat==45):=dash_low a
  have h4:((((a::r).map Lib.lowerB).getLastD 0).toNat==45)=(((a::r).getLastD 0).toNat==45):=by
   rw [List.getLastD_eq_getLast?,List.getLastD_eq_getLast?,List.getLast?_map]
   cases hq:(a::r).getLast? with
   |none=>rfl
   |some x=>exact dash_low x
  rw [h3,h4]
end Go.Proofs.YtgmpdjjoefkndaaGreatDoor.E

namespace Go.Proofs.YtgmpdjjoefkndaaGreatDoor.XR
open Go.Proofs.YtgmpdjjoefkndaaGreatDoor.XV
open Go.RowKit Go.Proofs.YtgmpdjjoefkndaaGreatDoorW.PrintWords Go.Proofs.YtgmpdjjoefkndaaGreatDoorW.PrintLast Go.Proofs.YtgmpdjjoefkndaaGreatDoorW.PrintMore
attribute [local go_sem] max2_int min2_int max_two min_two max_three min_three max_four min_four
set_option linter.unusedVariables false
set_option linter.unusedSimpArgs false
end Go.Proofs.YtgmpdjjoefkndaaGreatDoor.XR

namespace Go.Proofs.YtgmpdjjoefkndaaGreatDoor.E
open Go.RowKit Go.Proofs.YtgmpdjjoefkndaaGreatDoorW.PrintWords Go.Proofs.YtgmpdjjoefkndaaGreatDoorW.PrintLast Go.Proofs.YtgmpdjjoefkndaaGreatDoor.XR
set_option linter.unusedVariables false
set_option linter.unusedSimpArgs false
def cutR:List UInt8→ByteArray→List ByteArray
 |[],last=>[last]
 |c::l,last=>if c=46 then last::cutR l ⟨#[]⟩ else cutR l (last++⟨#[c]⟩)
def starts:Nat→List UInt8→List Int
 |_,[]=>[]
 |i,c::l=>if c=46 then ((i+1:Nat):Int)::starts (i+1) l else starts (i+1) l
theorem data_append (a b:ByteArray):(a++b).data.toList=a.data.toList++b.data.toList:=by simp [ByteArray.append_eq,ByteArray.data_append]
theorem cutOn_at (c x:UInt8) (l:List UInt8):Pt.cutOn c (x::l)=if x=c then []::Pt.cutOn c l else match Pt.cutOn c l with
 |[]=>[[x]]
 |p::r=>(x::p)::r:=by rw [Pt.cutOn];rfl
theorem cutR_map: ∀ (l:List UInt8) (last:ByteArray),(cutR l last).map (·.data.toList)=match Pt.cutOn 46 l with|[]=>[last.data.toList]|p::r=>(last.data.toList++p)::r
 |[],last=>by simp [cutR,Pt.cutOn]
 |c::l,last=>by
  unfold cutR
  obtain ⟨p,r,e⟩:=Pt.cutOn_cons 46 l
  by_cases h:c=46
  ·rw [if_pos h,List.map_cons,cutR_map l ⟨#[]⟩,cutOn_at,if_pos h,e];simp
  ·rw [if_neg h,cutR_map l _,cutOn_at,if_neg h,e]
   simp only [data_append,List.append_assoc];rfl
theorem cutR_zero (l:List UInt8):(cutR l ⟨#[]⟩).map (·.data.toList)=Pt.cutOn 46 l:=by
 rw [cutR_map]
 obtain ⟨p,r,e⟩:=Pt.cutOn_cons 46 l
 rw [e];rfl
theorem starts_len: ∀ (l:List UInt8) (last:ByteArray) (i:Nat),(starts i l).length+1=(cutR l last).length
 |[],last,i=>rfl
 |c::l,last,i=>by
  unfold starts cutR
  split
  ·rw [List.length_cons,List.length_cons,starts_len l ⟨#[]⟩ (i+1)]
  ·exact starts_len l _ (i+1)
theorem extract_one (s:ByteArray) (i:Nat) (h:i<s.data.toList.length):s.extract i (i+1)=⟨#[s.data.toList[i]'h]⟩:=by
 apply ByteArray.ext
 rw [ByteArray.data_extract]
 apply Array.ext'
 rw [Array.toList_extract]
 simp only [List.extract_eq_take_drop,show i+1 - i=1 by omega]
 rw [List.drop_eq_getElem_cons h];rfl
theorem parts_loop (s:ByteArray) (hs:s.size≤253): ∀ (m k i:Nat) (pre:List ByteArray) (last:ByteArray) (at_:List Int),i+m=s.size→m<k→pre.length≤i→at_.length≤i+1→last.size≤i→
  sallyportref06_parts.l0 k s (pre++[last]) at_ (i:Int)=some (pre++cutR (s.data.toList.drop i) last,at_++starts i (s.data.toList.drop i))
 |0,k+1,i,pre,last,at_,hi,hk,hp,ha,hl=>by
  unfold sallyportref06_parts.l0
  rw [if_neg (by omega),List.drop_of_length_le (by rw [len_size];omega)]
  simp [cutR,starts]
 |m+1,k+1,i,pre,last,at_,hi,hk,hp,ha,hl=>by
  have hlt:i<s.data.toList.length:=by rw [len_size];omega
  have hw:wrap64 ((i:Int)+1)=((i+1:Nat):Int):=by rw [wrap64_id _ (by omega) (by omega)];omega
  have hx:=extract_one s i hlt
  unfold sallyportref06_parts.l0
  rw [if_pos (by omega),if_pos (by omega),bt_get s i hlt,hw,List.drop_eq_getElem_cons hlt]
  simp only [Int.toNat_natCast]
  rw [hx]
  generalize s.data.toList[i]=c
  unfold cutR starts
  by_cases h:c=46
  ·subst h
   rw [if_pos (by decide),if_pos rfl,if_pos rfl,if_pos (by rw [List.length_append,List.length_singleton];omega),if_pos (by omega),parts_loop s hs m k (i+1) (pre++[last]) ⟨#[]⟩ (at_++[((i+1:Nat):Int)]) (by omega) (by omega) (by rw [List.length_append,List.length_singleton];omega) (by rw [List.length_append,List.length_singleton];omega) (by show 0≤_;omega)]
   simp
  ·have hc: ¬ (c.toNat:Int)=46:=fun e=>h (UInt8.toNat_inj.1 (show c.toNat=(46:UInt8).toNat by show c.toNat=46;omega))
   have hn:wrap64 (((pre++[last]).length:Int) - 1)=(pre.length:Int):=by rw [List.length_append,List.length_singleton,wrap64_id _ (by omega) (by omega)];omega
   have hrd:rdOf ByteArray.empty (pre++[last]) (pre.length:Int)=last:=by
    unfold rdOf;rw [Int.toNat_natCast,List.getD_eq_getElem?_getD,List.getElem?_append_right (Nat.le_refl _)];simp
   have hset:(pre++[last]).set pre.length (last++⟨#[c]⟩)=pre++[last++⟨#[c]⟩]:=by
    rw [List.set_append_right _ _ (Nat.le_refl _)];simp
   have hsz:(last++(⟨#[c]⟩:ByteArray)).size=last.size+1:=by rw [ByteArray.size_append];rfl
   rw [if_neg hc,if_neg h,if_neg h,hn,if_pos (by omega),if_pos (by rw [List.length_append,List.length_singleton];omega),if_pos (by omega),if_pos (by omega),hrd,if_pos (by show last.size+1≤_;omega)]
   rw [Int.toNat_natCast,hset,parts_loop s hs m k (i+1) pre (last++⟨#[c]⟩) at_ (by omega) (by omega) (by omega) (by omega) (by rw [hsz];omega)]
theorem parts_f (s:ByteArray) (hs:s.size≤253) (k:Nat) (hk:s.size<k):sallyportref06_parts.f k s=some (cutR s.data.toList ⟨#[]⟩,0::starts 0 s.data.toList):=by
 unfold sallyportref06_parts.f
 have:=parts_loop s hs s.size k 0 [] ⟨#[]⟩ [0] (by omega) hk (by simp) (by simp) (by show 0≤0;omega)
 rw [List.drop_zero] at this
 exact this
def digs (p:ByteArray):Bool:=p.data.toList.all digR
theorem rdOf_at (l:List ByteArray) (k:Nat) (hk:k<l.length):rdOf ByteArray.empty l (k:Int)=l[k]:=by
 unfold rdOf
 rw [Int.toNat_natCast,List.getD_eq_getElem?_getD,List.getElem?_eq_getElem hk];rfl
theorem cutOn_low: ∀ l:List UInt8,Pt.cutOn 46 (l.map Lib.lowerB)=(Pt.cutOn 46 l).map (List.map Lib.lowerB)
 |[]=>rfl
 |c::l=>by
  have ih:=cutOn_low l
  obtain ⟨p,r,e⟩:=Pt.cutOn_cons 46 l
  rw [List.map_cons,cutOn_at,cutOn_at]
  by_cases h:c=46
  ·rw [if_pos h,if_pos ((dot_low c).2 h),ih];rfl
  ·rw [if_neg h,if_neg (fun h2=>h ((dot_low c).1 h2)),ih,e];rfl
theorem getLastD_map {α β:Type} (f:α→β) (l:List α) (d:α) (d':β) (h:l≠[]):(l.map f).getLastD d'=f (l.getLastD d):=by
 rw [List.getLastD_eq_getLast?,List.getLastD_eq_getLast?,List.getLast?_map]
 cases hq:l.getLast? with
 |none=>exact absurd (List.getLast?_eq_none_iff.1 hq) h
 |some x=>rfl
theorem low_size (s:ByteArray):(⟨(Lib.toLowerA s.data.toList).toArray⟩:ByteArray).size=s.size:=by
 show (Lib.toLowerA s.data.toList).toArray.size=_
 rw [List.size_toArray,Lib.toLowerA,List.length_map,Array.length_toList];rfl
end Go.Proofs.YtgmpdjjoefkndaaGreatDoor.E

namespace Go.Proofs.YtgmpdjjoefkndaaGreatDoor.E
open Go.RowKit Go.Proofs.YtgmpdjjoefkndaaGreatDoorW.PrintWords Go.Proofs.YtgmpdjjoefkndaaGreatDoorW.PrintLast Go.Proofs.YtgmpdjjoefkndaaGreatDoor.XR Go.Proofs.YtgmpdjjoefkndaaGreatDoor.XV
set_option linter.unusedVariables false
set_option linter.unusedSimpArgs false
def wholeV (l:List UInt8) (d:Nat):Int×Bool:=match Num.whole l d with|some n=>((n:Int),true)|none=>(0,false)
theorem fold_lt: ∀ (l:List UInt8) (a:Nat),l.all Num.dig=true→l.foldl (fun a c=>a*10+(c.toNat - 48)) a<(a+1)*10^l.length
 |[],a,_=>by simp
 |c::r,a,h=>by
  rw [List.all_cons,Bool.and_eq_true,Num.dig_iff] at h
  have ih:=fold_lt r (a*10+(c.toNat - 48)) h.2
  rw [List.foldl_cons,List.length_cons,Nat.pow_succ]
  refine Nat.lt_of_lt_of_le ih ?_
  rw [Nat.mul_comm (10^r.length) 10,← Nat.mul_assoc]
  exact Nat.mul_le_mul_right _ (by omega)
theorem val_lt (l:List UInt8) (h:l.all Num.dig=true):Num.val l<10^l.length:=by
 have:=fold_lt l 0 h
 rw [Nat.zero_add,Nat.one_mul] at this
 exact this
theorem whole_loop (s:ByteArray) (hs:s.size≤18): ∀ (m k i:Nat),i+m=s.size→m<k→(s.data.toList.take i).all Num.dig=true→
  sallyportbase_Whole.l0 k s (Num.val (s.data.toList.take i):Int) (i:Int)=some (if (s.data.toList.drop i).all Num.dig then ((Num.val s.data.toList:Int),true) else (0,false)):=by
 intro m
 induction m with
 |zero=>
  intro k i hi hk hall
  obtain ⟨k,rfl⟩: ∃ j,k=j+1:=⟨k - 1,by omega⟩
  have hl:=len_size s
  simp only [sallyportbase_Whole.l0]
  rw [if_neg (by omega),List.drop_of_length_le (by omega),List.take_of_length_le (by omega)]
  rfl
 |succ m ih=>
  intro k i hi hk hall
  obtain ⟨k,rfl⟩: ∃ j,k=j+1:=⟨k - 1,by omega⟩
  have hl:=len_size s
  have hlt:i<s.data.toList.length:=by omega
  have hb:=bt_get s i hlt
  have hd:=List.drop_eq_getElem_cons hlt
  have ht:s.data.toList.take (i+1)=s.data.toList.take i++[s.data.toList[i]]:=List.take_succ_eq_append_getElem hlt
  have hv:=val_lt _ hall
  have hv2:Num.val (s.data.toList.take i)<100000000000000000:=by
   have hp:(10:Nat)^(s.data.toList.take i).length≤10^17:=Nat.pow_le_pow_right (by decide) (by rw [List.length_take];omega)
   exact Nat.lt_of_lt_of_le hv (Nat.le_trans hp (by decide))
  clear hv
  generalize s.data.toList[i]=c at hb hd ht
  simp only [sallyportbase_Whole.l0]
  rw [if_pos (by omega),if_pos (by omega),hb,hd,List.all_cons]
  by_cases h1:c.toNat<48
  ·have hz:Num.dig c=false:=by rw [← Bool.not_eq_true,Num.dig_iff];omega
   rw [if_pos (by omega),hz];rfl
  ·rw [if_neg (by omega)]
   by_cases h2:57<c.toNat
   ·have hz:Num.dig c=false:=by rw [← Bool.not_eq_true,Num.dig_iff];omega
    rw [if_pos (by omega),hz];rfl
   ·have hz:Num.dig c=true:=by rw [Num.dig_iff];omega
    rw [if_neg (by omega),hz,Bool.true_and]
    have e1:wrap64 ((wrap64 ((Num.val (s.data.toList.take i):Int)*10))+(((c.toNat:Int) - 48) % 256))=((Num.val (s.data.toList.take (i+1)):Nat):Int):=by
     rw [ht,Num.val_snoc]
     generalize Num.val (s.data.toList.take i)=v at hv2
     rw [wrap64_id ((v:Int)*10) (by omega) (by omega),wrap64_id _ (by omega) (by omega)]
     omega
    have e2:wrap64 ((i:Int)+1)=((i+1:Nat):Int):=by rw [wrap64_id _ (by omega) (by omega)];omega
    rw [e1,e2]
    exact ih k (i+1) ((Nat.succ_add_eq_add_succ i m).trans hi) (Nat.lt_of_succ_lt_succ hk) (by rw [ht,List.all_append,hall,Bool.true_and];simpa using hz)
theorem whole_f (s:ByteArray) (d k:Nat) (hd:d≤18) (hk:21≤k):sallyportbase_Whole.f k s d=some (wholeV s.data.toList d):=by
 have hl:=len_size s
 have hj: ∀ b,(s.size≤d)→sallyportbase_Whole.j0 k s b=some (if b then (0,false) else if s.data.toList.all Num.dig then ((Num.val s.data.toList:Int),true) else (0,false)):=by
  intro b hs
  obtain ⟨k,rfl⟩: ∃ j,k=j+1:=⟨k - 1,by omega⟩
  simp only [sallyportbase_Whole.j0]
  cases b
  ·have:=whole_loop s (by omega) s.size k 0 (by omega) (by omega) (by rfl)
   simp only [Bool.false_eq_true,if_false]
   exact this
  ·rfl
 have hjt:sallyportbase_Whole.j0 k s true=some (0,false):=by
  obtain ⟨k,rfl⟩: ∃ j,k=j+1:=⟨k - 1,by omega⟩
  simp only [sallyportbase_Whole.j0,if_true]
 unfold sallyportbase_Whole.f wholeV Num.whole
 by_cases h0:s.data.toList=[]
 ·rw [if_pos (by rw [ByteArray.toList_eq];exact h0),hjt,if_pos (.inl h0)]
 ·rw [if_neg (by rw [ByteArray.toList_eq];exact h0)]
  have hpos:0<s.data.toList.length:=List.length_pos_iff.2 h0
  by_cases h1:d<s.data.toList.length
  ·rw [if_pos (by omega),hjt,if_pos (.inr (.inl h1))]
  ·rw [if_neg (by omega),if_neg (by omega)]
   by_cases h2:1<s.data.toList.length
   ·rw [if_pos (by omega),if_pos (by omega),hj _ (by omega)]
    have hb:=bt_get s 0 hpos
    have hh:s.data.toList.head?.map (·.toNat)=some (s.data.toList[0].toNat):=by
     rw [List.head?_eq_getElem?,List.getElem?_eq_getElem hpos];rfl
    rw [show bt s 0=((s.data.toList[0].toNat:Nat):Int) from hb]
    by_cases h3:s.data.toList[0].toNat=48
    ·rw [show (((s.data.toList[0].toNat:Nat):Int)==48)=true by rw [beq_iff_eq];omega,if_pos rfl]
     rw [if_pos (Or.inr (Or.inr ⟨h2,by rw [hh,h3]⟩))]
    ·rw [show (((s.data.toList[0].toNat:Nat):Int)==48)=false by rw [beq_eq_false_iff_ne];omega]
     simp only [Bool.false_eq_true,if_false]
     rw [if_neg (show ¬ (s.data.toList=[]∨d<s.data.toList.length∨(1<s.data.toList.length∧s.data.toList.head?.map (·.toNat)=some 48)) by rintro (h|h|⟨-,h⟩);exact h0 h;exact h1 h;rw [hh] at h;exact h3 (Option.some.inj h))]
     split<;>rfl
   ·rw [if_neg (by omega),hj _ (by omega)]
    simp only [Bool.false_eq_true,if_false]
    rw [if_neg (show ¬ (s.data.toList=[]∨d<s.data.toList.length∨(1<s.data.toList.length∧s.data.toList.head?.map (·.toNat)=some 48)) by rintro (h|h|⟨h,-⟩);exact h0 h;exact h1 h;exact h2 h)]
    split<;>rfl
end Go.Proofs.YtgmpdjjoefkndaaGreatDoor.E
