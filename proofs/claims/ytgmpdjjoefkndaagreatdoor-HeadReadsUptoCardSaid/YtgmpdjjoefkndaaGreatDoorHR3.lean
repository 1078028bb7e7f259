/- What the cards of this seat rest on: the walks and plain laws, part 3. -/
import Derived.Test.YtgmpdjjoefkndaaGreatDoorHR2

namespace Go.Proofs.YtgmpdjjoefkndaaGreatDoor.XRf
open Go.Proofs.YtgmpdjjoefkndaaGreatDoor.XZ Go.RowKit Go.Proofs.YtgmpdjjoefkndaaGreatDoorW.PrintWords Go.Proofs.YtgmpdjjoefkndaaGreatDoorW.PrintLast Go.Proofs.YtgmpdjjoefkndaaGreatDoorW.PrintMore
attribute [local go_sem] max2_int min2_int max_two min_two max_three min_three max_four min_four
set_option linter.unusedVariables false
set_option linter.unusedSimpArgs false
def sallyportref08_fault.f (a0:Int) (a1:Int):Option (Int×ByteArray×ByteArray×ByteArray×ByteArray×Int×Int×Int×Int×Int):=(E.Fail.f (⟨#[104,101,97,100]⟩:ByteArray) a0 a1).bind fun bt102=>(some (bt102.1,bt102.2.1,bt102.2.2.1,bt102.2.2.2.1,bt102.2.2.2.2.1,bt102.2.2.2.2.2.1,bt102.2.2.2.2.2.2.1,bt102.2.2.2.2.2.2.2.1,bt102.2.2.2.2.2.2.2.2.1,bt102.2.2.2.2.2.2.2.2.2))
set_option maxHeartbeats 8000000 in
set_option maxRecDepth 100000 in
theorem sallyportref08_fault.calls (a0:Int) (a1:Int) (r1:Int) (r2:ByteArray) (r3:ByteArray) (r4:ByteArray) (r5:ByteArray) (r6:Int) (r7:Int) (r8:Int) (r9:Int) (r10:Int) (w:World) (hS_:StdW w) (h:sallyportref08_fault.f a0 a1=some (r1,r2,r3,r4,r5,r6,r7,r8,r9,r10)):
  Calls Tryz.prog 46 #[.int .i64 a0,.int .i64 a1] w fun e w'=>e= .returned (.agg #[.int .i64 r1,.string r2,.string r3,.string r4,.string r5,.int .i64 r6,.int .i64 r7,.int .i64 r8,.int .i64 r9,.int .i64 r10])∧Below w.heap.size w w':=by
 have hu32:=Tryz.underlying32
 have HS_:=Aside0.mk hS_
 clear hS_
 have HB:=Aside0.mk (Below.refl w.heap.size w)
 have H:((E.Fail.f (⟨#[104,101,97,100]⟩:ByteArray) a0 a1).bind fun bt102=>(some (bt102.1,bt102.2.1,bt102.2.2.1,bt102.2.2.2.1,bt102.2.2.2.2.1,bt102.2.2.2.2.2.1,bt102.2.2.2.2.2.2.1,bt102.2.2.2.2.2.2.2.1,bt102.2.2.2.2.2.2.2.2.1,bt102.2.2.2.2.2.2.2.2.2)))=some (r1,r2,r3,r4,r5,r6,r7,r8,r9,r10):=h
 clear h
 replace H:=Option.bind_eq_some_iff.mp H
 obtain ⟨⟨t102,t103,t104,t105,t106,t107,t108,t109,t110,t111⟩,A30,H⟩:=H
 have A3:=Aside0.mk A30
 clear A30
 simp only [Option.some.injEq,Prod.mk.injEq] at H
 obtain ⟨rfl,rfl,rfl,rfl,rfl,rfl,rfl,rfl,rfl,rfl⟩:=H
 go_enter Tryz.func46,Tryz.ntmps46
 go_wp2_with (first|((with_reducible refine gate_dst (N:=4) rfl ?_);refine box_event ?hg (N:=4) ?hd (cs:= #[.int .i64 0,.string (⟨#[]⟩:ByteArray),.string (⟨#[]⟩:ByteArray),.string (⟨#[]⟩:ByteArray),.string (⟨#[]⟩:ByteArray),.int .i64 0,.int .i64 0,.int .i64 0,.int .i64 0,.int .i64 0]) (t:=32) ?hr ?_;(case hd=>rfl);(case hg=>rfl);(case hr=>first|(go_simp;done)|(go_simp;rfl));intro gb101 hg w4 hbox hb;have BK101:=Aside0.mk (hbox);have GW101:=Aside0.mk ((by rw [hg];exact (below_size (by repeat (with_reducible first|exact HB.out|apply below_alloc|apply pw_below_drewN|apply below_drew1))):w.heap.size≤gb101));have GE101:=Aside0.mk ((by rw [hg];exact (below_size (by repeat (with_reducible first|exact HB.out|apply below_alloc|apply pw_below_drewN|apply below_drew1))):w.heap.size≤gb101));replace HB:=Aside0.mk (below_step (by repeat (with_reducible first|exact HB.out|apply below_alloc|apply pw_below_drewN|apply below_drew1)) hb);clear hb hbox hg)|(go_at_call 68;(with_reducible refine (E.Fail.calls (⟨#[104,101,97,100]⟩:ByteArray) a0 a1 t102 t103 t104 t105 t106 t107 t108 t109 t110 t111 _ ?side1 A3.out).mono ?_);(case side1=>exact StdW.below HS_.out (by repeat (with_reducible first|exact HB.out|apply below_alloc|apply pw_below_drewN|apply below_drew1|refine below_set ?_ GE101.out)));rintro e w5 ⟨rfl,hb⟩;replace BK101:=Aside0.mk (blk_below (g:=gb101) (o:= .cells #[.int .i64 0,.string (⟨#[]⟩:ByteArray),.string (⟨#[]⟩:ByteArray),.string (⟨#[]⟩:ByteArray),.string (⟨#[]⟩:ByteArray),.int .i64 0,.int .i64 0,.int .i64 0,.int .i64 0,.int .i64 0] 32 (0,0)) (by exact BK101.out) hb);replace HB:=Aside0.mk (below_step (by repeat (with_reducible first|exact HB.out|apply below_alloc|apply pw_below_drewN|apply below_drew1|refine below_set ?_ GE101.out)) hb);clear hb;have hcz6_0:w5.cell? ⟨gb101,0,none⟩=some (.int .i64 0):=(blk_cell BK101.out 0).trans rfl;have hcz6_1:w5.cell? ⟨gb101,1,none⟩=some (.string (⟨#[]⟩:ByteArray)):=(blk_cell BK101.out 1).trans rfl;have hcz6_2:w5.cell? ⟨gb101,2,none⟩=some (.string (⟨#[]⟩:ByteArray)):=(blk_cell BK101.out 2).trans rfl;have hcz6_3:w5.cell? ⟨gb101,3,none⟩=some (.string (⟨#[]⟩:ByteArray)):=(blk_cell BK101.out 3).trans rfl;have hcz6_4:w5.cell? ⟨gb101,4,none⟩=some (.string (⟨#[]⟩:ByteArray)):=(blk_cell BK101.out 4).trans rfl;have hcz6_5:w5.cell? ⟨gb101,5,none⟩=some (.int .i64 0):=(blk_cell BK101.out 5).trans rfl;have hcz6_6:w5.cell? ⟨gb101,6,none⟩=some (.int .i64 0):=(blk_cell BK101.out 6).trans rfl;have hcz6_7:w5.cell? ⟨gb101,7,none⟩=some (.int .i64 0):=(blk_cell BK101.out 7).trans rfl;have hcz6_8:w5.cell? ⟨gb101,8,none⟩=some (.int .i64 0):=(blk_cell BK101.out 8).trans rfl;have hcz6_9:w5.cell? ⟨gb101,9,none⟩=some (.int .i64 0):=(blk_cell BK101.out 9).trans rfl;have hfz6_0:=blk_frozen BK101.out 0;have hfz6_1:=blk_frozen BK101.out 1;have hfz6_2:=blk_frozen BK101.out 2;have hfz6_3:=blk_frozen BK101.out 3;have hfz6_4:=blk_frozen BK101.out 4;have hfz6_5:=blk_frozen BK101.out 5;have hfz6_6:=blk_frozen BK101.out 6;have hfz6_7:=blk_frozen BK101.out 7;have hfz6_8:=blk_frozen BK101.out 8;have hfz6_9:=blk_frozen BK101.out 9))
 refine bodyPost_ret (results_cell_row rfl _ _ gb101 32 #[.int .i64 t102,.string t103,.string t104,.string t105,.string t106,.int .i64 t107,.int .i64 t108,.int .i64 t109,.int .i64 t110,.int .i64 t111] (0,0) _ rfl (by refine blk_put (cs:= #[.int .i64 t102,.string t103,.string t104,.string t105,.string t106,.int .i64 t107,.int .i64 t108,.int .i64 t109,.int .i64 t110,.int .i64 0]) ?_ 9 _ rfl;refine blk_put (cs:= #[.int .i64 t102,.string t103,.string t104,.string t105,.string t106,.int .i64 t107,.int .i64 t108,.int .i64 t109,.int .i64 0,.int .i64 0]) ?_ 8 _ rfl;refine blk_put (cs:= #[.int .i64 t102,.string t103,.string t104,.string t105,.string t106,.int .i64 t107,.int .i64 t108,.int .i64 0,.int .i64 0,.int .i64 0]) ?_ 7 _ rfl;refine blk_put (cs:= #[.int .i64 t102,.string t103,.string t104,.string t105,.string t106,.int .i64 t107,.int .i64 0,.int .i64 0,.int .i64 0,.int .i64 0]) ?_ 6 _ rfl;refine blk_put (cs:= #[.int .i64 t102,.string t103,.string t104,.string t105,.string t106,.int .i64 0,.int .i64 0,.int .i64 0,.int .i64 0,.int .i64 0]) ?_ 5 _ rfl;refine blk_put (cs:= #[.int .i64 t102,.string t103,.string t104,.string t105,.string (⟨#[]⟩:ByteArray),.int .i64 0,.int .i64 0,.int .i64 0,.int .i64 0,.int .i64 0]) ?_ 4 _ rfl;refine blk_put (cs:= #[.int .i64 t102,.string t103,.string t104,.string (⟨#[]⟩:ByteArray),.string (⟨#[]⟩:ByteArray),.int .i64 0,.int .i64 0,.int .i64 0,.int .i64 0,.int .i64 0]) ?_ 3 _ rfl;refine blk_put (cs:= #[.int .i64 t102,.string t103,.string (⟨#[]⟩:ByteArray),.string (⟨#[]⟩:ByteArray),.string (⟨#[]⟩:ByteArray),.int .i64 0,.int .i64 0,.int .i64 0,.int .i64 0,.int .i64 0]) ?_ 2 _ rfl;refine blk_put (cs:= #[.int .i64 t102,.string (⟨#[]⟩:ByteArray),.string (⟨#[]⟩:ByteArray),.string (⟨#[]⟩:ByteArray),.string (⟨#[]⟩:ByteArray),.int .i64 0,.int .i64 0,.int .i64 0,.int .i64 0,.int .i64 0]) ?_ 1 _ rfl;refine blk_put (cs:= #[.int .i64 0,.string (⟨#[]⟩:ByteArray),.string (⟨#[]⟩:ByteArray),.string (⟨#[]⟩:ByteArray),.string (⟨#[]⟩:ByteArray),.int .i64 0,.int .i64 0,.int .i64 0,.int .i64 0,.int .i64 0]) ?_ 0 _ rfl;exact BK101.out) Tryz.underlying32 rfl (by kernel_rfl)) rfl ?_
 exact ⟨rfl,by repeat (with_reducible first|exact HB.out|apply below_alloc|apply pw_below_drewN|apply below_drew1|refine below_set ?_ GE101.out)⟩
mutual
def sallyportref08_End.l0:Nat→List Int→Int→Int→Option (Int×Int×ByteArray×ByteArray×ByteArray×ByteArray×Int×Int×Int×Int×Int)
 |0,_,_,_=>none
 |k+1,x0,x4,x5=>if (wrap64 (x5+1))<(x0.length:Int) then (sallyportref08_End.j1 k x0 x4 x5 (decide ((wrap64 (x5+2))≤8192))) else (sallyportref08_End.j1 k x0 x4 x5 false)
def sallyportref08_End.j1:Nat→List Int→Int→Int→Bool→Option (Int×Int×ByteArray×ByteArray×ByteArray×ByteArray×Int×Int×Int×Int×Int)
 |0,_,_,_,_=>none
 |k+1,x0,x4,x5,x15=>if x15=true then (if 0≤x5 then (if x5<(x0.length:Int) then (if (rd x0 x5)=13 then (if 0≤(wrap64 (x5+1)) then (if (wrap64 (x5+1))<(x0.length:Int) then (sallyportref08_End.j2 k x0 x4 x5 ((rd x0 (wrap64 (x5+1))) !=10)) else (none)) else (none)) else (sallyportref08_End.j2 k x0 x4 x5 true)) else (none)) else (none)) else (if (x0.length:Int)≥8192 then ((sallyportref08_fault.f 8192 3).bind fun bt115=>(some (0,bt115.1,bt115.2.1,bt115.2.2.1,bt115.2.2.2.1,bt115.2.2.2.2.1,bt115.2.2.2.2.2.1,bt115.2.2.2.2.2.2.1,bt115.2.2.2.2.2.2.2.1,bt115.2.2.2.2.2.2.2.2.1,bt115.2.2.2.2.2.2.2.2.2))) else ((sallyportref08_fault.f (x0.length:Int) 6).bind fun bt125=>(some (0,bt125.1,bt125.2.1,bt125.2.2.1,bt125.2.2.2.1,bt125.2.2.2.2.1,bt125.2.2.2.2.2.1,bt125.2.2.2.2.2.2.1,bt125.2.2.2.2.2.2.2.1,bt125.2.2.2.2.2.2.2.2.1,bt125.2.2.2.2.2.2.2.2.2))))
def sallyportref08_End.j2:Nat→List Int→Int→Int→Bool→Option (Int×Int×ByteArray×ByteArray×ByteArray×ByteArray×Int×Int×Int×Int×Int)
 |0,_,_,_,_=>none
 |k+1,x0,x4,x5,x30=>if x30=true then (sallyportref08_End.l0 k x0 x4 (wrap64 (x5+1))) else (if x5=x4 then (some (wrap64 (x5+2),0,(⟨#[]⟩:ByteArray),(⟨#[]⟩:ByteArray),(⟨#[]⟩:ByteArray),(⟨#[]⟩:ByteArray),0,0,0,0,0)) else (sallyportref08_End.l0 k x0 (wrap64 (x5+2)) (wrap64 (x5+1))))
end
def sallyportref08_End.f (k:Nat) (l0:List Int):Option (Int×Int×ByteArray×ByteArray×ByteArray×ByteArray×Int×Int×Int×Int×Int):=sallyportref08_End.l0 k l0 0 0
set_option maxHeartbeats 8000000 in
set_option maxRecDepth 100000 in
theorem sallyportref08_End.calls (k:Nat) (A0:Option Addr) (c0:Nat) (l0:List Int) (r1:Int) (r2:Int) (r3:ByteArray) (r4:ByteArray) (r5:ByteArray) (r6:ByteArray) (r7:Int) (r8:Int) (r9:Int) (r10:Int) (r11:Int) (w:World) (hr0:Kd.C (Kd.int .u8) w A0 l0.length l0) (hc0:l0.length≤c0) (hS_:StdW w) (h:sallyportref08_End.f k l0=some (r1,r2,r3,r4,r5,r6,r7,r8,r9,r10,r11)):
  Calls Tryz.prog 11 #[.slice A0 l0.length c0] w fun e w'=>e= .returned (.tuple #[.int .i64 r1,.agg #[.int .i64 r2,.string r3,.string r4,.string r5,.string r6,.int .i64 r7,.int .i64 r8,.int .i64 r9,.int .i64 r10,.int .i64 r11]])∧Below w.heap.size w w':=by
 have hu32:=Tryz.underlying32
 have HR0:=Aside0.mk hr0
 have HC0:=Aside0.mk hc0
 clear hr0 hc0
 have HS_:=Aside0.mk hS_
 clear hS_
 have HB:=Aside0.mk (Below.refl w.heap.size w)
 have H:(sallyportref08_End.l0 k l0 0 0)=some (r1,r2,r3,r4,r5,r6,r7,r8,r9,r10,r11):=h
 clear h
 have H':=Aside0.mk H
 clear H
 go_enter Tryz.func11,Tryz.ntmps11
 go_wp2_with (first|((with_reducible refine gate_dst (N:=3) rfl ?_);refine box_event ?hg (N:=3) ?hd (cs:= #[.int .i64 0,.string (⟨#[]⟩:ByteArray),.string (⟨#[]⟩:ByteArray),.string (⟨#[]⟩:ByteArray),.string (⟨#[]⟩:ByteArray),.int .i64 0,.int .i64 0,.int .i64 0,.int .i64 0,.int .i64 0]) (t:=32) ?hr ?_;(case hd=>rfl);(case hg=>rfl);(case hr=>first|(go_simp;done)|(go_simp;rfl));intro gb112 hg w2 hbox hb;have BK112:=Aside0.mk (hbox);have GW112:=Aside0.mk ((by rw [hg];exact (below_size (by repeat (with_reducible first|exact HB.out|apply below_alloc|apply pw_below_drewN|apply below_drew1))):w.heap.size≤gb112));have GE112:=Aside0.mk ((by rw [hg];exact (below_size (by repeat (with_reducible first|exact HB.out|apply below_alloc|apply pw_below_drewN|apply below_drew1))):w.heap.size≤gb112));replace HB:=Aside0.mk (below_step (by repeat (with_reducible first|exact HB.out|apply below_alloc|apply pw_below_drewN|apply below_drew1)) hb);clear hb hbox hg))
 go_loopg [4,5] k (fun kq v4 v5 w'=> ∃ (x4_1:Int) (x5_1:Int) (x113000_1:Int) (x113001_1:ByteArray) (x113002_1:ByteArray) (x113003_1:ByteArray) (x113004_1:ByteArray) (x113005_1:Int) (x113006_1:Int) (x113007_1:Int) (x113008_1:Int) (x113009_1:Int),v4= .int .i64 x4_1∧v5= .int .i64 x5_1∧Aside0 (sallyportref08_End.l0 kq l0 x4_1 x5_1=some (r1,r2,r3,r4,r5,r6,r7,r8,r9,r10,r11))∧Aside0 (kq≤k)∧Aside0 (w'.heap[gb112]? =some (.cells #[.int .i64 x113000_1,.string x113001_1,.string x113002_1,.string x113003_1,.string x113004_1,.int .i64 x113005_1,.int .i64 x113006_1,.int .i64 x113007_1,.int .i64 x113008_1,.int .i64 x113009_1] 32 (0,0)))∧Aside0 (Below w.heap.size w w'))
 case atStart=>exact ⟨(0),(0),(0),((⟨#[]⟩:ByteArray)),((⟨#[]⟩:ByteArray)),((⟨#[]⟩:ByteArray)),((⟨#[]⟩:ByteArray)),(0),(0),(0),(0),(0),rfl,rfl,H',⟨Nat.le_refl _⟩,⟨by exact BK112.out⟩,⟨by repeat (with_reducible first|exact HB.out|apply below_alloc|apply pw_below_drewN|apply below_drew1|refine below_set ?_ GE112.out)⟩⟩
 case round=>
  clear H'
  try clear c1
  try clear p2
  obtain ⟨x4_1,x5_1,x113000_1,x113001_1,x113002_1,x113003_1,x113004_1,x113005_1,x113006_1,x113007_1,x113008_1,x113009_1,rfl,rfl,HA,HK1,BK112,HB⟩:=hrel
  cases gk with
  |zero=>exact absurd HA.out (by simp [sallyportref08_End.l0])
  |succ k1=>
   have H:=HA.out
   clear HA
   simp only [sallyportref08_End.l0] at H
   have HC3:=Aside0.mk H
   clear H
   go_upto_region 3 with (fail)
   go_cut [15] (fun v15 wc=> ∃ (kq:Nat) (x15_2:Bool),v15= .bool x15_2∧Aside0 (sallyportref08_End.j1 kq l0 x4_1 x5_1 x15_2=some (r1,r2,r3,r4,r5,r6,r7,r8,r9,r10,r11))∧Aside0 (kq≤k1)∧Aside0 (wc.heap[gb112]? =some (.cells #[.int .i64 x113000_1,.string x113001_1,.string x113002_1,.string x113003_1,.string x113004_1,.int .i64 x113005_1,.int .i64 x113006_1,.int .i64 x113007_1,.int .i64 x113008_1,.int .i64 x113009_1] 32 (0,0)))∧Aside0 (Below w.heap.size w wc))
   case first=>
    have H:=HC3.out
    clear HC3
    by_cases c4:(wrap64 (x5_1+1))<(l0.length:Int)
    ·rw [if_pos c4] at H
     have c4b0:=decide_eq_true c4
     clear c4
     (first|rw [c4b0]|(simp only [i64_w,i32_w];rw [c4b0])|skip)
     have H':=Aside0.mk H
     clear H
     go_wp2
     go_meet
     case rel=>exact ⟨_,(decide ((wrap64 (x5_1+2))≤8192)),rfl,H',⟨by have:=HK1.out;first|omega|exact Nat.le_refl _⟩,⟨by exact BK112.out⟩,⟨by repeat (with_reducible first|exact HB.out|apply below_alloc|apply pw_below_drewN|apply below_drew1|refine below_set ?_ GE112.out)⟩⟩
    ·rw [if_neg c4] at H
     have c4b0:=decide_eq_false c4
     clear c4
     (first|rw [c4b0]|(simp only [i64_w,i32_w];rw [c4b0])|skip)
     have H':=Aside0.mk H
     clear H
     go_wp2
     go_meet
     case rel=>exact ⟨_,(false),rfl,H',⟨by have:=HK1.out;first|omega|exact Nat.le_refl _⟩,⟨by exact BK112.out⟩,⟨by repeat (with_reducible first|exact HB.out|apply below_alloc|apply pw_below_drewN|apply below_drew1|refine below_set ?_ GE112.out)⟩⟩
   case rest=>
    clear HC3
    try clear c1
    try clear p2
    try clear c4
    try clear c4b0
    try clear p2
    obtain ⟨kq,x15_2,rfl,HA,HJ2,BK112,HB⟩:=hcut
    cases kq with
    |zero=>exact absurd HA.out (by simp [sallyportref08_End.j1])
    |succ kj2=>
     have H:=HA.out
     clear HA
     simp only [sallyportref08_End.j1] at H
     by_cases c5:x15_2=true
     ·subst c5
      have H1:(if 0≤x5_1 then (if x5_1<(l0.length:Int) then (if (rd l0 x5_1)=13 then (if 0≤(wrap64 (x5_1+1)) then (if (wrap64 (x5_1+1))<(l0.length:Int) then (sallyportref08_End.j2 kj2 l0 x4_1 x5_1 ((rd l0 (wrap64 (x5_1+1))) !=10)) else (none)) else (none)) else (sallyportref08_End.j2 kj2 l0 x4_1 x5_1 true)) else (none)) else (none))=some (r1,r2,r3,r4,r5,r6,r7,r8,r9,r10,r11):=by rw [if_pos rfl] at H;exact H
      clear H
      have H:=H1
      clear H1
      have HC6:=Aside0.mk H
      clear H
      go_upto_region 5 with (fail)
      go_cut [30] (fun v30 wc=> ∃ (kq:Nat) (x30_5:Bool),v30= .bool x30_5∧Aside0 (sallyportref08_End.j2 kq l0 x4_1 x5_1 x30_5=some (r1,r2,r3,r4,r5,r6,r7,r8,r9,r10,r11))∧Aside0 (kq≤kj2)∧Aside0 (wc.heap[gb112]? =some (.cells #[.int .i64 x113000_1,.string x113001_1,.string x113002_1,.string x113003_1,.string x113004_1,.int .i64 x113005_1,.int .i64 x113006_1,.int .i64 x113007_1,.int .i64 x113008_1,.int .i64 x113009_1] 32 (0,0)))∧Aside0 (Below w.heap.size w wc))
      case first=>
       have H:=HC6.out
       clear HC6
       by_cases c7:0≤x5_1
       ·rw [if_pos c7] at H
        have c7b0:=decide_eq_true c7
        clear c7
        (first|rw [c7b0]|(simp only [i64_w,i32_w];rw [c7b0])|skip)
        by_cases c8:x5_1<(l0.length:Int)
        ·rw [if_pos c8] at H
         have c8b0:=decide_eq_true c8
         clear c8
         by_cases c9:(rd l0 x5_1)=13
         ·rw [if_pos c9] at H
          have c9b0:=beq_iff_eq.mpr c9
          have c9b1:=bne_eq_false_iff_eq.mpr c9
          clear c9
          obtain ⟨ji10,hji10⟩: ∃ j_:Int,(wrap64 (x5_1+1))=j_:=⟨_,rfl⟩
          replace H:(if 0≤(ji10) then (if (ji10)<(l0.length:Int) then (sallyportref08_End.j2 kj2 l0 x4_1 x5_1 ((rd l0 (ji10)) !=10)) else (none)) else (none))=some (r1,r2,r3,r4,r5,r6,r7,r8,r9,r10,r11):=by first|(rw [hji10] at H;exact H)|(simp only [hji10] at H ⊢;exact H)
          have hji10w:(IntKind.i64.wrap (x5_1+1))=ji10:=(i64_w _).trans hji10
          by_cases c11:0≤(ji10)
          ·rw [if_pos c11] at H
           have c11b0:=decide_eq_true c11
           clear c11
           by_cases c12:(ji10)<(l0.length:Int)
           ·rw [if_pos c12] at H
            have c12b0:=decide_eq_true c12
            clear c12
            have H':=Aside0.mk H
            clear H
            have p113:0≤(x5_1:Int):=of_decide_eq_true (by assumption)
            have q113:x5_1<(l0.length:Int):=of_decide_eq_true (by assumption)
            obtain ⟨ad113,e113,hx113_0⟩:=Kd.at_int HR0.out x5_1 p113 q113
            cases e113
            replace hx113_0:=(HB.out.cell (World.block_lt_of_cell? w _ hx113_0)).trans hx113_0
            replace p113:=eq_true p113
            replace q113:=eq_true q113
            have p114:0≤((ji10):Int):=of_decide_eq_true (by assumption)
            have q114:(ji10)<(l0.length:Int):=of_decide_eq_true (by assumption)
            obtain ⟨ad114,e114,hx114_0⟩:=Kd.at_int HR0.out (ji10) p114 q114
            obtain rfl:ad113=ad114:=(by injection e114)
            replace hx114_0:=(HB.out.cell (World.block_lt_of_cell? w _ hx114_0)).trans hx114_0
            replace p114:=eq_true p114
            replace q114:=eq_true q114
            go_wp2
            go_meet
            case rel=>exact ⟨_,(((rd l0 (ji10)) !=10)),(by first|rfl|(simp;done)|(simp only [← hji10]<;>(first|rfl|simp))|(simp [*];done)),H',⟨by have:=HK1.out;have:=HJ2.out;first|omega|exact Nat.le_refl _⟩,⟨by exact BK112.out⟩,⟨by repeat (with_reducible first|exact HB.out|apply below_alloc|apply pw_below_drewN|apply below_drew1|refine below_set ?_ GE112.out)⟩⟩
           ·rw [if_neg c12] at H
            exact absurd H (by simp)
          ·rw [if_neg c11] at H
           exact absurd H (by simp)
         ·rw [if_neg c9] at H
          have c9b0:=beq_eq_false_iff_ne.mpr c9
          have c9b1:=bne_iff_ne.mpr c9
          have H':=Aside0.mk H
          clear H
          have p113:0≤(x5_1:Int):=of_decide_eq_true (by assumption)
          have q113:x5_1<(l0.length:Int):=of_decide_eq_true (by assumption)
          obtain ⟨ad113,e113,hx113_0⟩:=Kd.at_int HR0.out x5_1 p113 q113
          cases e113
          replace hx113_0:=(HB.out.cell (World.block_lt_of_cell? w _ hx113_0)).trans hx113_0
          replace p113:=eq_true p113
          replace q113:=eq_true q113
          go_wp2
          go_meet
          case rel=>exact ⟨_,(true),rfl,H',⟨by have:=HK1.out;have:=HJ2.out;first|omega|exact Nat.le_refl _⟩,⟨by exact BK112.out⟩,⟨by repeat (with_reducible first|exact HB.out|apply below_alloc|apply pw_below_drewN|apply below_drew1|refine below_set ?_ GE112.out)⟩⟩
        ·rw [if_neg c8] at H
         exact absurd H (by simp)
       ·rw [if_neg c7] at H
        exact absurd H (by simp)
      case rest=>
       clear HC6
       try clear c1
       try clear p1
       try clear q1
       try clear hx1
       try clear p2
       try clear c4
       try clear c4b0
       try clear c5
       try clear p6
       try clear c7
       try clear c7b0
       try clear c8
       try clear c8b0
       try clear c9
       try clear c9b0
       try clear c9b1
       try clear c11
       try clear c11b0
       try clear p11
       try clear q11
       try clear hx11
       try clear c12
       try clear c12b0
       try clear hx113_0
       try clear hx114_0
       try clear p113
       try clear p114
       try clear p2
       try clear q113
       try clear q114
       obtain ⟨kq,x30_5,rfl,HA,HJ5,BK112,HB⟩:=hcut
       cases kq with
       |zero=>exact absurd HA.out (by simp [sallyportref08_End.j2])
       |succ kj5=>
        have H:=HA.out
        clear HA
        simp only [sallyportref08_End.j2] at H
        by_cases c13:x30_5=true
        ·subst c13
         have H1:(sallyportref08_End.l0 kj5 l0 x4_1 (wrap64 (x5_1+1)))=some (r1,r2,r3,r4,r5,r6,r7,r8,r9,r10,r11):=by rw [if_pos rfl] at H;exact H
         clear H
         have H:=H1
         clear H1
         have H':=Aside0.mk H
         clear H
         go_wp2
         go_roundg kj5
         case measure=>have:=HK1.out;have:=HJ2.out;have:=HJ5.out;omega
         case rel=>exact ⟨(x4_1),(wrap64 (x5_1+1)),(x113000_1),(x113001_1),(x113002_1),(x113003_1),(x113004_1),(x113005_1),(x113006_1),(x113007_1),(x113008_1),(x113009_1),rfl,rfl,H',⟨by have:=HK1.out;have:=HJ2.out;have:=HJ5.out;omega⟩,⟨by exact BK112.out⟩,⟨by repeat (with_reducible first|exact HB.out|apply below_alloc|apply pw_below_drewN|apply below_drew1|refine below_set ?_ GE112.out)⟩⟩
        ·replace c13:=Bool.eq_false_iff.mpr c13
         subst c13
         have H1:(if x5_1=x4_1 then (some (wrap64 (x5_1+2),0,(⟨#[]⟩:ByteArray),(⟨#[]⟩:ByteArray),(⟨#[]⟩:ByteArray),(⟨#[]⟩:ByteArray),0,0,0,0,0)) else (sallyportref08_End.l0 kj5 l0 (wrap64 (x5_1+2)) (wrap64 (x5_1+1))))=some (r1,r2,r3,r4,r5,r6,r7,r8,r9,r10,r11):=by rw [if_neg (show ¬ (false=true) by decide)] at H;exact H
         clear H
         have H:=H1
         clear H1
         by_cases c14:x5_1=x4_1
         ·rw [if_pos c14] at H
          have c14b0:=beq_iff_eq.mpr c14
          have c14b1:=bne_eq_false_iff_eq.mpr c14
          clear c14
          simp only [Option.some.injEq,Prod.mk.injEq] at H
          obtain ⟨rfl,rfl,rfl,rfl,rfl,rfl,rfl,rfl,rfl,rfl,rfl⟩:=H
          have hcz15_0:wc.cell? ⟨gb112,0,none⟩=some (.int .i64 x113000_1):=(blk_cell BK112.out 0).trans rfl
          have hcz15_1:wc.cell? ⟨gb112,1,none⟩=some (.string x113001_1):=(blk_cell BK112.out 1).trans rfl
          have hcz15_2:wc.cell? ⟨gb112,2,none⟩=some (.string x113002_1):=(blk_cell BK112.out 2).trans rfl
          have hcz15_3:wc.cell? ⟨gb112,3,none⟩=some (.string x113003_1):=(blk_cell BK112.out 3).trans rfl
          have hcz15_4:wc.cell? ⟨gb112,4,none⟩=some (.string x113004_1):=(blk_cell BK112.out 4).trans rfl
          have hcz15_5:wc.cell? ⟨gb112,5,none⟩=some (.int .i64 x113005_1):=(blk_cell BK112.out 5).trans rfl
          have hcz15_6:wc.cell? ⟨gb112,6,none⟩=some (.int .i64 x113006_1):=(blk_cell BK112.out 6).trans rfl
          have hcz15_7:wc.cell? ⟨gb112,7,none⟩=some (.int .i64 x113007_1):=(blk_cell BK112.out 7).trans rfl
          have hcz15_8:wc.cell? ⟨gb112,8,none⟩=some (.int .i64 x113008_1):=(blk_cell BK112.out 8).trans rfl
          have hcz15_9:wc.cell? ⟨gb112,9,none⟩=some (.int .i64 x113009_1):=(blk_cell BK112.out 9).trans rfl
          have hfz15_0:=blk_frozen BK112.out 0
          have hfz15_1:=blk_frozen BK112.out 1
          have hfz15_2:=blk_frozen BK112.out 2
          have hfz15_3:=blk_frozen BK112.out 3
          have hfz15_4:=blk_frozen BK112.out 4
          have hfz15_5:=blk_frozen BK112.out 5
          have hfz15_6:=blk_frozen BK112.out 6
          have hfz15_7:=blk_frozen BK112.out 7
          have hfz15_8:=blk_frozen BK112.out 8
          have hfz15_9:=blk_frozen BK112.out 9
          go_wp2
          refine bodyPost_ret (results_tc rfl _ _ gb112 32 #[.int .i64 0,.string (⟨#[]⟩:ByteArray),.string (⟨#[]⟩:ByteArray),.string (⟨#[]⟩:ByteArray),.string (⟨#[]⟩:ByteArray),.int .i64 0,.int .i64 0,.int .i64 0,.int .i64 0,.int .i64 0] (0,0) _ rfl (by refine blk_put (cs:= #[.int .i64 0,.string (⟨#[]⟩:ByteArray),.string (⟨#[]⟩:ByteArray),.string (⟨#[]⟩:ByteArray),.string (⟨#[]⟩:ByteArray),.int .i64 0,.int .i64 0,.int .i64 0,.int .i64 0,.int .i64 x113009_1]) ?_ 9 _ rfl;refine blk_put (cs:= #[.int .i64 0,.string (⟨#[]⟩:ByteArray),.string (⟨#[]⟩:ByteArray),.string (⟨#[]⟩:ByteArray),.string (⟨#[]⟩:ByteArray),.int .i64 0,.int .i64 0,.int .i64 0,.int .i64 x113008_1,.int .i64 x113009_1]) ?_ 8 _ rfl;refine blk_put (cs:= #[.int .i64 0,.string (⟨#[]⟩:ByteArray),.string (⟨#[]⟩:ByteArray),.string (⟨#[]⟩:ByteArray),.string (⟨#[]⟩:ByteArray),.int .i64 0,.int .i64 0,.int .i64 x113007_1,.int .i64 x113008_1,.int .i64 x113009_1]) ?_ 7 _ rfl;refine blk_put (cs:= #[.int .i64 0,.string (⟨#[]⟩:ByteArray),.string (⟨#[]⟩:ByteArray),.string (⟨#[]⟩:ByteArray),.string (⟨#[]⟩:ByteArray),.int .i64 0,.int .i64 x113006_1,.int .i64 x113007_1,.int .i64 x113008_1,.int .i64 x113009_1]) ?_ 6 _ rfl;refine blk_put (cs:= #[.int .i64 0,.string (⟨#[]⟩:ByteArray),.string (⟨#[]⟩:ByteArray),.string (⟨#[]⟩:ByteArray),.string (⟨#[]⟩:ByteArray),.int .i64 x113005_1,.int .i64 x113006_1,.int .i64 x113007_1,.int .i64 x113008_1,.int .i64 x113009_1]) ?_ 5 _ rfl;refine blk_put (cs:= #[.int .i64 0,.string (⟨#[]⟩:ByteArray),.string (⟨#[]⟩:ByteArray),.string (⟨#[]⟩:ByteArray),.string x113004_1,.int .i64 x113005_1,.int .i64 x113006_1,.int .i64 x113007_1,.int .i64 x113008_1,.int .i64 x113009_1]) ?_ 4 _ rfl;refine blk_put (cs:= #[.int .i64 0,.string (⟨#[]⟩:ByteArray),.string (⟨#[]⟩:ByteArray),.string x113003_1,.string x113004_1,.int .i64 x113005_1,.int .i64 x113006_1,.int .i64 x113007_1,.int .i64 x113008_1,.int .i64 x113009_1]) ?_ 3 _ rfl;refine blk_put (cs:= #[.int .i64 0,.string (⟨#[]⟩:ByteArray),.string x113002_1,.string x113003_1,.string x113004_1,.int .i64 x113005_1,.int .i64 x113006_1,.int .i64 x113007_1,.int .i64 x113008_1,.int .i64 x113009_1]) ?_ 2 _ rfl;refine blk_put (cs:= #[.int .i64 0,.string x113001_1,.string x113002_1,.string x113003_1,.string x113004_1,.int .i64 x113005_1,.int .i64 x113006_1,.int .i64 x113007_1,.int .i64 x113008_1,.int .i64 x113009_1]) ?_ 1 _ rfl;refine blk_put (cs:= #[.int .i64 x113000_1,.string x113001_1,.string x113002_1,.string x113003_1,.string x113004_1,.int .i64 x113005_1,.int .i64 x113006_1,.int .i64 x113007_1,.int .i64 x113008_1,.int .i64 x113009_1]) ?_ 0 _ rfl;exact BK112.out) Tryz.underlying32 rfl (by kernel_rfl)) rfl ?_
          exact ⟨rfl,by repeat (with_reducible first|exact HB.out|apply below_alloc|apply pw_below_drewN|apply below_drew1|refine below_set ?_ GE112.out)⟩
         ·rw [if_neg c14] at H
          have c14b0:=beq_eq_false_iff_ne.mpr c14
          have c14b1:=bne_iff_ne.mpr c14
          have H':=Aside0.mk H
          clear H
          go_wp2
          go_roundg kj5
          case measure=>have:=HK1.out;have:=HJ2.out;have:=HJ5.out;omega
          case rel=>exact ⟨(wrap64 (x5_1+2)),(wrap64 (x5_1+1)),(x113000_1),(x113001_1),(x113002_1),(x113003_1),(x113004_1),(x113005_1),(x113006_1),(x113007_1),(x113008_1),(x113009_1),rfl,rfl,H',⟨by have:=HK1.out;have:=HJ2.out;have:=HJ5.out;omega⟩,⟨by exact BK112.out⟩,⟨by repeat (with_reducible first|exact HB.out|apply below_alloc|apply pw_below_drewN|apply below_drew1|refine below_set ?_ GE112.out)⟩⟩
     ·replace c5:=Bool.eq_false_iff.mpr c5
      subst c5
      have H1:(if (l0.length:Int)≥8192 then ((sallyportref08_fault.f 8192 3).bind fun bt115=>(some (0,bt115.1,bt115.2.1,bt115.2.2.1,bt115.2.2.2.1,bt115.2.2.2.2.1,bt115.2.2.2.2.2.1,bt115.2.2.2.2.2.2.1,bt115.2.2.2.2.2.2.2.1,bt115.2.2.2.2.2.2.2.2.1,bt115.2.2.2.2.2.2.2.2.2))) else ((sallyportref08_fault.f (l0.length:Int) 6).bind fun bt125=>(some (0,bt125.1,bt125.2.1,bt125.2.2.1,bt125.2.2.2.1,bt125.2.2.2.2.1,bt125.2.2.2.2.2.1,bt125.2.2.2.2.2.2.1,bt125.2.2.2.2.2.2.2.1,bt125.2.2.2.2.2.2.2.2.1,bt125.2.2.2.2.2.2.2.2.2))))=some (r1,r2,r3,r4,r5,r6,r7,r8,r9,r10,r11):=by rw [if_neg (show ¬ (false=true) by decide)] at H;exact H
      clear H
      have H:=H1
      clear H1
      by_cases c16:(l0.length:Int)≥8192
      ·rw [if_pos c16] at H
       have c16b0:=decide_eq_true c16
       have c16b1:decide (8192≤l0.length)=true:=decide_eq_true (by omega)
       clear c16
       replace H:=Option.bind_eq_some_iff.mp H
       obtain ⟨⟨t115,t116,t117,t118,t119,t120,t121,t122,t123,t124⟩,A170,H⟩:=H
       have A17:=Aside0.mk A170
       clear A170
       simp only [Option.some.injEq,Prod.mk.injEq] at H
       obtain ⟨rfl,rfl,rfl,rfl,rfl,rfl,rfl,rfl,rfl,rfl,rfl⟩:=H
       go_wp2_with (first|(go_at_call 46;(with_reducible refine (sallyportref08_fault.calls 8192 3 t115 t116 t117 t118 t119 t120 t121 t122 t123 t124 _ ?side1 A17.out).mono ?_);(case side1=>exact StdW.below HS_.out (by repeat (with_reducible first|exact HB.out|apply below_alloc|apply pw_below_drewN|apply below_drew1|refine below_set ?_ GE112.out)));rintro e w18 ⟨rfl,hb⟩;replace BK112:=Aside0.mk (blk_below (g:=gb112) (o:= .cells #[.int .i64 x113000_1,.string x113001_1,.string x113002_1,.string x113003_1,.string x113004_1,.int .i64 x113005_1,.int .i64 x113006_1,.int .i64 x113007_1,.int .i64 x113008_1,.int .i64 x113009_1] 32 (0,0)) (by exact BK112.out) hb);replace HB:=Aside0.mk (below_step (by repeat (with_reducible first|exact HB.out|apply below_alloc|apply pw_below_drewN|apply below_drew1|refine below_set ?_ GE112.out)) hb);clear hb;have hcz19_0:w18.cell? ⟨gb112,0,none⟩=some (.int .i64 x113000_1):=(blk_cell BK112.out 0).trans rfl;have hcz19_1:w18.cell? ⟨gb112,1,none⟩=some (.string x113001_1):=(blk_cell BK112.out 1).trans rfl;have hcz19_2:w18.cell? ⟨gb112,2,none⟩=some (.string x113002_1):=(blk_cell BK112.out 2).trans rfl;have hcz19_3:w18.cell? ⟨gb112,3,none⟩=some (.string x113003_1):=(blk_cell BK112.out 3).trans rfl;have hcz19_4:w18.cell? ⟨gb112,4,none⟩=some (.string x113004_1):=(blk_cell BK112.out 4).trans rfl;have hcz19_5:w18.cell? ⟨gb112,5,none⟩=some (.int .i64 x113005_1):=(blk_cell BK112.out 5).trans rfl;have hcz19_6:w18.cell? ⟨gb112,6,none⟩=some (.int .i64 x113006_1):=(blk_cell BK112.out 6).trans rfl;have hcz19_7:w18.cell? ⟨gb112,7,none⟩=some (.int .i64 x113007_1):=(blk_cell BK112.out 7).trans rfl;have hcz19_8:w18.cell? ⟨gb112,8,none⟩=some (.int .i64 x113008_1):=(blk_cell BK112.out 8).trans rfl;have hcz19_9:w18.cell? ⟨gb112,9,none⟩=some (.int .i64 x113009_1):=(blk_cell BK112.out 9).trans rfl;have hfz19_0:=blk_frozen BK112.out 0;have hfz19_1:=blk_frozen BK112.out 1;have hfz19_2:=blk_frozen BK112.out 2;have hfz19_3:=blk_frozen BK112.out 3;have hfz19_4:=blk_frozen BK112.out 4;have hfz19_5:=blk_frozen BK112.out 5;have hfz19_6:=blk_frozen BK112.out 6;have hfz19_7:=blk_frozen BK112.out 7;have hfz19_8:=blk_frozen BK112.out 8;have hfz19_9:=blk_frozen BK112.out 9))
       refine bodyPost_ret (results_tc rfl _ _ gb112 32 #[.int .i64 t115,.string t116,.string t117,.string t118,.string t119,.int .i64 t120,.int .i64 t121,.int .i64 t122,.int .i64 t123,.int .i64 t124] (0,0) _ rfl (by refine blk_put (cs:= #[.int .i64 t115,.string t116,.string t117,.string t118,.string t119,.int .i64 t120,.int .i64 t121,.int .i64 t122,.int .i64 t123,.int .i64 x113009_1]) ?_ 9 _ rfl;refine blk_put (cs:= #[.int .i64 t115,.string t116,.string t117,.string t118,.string t119,.int .i64 t120,.int .i64 t121,.int .i64 t122,.int .i64 x113008_1,.int .i64 x113009_1]) ?_ 8 _ rfl;refine blk_put (cs:= #[.int .i64 t115,.string t116,.string t117,.string t118,.string t119,.int .i64 t120,.int .i64 t121,.int .i64 x113007_1,.int .i64 x113008_1,.int .i64 x113009_1]) ?_ 7 _ rfl;refine blk_put (cs:= #[.int .i64 t115,.string t116,.string t117,.string t118,.string t119,.int .i64 t120,.int .i64 x113006_1,.int .i64 x113007_1,.int .i64 x113008_1,.int .i64 x113009_1]) ?_ 6 _ rfl;refine blk_put (cs:= #[.int .i64 t115,.string t116,.string t117,.string t118,.string t119,.int .i64 x113005_1,.int .i64 x113006_1,.int .i64 x113007_1,.int .i64 x113008_1,.int .i64 x113009_1]) ?_ 5 _ rfl;refine blk_put (cs:= #[.int .i64 t115,.string t116,.string t117,.string t118,.string x113004_1,.int .i64 x113005_1,.int .i64 x113006_1,.int .i64 x113007_1,.int .i64 x113008_1,.int .i64 x113009_1]) ?_ 4 _ rfl;refine blk_put (cs:= #[.int .i64 t115,.string t116,.string t117,.string x113003_1,.string x113004_1,.int .i64 x113005_1,.int .i64 x113006_1,.int .i64 x113007_1,.int .i64 x113008_1,.int .i64 x113009_1]) ?_ 3 _ rfl;refine blk_put (cs:= #[.int .i64 t115,.string t116,.string x113002_1,.string x113003_1,.string x113004_1,.int .i64 x113005_1,.int .i64 x113006_1,.int .i64 x113007_1,.int .i64 x113008_1,.int .i64 x113009_1]) ?_ 2 _ rfl;refine blk_put (cs:= #[.int .i64 t115,.string x113001_1,.string x113002_1,.string x113003_1,.string x113004_1,.int .i64 x113005_1,.int .i64 x113006_1,.int .i64 x113007_1,.int .i64 x113008_1,.int .i64 x113009_1]) ?_ 1 _ rfl;refine blk_put (cs:= #[.int .i64 x113000_1,.string x113001_1,.string x113002_1,.string x113003_1,.string x113004_1,.int .i64 x113005_1,.int .i64 x113006_1,.int .i64 x113007_1,.int .i64 x113008_1,.int .i64 x113009_1]) ?_ 0 _ rfl;exact BK112.out) Tryz.underlying32 rfl (by kernel_rfl)) rfl ?_
       exact ⟨rfl,by repeat (with_reducible first|exact HB.out|apply below_alloc|apply pw_below_drewN|apply below_drew1|refine below_set ?_ GE112.out)⟩
      ·rw [if_neg c16] at H
       have c16b0:=decide_eq_false c16
       have c16b1:decide (8192≤l0.length)=false:=decide_eq_false (by omega)
       clear c16
       replace H:=Option.bind_eq_some_iff.mp H
       obtain ⟨⟨t125,t126,t127,t128,t129,t130,t131,t132,t133,t134⟩,A200,H⟩:=H
       have A20:=Aside0.mk A200
       clear A200
       simp only [Option.some.injEq,Prod.mk.injEq] at H
       obtain ⟨rfl,rfl,rfl,rfl,rfl,rfl,rfl,rfl,rfl,rfl,rfl⟩:=H
       go_wp2_with (first|(go_at_call 46;(with_reducible refine (sallyportref08_fault.calls (l0.length:Int) 6 t125 t126 t127 t128 t129 t130 t131 t132 t133 t134 _ ?side1 A20.out).mono ?_);(case side1=>exact StdW.below HS_.out (by repeat (with_reducible first|exact HB.out|apply below_alloc|apply pw_below_drewN|apply below_drew1|refine below_set ?_ GE112.out)));rintro e w21 ⟨rfl,hb⟩;replace BK112:=Aside0.mk (blk_below (g:=gb112) (o:= .cells #[.int .i64 x113000_1,.string x113001_1,.string x113002_1,.string x113003_1,.string x113004_1,.int .i64 x113005_1,.int .i64 x113006_1,.int .i64 x113007_1,.int .i64 x113008_1,.int .i64 x113009_1] 32 (0,0)) (by exact BK112.out) hb);replace HB:=Aside0.mk (below_step (by repeat (with_reducible first|exact HB.out|apply below_alloc|apply pw_below_drewN|apply below_drew1|refine below_set ?_ GE112.out)) hb);clear hb;have hcz22_0:w21.cell? ⟨gb112,0,none⟩=some (.int .i64 x113000_1):=(blk_cell BK112.out 0).trans rfl;have hcz22_1:w21.cell? ⟨gb112,1,none⟩=some (.string x113001_1):=(blk_cell BK112.out 1).trans rfl;have hcz22_2:w21.cell? ⟨gb112,2,none⟩=some (.string x113002_1):=(blk_cell BK112.out 2).trans rfl;have hcz22_3:w21.cell? ⟨gb112,3,none⟩=some (.string x113003_1):=(blk_cell BK112.out 3).trans rfl;have hcz22_4:w21.cell? ⟨gb112,4,none⟩=some (.string x113004_1):=(blk_cell BK112.out 4).trans rfl;have hcz22_5:w21.cell? ⟨gb112,5,none⟩=some (.int .i64 x113005_1):=(blk_cell BK112.out 5).trans rfl;have hcz22_6:w21.cell? ⟨gb112,6,none⟩=some (.int .i64 x113006_1):=(blk_cell BK112.out 6).trans rfl;have hcz22_7:w21.cell? ⟨gb112,7,none⟩=some (.int .i64 x113007_1):=(blk_cell BK112.out 7).trans rfl;have hcz22_8:w21.cell? ⟨gb112,8,none⟩=some (.int .i64 x113008_1):=(blk_cell BK112.out 8).trans rfl;have hcz22_9:w21.cell? ⟨gb112,9,none⟩=some (.int .i64 x113009_1):=(blk_cell BK112.out 9).trans rfl;have hfz22_0:=blk_frozen BK112.out 0;have hfz22_1:=blk_frozen BK112.out 1;have hfz22_2:=blk_frozen BK112.out 2;have hfz22_3:=blk_frozen BK112.out 3;have hfz22_4:=blk_frozen BK112.out 4;have hfz22_5:=blk_frozen BK112.out 5;have hfz22_6:=blk_frozen BK112.out 6;have hfz22_7:=blk_frozen BK112.out 7;have hfz22_8:=blk_frozen BK112.out 8;have hfz22_9:=blk_frozen BK112.out 9))
       refine bodyPost_ret (results_tc rfl _ _ gb112 32 #[.int .i64 t125,.string t126,.string t127,.string t128,.string t129,.int .i64 t130,.int .i64 t131,.int .i64 t132,.int .i64 t133,.int .i64 t134] (0,0) _ rfl (by refine blk_put (cs:= #[.int .i64 t125,.string t126,.string t127,.string t128,.string t129,.int .i64 t130,.int .i64 t131,.int .i64 t132,.int .i64 t133,.int .i64 x113009_1]) ?_ 9 _ rfl;refine blk_put (cs:= #[.int .i64 t125,.string t126,.string t127,.string t128,.string t129,.int .i64 t130,.int .i64 t131,.int .i64 t132,.int .i64 x113008_1,.int .i64 x113009_1]) ?_ 8 _ rfl;refine blk_put (cs:= #[.int .i64 t125,.string t126,.string t127,.string t128,.string t129,.int .i64 t130,.int .i64 t131,.int .i64 x113007_1,.int .i64 x113008_1,.int .i64 x113009_1]) ?_ 7 _ rfl;refine blk_put (cs:= #[.int .i64 t125,.string t126,.string t127,.string t128,.string t129,.int .i64 t130,.int .i64 x113006_1,.int .i64 x113007_1,.int .i64 x113008_1,.int .i64 x113009_1]) ?_ 6 _ rfl;refine blk_put (cs:= #[.int .i64 t125,.string t126,.string t127,.string t128,.string t129,.int .i64 x113005_1,.int .i64 x113006_1,.int .i64 x113007_1,.int .i64 x113008_1,.int .i64 x113009_1]) ?_ 5 _ rfl;refine blk_put (cs:= #[.int .i64 t125,.string t126,.string t127,.string t128,.string x113004_1,.int .i64 x113005_1,.int .i64 x113006_1,.int .i64 x113007_1,.int .i64 x113008_1,.int .i64 x113009_1]) ?_ 4 _ rfl;refine blk_put (cs:= #[.int .i64 t125,.string t126,.string t127,.string x113003_1,.string x113004_1,.int .i64 x113005_1,.int .i64 x113006_1,.int .i64 x113007_1,.int .i64 x113008_1,.int .i64 x113009_1]) ?_ 3 _ rfl;refine blk_put (cs:= #[.int .i64 t125,.string t126,.string x113002_1,.string x113003_1,.string x113004_1,.int .i64 x113005_1,.int .i64 x113006_1,.int .i64 x113007_1,.int .i64 x113008_1,.int .i64 x113009_1]) ?_ 2 _ rfl;refine blk_put (cs:= #[.int .i64 t125,.string x113001_1,.string x113002_1,.string x113003_1,.string x113004_1,.int .i64 x113005_1,.int .i64 x113006_1,.int .i64 x113007_1,.int .i64 x113008_1,.int .i64 x113009_1]) ?_ 1 _ rfl;refine blk_put (cs:= #[.int .i64 x113000_1,.string x113001_1,.string x113002_1,.string x113003_1,.string x113004_1,.int .i64 x113005_1,.int .i64 x113006_1,.int .i64 x113007_1,.int .i64 x113008_1,.int .i64 x113009_1]) ?_ 0 _ rfl;exact BK112.out) Tryz.underlying32 rfl (by kernel_rfl)) rfl ?_
       exact ⟨rfl,by repeat (with_reducible first|exact HB.out|apply below_alloc|apply pw_below_drewN|apply below_drew1|refine below_set ?_ GE112.out)⟩
def sallyportref08_alone.f (k:Nat) (a0:ByteArray):Option (Bool):=(XZ.sallyportbase_Find.f k a0 (⟨#[13]⟩:ByteArray)).bind fun t135=>(if t135≥0 then (some true) else ((XZ.sallyportbase_Find.f k a0 (⟨#[10]⟩:ByteArray)).bind fun t136=>(some (decide (t136≥0)))))
set_option maxHeartbeats 8000000 in
set_option maxRecDepth 100000 in
theorem sallyportref08_alone.calls (k:Nat) (a0:ByteArray) (r:Bool) (w:World) (h:sallyportref08_alone.f k a0=some r):
  Calls Tryz.prog 58 #[.string a0] w fun e w'=>e= .returned (.bool r)∧Drawn0 w w':=by
 have H:((XZ.sallyportbase_Find.f k a0 (⟨#[13]⟩:ByteArray)).bind fun t135=>(if t135≥0 then (some true) else ((XZ.sallyportbase_Find.f k a0 (⟨#[10]⟩:ByteArray)).bind fun t136=>(some (decide (t136≥0))))))=some r:=h
 clear h
 replace H:=Option.bind_eq_some_iff.mp H
 obtain ⟨t135,A20,H⟩:=H
 have A2:=Aside0.mk A20
 clear A20
 by_cases c3:t135≥0
 ·rw [if_pos c3] at H
  have c3b0:=decide_eq_true c3
  clear c3
  obtain rfl:=Option.some.inj H
  go_enter Tryz.func58,Tryz.ntmps58
  go_wp2_with (first|(go_at_call 102;(with_reducible refine (XZ.sallyportbase_Find.calls k a0 (⟨#[13]⟩:ByteArray) t135 _ A2.out).mono ?_);rintro e w' ⟨rfl,⟨nd,rfl⟩⟩))
  go_ret
  exact ⟨by first|rfl|(simp;done)|(simp [*];done),by repeat (first|exact Drawn0.refl _|apply Drawn0.step)⟩
 ·rw [if_neg c3] at H
  have c3b0:=decide_eq_false c3
  clear c3
  replace H:=Option.bind_eq_some_iff.mp H
  obtain ⟨t136,A40,H⟩:=H
  have A4:=Aside0.mk A40
  clear A40
  obtain rfl:=Option.some.inj H
  go_enter Tryz.func58,Tryz.ntmps58
  go_wp2_with (first|(go_at_call 102;(with_reducible refine (XZ.sallyportbase_Find.calls k a0 (⟨#[13]⟩:ByteArray) t135 _ A2.out).mono ?_);rintro e w' ⟨rfl,⟨nd,rfl⟩⟩)|(go_at_call 102;(with_reducible refine (XZ.sallyportbase_Find.calls k a0 (⟨#[10]⟩:ByteArray) t136 _ A4.out).mono ?_);rintro e w' ⟨rfl,⟨nd,rfl⟩⟩))
  go_ret
  exact ⟨by first|rfl|(simp;done)|(simp [*];done),by repeat (first|exact Drawn0.refl _|apply Drawn0.step)⟩
def sallyportref08_version.f (a0:ByteArray):Option (Bool):=if a0.toList=([72,84,84,80,47,49,46,49]:List UInt8) then (some true) else (some (a0.toList==([72,84,84,80,47,49,46,48]:List UInt8)))
set_option maxHeartbeats 8000000 in
set_option maxRecDepth 100000 in
theorem sallyportref08_version.calls (a0:ByteArray) (r:Bool) (w:World) (h:sallyportref08_version.f a0=some r):
  Calls Tryz.prog 59 #[.string a0] w fun e w'=>e= .returned (.bool r)∧Drawn0 w w':=by
 have H:(if a0.toList=([72,84,84,80,47,49,46,49]:List UInt8) then (some true) else (some (a0.toList==([72,84,84,80,47,49,46,48]:List UInt8))))=some r:=h
 clear h
 by_cases c2:a0.toList=([72,84,84,80,47,49,46,49]:List UInt8)
 ·rw [if_pos c2] at H
  have c2b0:=beq_iff_eq.mpr c2
  have c2b1:=bne_eq_false_iff_eq.mpr c2
  clear c2
  obtain rfl:=Option.some.inj H
  go_enter Tryz.func59,Tryz.ntmps59
  go_wp2
  go_ret
  exact ⟨by first|rfl|(simp;done)|(simp [*];done),by repeat (first|exact Drawn0.refl _|apply Drawn0.step)⟩
 ·rw [if_neg c2] at H
  have c2b0:=beq_eq_false_iff_ne.mpr c2
  have c2b1:=bne_iff_ne.mpr c2
  obtain rfl:=Option.some.inj H
  go_enter Tryz.func59,Tryz.ntmps59
  go_wp2
  go_ret
  exact ⟨by first|rfl|(simp;done)|(simp [*];done),by repeat (first|exact Drawn0.refl _|apply Drawn0.step)⟩
end Go.Proofs.YtgmpdjjoefkndaaGreatDoor.XRf
