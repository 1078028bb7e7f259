/- What the cards of this seat rest on: the walks and plain laws, part 16. -/
import Derived.Test.YtgmpdjjoefkndaaGreatDoorHR13
import Derived.Test.YtgmpdjjoefkndaaGreatDoorHR2
import Derived.Deep.RegionHeld3
import Derived.IntWalk

namespace Go.Proofs.YtgmpdjjoefkndaaGreatDoor.E
open Go.RowKit Go.Proofs.YtgmpdjjoefkndaaGreatDoorW.PrintWords Go.Proofs.YtgmpdjjoefkndaaGreatDoorW.PrintLast Go.Proofs.YtgmpdjjoefkndaaGreatDoor.XK
set_option linter.unusedVariables false
set_option linter.unusedSimpArgs false
set_option maxRecDepth 100000 in
set_option maxHeartbeats 8000000 in
theorem rr_ok (A:Addr) (n c:Nat) (mm:Nat) (hm0:(0:Int)≤(mm:Int)) (hm1:(mm:Int)≤(c:Int)) (S:ByteArray) (L:List ByteArray) (ats:List Int) (w:World) (HEN0:CEn A n c mm w) (KC0:CKc A mm c S w) (HLI0:CLi S L ats w) (hL:((L.length:Int)==0)=false) (hLP:(0:Int)<(L.length:Int)) (l:ByteArray) (HL000:rdOf ByteArray.empty L 0=l) (p0 p1 p2:ByteArray) (HCU0:CCu 99 l [p0,p1,p2]) (HAL0:CBo 58 l false) (HVE0:CBo 59 p2 true) (HTK0:CBo 60 p0 true) (Lr:List ByteArray) (ar:List Int) (ats0:Int) (fs:List S71) (HLR0:L=l::Lr) (HAR0:ats=ats0::ar) (x0 x1 x2 x3:Int) (nm:ByteArray) (po:Int) (q:ByteArray) (hz:p0.size≤100000) (HTG0: ∀ W,StdW W→Calls Tryz.prog 61 #[.string p0,.string p1,.int .i64 ((p0.size:Int)+1)] W fun e w'=>e= .returned (.tuple #[.agg #[.int .u8 x0,.int .u8 x1,.int .u8 x2,.int .u8 x3,.string nm,.int .i64 po],.string q,.agg #[.int .i64 0,.string ⟨#[]⟩,.string ⟨#[]⟩,.string ⟨#[]⟩,.string ⟨#[]⟩,.int .i64 0,.int .i64 0,.int .i64 0,.int .i64 0,.int .i64 0]])∧Below W.heap.size W w') (HFL0: ∀ W B0 d0 B1 d1,StdW W→Kd.C Kd.string W B0 Lr.length Lr→Lr.length≤d0→Kd.C (Kd.int .i64) W B1 ar.length ar→ar.length≤d1→Calls Tryz.prog 62 #[.slice B0 Lr.length d0,.slice B1 ar.length d1] W fun e w'=> ∃ v_,e= .returned (.tuple #[v_,.agg #[.int .i64 0,.string ⟨#[]⟩,.string ⟨#[]⟩,.string ⟨#[]⟩,.string ⟨#[]⟩,.int .i64 0,.int .i64 0,.int .i64 0,.int .i64 0,.int .i64 0]])∧Kd.R k71 71 w' W.heap.size (fun _=>True) v_ fs∧Below W.heap.size W w') (hS:StdW w):
  Calls Tryz.prog 14 #[.slice (some A) n c] w fun e w'=> ∃ v0_:Value,e= .returned (.tuple #[.agg #[.string p0,.int .u8 x0,.int .u8 x1,.int .u8 x2,.int .u8 x3,.string nm,.int .i64 po,.string q,v0_],.int .i64 (mm:Int),.agg #[.int .i64 0,.string ⟨#[]⟩,.string ⟨#[]⟩,.string ⟨#[]⟩,.string ⟨#[]⟩,.int .i64 0,.int .i64 0,.int .i64 0,.int .i64 0,.int .i64 0]])∧Kd.R k71 71 w' w.heap.size (fun k=>w.heap.size≤k) v0_ fs∧Below w.heap.size w w':=by
 have HS:=Lib.hid hS
 have HEN:=Lib.hid HEN0
 have KC:=Lib.hid KC0
 have HLI:=Lib.hid HLI0
 have HL00:=Lib.hid HL000
 have HCU:=Lib.hid HCU0
 clear HEN0 KC0 HLI0 HL000 HCU0
 have HAL:=Lib.hid HAL0
 have HVE:=Lib.hid HVE0
 have HTK:=Lib.hid HTK0
 have HTG:=Lib.hid HTG0
 have HFL:=Lib.hid HFL0
 have HLR:=Lib.hid HLR0
 have HAR:=Lib.hid HAR0
 clear HAL0 HVE0 HTK0 HTG0 HFL0 HLR0 HAR0
 clear hS
 have HA:=Lib.hid ((Blk.new w rqZ 44).old (.cells zX 32))
 have HB:Hid (Blk ((w.alloc (.cells rqZ 44)).alloc (.cells zX 32)) (w.heap.size+1) zX 32):=Lib.hid (by have:=Blk.new (w.alloc (.cells rqZ 44)) zX 32;rwa [World.size_alloc] at this)
 have HW:=Lib.hid (below_alloc (below_alloc (Below.refl w.heap.size w) (.cells rqZ 44)) (.cells zX 32))
 have hne1:w.heap.size≠w.heap.size+1:=by omega
 have hne2:=hne1.symm
 unfold rqZ rqC zX bad3 at HA HB HW
 go_enter Tryz.func14,Tryz.ntmps14
 go_wp2_with (first|(go_at_call 11;(with_reducible refine (HEN.out _ HW.out).mono ?_);rintro e wn ⟨rfl,hb⟩;have HA:=Lib.hid (HA.out.below hb);have HB:=Lib.hid (HB.out.below hb);have HW:=Lib.hid (below_then HW.out HW.out.size hb);clear hb;have kc:=KC.out _ (below_alloc HW.out (.cells #[.int .i64 0,.string ⟨#[]⟩,.string ⟨#[]⟩,.string ⟨#[]⟩,.string ⟨#[]⟩,.int .i64 0,.int .i64 0,.int .i64 0,.int .i64 0,.int .i64 0] 32)))|(go_at_call 56;(with_reducible refine (HLI.out _ (below_alloc HW.out _)).mono ?_);rintro e wl ⟨vv0,vv1,rfl,hv0,hv1,hb⟩;obtain ⟨A0,c0,rfl,hl0,hC0⟩:=Kd.R_reads hv0;obtain ⟨A1,c1,rfl,hl1,hC1⟩:=Kd.R_reads hv1;clear hv0 hv1;have HPX:=Lib.hid HA.out.lt;have HRX:=Lib.hid HB.out.lt;have HA:=Lib.hid ((HA.out.old _).below hb);have HB:=Lib.hid ((HB.out.old _).below hb);have HX:=Lib.hid ((Blk.new wn #[.int .i64 0,.string ⟨#[]⟩,.string ⟨#[]⟩,.string ⟨#[]⟩,.string ⟨#[]⟩,.int .i64 0,.int .i64 0,.int .i64 0,.int .i64 0,.int .i64 0] 32).below hb);have HW:=Lib.hid (below_then (below_alloc HW.out _) (below_alloc HW.out _).size hb);have HC0:=Lib.hid hC0;have HC1:=Lib.hid hC1;have HL0:=Lib.hid hl0;have HL1:=Lib.hid hl1;clear hb hC0 hC1 hl0 hl1 kc;obtain ⟨ad,hadE,hcell0⟩:=Kd.at_string HC0.out 0 (Int.le_refl _) hLP;subst hadE;rw [HL00.out] at hcell0;rw [add0] at hcell0;have hcell:=hcell0;clear hcell0)|(go_at_call 57;(with_reducible refine (HCU.out _).mono ?_);rintro e wl ⟨vv,rfl,hv,hb⟩;obtain ⟨A2,c2,rfl,hl2,hC2⟩:=Kd.R_reads hv;have hxlt:=HX.out.lt;have HA:=Lib.hid (HA.out.below hb);have HB:=Lib.hid (HB.out.below hb);have HX:=Lib.hid (HX.out.below hb);have HC0:=Lib.hid (Kd.C_below HC0.out hb);have HC1:=Lib.hid (Kd.C_below HC1.out hb);have HW:=Lib.hid (below_then HW.out HW.out.size hb);have HC2:=Lib.hid hC2;have hcell:=pw_cell_below hb hcell;clear hb hl2 hC2;obtain ⟨pd,hpE,hq0⟩:=Kd.at_string HC2.out 0 (by decide) (show (0:Int)<((3:Nat):Int) by decide);subst hpE;obtain ⟨_,hpE,hq1⟩:=Kd.at_string HC2.out 1 (by decide) (show (1:Int)<((3:Nat):Int) by decide);cases hpE;obtain ⟨_,hpE,hq2⟩:=Kd.at_string HC2.out 2 (by decide) (show (2:Int)<((3:Nat):Int) by decide);cases hpE;rw [add0] at hq0;have e0:wl.cell? pd=some (.string p0):=hq0;have e1:wl.cell? ⟨pd.block,pd.off+1,none⟩=some (.string p1):=hq1;have e2:wl.cell? ⟨pd.block,pd.off+2,none⟩=some (.string p2):=hq2;clear hq0 hq1 hq2;have hpdx:pd.block≠wn.heap.size:=Nat.ne_of_gt (Nat.lt_of_lt_of_le hxlt (R_block hv));clear hv hxlt)|(go_at_call 58;(with_reducible refine (HAL.out _).mono ?_);rintro e wl ⟨rfl,hb⟩;have HA:=Lib.hid (HA.out.below hb);have HB:=Lib.hid (HB.out.below hb);have HX:=Lib.hid (HX.out.below hb);have HC0:=Lib.hid (Kd.C_below HC0.out hb);have HC1:=Lib.hid (Kd.C_below HC1.out hb);have HW:=Lib.hid (below_then HW.out HW.out.size hb);have hcell:=pw_cell_below hb hcell;have HC2:=Lib.hid (Kd.C_below HC2.out hb);have e0:=pw_cell_below hb e0;have e1:=pw_cell_below hb e1;have e2:=pw_cell_below hb e2;clear hb)|(go_at_call 59;(with_reducible refine (HVE.out _).mono ?_);rintro e wl ⟨rfl,hb⟩;have HA:=Lib.hid (HA.out.below hb);have HB:=Lib.hid (HB.out.below hb);have HX:=Lib.hid (HX.out.below hb);have HC0:=Lib.hid (Kd.C_below HC0.out hb);have HC1:=Lib.hid (Kd.C_below HC1.out hb);have HW:=Lib.hid (below_then HW.out HW.out.size hb);have hcell:=pw_cell_below hb hcell;have HC2:=Lib.hid (Kd.C_below HC2.out hb);have e0:=pw_cell_below hb e0;have e1:=pw_cell_below hb e1;have e2:=pw_cell_below hb e2;clear hb)|(go_at_call 60;(with_reducible refine (HTK.out _).mono ?_);rintro e wl ⟨rfl,hb⟩;have HA:=Lib.hid (HA.out.below hb);have HB:=Lib.hid (HB.out.below hb);have HX:=Lib.hid (HX.out.below hb);have HC0:=Lib.hid (Kd.C_below HC0.out hb);have HC1:=Lib.hid (Kd.C_below HC1.out hb);have HW:=Lib.hid (below_then HW.out HW.out.size hb);have hcell:=pw_cell_below hb hcell;have HC2:=Lib.hid (Kd.C_below HC2.out hb);have e0:=pw_cell_below hb e0;have e1:=pw_cell_below hb e1;have e2:=pw_cell_below hb e2;clear hb))
 have hPD:w.heap.size≠wl.heap.size:=Nat.ne_of_lt HA.out.lt
 have hRD:w.heap.size+1≠wl.heap.size:=Nat.ne_of_lt HB.out.lt
 have e0v:=e0
 have hwr:IntKind.i64.wrap ((p0.size:Int)+1)=(p0.size:Int)+1:=IntWalk.i64_in _ (by omega)
 have hwr0:wrap64 ((p0.size:Int)+1)=(p0.size:Int)+1:=by unfold wrap64;omega
 have hp1:(0:Int)≤(p0.size:Int)+1:=by omega
 have hne0:pd.block≠wl.heap.size:=Nat.ne_of_lt (World.block_lt_of_cell? _ _ e0)
 have hne0s:=hne0.symm
 have hpdxs:=hpdx.symm
 have hX0:=HX.out
 have hXW:=hX0.lt
 have hxd:wn.heap.size≠wl.heap.size:=Nat.ne_of_lt hXW
 have hxd2:=hxd.symm
 go_region_held3 (fun w'=>w'.cell? pd=some (.string p0)∧w'.cell? ⟨pd.block,pd.off+1,none⟩=some (.string p1)) (first|(simp only [World.cell?_drew,e0,e1,and_self];done)|(simp only [World.cell?_drew,World.cell?_alloc_some,World.cell?_setCell_far,e0,e1,Option.isSome_some,ne_eq,not_false_eq_true,and_self,hne0,hpdx,hne0s,hpdxs];done)) ((first|(go_at_call 61;(with_reducible refine (HTG.out _ (StdW.below HS.out (below_drew1 HW.out))).mono ?_);rintro e wm ⟨rfl,hbd⟩;have hb:=below_of_drew hbd;have hX:=hX0.below hb;have hXl:=hX.lt;obtain ⟨y0,y1,y2,y3,y4,y5,y6,y7,y8,y9,w0,w1,w2,w3,w4,w5,w6,w7,w8,w9⟩:=(show Blk _ _ zX _ from hX).ten;obtain ⟨i0,i1,i2,i3,i4,i5,i6,i7,i8,i9⟩:=(show Blk _ _ zX _ from hX).tenid;have e0:=pw_cell_below hb e0;have e1:=pw_cell_below hb e1)|(go_at_call 61;(with_reducible refine (HTG.out _ (StdW.below HS.out (below_drew1 (below_alloc HW.out _)))).mono ?_);rintro e wm ⟨rfl,hbd⟩;have hb:=below_of_drew hbd;have hX:=(hX0.old _).below hb;have hXl:=hX.lt;have hD:=(Blk.new wl #[.int .u8 0,.int .u8 0,.int .u8 0,.int .u8 0,.string ⟨#[]⟩,.int .i64 0] 41).below hb;obtain ⟨y0,y1,y2,y3,y4,y5,y6,y7,y8,y9,w0,w1,w2,w3,w4,w5,w6,w7,w8,w9⟩:=(show Blk _ _ zX _ from hX).ten;have hX6:=Blk.oth6 x0 x1 x2 x3 nm po hxd (show Blk _ _ zX _ from hX);unfold set6 at hX6;obtain ⟨i0,i1,i2,i3,i4,i5,i6,i7,i8,i9⟩:=hX6.tenid;obtain ⟨m0,m1,m2,m3,m4,m5,g0,g1,g2,g3,g4,g5,-⟩:=(show Blk _ _ (dC 0 0 0 0 ⟨#[]⟩ 0) _ from hD).dids;have e0:=pw_cell_below hb (pw_cell_below (below_alloc (Below.refl wl.heap.size wl) _) e0);have e1:=pw_cell_below hb (pw_cell_below (below_alloc (Below.refl wl.heap.size wl) _) e1))))
 ·have hA7:=(HA.out.below hb).old (.cells #[.int .u8 x0,.int .u8 x1,.int .u8 x2,.int .u8 x3,.string nm,.int .i64 po] 41)
  have hB7:=(HB.out.below hb).old (.cells #[.int .u8 x0,.int .u8 x1,.int .u8 x2,.int .u8 x3,.string nm,.int .i64 po] 41)
  have hX7:=(show Blk _ _ zX _ from hX).old (.cells #[.int .u8 x0,.int .u8 x1,.int .u8 x2,.int .u8 x3,.string nm,.int .i64 po] 41)
  have hD7:Blk (wm.alloc (.cells #[.int .u8 x0,.int .u8 x1,.int .u8 x2,.int .u8 x3,.string nm,.int .i64 po] 41)) wm.heap.size (dC x0 x1 x2 x3 nm po) 41:=Blk.new wm (dC x0 x1 x2 x3 nm po) _
  have hw7:=below_alloc (below_then HW.out HW.out.size hb) (.cells #[.int .u8 x0,.int .u8 x1,.int .u8 x2,.int .u8 x3,.string nm,.int .i64 po] 41)
  have hbb:=below_then (Below.refl wl.heap.size wl) (Nat.le_refl _) hb
  have hC7:=Kd.C_below (Kd.C_below HC0.out hb) (below_alloc (Below.refl wm.heap.size wm) (.cells #[.int .u8 x0,.int .u8 x1,.int .u8 x2,.int .u8 x3,.string nm,.int .i64 po] 41))
  have hC8:=Kd.C_below (Kd.C_below HC1.out hb) (below_alloc (Below.refl wm.heap.size wm) (.cells #[.int .u8 x0,.int .u8 x1,.int .u8 x2,.int .u8 x3,.string nm,.int .i64 po] 41))
  have e0:=pw_cell_below (below_alloc (Below.refl wm.heap.size wm) (.cells #[.int .u8 x0,.int .u8 x1,.int .u8 x2,.int .u8 x3,.string nm,.int .i64 po] 41)) e0
  generalize (wm.alloc (.cells #[.int .u8 x0,.int .u8 x1,.int .u8 x2,.int .u8 x3,.string nm,.int .i64 po] 41))=W7 at hA7 hB7 hX7 hD7 hw7 hC7 hC8 e0 ⊢
  clear y0 y1 y2 y3 y4 y5 y6 y7 y8 y9 w0 w1 w2 w3 w4 w5 w6 w7 w8 w9 i0 i1 i2 i3 i4 i5 i6 i7 i8 i9 hXl hX hX0 HX HA HB HW HC0 HC1 hbd
  generalize wm.heap.size=D1 at hD7 ⊢
  have HA:=Lib.hid hA7
  have HB:=Lib.hid hB7
  have HX:=Lib.hid hX7
  have HD:=Lib.hid hD7
  have HW:=Lib.hid hw7
  have HC0:=Lib.hid hC7
  have HC1:=Lib.hid hC8
  have e0:=e0
  obtain ⟨y0,y1,y2,y3,y4,y5,y6,y7,y8,y9,-⟩:=hX7.ten
  clear hA7 hB7 hX7 hD7 hw7 hC7 hC8
  go_wp2
  clear y0 y1 y2 y3 y4 y5 y6 y7 y8 y9
  have hLr:=HLR.out
  have har:=HAR.out
  have hlL:=HL0.out
  have hlA:=HL1.out
  obtain ⟨ae,haE,-⟩:=Kd.at_int HC1.out 0 (Int.le_refl _) (by rw [har,List.length_cons];omega)
  subst haE
  clear hL hLP
  generalize hNL:L.length=NL at*
  generalize hNA:ats.length=NA at*
  have hr1:Lr.length=NL - 1:=by rw [← hNL,hLr];simp
  have hr2:ar.length=NA - 1:=by rw [← hNA,har];simp
  have n1:1≤NL:=by rw [← hNL,hLr];simp
  have n2:1≤NA:=by rw [← hNA,har];simp
  have t0:Kd.C Kd.string W7 (some ad) ((NL - 1)+1) (l::Lr):=by rw [← hLr,show NL - 1+1=NL by omega];exact HC0.out
  have t1:Kd.C (Kd.int .i64) W7 (some ae) ((NA - 1)+1) (ats0::ar):=by rw [← har,show NA - 1+1=NA by omega];exact HC1.out
  have hq:=HFL.out
  have hXl:=HX.out.lt
  have hPl:=HA.out.lt
  have hRl:=HB.out.lt
  have i1:(1:Int)≤(NL:Int):=by omega
  have i2:(1:Int)≤(NA:Int):=by omega
  have i3:(NL:Int)≤(c0:Int):=by omega
  have i4:(NA:Int)≤(c1:Int):=by omega
  have n3:0<NL:=n1
  have n4:0<NA:=n2
  have n7: ¬ NL<1:=by omega
  have n8: ¬ NA<1:=by omega
  have n9: ¬ c0<NL:=by omega
  have n10: ¬ c1<NA:=by omega
  clear hLr har hNL hNA HC0 HC1 HL0 HL1 HLR HAR
  by_cases q1:c0=1<;>by_cases q2:c1=1
  all_goals first
   |(subst q1;subst q2;have hz0:NL=1:=(by omega);subst hz0;obtain rfl:Lr=[]:=List.eq_nil_of_length_eq_zero (by rw [hr1]);have hT0:=C_zero_str W7 (some ad);have hz1:NA=1:=(by omega);subst hz1;obtain rfl:ar=[]:=List.eq_nil_of_length_eq_zero (by rw [hr2]);have hT1:=C_zero_int W7 (some ae);simp only [List.length_nil] at hq;have HCA:=Lib.hid (fun W (hb:Below W7.heap.size W7 W)=>hq W (some ad) 0 (some ae) 0 (StdW.below HS.out (below_then HW.out HW.out.size hb)) (Kd.C_below hT0 hb) (by omega) (Kd.C_below hT1 hb) (by omega));clear hq t0 t1 hT0 hT1 hr1 hr2)
   |(subst q1;have q4: ¬ (c1:Int)=1:=(by omega);have hz0:NL=1:=(by omega);subst hz0;obtain rfl:Lr=[]:=List.eq_nil_of_length_eq_zero (by rw [hr1]);have hT0:=C_zero_str W7 (some ad);have hT1:=C_tail_int t1 hr2;rw [hr2] at hq;simp only [List.length_nil] at hq;have HCA:=Lib.hid (fun W (hb:Below W7.heap.size W7 W)=>hq W (some ad) 0 (some ⟨ae.block,ae.off+1,none⟩) (c1 - 1) (StdW.below HS.out (below_then HW.out HW.out.size hb)) (Kd.C_below hT0 hb) (by omega) (Kd.C_below hT1 hb) (by omega));clear hq t0 t1 hT0 hT1 hr1 hr2)
   |(subst q2;have q3: ¬ (c0:Int)=1:=(by omega);have hT0:=C_tail_str t0 hr1;have hz1:NA=1:=(by omega);subst hz1;obtain rfl:ar=[]:=List.eq_nil_of_length_eq_zero (by rw [hr2]);have hT1:=C_zero_int W7 (some ae);rw [hr1] at hq;simp only [List.length_nil] at hq;have HCA:=Lib.hid (fun W (hb:Below W7.heap.size W7 W)=>hq W (some ⟨ad.block,ad.off+1,none⟩) (c0 - 1) (some ae) 0 (StdW.below HS.out (below_then HW.out HW.out.size hb)) (Kd.C_below hT0 hb) (by omega) (Kd.C_below hT1 hb) (by omega));clear hq t0 t1 hT0 hT1 hr1 hr2)
   |(have q3: ¬ (c0:Int)=1:=(by omega);have q4: ¬ (c1:Int)=1:=(by omega);have hT0:=C_tail_str t0 hr1;have hT1:=C_tail_int t1 hr2;rw [hr1] at hq;rw [hr2] at hq;have HCA:=Lib.hid (fun W (hb:Below W7.heap.size W7 W)=>hq W (some ⟨ad.block,ad.off+1,none⟩) (c0 - 1) (some ⟨ae.block,ae.off+1,none⟩) (c1 - 1) (StdW.below HS.out (below_then HW.out HW.out.size hb)) (Kd.C_below hT0 hb) (by omega) (Kd.C_below hT1 hb) (by omega));clear hq t0 t1 hT0 hT1 hr1 hr2)
  all_goals
   go_region_held3 (fun w'=>True) (trivial) ((go_at_call 62;(with_reducible refine (HCA.out _ (below_drew1 (Below.refl _ _))).mono ?_);rintro e wf ⟨vf,rfl,hf,hbd⟩;have hb:=below_of_drew hbd;obtain ⟨fA,fc,rfl,flc,fC⟩:=Kd.R_reads hf;have hX:=HX.out.below hb;obtain ⟨y0,y1,y2,y3,y4,y5,y6,y7,y8,y9,w0,w1,w2,w3,w4,w5,w6,w7,w8,w9⟩:=(show Blk _ _ zX _ from hX).ten;obtain ⟨i0,i1,i2,i3,i4,i5,i6,i7,i8,i9⟩:=(show Blk _ _ zX _ from hX).tenid;have e0:=pw_cell_below hb e0))
   have hA:=HA.out.below hb
   have hB:=HB.out.below hb
   have hD:=HD.out.below hb
   have hw:=below_then HW.out HW.out.size hb
   have hfR:=Kd.R_bound hf
   obtain ⟨d0,d1,d2,d3,d4,d5,d6,d7,d8,f0,f1,f2,f3,f4,f5,f6,f7,f8,-⟩:=hA.rqz
   obtain ⟨v0,v1,v2,v3,v4,v5,v6,v7,v8,v9,r0,r1,r2,r3,r4,r5,r6,r7,r8,r9⟩:=hB.ten
   obtain ⟨u0,u1,u2,u3,u4,u5,-⟩:=(show Blk _ _ (dC x0 x1 x2 x3 nm po) _ from hD).dix
   go_wp2
   go_region
   go_wp2
   have hR1:=R_setRq p0 x0 x1 x2 x3 nm po q (.slice fA fs.length fc) hfR (R:=w.heap.size) (fun r hr=>Nat.ne_of_gt (Nat.lt_of_lt_of_le hPl hr.2.1))
   have hR2:=R_setB 0 ⟨#[]⟩ ⟨#[]⟩ ⟨#[]⟩ 0 0 0 0 hR1 (R:=w.heap.size+1) (fun r hr=>Nat.ne_of_gt (Nat.lt_of_lt_of_le hRl hr.2.1))
   have hA9:=Blk.setRqP p0 x0 x1 x2 x3 nm po q (.slice fA fs.length fc) (show Blk _ _ rqZ _ from hA)
   have hB9:=Blk.othRq p0 x0 x1 x2 x3 nm po q (.slice fA fs.length fc) hne2 hB
   have hw9:=setRq_below9 p0 x0 x1 x2 x3 nm po q (.slice fA fs.length fc) hw (Nat.le_refl _)
   refine bodyPost_ret (v:= .tuple #[.agg #[.string p0,.int .u8 x0,.int .u8 x1,.int .u8 x2,.int .u8 x3,.string nm,.int .i64 po,.string q,.slice fA fs.length fc],.int .i64 (mm:Int),.agg #[.int .i64 0,.string ⟨#[]⟩,.string ⟨#[]⟩,.string ⟨#[]⟩,.string ⟨#[]⟩,.int .i64 0,.int .i64 0,.int .i64 0,.int .i64 0,.int .i64 0]]) ?_ rfl ⟨_,rfl,Kd.R_drew (Kd.R_lower (Kd.R_mono hR2 (fun r hr=>Nat.le_of_lt (Nat.lt_of_lt_of_le hPl hr.2.1))) (Nat.le_of_lt hPl)),below_drew1 (setB_below hw9 (Nat.le_succ _) 0 ⟨#[]⟩ ⟨#[]⟩ ⟨#[]⟩ 0 0 0 0)⟩
   exact rr_res _ _ w.heap.size (w.heap.size+1) p0 x0 x1 x2 x3 nm po q (.slice fA fs.length fc) (mm:Int) 0 ⟨#[]⟩ ⟨#[]⟩ ⟨#[]⟩ 0 0 0 0 _ _ rfl rfl rfl (Blk.drew1 (Blk.othB 0 ⟨#[]⟩ ⟨#[]⟩ ⟨#[]⟩ 0 0 0 0 hne1 hA9)) (Blk.drew1 (Blk.setB 0 ⟨#[]⟩ ⟨#[]⟩ ⟨#[]⟩ 0 0 0 0 hB9))
 ·have hA7:=Blk.oth6 x0 x1 x2 x3 nm po hPD ((HA.out.old _).below hb)
  have hB7:=Blk.oth6 x0 x1 x2 x3 nm po hRD ((HB.out.old _).below hb)
  have hX7:=Blk.oth6 x0 x1 x2 x3 nm po hxd (show Blk _ _ zX _ from hX)
  have hD7:=Blk.set6 x0 x1 x2 x3 nm po (show Blk _ _ (dC 0 0 0 0 ⟨#[]⟩ 0) _ from hD)
  have hw7:=below6 x0 x1 x2 x3 nm po HW.out.size (below_then (below_alloc HW.out _) (below_alloc HW.out _).size hb)
  have hbs:=below6 x0 x1 x2 x3 nm po (Nat.le_refl _) (below_then (below_alloc (Below.refl wl.heap.size wl) _) (below_alloc (Below.refl wl.heap.size wl) _).size hb)
  have hC7:=Kd.C_below HC0.out hbs
  have hC8:=Kd.C_below HC1.out hbs
  have e0:=pw_cell_below hbs e0v
  unfold set6 at hA7 hB7 hX7 hD7 hw7 hC7 hC8 e0
  generalize ((((((wm.setCell ⟨wl.heap.size,0,none⟩ (.int .u8 x0)).setCell ⟨wl.heap.size,1,none⟩ (.int .u8 x1)).setCell ⟨wl.heap.size,2,none⟩ (.int .u8 x2)).setCell ⟨wl.heap.size,3,none⟩ (.int .u8 x3)).setCell ⟨wl.heap.size,4,none⟩ (.string nm)).setCell ⟨wl.heap.size,5,none⟩ (.int .i64 po))=W7 at hA7 hB7 hX7 hD7 hw7 hC7 hC8 e0 ⊢
  clear y0 y1 y2 y3 y4 y5 y6 y7 y8 y9 w0 w1 w2 w3 w4 w5 w6 w7 w8 w9 i0 i1 i2 i3 i4 i5 i6 i7 i8 i9 hXl hX hX0 HX HA HB HW HC0 HC1 hbd
  generalize wl.heap.size=D1 at hD7 ⊢
  have HA:=Lib.hid hA7
  have HB:=Lib.hid hB7
  have HX:=Lib.hid hX7
  have HD:=Lib.hid hD7
  have HW:=Lib.hid hw7
  have HC0:=Lib.hid hC7
  have HC1:=Lib.hid hC8
  have e0:=e0
  obtain ⟨y0,y1,y2,y3,y4,y5,y6,y7,y8,y9,-⟩:=hX7.ten
  clear hA7 hB7 hX7 hD7 hw7 hC7 hC8
  go_wp2
  clear y0 y1 y2 y3 y4 y5 y6 y7 y8 y9
  have hLr:=HLR.out
  have har:=HAR.out
  have hlL:=HL0.out
  have hlA:=HL1.out
  obtain ⟨ae,haE,-⟩:=Kd.at_int HC1.out 0 (Int.le_refl _) (by rw [har,List.length_cons];omega)
  subst haE
  clear hL hLP
  generalize hNL:L.length=NL at*
  generalize hNA:ats.length=NA at*
  have hr1:Lr.length=NL - 1:=by rw [← hNL,hLr];simp
  have hr2:ar.length=NA - 1:=by rw [← hNA,har];simp
  have n1:1≤NL:=by rw [← hNL,hLr];simp
  have n2:1≤NA:=by rw [← hNA,har];simp
  have t0:Kd.C Kd.string W7 (some ad) ((NL - 1)+1) (l::Lr):=by rw [← hLr,show NL - 1+1=NL by omega];exact HC0.out
  have t1:Kd.C (Kd.int .i64) W7 (some ae) ((NA - 1)+1) (ats0::ar):=by rw [← har,show NA - 1+1=NA by omega];exact HC1.out
  have hq:=HFL.out
  have hXl:=HX.out.lt
  have hPl:=HA.out.lt
  have hRl:=HB.out.lt
  have i1:(1:Int)≤(NL:Int):=by omega
  have i2:(1:Int)≤(NA:Int):=by omega
  have i3:(NL:Int)≤(c0:Int):=by omega
  have i4:(NA:Int)≤(c1:Int):=by omega
  have n3:0<NL:=n1
  have n4:0<NA:=n2
  have n7: ¬ NL<1:=by omega
  have n8: ¬ NA<1:=by omega
  have n9: ¬ c0<NL:=by omega
  have n10: ¬ c1<NA:=by omega
  clear hLr har hNL hNA HC0 HC1 HL0 HL1 HLR HAR
  by_cases q1:c0=1<;>by_cases q2:c1=1
  all_goals first
   |(subst q1;subst q2;have hz0:NL=1:=(by omega);subst hz0;obtain rfl:Lr=[]:=List.eq_nil_of_length_eq_zero (by rw [hr1]);have hT0:=C_zero_str W7 (some ad);have hz1:NA=1:=(by omega);subst hz1;obtain rfl:ar=[]:=List.eq_nil_of_length_eq_zero (by rw [hr2]);have hT1:=C_zero_int W7 (some ae);simp only [List.length_nil] at hq;have HCA:=Lib.hid (fun W (hb:Below W7.heap.size W7 W)=>hq W (some ad) 0 (some ae) 0 (StdW.below HS.out (below_then HW.out HW.out.size hb)) (Kd.C_below hT0 hb) (by omega) (Kd.C_below hT1 hb) (by omega));clear hq t0 t1 hT0 hT1 hr1 hr2)
   |(subst q1;have q4: ¬ (c1:Int)=1:=(by omega);have hz0:NL=1:=(by omega);subst hz0;obtain rfl:Lr=[]:=List.eq_nil_of_length_eq_zero (by rw [hr1]);have hT0:=C_zero_str W7 (some ad);have hT1:=C_tail_int t1 hr2;rw [hr2] at hq;simp only [List.length_nil] at hq;have HCA:=Lib.hid (fun W (hb:Below W7.heap.size W7 W)=>hq W (some ad) 0 (some ⟨ae.block,ae.off+1,none⟩) (c1 - 1) (StdW.below HS.out (below_then HW.out HW.out.size hb)) (Kd.C_below hT0 hb) (by omega) (Kd.C_below hT1 hb) (by omega));clear hq t0 t1 hT0 hT1 hr1 hr2)
   |(subst q2;have q3: ¬ (c0:Int)=1:=(by omega);have hT0:=C_tail_str t0 hr1;have hz1:NA=1:=(by omega);subst hz1;obtain rfl:ar=[]:=List.eq_nil_of_length_eq_zero (by rw [hr2]);have hT1:=C_zero_int W7 (some ae);rw [hr1] at hq;simp only [List.length_nil] at hq;have HCA:=Lib.hid (fun W (hb:Below W7.heap.size W7 W)=>hq W (some ⟨ad.block,ad.off+1,none⟩) (c0 - 1) (some ae) 0 (StdW.below HS.out (below_then HW.out HW.out.size hb)) (Kd.C_below hT0 hb) (by omega) (Kd.C_below hT1 hb) (by omega));clear hq t0 t1 hT0 hT1 hr1 hr2)
   |(have q3: ¬ (c0:Int)=1:=(by omega);have q4: ¬ (c1:Int)=1:=(by omega);have hT0:=C_tail_str t0 hr1;have hT1:=C_tail_int t1 hr2;rw [hr1] at hq;rw [hr2] at hq;have HCA:=Lib.hid (fun W (hb:Below W7.heap.size W7 W)=>hq W (some ⟨ad.block,ad.off+1,none⟩) (c0 - 1) (some ⟨ae.block,ae.off+1,none⟩) (c1 - 1) (StdW.below HS.out (below_then HW.out HW.out.size hb)) (Kd.C_below hT0 hb) (by omega) (Kd.C_below hT1 hb) (by omega));clear hq t0 t1 hT0 hT1 hr1 hr2)
  all_goals
   go_region_held3 (fun w'=>True) (trivial) ((go_at_call 62;(with_reducible refine (HCA.out _ (below_drew1 (Below.refl _ _))).mono ?_);rintro e wf ⟨vf,rfl,hf,hbd⟩;have hb:=below_of_drew hbd;obtain ⟨fA,fc,rfl,flc,fC⟩:=Kd.R_reads hf;have hX:=HX.out.below hb;obtain ⟨y0,y1,y2,y3,y4,y5,y6,y7,y8,y9,w0,w1,w2,w3,w4,w5,w6,w7,w8,w9⟩:=(show Blk _ _ zX _ from hX).ten;obtain ⟨i0,i1,i2,i3,i4,i5,i6,i7,i8,i9⟩:=(show Blk _ _ zX _ from hX).tenid;have e0:=pw_cell_below hb e0))
   have hA:=HA.out.below hb
   have hB:=HB.out.below hb
   have hD:=HD.out.below hb
   have hw:=below_then HW.out HW.out.size hb
   have hfR:=Kd.R_bound hf
   obtain ⟨d0,d1,d2,d3,d4,d5,d6,d7,d8,f0,f1,f2,f3,f4,f5,f6,f7,f8,-⟩:=hA.rqz
   obtain ⟨v0,v1,v2,v3,v4,v5,v6,v7,v8,v9,r0,r1,r2,r3,r4,r5,r6,r7,r8,r9⟩:=hB.ten
   obtain ⟨u0,u1,u2,u3,u4,u5,-⟩:=(show Blk _ _ (dC x0 x1 x2 x3 nm po) _ from hD).dix
   go_wp2
   go_region
   go_wp2
   have hR1:=R_setRq p0 x0 x1 x2 x3 nm po q (.slice fA fs.length fc) hfR (R:=w.heap.size) (fun r hr=>Nat.ne_of_gt (Nat.lt_of_lt_of_le hPl hr.2.1))
   have hR2:=R_setB 0 ⟨#[]⟩ ⟨#[]⟩ ⟨#[]⟩ 0 0 0 0 hR1 (R:=w.heap.size+1) (fun r hr=>Nat.ne_of_gt (Nat.lt_of_lt_of_le hRl hr.2.1))
   have hA9:=Blk.setRqP p0 x0 x1 x2 x3 nm po q (.slice fA fs.length fc) (show Blk _ _ rqZ _ from hA)
   have hB9:=Blk.othRq p0 x0 x1 x2 x3 nm po q (.slice fA fs.length fc) hne2 hB
   have hw9:=setRq_below9 p0 x0 x1 x2 x3 nm po q (.slice fA fs.length fc) hw (Nat.le_refl _)
   refine bodyPost_ret (v:= .tuple #[.agg #[.string p0,.int .u8 x0,.int .u8 x1,.int .u8 x2,.int .u8 x3,.string nm,.int .i64 po,.string q,.slice fA fs.length fc],.int .i64 (mm:Int),.agg #[.int .i64 0,.string ⟨#[]⟩,.string ⟨#[]⟩,.string ⟨#[]⟩,.string ⟨#[]⟩,.int .i64 0,.int .i64 0,.int .i64 0,.int .i64 0,.int .i64 0]]) ?_ rfl ⟨_,rfl,Kd.R_drew (Kd.R_lower (Kd.R_mono hR2 (fun r hr=>Nat.le_of_lt (Nat.lt_of_lt_of_le hPl hr.2.1))) (Nat.le_of_lt hPl)),below_drew1 (setB_below hw9 (Nat.le_succ _) 0 ⟨#[]⟩ ⟨#[]⟩ ⟨#[]⟩ 0 0 0 0)⟩
   exact rr_res _ _ w.heap.size (w.heap.size+1) p0 x0 x1 x2 x3 nm po q (.slice fA fs.length fc) (mm:Int) 0 ⟨#[]⟩ ⟨#[]⟩ ⟨#[]⟩ 0 0 0 0 _ _ rfl rfl rfl (Blk.drew1 (Blk.othB 0 ⟨#[]⟩ ⟨#[]⟩ ⟨#[]⟩ 0 0 0 0 hne1 hA9)) (Blk.drew1 (Blk.setB 0 ⟨#[]⟩ ⟨#[]⟩ ⟨#[]⟩ 0 0 0 0 hB9))
end Go.Proofs.YtgmpdjjoefkndaaGreatDoor.E
