/- What the cards of this seat rest on: the walks and plain laws, part 17. -/
import Derived.Test.YtgmpdjjoefkndaaGreatDoorHR13
import Derived.Test.YtgmpdjjoefkndaaGreatDoorHR2
import Derived.Deep.RegionHeld3
import Derived.IntWalk

namespace Go.Proofs.YtgmpdjjoefkndaaGreatDoor.E
open Go.RowKit Go.Proofs.YtgmpdjjoefkndaaGreatDoorW.PrintWords Go.Proofs.YtgmpdjjoefkndaaGreatDoorW.PrintLast Go.Proofs.YtgmpdjjoefkndaaGreatDoor.XK
set_option linter.unusedVariables false
set_option linter.unusedSimpArgs false
theorem rs_res (A:Array Value) (W:World) (P R:Nat) (st:Int) (re:ByteArray) (fs:Value) (i:Int) (n:Int) (l0 l1 l2:ByteArray) (a0 a1 a2 c:Int) (T1 T2:TypeId) (h2:A.getD 2 undef= .pointer (some ⟨P,0,none⟩)) (h3:A.getD 3 undef= .int .i64 i) (h4:A.getD 4 undef= .pointer (some ⟨R,0,none⟩)) (hA:Blk W P (rpC st re fs) T1) (hB:Blk W R (bad3 n l0 l1 l2 a0 a1 a2 c) T2):
  (results Tryz.f17 A).run Tryz.prog W= .ok (.tuple #[.agg (rpC st re fs),.int .i64 i,.agg (bad3 n l0 l1 l2 a0 a1 a2 c)]) W:=by
 have e0:=hA.cell 0 _ rfl
 have e1:=hA.cell 1 _ rfl
 have e2:=hA.cell 2 _ rfl
 obtain ⟨b0,b1,b2,b3,b4,b5,b6,b7,b8,b9,-⟩:=hB.ten
 rw [Array.getD_eq_getD_getElem?] at h2 h3 h4
 simp [results,Tryz.results17,go_sem,h2,h3,h4,e0,e1,e2,b0,b1,b2,b3,b4,b5,b6,b7,b8,b9,rpC,bad3]
set_option maxRecDepth 100000 in
set_option maxHeartbeats 8000000 in
theorem rs_end (A:Option Addr) (n c:Nat) (n':Int) (l0 l1 l2:ByteArray) (a0 a1 a2 c':Int) (hn:n'>0) (w:World) (HEN0: ∀ W,Below w.heap.size w W→Calls Tryz.prog 11 #[.slice A n c] W fun e w'=>e= .returned (.tuple #[.int .i64 0,.agg #[.int .i64 n',.string l0,.string l1,.string l2,.string ⟨#[]⟩,.int .i64 a0,.int .i64 a1,.int .i64 a2,.int .i64 0,.int .i64 c']])∧Below W.heap.size W w') (hS:StdW w):
  Calls Tryz.prog 17 #[.slice A n c] w fun e w'=>e= .returned (.tuple #[.agg #[.int .i64 0,.string ⟨#[]⟩,.slice none 0 0],.int .i64 0,.agg #[.int .i64 n',.string l0,.string l1,.string l2,.string ⟨#[]⟩,.int .i64 a0,.int .i64 a1,.int .i64 a2,.int .i64 0,.int .i64 c']])∧Below w.heap.size w w':=by
 have HS:=Lib.hid hS
 have HEN:=Lib.hid HEN0
 clear HEN0
 clear hS
 have HA:=Lib.hid ((Blk.new w rpZ 51).old (.cells zX 32))
 have HB:Hid (Blk ((w.alloc (.cells rpZ 51)).alloc (.cells zX 32)) (w.heap.size+1) zX 32):=Lib.hid (by have:=Blk.new (w.alloc (.cells rpZ 51)) zX 32;rwa [World.size_alloc] at this)
 have HW:=Lib.hid (below_alloc (below_alloc (Below.refl w.heap.size w) (.cells rpZ 51)) (.cells zX 32))
 have hne1:w.heap.size≠w.heap.size+1:=by omega
 have hne2:=hne1.symm
 unfold rpZ rpC zX bad3 at HA HB HW
 go_enter Tryz.func17,Tryz.ntmps17
 go_wp2_with (go_at_call 11;(with_reducible refine (HEN.out _ HW.out).mono ?_);rintro e wn ⟨rfl,hb⟩;have HA:=Lib.hid (HA.out.below hb);have HB:=Lib.hid (HB.out.below hb);have HW:=Lib.hid (below_then HW.out HW.out.size hb);clear hb)
 have hA7:Blk (wn.alloc (.cells #[.int .i64 n',.string l0,.string l1,.string l2,.string ⟨#[]⟩,.int .i64 a0,.int .i64 a1,.int .i64 a2,.int .i64 0,.int .i64 c'] 32)) w.heap.size _ _:=HA.out.old _
 have hB7:Blk (wn.alloc (.cells #[.int .i64 n',.string l0,.string l1,.string l2,.string ⟨#[]⟩,.int .i64 a0,.int .i64 a1,.int .i64 a2,.int .i64 0,.int .i64 c'] 32)) (w.heap.size+1) _ _:=HB.out.old _
 have hX7:Blk (wn.alloc (.cells #[.int .i64 n',.string l0,.string l1,.string l2,.string ⟨#[]⟩,.int .i64 a0,.int .i64 a1,.int .i64 a2,.int .i64 0,.int .i64 c'] 32)) wn.heap.size #[.int .i64 n',.string l0,.string l1,.string l2,.string ⟨#[]⟩,.int .i64 a0,.int .i64 a1,.int .i64 a2,.int .i64 0,.int .i64 c'] 32:=Blk.new _ _ _
 have hw7:Below w.heap.size w (wn.alloc (.cells #[.int .i64 n',.string l0,.string l1,.string l2,.string ⟨#[]⟩,.int .i64 a0,.int .i64 a1,.int .i64 a2,.int .i64 0,.int .i64 c'] 32)):=below_alloc HW.out _
 have hl1:=HA.out.lt
 have hl2:=HB.out.lt
 generalize (wn.alloc (.cells #[.int .i64 n',.string l0,.string l1,.string l2,.string ⟨#[]⟩,.int .i64 a0,.int .i64 a1,.int .i64 a2,.int .i64 0,.int .i64 c'] 32))=W7 at hA7 hB7 hX7 hw7 ⊢
 generalize wn.heap.size=X1 at hX7 hl1 hl2 ⊢
 clear HA HB HW
 have HA:=Lib.hid hA7
 have HB:=Lib.hid hB7
 have HW:=Lib.hid hw7
 have hn3:w.heap.size≠X1:=by omega
 have hn4:w.heap.size+1≠X1:=by omega
 have hA:=HA.out
 have hB:=HB.out
 obtain ⟨⟨d0,d1,d2⟩,⟨f0,f1,f2⟩,s0,s1,s2⟩:=hA.rpz
 obtain ⟨v0,v1,v2,v3,v4,v5,v6,v7,v8,v9,r0,r1,r2,r3,r4,r5,r6,r7,r8,r9⟩:=hB.ten
 obtain ⟨y0,y1,y2,y3,y4,y5,y6,y7,y8,y9,w0,w1,w2,w3,w4,w5,w6,w7,w8,w9⟩:=hX7.ten
 go_region
 go_wp2
 all_goals
  refine bodyPost_ret (v:= .tuple #[.agg #[.int .i64 0,.string ⟨#[]⟩,.slice none 0 0],.int .i64 0,.agg #[.int .i64 n',.string l0,.string l1,.string l2,.string ⟨#[]⟩,.int .i64 a0,.int .i64 a1,.int .i64 a2,.int .i64 0,.int .i64 c']]) ?_ rfl ⟨rfl,?_⟩
  ·exact rs_res _ _ w.heap.size (w.heap.size+1) 0 ⟨#[]⟩ (.slice none 0 0) 0 n' l0 l1 l2 a0 a1 a2 c' _ _ rfl rfl rfl (Blk.drew1 (Blk.othB n' l0 l1 l2 a0 a1 a2 c' hne1 hA)) (Blk.drew1 (Blk.setB n' l0 l1 l2 a0 a1 a2 c' hB))
  ·exact (below_drew1 (setB_below HW.out (Nat.le_succ _) n' l0 l1 l2 a0 a1 a2 c'))
set_option maxRecDepth 100000 in
set_option maxHeartbeats 8000000 in
theorem rs_nil (A:Addr) (n c:Nat) (mm:Nat) (hm0:(0:Int)≤(mm:Int)) (hm1:(mm:Int)≤(c:Int)) (S:ByteArray) (L:List ByteArray) (ats:List Int) (w:World) (HEN0:CEn A n c mm w) (KC0:CKc A mm c S w) (HLI0:CLi S L ats w) (hL:((L.length:Int)==0)=true) (HF0:CFa 80) (hS:StdW w):
  Calls Tryz.prog 17 #[.slice (some A) n c] w fun e w'=>e= .returned (.tuple #[.agg #[.int .i64 0,.string ⟨#[]⟩,.slice none 0 0],.int .i64 0,.agg #[.int .i64 1,.string headS,.string ⟨#[]⟩,.string ⟨#[]⟩,.string ⟨#[]⟩,.int .i64 0,.int .i64 0,.int .i64 0,.int .i64 0,.int .i64 80]])∧Below w.heap.size w w':=by
 have HS:=Lib.hid hS
 have HEN:=Lib.hid HEN0
 have KC:=Lib.hid KC0
 have HLI:=Lib.hid HLI0
 have HF:=Lib.hid HF0
 clear HEN0 KC0 HLI0 HF0
 clear hS
 have HA:=Lib.hid ((Blk.new w rpZ 51).old (.cells zX 32))
 have HB:Hid (Blk ((w.alloc (.cells rpZ 51)).alloc (.cells zX 32)) (w.heap.size+1) zX 32):=Lib.hid (by have:=Blk.new (w.alloc (.cells rpZ 51)) zX 32;rwa [World.size_alloc] at this)
 have HW:=Lib.hid (below_alloc (below_alloc (Below.refl w.heap.size w) (.cells rpZ 51)) (.cells zX 32))
 have hne1:w.heap.size≠w.heap.size+1:=by omega
 have hne2:=hne1.symm
 unfold rpZ rpC zX bad3 at HA HB HW
 go_enter Tryz.func17,Tryz.ntmps17
 go_wp2_with (first|(go_at_call 11;(with_reducible refine (HEN.out _ HW.out).mono ?_);rintro e wn ⟨rfl,hb⟩;have HA:=Lib.hid (HA.out.below hb);have HB:=Lib.hid (HB.out.below hb);have HW:=Lib.hid (below_then HW.out HW.out.size hb);clear hb;have kc:=KC.out _ (below_alloc HW.out (.cells #[.int .i64 0,.string ⟨#[]⟩,.string ⟨#[]⟩,.string ⟨#[]⟩,.string ⟨#[]⟩,.int .i64 0,.int .i64 0,.int .i64 0,.int .i64 0,.int .i64 0] 32)))|(go_at_call 56;(with_reducible refine (HLI.out _ (below_alloc HW.out _)).mono ?_);rintro e wl ⟨vv0,vv1,rfl,hv0,hv1,hb⟩;obtain ⟨A0,c0,rfl,hl0,hC0⟩:=Kd.R_reads hv0;obtain ⟨A1,c1,rfl,hl1,hC1⟩:=Kd.R_reads hv1;clear hv0 hv1;have HPX:=Lib.hid HA.out.lt;have HRX:=Lib.hid HB.out.lt;have HA:=Lib.hid ((HA.out.old _).below hb);have HB:=Lib.hid ((HB.out.old _).below hb);have HX:=Lib.hid ((Blk.new wn #[.int .i64 0,.string ⟨#[]⟩,.string ⟨#[]⟩,.string ⟨#[]⟩,.string ⟨#[]⟩,.int .i64 0,.int .i64 0,.int .i64 0,.int .i64 0,.int .i64 0] 32).below hb);have HW:=Lib.hid (below_then (below_alloc HW.out _) (below_alloc HW.out _).size hb);have HC0:=Lib.hid hC0;have HC1:=Lib.hid hC1;have HL0:=Lib.hid hl0;have HL1:=Lib.hid hl1;clear hb hC0 hC1 hl0 hl1 kc)|(go_at_call 46;(with_reducible refine (HF.out _ (StdW.below HS.out HW.out)).mono ?_);rintro e wf ⟨rfl,hb⟩;have HA:=Lib.hid (HA.out.below hb);have HB:=Lib.hid (HB.out.below hb);have HW:=Lib.hid (below_then HW.out HW.out.size hb);clear hb;have hA:=HA.out;have hB:=HB.out;have hlt1:=hA.lt;have hlt2:=hB.lt;obtain ⟨⟨d0,d1,d2⟩,⟨f0,f1,f2⟩,s0,s1,s2⟩:=hA.rpz;obtain ⟨v0,v1,v2,v3,v4,v5,v6,v7,v8,v9,r0,r1,r2,r3,r4,r5,r6,r7,r8,r9⟩:=hB.ten))
 all_goals
  refine bodyPost_ret (v:= .tuple #[.agg #[.int .i64 0,.string ⟨#[]⟩,.slice none 0 0],.int .i64 0,.agg #[.int .i64 1,.string headS,.string ⟨#[]⟩,.string ⟨#[]⟩,.string ⟨#[]⟩,.int .i64 0,.int .i64 0,.int .i64 0,.int .i64 0,.int .i64 80]]) ?_ rfl ⟨rfl,?_⟩
  ·exact rs_res _ _ w.heap.size (w.heap.size+1) 0 ⟨#[]⟩ (.slice none 0 0) 0 1 headS ⟨#[]⟩ ⟨#[]⟩ 0 0 0 80 _ _ rfl rfl rfl (Blk.othB 1 headS ⟨#[]⟩ ⟨#[]⟩ 0 0 0 80 hne1 hA) (Blk.setB 1 headS ⟨#[]⟩ ⟨#[]⟩ 0 0 0 80 hB)
  ·exact (setB_below HW.out (Nat.le_succ _) 1 headS ⟨#[]⟩ ⟨#[]⟩ 0 0 0 80)
set_option maxRecDepth 100000 in
set_option maxHeartbeats 8000000 in
theorem rs_len (A:Addr) (n c:Nat) (mm:Nat) (hm0:(0:Int)≤(mm:Int)) (hm1:(mm:Int)≤(c:Int)) (S:ByteArray) (L:List ByteArray) (ats:List Int) (w:World) (HEN0:CEn A n c mm w) (KC0:CKc A mm c S w) (HLI0:CLi S L ats w) (hL:((L.length:Int)==0)=false) (hLP:(0:Int)<(L.length:Int)) (l:ByteArray) (HL000:rdOf ByteArray.empty L 0=l) (ps:List ByteArray) (HCU0:CCu 3 l ps) (hp:((ps.length:Int)==3)=false) (HF0:CFa 80) (hS:StdW w):
  Calls Tryz.prog 17 #[.slice (some A) n c] w fun e w'=>e= .returned (.tuple #[.agg #[.int .i64 0,.string ⟨#[]⟩,.slice none 0 0],.int .i64 0,.agg #[.int .i64 1,.string headS,.string ⟨#[]⟩,.string ⟨#[]⟩,.string ⟨#[]⟩,.int .i64 0,.int .i64 0,.int .i64 0,.int .i64 0,.int .i64 80]])∧Below w.heap.size w w':=by
 have HS:=Lib.hid hS
 have HEN:=Lib.hid HEN0
 have KC:=Lib.hid KC0
 have HLI:=Lib.hid HLI0
 have HL00:=Lib.hid HL000
 have HCU:=Lib.hid HCU0
 clear HEN0 KC0 HLI0 HL000 HCU0
 have HF:=Lib.hid HF0
 clear HF0
 have hp2:((ps.length:Int) !=3)=true:=by unfold bne;rw [hp];rfl
 clear hS
 have HA:=Lib.hid ((Blk.new w rpZ 51).old (.cells zX 32))
 have HB:Hid (Blk ((w.alloc (.cells rpZ 51)).alloc (.cells zX 32)) (w.heap.size+1) zX 32):=Lib.hid (by have:=Blk.new (w.alloc (.cells rpZ 51)) zX 32;rwa [World.size_alloc] at this)
 have HW:=Lib.hid (below_alloc (below_alloc (Below.refl w.heap.size w) (.cells rpZ 51)) (.cells zX 32))
 have hne1:w.heap.size≠w.heap.size+1:=by omega
 have hne2:=hne1.symm
 unfold rpZ rpC zX bad3 at HA HB HW
 go_enter Tryz.func17,Tryz.ntmps17
 go_wp2_with (first|(go_at_call 11;(with_reducible refine (HEN.out _ HW.out).mono ?_);rintro e wn ⟨rfl,hb⟩;have HA:=Lib.hid (HA.out.below hb);have HB:=Lib.hid (HB.out.below hb);have HW:=Lib.hid (below_then HW.out HW.out.size hb);clear hb;have kc:=KC.out _ (below_alloc HW.out (.cells #[.int .i64 0,.string ⟨#[]⟩,.string ⟨#[]⟩,.string ⟨#[]⟩,.string ⟨#[]⟩,.int .i64 0,.int .i64 0,.int .i64 0,.int .i64 0,.int .i64 0] 32)))|(go_at_call 56;(with_reducible refine (HLI.out _ (below_alloc HW.out _)).mono ?_);rintro e wl ⟨vv0,vv1,rfl,hv0,hv1,hb⟩;obtain ⟨A0,c0,rfl,hl0,hC0⟩:=Kd.R_reads hv0;obtain ⟨A1,c1,rfl,hl1,hC1⟩:=Kd.R_reads hv1;clear hv0 hv1;have HPX:=Lib.hid HA.out.lt;have HRX:=Lib.hid HB.out.lt;have HA:=Lib.hid ((HA.out.old _).below hb);have HB:=Lib.hid ((HB.out.old _).below hb);have HX:=Lib.hid ((Blk.new wn #[.int .i64 0,.string ⟨#[]⟩,.string ⟨#[]⟩,.string ⟨#[]⟩,.string ⟨#[]⟩,.int .i64 0,.int .i64 0,.int .i64 0,.int .i64 0,.int .i64 0] 32).below hb);have HW:=Lib.hid (below_then (below_alloc HW.out _) (below_alloc HW.out _).size hb);have HC0:=Lib.hid hC0;have HC1:=Lib.hid hC1;have HL0:=Lib.hid hl0;have HL1:=Lib.hid hl1;clear hb hC0 hC1 hl0 hl1 kc;obtain ⟨ad,hadE,hcell0⟩:=Kd.at_string HC0.out 0 (Int.le_refl _) hLP;subst hadE;rw [HL00.out] at hcell0;rw [add0] at hcell0;have hcell:=hcell0;clear hcell0)|(go_at_call 57;(with_reducible refine (HCU.out _).mono ?_);rintro e wl ⟨vv,rfl,hv,hb⟩;obtain ⟨A2,c2,rfl,hl2,hC2⟩:=Kd.R_reads hv;have HA:=Lib.hid (HA.out.below hb);have HB:=Lib.hid (HB.out.below hb);have HX:=Lib.hid (HX.out.below hb);have HC0:=Lib.hid (Kd.C_below HC0.out hb);have HC1:=Lib.hid (Kd.C_below HC1.out hb);have HW:=Lib.hid (below_then HW.out HW.out.size hb);have HC2:=Lib.hid hC2;have hcell:=pw_cell_below hb hcell;clear hb hv hl2 hC2)|(go_at_call 46;(with_reducible refine (HF.out _ (StdW.below HS.out HW.out)).mono ?_);rintro e wf ⟨rfl,hb⟩;have HA:=Lib.hid (HA.out.below hb);have HB:=Lib.hid (HB.out.below hb);have HW:=Lib.hid (below_then HW.out HW.out.size hb);clear hb;have hA:=HA.out;have hB:=HB.out;have hlt1:=hA.lt;have hlt2:=hB.lt;obtain ⟨⟨d0,d1,d2⟩,⟨f0,f1,f2⟩,s0,s1,s2⟩:=hA.rpz;obtain ⟨v0,v1,v2,v3,v4,v5,v6,v7,v8,v9,r0,r1,r2,r3,r4,r5,r6,r7,r8,r9⟩:=hB.ten))
 all_goals
  refine bodyPost_ret (v:= .tuple #[.agg #[.int .i64 0,.string ⟨#[]⟩,.slice none 0 0],.int .i64 0,.agg #[.int .i64 1,.string headS,.string ⟨#[]⟩,.string ⟨#[]⟩,.string ⟨#[]⟩,.int .i64 0,.int .i64 0,.int .i64 0,.int .i64 0,.int .i64 80]]) ?_ rfl ⟨rfl,?_⟩
  ·exact rs_res _ _ w.heap.size (w.heap.size+1) 0 ⟨#[]⟩ (.slice none 0 0) 0 1 headS ⟨#[]⟩ ⟨#[]⟩ 0 0 0 80 _ _ rfl rfl rfl (Blk.othB 1 headS ⟨#[]⟩ ⟨#[]⟩ 0 0 0 80 hne1 hA) (Blk.setB 1 headS ⟨#[]⟩ ⟨#[]⟩ 0 0 0 80 hB)
  ·exact (setB_below HW.out (Nat.le_succ _) 1 headS ⟨#[]⟩ ⟨#[]⟩ 0 0 0 80)
set_option maxRecDepth 100000 in
set_option maxHeartbeats 8000000 in
theorem rs_bk (A:Addr) (n c:Nat) (mm:Nat) (hm0:(0:Int)≤(mm:Int)) (hm1:(mm:Int)≤(c:Int)) (S:ByteArray) (L:List ByteArray) (ats:List Int) (w:World) (HEN0:CEn A n c mm w) (KC0:CKc A mm c S w) (HLI0:CLi S L ats w) (hL:((L.length:Int)==0)=false) (hLP:(0:Int)<(L.length:Int)) (l:ByteArray) (HL000:rdOf ByteArray.empty L 0=l) (p0 p1 p2:ByteArray) (HCU0:CCu 3 l [p0,p1,p2]) (HAL0:CBo 58 l true) (HF0:CFa 80) (hS:StdW w):
  Calls Tryz.prog 17 #[.slice (some A) n c] w fun e w'=>e= .returned (.tuple #[.agg #[.int .i64 0,.string ⟨#[]⟩,.slice none 0 0],.int .i64 0,.agg #[.int .i64 1,.string headS,.string ⟨#[]⟩,.string ⟨#[]⟩,.string ⟨#[]⟩,.int .i64 0,.int .i64 0,.int .i64 0,.int .i64 0,.int .i64 80]])∧Below w.heap.size w w':=by
 have HS:=Lib.hid hS
 have HEN:=Lib.hid HEN0
 have KC:=Lib.hid KC0
 have HLI:=Lib.hid HLI0
 have HL00:=Lib.hid HL000
 have HCU:=Lib.hid HCU0
 clear HEN0 KC0 HLI0 HL000 HCU0
 have HAL:=Lib.hid HAL0
 have HF:=Lib.hid HF0
 clear HAL0 HF0
 clear hS
 have HA:=Lib.hid ((Blk.new w rpZ 51).old (.cells zX 32))
 have HB:Hid (Blk ((w.alloc (.cells rpZ 51)).alloc (.cells zX 32)) (w.heap.size+1) zX 32):=Lib.hid (by have:=Blk.new (w.alloc (.cells rpZ 51)) zX 32;rwa [World.size_alloc] at this)
 have HW:=Lib.hid (below_alloc (below_alloc (Below.refl w.heap.size w) (.cells rpZ 51)) (.cells zX 32))
 have hne1:w.heap.size≠w.heap.size+1:=by omega
 have hne2:=hne1.symm
 unfold rpZ rpC zX bad3 at HA HB HW
 go_enter Tryz.func17,Tryz.ntmps17
 go_wp2_with (first|(go_at_call 11;(with_reducible refine (HEN.out _ HW.out).mono ?_);rintro e wn ⟨rfl,hb⟩;have HA:=Lib.hid (HA.out.below hb);have HB:=Lib.hid (HB.out.below hb);have HW:=Lib.hid (below_then HW.out HW.out.size hb);clear hb;have kc:=KC.out _ (below_alloc HW.out (.cells #[.int .i64 0,.string ⟨#[]⟩,.string ⟨#[]⟩,.string ⟨#[]⟩,.string ⟨#[]⟩,.int .i64 0,.int .i64 0,.int .i64 0,.int .i64 0,.int .i64 0] 32)))|(go_at_call 56;(with_reducible refine (HLI.out _ (below_alloc HW.out _)).mono ?_);rintro e wl ⟨vv0,vv1,rfl,hv0,hv1,hb⟩;obtain ⟨A0,c0,rfl,hl0,hC0⟩:=Kd.R_reads hv0;obtain ⟨A1,c1,rfl,hl1,hC1⟩:=Kd.R_reads hv1;clear hv0 hv1;have HPX:=Lib.hid HA.out.lt;have HRX:=Lib.hid HB.out.lt;have HA:=Lib.hid ((HA.out.old _).below hb);have HB:=Lib.hid ((HB.out.old _).below hb);have HX:=Lib.hid ((Blk.new wn #[.int .i64 0,.string ⟨#[]⟩,.string ⟨#[]⟩,.string ⟨#[]⟩,.string ⟨#[]⟩,.int .i64 0,.int .i64 0,.int .i64 0,.int .i64 0,.int .i64 0] 32).below hb);have HW:=Lib.hid (below_then (below_alloc HW.out _) (below_alloc HW.out _).size hb);have HC0:=Lib.hid hC0;have HC1:=Lib.hid hC1;have HL0:=Lib.hid hl0;have HL1:=Lib.hid hl1;clear hb hC0 hC1 hl0 hl1 kc;obtain ⟨ad,hadE,hcell0⟩:=Kd.at_string HC0.out 0 (Int.le_refl _) hLP;subst hadE;rw [HL00.out] at hcell0;rw [add0] at hcell0;have hcell:=hcell0;clear hcell0)|(go_at_call 57;(with_reducible refine (HCU.out _).mono ?_);rintro e wl ⟨vv,rfl,hv,hb⟩;obtain ⟨A2,c2,rfl,hl2,hC2⟩:=Kd.R_reads hv;have HA:=Lib.hid (HA.out.below hb);have HB:=Lib.hid (HB.out.below hb);have HX:=Lib.hid (HX.out.below hb);have HC0:=Lib.hid (Kd.C_below HC0.out hb);have HC1:=Lib.hid (Kd.C_below HC1.out hb);have HW:=Lib.hid (below_then HW.out HW.out.size hb);have HC2:=Lib.hid hC2;have hcell:=pw_cell_below hb hcell;clear hb hv hl2 hC2;obtain ⟨pd,hpE,hq0⟩:=Kd.at_string HC2.out 0 (by decide) (show (0:Int)<((3:Nat):Int) by decide);subst hpE;obtain ⟨_,hpE,hq1⟩:=Kd.at_string HC2.out 1 (by decide) (show (1:Int)<((3:Nat):Int) by decide);cases hpE;obtain ⟨_,hpE,hq2⟩:=Kd.at_string HC2.out 2 (by decide) (show (2:Int)<((3:Nat):Int) by decide);cases hpE;rw [add0] at hq0;have e0:wl.cell? pd=some (.string p0):=hq0;have e1:wl.cell? ⟨pd.block,pd.off+1,none⟩=some (.string p1):=hq1;have e2:wl.cell? ⟨pd.block,pd.off+2,none⟩=some (.string p2):=hq2;clear hq0 hq1 hq2)|(go_at_call 58;(with_reducible refine (HAL.out _).mono ?_);rintro e wl ⟨rfl,hb⟩;have HA:=Lib.hid (HA.out.below hb);have HB:=Lib.hid (HB.out.below hb);have HX:=Lib.hid (HX.out.below hb);have HC0:=Lib.hid (Kd.C_below HC0.out hb);have HC1:=Lib.hid (Kd.C_below HC1.out hb);have HW:=Lib.hid (below_then HW.out HW.out.size hb);have hcell:=pw_cell_below hb hcell;have HC2:=Lib.hid (Kd.C_below HC2.out hb);have e0:=pw_cell_below hb e0;have e1:=pw_cell_below hb e1;have e2:=pw_cell_below hb e2;clear hb)|(go_at_call 46;(with_reducible refine (HF.out _ (StdW.below HS.out HW.out)).mono ?_);rintro e wf ⟨rfl,hb⟩;have HA:=Lib.hid (HA.out.below hb);have HB:=Lib.hid (HB.out.below hb);have HW:=Lib.hid (below_then HW.out HW.out.size hb);clear hb;have hA:=HA.out;have hB:=HB.out;have hlt1:=hA.lt;have hlt2:=hB.lt;obtain ⟨⟨d0,d1,d2⟩,⟨f0,f1,f2⟩,s0,s1,s2⟩:=hA.rpz;obtain ⟨v0,v1,v2,v3,v4,v5,v6,v7,v8,v9,r0,r1,r2,r3,r4,r5,r6,r7,r8,r9⟩:=hB.ten))
 all_goals
  refine bodyPost_ret (v:= .tuple #[.agg #[.int .i64 0,.string ⟨#[]⟩,.slice none 0 0],.int .i64 0,.agg #[.int .i64 1,.string headS,.string ⟨#[]⟩,.string ⟨#[]⟩,.string ⟨#[]⟩,.int .i64 0,.int .i64 0,.int .i64 0,.int .i64 0,.int .i64 80]]) ?_ rfl ⟨rfl,?_⟩
  ·exact rs_res _ _ w.heap.size (w.heap.size+1) 0 ⟨#[]⟩ (.slice none 0 0) 0 1 headS ⟨#[]⟩ ⟨#[]⟩ 0 0 0 80 _ _ rfl rfl rfl (Blk.othB 1 headS ⟨#[]⟩ ⟨#[]⟩ 0 0 0 80 hne1 hA) (Blk.setB 1 headS ⟨#[]⟩ ⟨#[]⟩ 0 0 0 80 hB)
  ·exact (setB_below HW.out (Nat.le_succ _) 1 headS ⟨#[]⟩ ⟨#[]⟩ 0 0 0 80)
set_option maxRecDepth 100000 in
set_option maxHeartbeats 8000000 in
theorem rs_ve (A:Addr) (n c:Nat) (mm:Nat) (hm0:(0:Int)≤(mm:Int)) (hm1:(mm:Int)≤(c:Int)) (S:ByteArray) (L:List ByteArray) (ats:List Int) (w:World) (HEN0:CEn A n c mm w) (KC0:CKc A mm c S w) (HLI0:CLi S L ats w) (hL:((L.length:Int)==0)=false) (hLP:(0:Int)<(L.length:Int)) (l:ByteArray) (HL000:rdOf ByteArray.empty L 0=l) (p0 p1 p2:ByteArray) (HCU0:CCu 3 l [p0,p1,p2]) (HAL0:CBo 58 l false) (HVE0:CBo 59 p0 false) (HF0:CFa 80) (hS:StdW w):
  Calls Tryz.prog 17 #[.slice (some A) n c] w fun e w'=>e= .returned (.tuple #[.agg #[.int .i64 0,.string ⟨#[]⟩,.slice none 0 0],.int .i64 0,.agg #[.int .i64 1,.string headS,.string ⟨#[]⟩,.string ⟨#[]⟩,.string ⟨#[]⟩,.int .i64 0,.int .i64 0,.int .i64 0,.int .i64 0,.int .i64 80]])∧Below w.heap.size w w':=by
 have HS:=Lib.hid hS
 have HEN:=Lib.hid HEN0
 have KC:=Lib.hid KC0
 have HLI:=Lib.hid HLI0
 have HL00:=Lib.hid HL000
 have HCU:=Lib.hid HCU0
 clear HEN0 KC0 HLI0 HL000 HCU0
 have HAL:=Lib.hid HAL0
 have HVE:=Lib.hid HVE0
 have HF:=Lib.hid HF0
 clear HAL0 HVE0 HF0
 clear hS
 have HA:=Lib.hid ((Blk.new w rpZ 51).old (.cells zX 32))
 have HB:Hid (Blk ((w.alloc (.cells rpZ 51)).alloc (.cells zX 32)) (w.heap.size+1) zX 32):=Lib.hid (by have:=Blk.new (w.alloc (.cells rpZ 51)) zX 32;rwa [World.size_alloc] at this)
 have HW:=Lib.hid (below_alloc (below_alloc (Below.refl w.heap.size w) (.cells rpZ 51)) (.cells zX 32))
 have hne1:w.heap.size≠w.heap.size+1:=by omega
 have hne2:=hne1.symm
 unfold rpZ rpC zX bad3 at HA HB HW
 go_enter Tryz.func17,Tryz.ntmps17
 go_wp2_with (first|(go_at_call 11;(with_reducible refine (HEN.out _ HW.out).mono ?_);rintro e wn ⟨rfl,hb⟩;have HA:=Lib.hid (HA.out.below hb);have HB:=Lib.hid (HB.out.below hb);have HW:=Lib.hid (below_then HW.out HW.out.size hb);clear hb;have kc:=KC.out _ (below_alloc HW.out (.cells #[.int .i64 0,.string ⟨#[]⟩,.string ⟨#[]⟩,.string ⟨#[]⟩,.string ⟨#[]⟩,.int .i64 0,.int .i64 0,.int .i64 0,.int .i64 0,.int .i64 0] 32)))|(go_at_call 56;(with_reducible refine (HLI.out _ (below_alloc HW.out _)).mono ?_);rintro e wl ⟨vv0,vv1,rfl,hv0,hv1,hb⟩;obtain ⟨A0,c0,rfl,hl0,hC0⟩:=Kd.R_reads hv0;obtain ⟨A1,c1,rfl,hl1,hC1⟩:=Kd.R_reads hv1;clear hv0 hv1;have HPX:=Lib.hid HA.out.lt;have HRX:=Lib.hid HB.out.lt;have HA:=Lib.hid ((HA.out.old _).below hb);have HB:=Lib.hid ((HB.out.old _).below hb);have HX:=Lib.hid ((Blk.new wn #[.int .i64 0,.string ⟨#[]⟩,.string ⟨#[]⟩,.string ⟨#[]⟩,.string ⟨#[]⟩,.int .i64 0,.int .i64 0,.int .i64 0,.int .i64 0,.int .i64 0] 32).below hb);have HW:=Lib.hid (below_then (below_alloc HW.out _) (below_alloc HW.out _).size hb);have HC0:=Lib.hid hC0;have HC1:=Lib.hid hC1;have HL0:=Lib.hid hl0;have HL1:=Lib.hid hl1;clear hb hC0 hC1 hl0 hl1 kc;obtain ⟨ad,hadE,hcell0⟩:=Kd.at_string HC0.out 0 (Int.le_refl _) hLP;subst hadE;rw [HL00.out] at hcell0;rw [add0] at hcell0;have hcell:=hcell0;clear hcell0)|(go_at_call 57;(with_reducible refine (HCU.out _).mono ?_);rintro e wl ⟨vv,rfl,hv,hb⟩;obtain ⟨A2,c2,rfl,hl2,hC2⟩:=Kd.R_reads hv;have HA:=Lib.hid (HA.out.below hb);have HB:=Lib.hid (HB.out.below hb);have HX:=Lib.hid (HX.out.below hb);have HC0:=Lib.hid (Kd.C_below HC0.out hb);have HC1:=Lib.hid (Kd.C_below HC1.out hb);have HW:=Lib.hid (below_then HW.out HW.out.size hb);have HC2:=Lib.hid hC2;have hcell:=pw_cell_below hb hcell;clear hb hv hl2 hC2;obtain ⟨pd,hpE,hq0⟩:=Kd.at_string HC2.out 0 (by decide) (show (0:Int)<((3:Nat):Int) by decide);subst hpE;obtain ⟨_,hpE,hq1⟩:=Kd.at_string HC2.out 1 (by decide) (show (1:Int)<((3:Nat):Int) by decide);cases hpE;obtain ⟨_,hpE,hq2⟩:=Kd.at_string HC2.out 2 (by decide) (show (2:Int)<((3:Nat):Int) by decide);cases hpE;rw [add0] at hq0;have e0:wl.cell? pd=some (.string p0):=hq0;have e1:wl.cell? ⟨pd.block,pd.off+1,none⟩=some (.string p1):=hq1;have e2:wl.cell? ⟨pd.block,pd.off+2,none⟩=some (.string p2):=hq2;clear hq0 hq1 hq2)|(go_at_call 58;(with_reducible refine (HAL.out _).mono ?_);rintro e wl ⟨rfl,hb⟩;have HA:=Lib.hid (HA.out.below hb);have HB:=Lib.hid (HB.out.below hb);have HX:=Lib.hid (HX.out.below hb);have HC0:=Lib.hid (Kd.C_below HC0.out hb);have HC1:=Lib.hid (Kd.C_below HC1.out hb);have HW:=Lib.hid (below_then HW.out HW.out.size hb);have hcell:=pw_cell_below hb hcell;have HC2:=Lib.hid (Kd.C_below HC2.out hb);have e0:=pw_cell_below hb e0;have e1:=pw_cell_below hb e1;have e2:=pw_cell_below hb e2;clear hb)|(go_at_call 59;(with_reducible refine (HVE.out _).mono ?_);rintro e wl ⟨rfl,hb⟩;have HA:=Lib.hid (HA.out.below hb);have HB:=Lib.hid (HB.out.below hb);have HX:=Lib.hid (HX.out.below hb);have HC0:=Lib.hid (Kd.C_below HC0.out hb);have HC1:=Lib.hid (Kd.C_below HC1.out hb);have HW:=Lib.hid (below_then HW.out HW.out.size hb);have hcell:=pw_cell_below hb hcell;have HC2:=Lib.hid (Kd.C_below HC2.out hb);have e0:=pw_cell_below hb e0;have e1:=pw_cell_below hb e1;have e2:=pw_cell_below hb e2;clear hb)|(go_at_call 46;(with_reducible refine (HF.out _ (StdW.below HS.out HW.out)).mono ?_);rintro e wf ⟨rfl,hb⟩;have HA:=Lib.hid (HA.out.below hb);have HB:=Lib.hid (HB.out.below hb);have HW:=Lib.hid (below_then HW.out HW.out.size hb);clear hb;have hA:=HA.out;have hB:=HB.out;have hlt1:=hA.lt;have hlt2:=hB.lt;obtain ⟨⟨d0,d1,d2⟩,⟨f0,f1,f2⟩,s0,s1,s2⟩:=hA.rpz;obtain ⟨v0,v1,v2,v3,v4,v5,v6,v7,v8,v9,r0,r1,r2,r3,r4,r5,r6,r7,r8,r9⟩:=hB.ten))
 all_goals
  refine bodyPost_ret (v:= .tuple #[.agg #[.int .i64 0,.string ⟨#[]⟩,.slice none 0 0],.int .i64 0,.agg #[.int .i64 1,.string headS,.string ⟨#[]⟩,.string ⟨#[]⟩,.string ⟨#[]⟩,.int .i64 0,.int .i64 0,.int .i64 0,.int .i64 0,.int .i64 80]]) ?_ rfl ⟨rfl,?_⟩
  ·exact rs_res _ _ w.heap.size (w.heap.size+1) 0 ⟨#[]⟩ (.slice none 0 0) 0 1 headS ⟨#[]⟩ ⟨#[]⟩ 0 0 0 80 _ _ rfl rfl rfl (Blk.othB 1 headS ⟨#[]⟩ ⟨#[]⟩ 0 0 0 80 hne1 hA) (Blk.setB 1 headS ⟨#[]⟩ ⟨#[]⟩ 0 0 0 80 hB)
  ·exact (setB_below HW.out (Nat.le_succ _) 1 headS ⟨#[]⟩ ⟨#[]⟩ 0 0 0 80)
set_option maxRecDepth 100000 in
set_option maxHeartbeats 8000000 in
theorem rs_pl (A:Addr) (n c:Nat) (mm:Nat) (hm0:(0:Int)≤(mm:Int)) (hm1:(mm:Int)≤(c:Int)) (S:ByteArray) (L:List ByteArray) (ats:List Int) (w:World) (HEN0:CEn A n c mm w) (KC0:CKc A mm c S w) (HLI0:CLi S L ats w) (hL:((L.length:Int)==0)=false) (hLP:(0:Int)<(L.length:Int)) (l:ByteArray) (HL000:rdOf ByteArray.empty L 0=l) (p0 p1 p2:ByteArray) (HCU0:CCu 3 l [p0,p1,p2]) (HAL0:CBo 58 l false) (HVE0:CBo 59 p0 true) (HPL0:CPl p2 false) (HF0:CFa 80) (hS:StdW w):
  Calls Tryz.prog 17 #[.slice (some A) n c] w fun e w'=>e= .returned (.tuple #[.agg #[.int .i64 0,.string ⟨#[]⟩,.slice none 0 0],.int .i64 0,.agg #[.int .i64 1,.string headS,.string ⟨#[]⟩,.string ⟨#[]⟩,.string ⟨#[]⟩,.int .i64 0,.int .i64 0,.int .i64 0,.int .i64 0,.int .i64 80]])∧Below w.heap.size w w':=by
 have HS:=Lib.hid hS
 have HEN:=Lib.hid HEN0
 have KC:=Lib.hid KC0
 have HLI:=Lib.hid HLI0
 have HL00:=Lib.hid HL000
 have HCU:=Lib.hid HCU0
 clear HEN0 KC0 HLI0 HL000 HCU0
 have HAL:=Lib.hid HAL0
 have HVE:=Lib.hid HVE0
 have HPL:=Lib.hid HPL0
 have HF:=Lib.hid HF0
 clear HAL0 HVE0 HPL0 HF0
 clear hS
 have HA:=Lib.hid ((Blk.new w rpZ 51).old (.cells zX 32))
 have HB:Hid (Blk ((w.alloc (.cells rpZ 51)).alloc (.cells zX 32)) (w.heap.size+1) zX 32):=Lib.hid (by have:=Blk.new (w.alloc (.cells rpZ 51)) zX 32;rwa [World.size_alloc] at this)
 have HW:=Lib.hid (below_alloc (below_alloc (Below.refl w.heap.size w) (.cells rpZ 51)) (.cells zX 32))
 have hne1:w.heap.size≠w.heap.size+1:=by omega
 have hne2:=hne1.symm
 unfold rpZ rpC zX bad3 at HA HB HW
 go_enter Tryz.func17,Tryz.ntmps17
 go_wp2_with (first|(go_at_call 11;(with_reducible refine (HEN.out _ HW.out).mono ?_);rintro e wn ⟨rfl,hb⟩;have HA:=Lib.hid (HA.out.below hb);have HB:=Lib.hid (HB.out.below hb);have HW:=Lib.hid (below_then HW.out HW.out.size hb);clear hb;have kc:=KC.out _ (below_alloc HW.out (.cells #[.int .i64 0,.string ⟨#[]⟩,.string ⟨#[]⟩,.string ⟨#[]⟩,.string ⟨#[]⟩,.int .i64 0,.int .i64 0,.int .i64 0,.int .i64 0,.int .i64 0] 32)))|(go_at_call 56;(with_reducible refine (HLI.out _ (below_alloc HW.out _)).mono ?_);rintro e wl ⟨vv0,vv1,rfl,hv0,hv1,hb⟩;obtain ⟨A0,c0,rfl,hl0,hC0⟩:=Kd.R_reads hv0;obtain ⟨A1,c1,rfl,hl1,hC1⟩:=Kd.R_reads hv1;clear hv0 hv1;have HPX:=Lib.hid HA.out.lt;have HRX:=Lib.hid HB.out.lt;have HA:=Lib.hid ((HA.out.old _).below hb);have HB:=Lib.hid ((HB.out.old _).below hb);have HX:=Lib.hid ((Blk.new wn #[.int .i64 0,.string ⟨#[]⟩,.string ⟨#[]⟩,.string ⟨#[]⟩,.string ⟨#[]⟩,.int .i64 0,.int .i64 0,.int .i64 0,.int .i64 0,.int .i64 0] 32).below hb);have HW:=Lib.hid (below_then (below_alloc HW.out _) (below_alloc HW.out _).size hb);have HC0:=Lib.hid hC0;have HC1:=Lib.hid hC1;have HL0:=Lib.hid hl0;have HL1:=Lib.hid hl1;clear hb hC0 hC1 hl0 hl1 kc;obtain ⟨ad,hadE,hcell0⟩:=Kd.at_string HC0.out 0 (Int.le_refl _) hLP;subst hadE;rw [HL00.out] at hcell0;rw [add0] at hcell0;have hcell:=hcell0;clear hcell0)|(go_at_call 57;(with_reducible refine (HCU.out _).mono ?_);rintro e wl ⟨vv,rfl,hv,hb⟩;obtain ⟨A2,c2,rfl,hl2,hC2⟩:=Kd.R_reads hv;have HA:=Lib.hid (HA.out.below hb);have HB:=Lib.hid (HB.out.below hb);have HX:=Lib.hid (HX.out.below hb);have HC0:=Lib.hid (Kd.C_below HC0.out hb);have HC1:=Lib.hid (Kd.C_below HC1.out hb);have HW:=Lib.hid (below_then HW.out HW.out.size hb);have HC2:=Lib.hid hC2;have hcell:=pw_cell_below hb hcell;clear hb hv hl2 hC2;obtain ⟨pd,hpE,hq0⟩:=Kd.at_string HC2.out 0 (by decide) (show (0:Int)<((3:Nat):Int) by decide);subst hpE;obtain ⟨_,hpE,hq1⟩:=Kd.at_string HC2.out 1 (by decide) (show (1:Int)<((3:Nat):Int) by decide);cases hpE;obtain ⟨_,hpE,hq2⟩:=Kd.at_string HC2.out 2 (by decide) (show (2:Int)<((3:Nat):Int) by decide);cases hpE;rw [add0] at hq0;have e0:wl.cell? pd=some (.string p0):=hq0;have e1:wl.cell? ⟨pd.block,pd.off+1,none⟩=some (.string p1):=hq1;have e2:wl.cell? ⟨pd.block,pd.off+2,none⟩=some (.string p2):=hq2;clear hq0 hq1 hq2)|(go_at_call 58;(with_reducible refine (HAL.out _).mono ?_);rintro e wl ⟨rfl,hb⟩;have HA:=Lib.hid (HA.out.below hb);have HB:=Lib.hid (HB.out.below hb);have HX:=Lib.hid (HX.out.below hb);have HC0:=Lib.hid (Kd.C_below HC0.out hb);have HC1:=Lib.hid (Kd.C_below HC1.out hb);have HW:=Lib.hid (below_then HW.out HW.out.size hb);have hcell:=pw_cell_below hb hcell;have HC2:=Lib.hid (Kd.C_below HC2.out hb);have e0:=pw_cell_below hb e0;have e1:=pw_cell_below hb e1;have e2:=pw_cell_below hb e2;clear hb)|(go_at_call 59;(with_reducible refine (HVE.out _).mono ?_);rintro e wl ⟨rfl,hb⟩;have HA:=Lib.hid (HA.out.below hb);have HB:=Lib.hid (HB.out.below hb);have HX:=Lib.hid (HX.out.below hb);have HC0:=Lib.hid (Kd.C_below HC0.out hb);have HC1:=Lib.hid (Kd.C_below HC1.out hb);have HW:=Lib.hid (below_then HW.out HW.out.size hb);have hcell:=pw_cell_below hb hcell;have HC2:=Lib.hid (Kd.C_below HC2.out hb);have e0:=pw_cell_below hb e0;have e1:=pw_cell_below hb e1;have e2:=pw_cell_below hb e2;clear hb)|(go_at_call 66;(with_reducible refine (HPL.out _).mono ?_);rintro e wl ⟨rfl,hb⟩;have HA:=Lib.hid (HA.out.below hb);have HB:=Lib.hid (HB.out.below hb);have HX:=Lib.hid (HX.out.below hb);have HC0:=Lib.hid (Kd.C_below HC0.out hb);have HC1:=Lib.hid (Kd.C_below HC1.out hb);have HW:=Lib.hid (below_then HW.out HW.out.size hb);have hcell:=pw_cell_below hb hcell;have HC2:=Lib.hid (Kd.C_below HC2.out hb);have e0:=pw_cell_below hb e0;have e1:=pw_cell_below hb e1;have e2:=pw_cell_below hb e2;clear hb)|(go_at_call 46;(with_reducible refine (HF.out _ (StdW.below HS.out HW.out)).mono ?_);rintro e wf ⟨rfl,hb⟩;have HA:=Lib.hid (HA.out.below hb);have HB:=Lib.hid (HB.out.below hb);have HW:=Lib.hid (below_then HW.out HW.out.size hb);clear hb;have hA:=HA.out;have hB:=HB.out;have hlt1:=hA.lt;have hlt2:=hB.lt;obtain ⟨⟨d0,d1,d2⟩,⟨f0,f1,f2⟩,s0,s1,s2⟩:=hA.rpz;obtain ⟨v0,v1,v2,v3,v4,v5,v6,v7,v8,v9,r0,r1,r2,r3,r4,r5,r6,r7,r8,r9⟩:=hB.ten))
 all_goals
  refine bodyPost_ret (v:= .tuple #[.agg #[.int .i64 0,.string ⟨#[]⟩,.slice none 0 0],.int .i64 0,.agg #[.int .i64 1,.string headS,.string ⟨#[]⟩,.string ⟨#[]⟩,.string ⟨#[]⟩,.int .i64 0,.int .i64 0,.int .i64 0,.int .i64 0,.int .i64 80]]) ?_ rfl ⟨rfl,?_⟩
  ·exact rs_res _ _ w.heap.size (w.heap.size+1) 0 ⟨#[]⟩ (.slice none 0 0) 0 1 headS ⟨#[]⟩ ⟨#[]⟩ 0 0 0 80 _ _ rfl rfl rfl (Blk.othB 1 headS ⟨#[]⟩ ⟨#[]⟩ 0 0 0 80 hne1 hA) (Blk.setB 1 headS ⟨#[]⟩ ⟨#[]⟩ 0 0 0 80 hB)
  ·exact (setB_below HW.out (Nat.le_succ _) 1 headS ⟨#[]⟩ ⟨#[]⟩ 0 0 0 80)
set_option maxRecDepth 100000 in
set_option maxHeartbeats 8000000 in
theorem rs_co0 (A:Addr) (n c:Nat) (mm:Nat) (hm0:(0:Int)≤(mm:Int)) (hm1:(mm:Int)≤(c:Int)) (S:ByteArray) (L:List ByteArray) (ats:List Int) (w:World) (HEN0:CEn A n c mm w) (KC0:CKc A mm c S w) (HLI0:CLi S L ats w) (hL:((L.length:Int)==0)=false) (hLP:(0:Int)<(L.length:Int)) (l:ByteArray) (HL000:rdOf ByteArray.empty L 0=l) (p0 p1 p2:ByteArray) (HCU0:CCu 3 l [p0,p1,p2]) (HAL0:CBo 58 l false) (HVE0:CBo 59 p0 true) (HPL0:CPl p2 true) (v:Int) (HWH0:CWh p1 v false) (HF0:CFa 80) (hS:StdW w):
  Calls Tryz.prog 17 #[.slice (some A) n c] w fun e w'=>e= .returned (.tuple #[.agg #[.int .i64 0,.string ⟨#[]⟩,.slice none 0 0],.int .i64 0,.agg #[.int .i64 1,.string headS,.string ⟨#[]⟩,.string ⟨#[]⟩,.string ⟨#[]⟩,.int .i64 0,.int .i64 0,.int .i64 0,.int .i64 0,.int .i64 80]])∧Below w.heap.size w w':=by
 have HS:=Lib.hid hS
 have HEN:=Lib.hid HEN0
 have KC:=Lib.hid KC0
 have HLI:=Lib.hid HLI0
 have HL00:=Lib.hid HL000
 have HCU:=Lib.hid HCU0
 clear HEN0 KC0 HLI0 HL000 HCU0
 have HAL:=Lib.hid HAL0
 have HVE:=Lib.hid HVE0
 have HPL:=Lib.hid HPL0
 have HWH:=Lib.hid HWH0
 have HF:=Lib.hid HF0
 clear HAL0 HVE0 HPL0 HWH0 HF0
 clear hS
 have HA:=Lib.hid ((Blk.new w rpZ 51).old (.cells zX 32))
 have HB:Hid (Blk ((w.alloc (.cells rpZ 51)).alloc (.cells zX 32)) (w.heap.size+1) zX 32):=Lib.hid (by have:=Blk.new (w.alloc (.cells rpZ 51)) zX 32;rwa [World.size_alloc] at this)
 have HW:=Lib.hid (below_alloc (below_alloc (Below.refl w.heap.size w) (.cells rpZ 51)) (.cells zX 32))
 have hne1:w.heap.size≠w.heap.size+1:=by omega
 have hne2:=hne1.symm
 unfold rpZ rpC zX bad3 at HA HB HW
 go_enter Tryz.func17,Tryz.ntmps17
 go_wp2_with (first|(go_at_call 11;(with_reducible refine (HEN.out _ HW.out).mono ?_);rintro e wn ⟨rfl,hb⟩;have HA:=Lib.hid (HA.out.below hb);have HB:=Lib.hid (HB.out.below hb);have HW:=Lib.hid (below_then HW.out HW.out.size hb);clear hb;have kc:=KC.out _ (below_alloc HW.out (.cells #[.int .i64 0,.string ⟨#[]⟩,.string ⟨#[]⟩,.string ⟨#[]⟩,.string ⟨#[]⟩,.int .i64 0,.int .i64 0,.int .i64 0,.int .i64 0,.int .i64 0] 32)))|(go_at_call 56;(with_reducible refine (HLI.out _ (below_alloc HW.out _)).mono ?_);rintro e wl ⟨vv0,vv1,rfl,hv0,hv1,hb⟩;obtain ⟨A0,c0,rfl,hl0,hC0⟩:=Kd.R_reads hv0;obtain ⟨A1,c1,rfl,hl1,hC1⟩:=Kd.R_reads hv1;clear hv0 hv1;have HPX:=Lib.hid HA.out.lt;have HRX:=Lib.hid HB.out.lt;have HA:=Lib.hid ((HA.out.old _).below hb);have HB:=Lib.hid ((HB.out.old _).below hb);have HX:=Lib.hid ((Blk.new wn #[.int .i64 0,.string ⟨#[]⟩,.string ⟨#[]⟩,.string ⟨#[]⟩,.string ⟨#[]⟩,.int .i64 0,.int .i64 0,.int .i64 0,.int .i64 0,.int .i64 0] 32).below hb);have HW:=Lib.hid (below_then (below_alloc HW.out _) (below_alloc HW.out _).size hb);have HC0:=Lib.hid hC0;have HC1:=Lib.hid hC1;have HL0:=Lib.hid hl0;have HL1:=Lib.hid hl1;clear hb hC0 hC1 hl0 hl1 kc;obtain ⟨ad,hadE,hcell0⟩:=Kd.at_string HC0.out 0 (Int.le_refl _) hLP;subst hadE;rw [HL00.out] at hcell0;rw [add0] at hcell0;have hcell:=hcell0;clear hcell0)|(go_at_call 57;(with_reducible refine (HCU.out _).mono ?_);rintro e wl ⟨vv,rfl,hv,hb⟩;obtain ⟨A2,c2,rfl,hl2,hC2⟩:=Kd.R_reads hv;have HA:=Lib.hid (HA.out.below hb);have HB:=Lib.hid (HB.out.below hb);have HX:=Lib.hid (HX.out.below hb);have HC0:=Lib.hid (Kd.C_below HC0.out hb);have HC1:=Lib.hid (Kd.C_below HC1.out hb);have HW:=Lib.hid (below_then HW.out HW.out.size hb);have HC2:=Lib.hid hC2;have hcell:=pw_cell_below hb hcell;clear hb hv hl2 hC2;obtain ⟨pd,hpE,hq0⟩:=Kd.at_string HC2.out 0 (by decide) (show (0:Int)<((3:Nat):Int) by decide);subst hpE;obtain ⟨_,hpE,hq1⟩:=Kd.at_string HC2.out 1 (by decide) (show (1:Int)<((3:Nat):Int) by decide);cases hpE;obtain ⟨_,hpE,hq2⟩:=Kd.at_string HC2.out 2 (by decide) (show (2:Int)<((3:Nat):Int) by decide);cases hpE;rw [add0] at hq0;have e0:wl.cell? pd=some (.string p0):=hq0;have e1:wl.cell? ⟨pd.block,pd.off+1,none⟩=some (.string p1):=hq1;have e2:wl.cell? ⟨pd.block,pd.off+2,none⟩=some (.string p2):=hq2;clear hq0 hq1 hq2)|(go_at_call 58;(with_reducible refine (HAL.out _).mono ?_);rintro e wl ⟨rfl,hb⟩;have HA:=Lib.hid (HA.out.below hb);have HB:=Lib.hid (HB.out.below hb);have HX:=Lib.hid (HX.out.below hb);have HC0:=Lib.hid (Kd.C_below HC0.out hb);have HC1:=Lib.hid (Kd.C_below HC1.out hb);have HW:=Lib.hid (below_then HW.out HW.out.size hb);have hcell:=pw_cell_below hb hcell;have HC2:=Lib.hid (Kd.C_below HC2.out hb);have e0:=pw_cell_below hb e0;have e1:=pw_cell_below hb e1;have e2:=pw_cell_below hb e2;clear hb)|(go_at_call 59;(with_reducible refine (HVE.out _).mono ?_);rintro e wl ⟨rfl,hb⟩;have HA:=Lib.hid (HA.out.below hb);have HB:=Lib.hid (HB.out.below hb);have HX:=Lib.hid (HX.out.below hb);have HC0:=Lib.hid (Kd.C_below HC0.out hb);have HC1:=Lib.hid (Kd.C_below HC1.out hb);have HW:=Lib.hid (below_then HW.out HW.out.size hb);have hcell:=pw_cell_below hb hcell;have HC2:=Lib.hid (Kd.C_below HC2.out hb);have e0:=pw_cell_below hb e0;have e1:=pw_cell_below hb e1;have e2:=pw_cell_below hb e2;clear hb)|(go_at_call 66;(with_reducible refine (HPL.out _).mono ?_);rintro e wl ⟨rfl,hb⟩;have HA:=Lib.hid (HA.out.below hb);have HB:=Lib.hid (HB.out.below hb);have HX:=Lib.hid (HX.out.below hb);have HC0:=Lib.hid (Kd.C_below HC0.out hb);have HC1:=Lib.hid (Kd.C_below HC1.out hb);have HW:=Lib.hid (below_then HW.out HW.out.size hb);have hcell:=pw_cell_below hb hcell;have HC2:=Lib.hid (Kd.C_below HC2.out hb);have e0:=pw_cell_below hb e0;have e1:=pw_cell_below hb e1;have e2:=pw_cell_below hb e2;clear hb)|(go_at_call 67;(with_reducible refine (HWH.out _).mono ?_);rintro e wl ⟨rfl,hb⟩;have HA:=Lib.hid (HA.out.below hb);have HB:=Lib.hid (HB.out.below hb);have HX:=Lib.hid (HX.out.below hb);have HC0:=Lib.hid (Kd.C_below HC0.out hb);have HC1:=Lib.hid (Kd.C_below HC1.out hb);have HW:=Lib.hid (below_then HW.out HW.out.size hb);have hcell:=pw_cell_below hb hcell;have HC2:=Lib.hid (Kd.C_below HC2.out hb);have e0:=pw_cell_below hb e0;have e1:=pw_cell_below hb e1;have e2:=pw_cell_below hb e2;clear hb)|(go_at_call 46;(with_reducible refine (HF.out _ (StdW.below HS.out HW.out)).mono ?_);rintro e wf ⟨rfl,hb⟩;have HA:=Lib.hid (HA.out.below hb);have HB:=Lib.hid (HB.out.below hb);have HW:=Lib.hid (below_then HW.out HW.out.size hb);clear hb;have hA:=HA.out;have hB:=HB.out;have hlt1:=hA.lt;have hlt2:=hB.lt;obtain ⟨⟨d0,d1,d2⟩,⟨f0,f1,f2⟩,s0,s1,s2⟩:=hA.rpz;obtain ⟨v0,v1,v2,v3,v4,v5,v6,v7,v8,v9,r0,r1,r2,r3,r4,r5,r6,r7,r8,r9⟩:=hB.ten))
 all_goals
  refine bodyPost_ret (v:= .tuple #[.agg #[.int .i64 0,.string ⟨#[]⟩,.slice none 0 0],.int .i64 0,.agg #[.int .i64 1,.string headS,.string ⟨#[]⟩,.string ⟨#[]⟩,.string ⟨#[]⟩,.int .i64 0,.int .i64 0,.int .i64 0,.int .i64 0,.int .i64 80]]) ?_ rfl ⟨rfl,?_⟩
  ·exact rs_res _ _ w.heap.size (w.heap.size+1) 0 ⟨#[]⟩ (.slice none 0 0) 0 1 headS ⟨#[]⟩ ⟨#[]⟩ 0 0 0 80 _ _ rfl rfl rfl (Blk.othB 1 headS ⟨#[]⟩ ⟨#[]⟩ 0 0 0 80 hne1 hA) (Blk.setB 1 headS ⟨#[]⟩ ⟨#[]⟩ 0 0 0 80 hB)
  ·exact (setB_below HW.out (Nat.le_succ _) 1 headS ⟨#[]⟩ ⟨#[]⟩ 0 0 0 80)
set_option maxRecDepth 100000 in
set_option maxHeartbeats 8000000 in
theorem rs_co1 (A:Addr) (n c:Nat) (mm:Nat) (hm0:(0:Int)≤(mm:Int)) (hm1:(mm:Int)≤(c:Int)) (S:ByteArray) (L:List ByteArray) (ats:List Int) (w:World) (HEN0:CEn A n c mm w) (KC0:CKc A mm c S w) (HLI0:CLi S L ats w) (hL:((L.length:Int)==0)=false) (hLP:(0:Int)<(L.length:Int)) (l:ByteArray) (HL000:rdOf ByteArray.empty L 0=l) (p0 p1 p2:ByteArray) (HCU0:CCu 3 l [p0,p1,p2]) (HAL0:CBo 58 l false) (HVE0:CBo 59 p0 true) (HPL0:CPl p2 true) (v:Int) (hv:v<100) (HWH0:CWh p1 v true) (HF0:CFa 80) (hS:StdW w):
  Calls Tryz.prog 17 #[.slice (some A) n c] w fun e w'=>e= .returned (.tuple #[.agg #[.int .i64 0,.string ⟨#[]⟩,.slice none 0 0],.int .i64 0,.agg #[.int .i64 1,.string headS,.string ⟨#[]⟩,.string ⟨#[]⟩,.string ⟨#[]⟩,.int .i64 0,.int .i64 0,.int .i64 0,.int .i64 0,.int .i64 80]])∧Below w.heap.size w w':=by
 have HS:=Lib.hid hS
 have HEN:=Lib.hid HEN0
 have KC:=Lib.hid KC0
 have HLI:=Lib.hid HLI0
 have HL00:=Lib.hid HL000
 have HCU:=Lib.hid HCU0
 clear HEN0 KC0 HLI0 HL000 HCU0
 have HAL:=Lib.hid HAL0
 have HVE:=Lib.hid HVE0
 have HPL:=Lib.hid HPL0
 have HWH:=Lib.hid HWH0
 have HF:=Lib.hid HF0
 clear HAL0 HVE0 HPL0 HWH0 HF0
 clear hS
 have HA:=Lib.hid ((Blk.new w rpZ 51).old (.cells zX 32))
 have HB:Hid (Blk ((w.alloc (.cells rpZ 51)).alloc (.cells zX 32)) (w.heap.size+1) zX 32):=Lib.hid (by have:=Blk.new (w.alloc (.cells rpZ 51)) zX 32;rwa [World.size_alloc] at this)
 have HW:=Lib.hid (below_alloc (below_alloc (Below.refl w.heap.size w) (.cells rpZ 51)) (.cells zX 32))
 have hne1:w.heap.size≠w.heap.size+1:=by omega
 have hne2:=hne1.symm
 unfold rpZ rpC zX bad3 at HA HB HW
 go_enter Tryz.func17,Tryz.ntmps17
 go_wp2_with (first|(go_at_call 11;(with_reducible refine (HEN.out _ HW.out).mono ?_);rintro e wn ⟨rfl,hb⟩;have HA:=Lib.hid (HA.out.below hb);have HB:=Lib.hid (HB.out.below hb);have HW:=Lib.hid (below_then HW.out HW.out.size hb);clear hb;have kc:=KC.out _ (below_alloc HW.out (.cells #[.int .i64 0,.string ⟨#[]⟩,.string ⟨#[]⟩,.string ⟨#[]⟩,.string ⟨#[]⟩,.int .i64 0,.int .i64 0,.int .i64 0,.int .i64 0,.int .i64 0] 32)))|(go_at_call 56;(with_reducible refine (HLI.out _ (below_alloc HW.out _)).mono ?_);rintro e wl ⟨vv0,vv1,rfl,hv0,hv1,hb⟩;obtain ⟨A0,c0,rfl,hl0,hC0⟩:=Kd.R_reads hv0;obtain ⟨A1,c1,rfl,hl1,hC1⟩:=Kd.R_reads hv1;clear hv0 hv1;have HPX:=Lib.hid HA.out.lt;have HRX:=Lib.hid HB.out.lt;have HA:=Lib.hid ((HA.out.old _).below hb);have HB:=Lib.hid ((HB.out.old _).below hb);have HX:=Lib.hid ((Blk.new wn #[.int .i64 0,.string ⟨#[]⟩,.string ⟨#[]⟩,.string ⟨#[]⟩,.string ⟨#[]⟩,.int .i64 0,.int .i64 0,.int .i64 0,.int .i64 0,.int .i64 0] 32).below hb);have HW:=Lib.hid (below_then (below_alloc HW.out _) (below_alloc HW.out _).size hb);have HC0:=Lib.hid hC0;have HC1:=Lib.hid hC1;have HL0:=Lib.hid hl0;have HL1:=Lib.hid hl1;clear hb hC0 hC1 hl0 hl1 kc;obtain ⟨ad,hadE,hcell0⟩:=Kd.at_string HC0.out 0 (Int.le_refl _) hLP;subst hadE;rw [HL00.out] at hcell0;rw [add0] at hcell0;have hcell:=hcell0;clear hcell0)|(go_at_call 57;(with_reducible refine (HCU.out _).mono ?_);rintro e wl ⟨vv,rfl,hv,hb⟩;obtain ⟨A2,c2,rfl,hl2,hC2⟩:=Kd.R_reads hv;have HA:=Lib.hid (HA.out.below hb);have HB:=Lib.hid (HB.out.below hb);have HX:=Lib.hid (HX.out.below hb);have HC0:=Lib.hid (Kd.C_below HC0.out hb);have HC1:=Lib.hid (Kd.C_below HC1.out hb);have HW:=Lib.hid (below_then HW.out HW.out.size hb);have HC2:=Lib.hid hC2;have hcell:=pw_cell_below hb hcell;clear hb hv hl2 hC2;obtain ⟨pd,hpE,hq0⟩:=Kd.at_string HC2.out 0 (by decide) (show (0:Int)<((3:Nat):Int) by decide);subst hpE;obtain ⟨_,hpE,hq1⟩:=Kd.at_string HC2.out 1 (by decide) (show (1:Int)<((3:Nat):Int) by decide);cases hpE;obtain ⟨_,hpE,hq2⟩:=Kd.at_string HC2.out 2 (by decide) (show (2:Int)<((3:Nat):Int) by decide);cases hpE;rw [add0] at hq0;have e0:wl.cell? pd=some (.string p0):=hq0;have e1:wl.cell? ⟨pd.block,pd.off+1,none⟩=some (.string p1):=hq1;have e2:wl.cell? ⟨pd.block,pd.off+2,none⟩=some (.string p2):=hq2;clear hq0 hq1 hq2)|(go_at_call 58;(with_reducible refine (HAL.out _).mono ?_);rintro e wl ⟨rfl,hb⟩;have HA:=Lib.hid (HA.out.below hb);have HB:=Lib.hid (HB.out.below hb);have HX:=Lib.hid (HX.out.below hb);have HC0:=Lib.hid (Kd.C_below HC0.out hb);have HC1:=Lib.hid (Kd.C_below HC1.out hb);have HW:=Lib.hid (below_then HW.out HW.out.size hb);have hcell:=pw_cell_below hb hcell;have HC2:=Lib.hid (Kd.C_below HC2.out hb);have e0:=pw_cell_below hb e0;have e1:=pw_cell_below hb e1;have e2:=pw_cell_below hb e2;clear hb)|(go_at_call 59;(with_reducible refine (HVE.out _).mono ?_);rintro e wl ⟨rfl,hb⟩;have HA:=Lib.hid (HA.out.below hb);have HB:=Lib.hid (HB.out.below hb);have HX:=Lib.hid (HX.out.below hb);have HC0:=Lib.hid (Kd.C_below HC0.out hb);have HC1:=Lib.hid (Kd.C_below HC1.out hb);have HW:=Lib.hid (below_then HW.out HW.out.size hb);have hcell:=pw_cell_below hb hcell;have HC2:=Lib.hid (Kd.C_below HC2.out hb);have e0:=pw_cell_below hb e0;have e1:=pw_cell_below hb e1;have e2:=pw_cell_below hb e2;clear hb)|(go_at_call 66;(with_reducible refine (HPL.out _).mono ?_);rintro e wl ⟨rfl,hb⟩;have HA:=Lib.hid (HA.out.below hb);have HB:=Lib.hid (HB.out.below hb);have HX:=Lib.hid (HX.out.below hb);have HC0:=Lib.hid (Kd.C_below HC0.out hb);have HC1:=Lib.hid (Kd.C_below HC1.out hb);have HW:=Lib.hid (below_then HW.out HW.out.size hb);have hcell:=pw_cell_below hb hcell;have HC2:=Lib.hid (Kd.C_below HC2.out hb);have e0:=pw_cell_below hb e0;have e1:=pw_cell_below hb e1;have e2:=pw_cell_below hb e2;clear hb)|(go_at_call 67;(with_reducible refine (HWH.out _).mono ?_);rintro e wl ⟨rfl,hb⟩;have HA:=Lib.hid (HA.out.below hb);have HB:=Lib.hid (HB.out.below hb);have HX:=Lib.hid (HX.out.below hb);have HC0:=Lib.hid (Kd.C_below HC0.out hb);have HC1:=Lib.hid (Kd.C_below HC1.out hb);have HW:=Lib.hid (below_then HW.out HW.out.size hb);have hcell:=pw_cell_below hb hcell;have HC2:=Lib.hid (Kd.C_below HC2.out hb);have e0:=pw_cell_below hb e0;have e1:=pw_cell_below hb e1;have e2:=pw_cell_below hb e2;clear hb)|(go_at_call 46;(with_reducible refine (HF.out _ (StdW.below HS.out HW.out)).mono ?_);rintro e wf ⟨rfl,hb⟩;have HA:=Lib.hid (HA.out.below hb);have HB:=Lib.hid (HB.out.below hb);have HW:=Lib.hid (below_then HW.out HW.out.size hb);clear hb;have hA:=HA.out;have hB:=HB.out;have hlt1:=hA.lt;have hlt2:=hB.lt;obtain ⟨⟨d0,d1,d2⟩,⟨f0,f1,f2⟩,s0,s1,s2⟩:=hA.rpz;obtain ⟨v0,v1,v2,v3,v4,v5,v6,v7,v8,v9,r0,r1,r2,r3,r4,r5,r6,r7,r8,r9⟩:=hB.ten))
 all_goals
  refine bodyPost_ret (v:= .tuple #[.agg #[.int .i64 0,.string ⟨#[]⟩,.slice none 0 0],.int .i64 0,.agg #[.int .i64 1,.string headS,.string ⟨#[]⟩,.string ⟨#[]⟩,.string ⟨#[]⟩,.int .i64 0,.int .i64 0,.int .i64 0,.int .i64 0,.int .i64 80]]) ?_ rfl ⟨rfl,?_⟩
  ·exact rs_res _ _ w.heap.size (w.heap.size+1) 0 ⟨#[]⟩ (.slice none 0 0) 0 1 headS ⟨#[]⟩ ⟨#[]⟩ 0 0 0 80 _ _ rfl rfl rfl (Blk.othB 1 headS ⟨#[]⟩ ⟨#[]⟩ 0 0 0 80 hne1 hA) (Blk.setB 1 headS ⟨#[]⟩ ⟨#[]⟩ 0 0 0 80 hB)
  ·exact (setB_below HW.out (Nat.le_succ _) 1 headS ⟨#[]⟩ ⟨#[]⟩ 0 0 0 80)
set_option maxRecDepth 100000 in
set_option maxHeartbeats 8000000 in
theorem rs_co2 (A:Addr) (n c:Nat) (mm:Nat) (hm0:(0:Int)≤(mm:Int)) (hm1:(mm:Int)≤(c:Int)) (S:ByteArray) (L:List ByteArray) (ats:List Int) (w:World) (HEN0:CEn A n c mm w) (KC0:CKc A mm c S w) (HLI0:CLi S L ats w) (hL:((L.length:Int)==0)=false) (hLP:(0:Int)<(L.length:Int)) (l:ByteArray) (HL000:rdOf ByteArray.empty L 0=l) (p0 p1 p2:ByteArray) (HCU0:CCu 3 l [p0,p1,p2]) (HAL0:CBo 58 l false) (HVE0:CBo 59 p0 true) (HPL0:CPl p2 true) (v:Int) (hv0: ¬ v<100) (hv:v>599) (HWH0:CWh p1 v true) (HF0:CFa 80) (hS:StdW w):
  Calls Tryz.prog 17 #[.slice (some A) n c] w fun e w'=>e= .returned (.tuple #[.agg #[.int .i64 0,.string ⟨#[]⟩,.slice none 0 0],.int .i64 0,.agg #[.int .i64 1,.string headS,.string ⟨#[]⟩,.string ⟨#[]⟩,.string ⟨#[]⟩,.int .i64 0,.int .i64 0,.int .i64 0,.int .i64 0,.int .i64 80]])∧Below w.heap.size w w':=by
 have HS:=Lib.hid hS
 have HEN:=Lib.hid HEN0
 have KC:=Lib.hid KC0
 have HLI:=Lib.hid HLI0
 have HL00:=Lib.hid HL000
 have HCU:=Lib.hid HCU0
 clear HEN0 KC0 HLI0 HL000 HCU0
 have HAL:=Lib.hid HAL0
 have HVE:=Lib.hid HVE0
 have HPL:=Lib.hid HPL0
 have HWH:=Lib.hid HWH0
 have HF:=Lib.hid HF0
 clear HAL0 HVE0 HPL0 HWH0 HF0
 clear hS
 have HA:=Lib.hid ((Blk.new w rpZ 51).old (.cells zX 32))
 have HB:Hid (Blk ((w.alloc (.cells rpZ 51)).alloc (.cells zX 32)) (w.heap.size+1) zX 32):=Lib.hid (by have:=Blk.new (w.alloc (.cells rpZ 51)) zX 32;rwa [World.size_alloc] at this)
 have HW:=Lib.hid (below_alloc (below_alloc (Below.refl w.heap.size w) (.cells rpZ 51)) (.cells zX 32))
 have hne1:w.heap.size≠w.heap.size+1:=by omega
 have hne2:=hne1.symm
 unfold rpZ rpC zX bad3 at HA HB HW
 go_enter Tryz.func17,Tryz.ntmps17
 go_wp2_with (first|(go_at_call 11;(with_reducible refine (HEN.out _ HW.out).mono ?_);rintro e wn ⟨rfl,hb⟩;have HA:=Lib.hid (HA.out.below hb);have HB:=Lib.hid (HB.out.below hb);have HW:=Lib.hid (below_then HW.out HW.out.size hb);clear hb;have kc:=KC.out _ (below_alloc HW.out (.cells #[.int .i64 0,.string ⟨#[]⟩,.string ⟨#[]⟩,.string ⟨#[]⟩,.string ⟨#[]⟩,.int .i64 0,.int .i64 0,.int .i64 0,.int .i64 0,.int .i64 0] 32)))|(go_at_call 56;(with_reducible refine (HLI.out _ (below_alloc HW.out _)).mono ?_);rintro e wl ⟨vv0,vv1,rfl,hv0,hv1,hb⟩;obtain ⟨A0,c0,rfl,hl0,hC0⟩:=Kd.R_reads hv0;obtain ⟨A1,c1,rfl,hl1,hC1⟩:=Kd.R_reads hv1;clear hv0 hv1;have HPX:=Lib.hid HA.out.lt;have HRX:=Lib.hid HB.out.lt;have HA:=Lib.hid ((HA.out.old _).below hb);have HB:=Lib.hid ((HB.out.old _).below hb);have HX:=Lib.hid ((Blk.new wn #[.int .i64 0,.string ⟨#[]⟩,.string ⟨#[]⟩,.string ⟨#[]⟩,.string ⟨#[]⟩,.int .i64 0,.int .i64 0,.int .i64 0,.int .i64 0,.int .i64 0] 32).below hb);have HW:=Lib.hid (below_then (below_alloc HW.out _) (below_alloc HW.out _).size hb);have HC0:=Lib.hid hC0;have HC1:=Lib.hid hC1;have HL0:=Lib.hid hl0;have HL1:=Lib.hid hl1;clear hb hC0 hC1 hl0 hl1 kc;obtain ⟨ad,hadE,hcell0⟩:=Kd.at_string HC0.out 0 (Int.le_refl _) hLP;subst hadE;rw [HL00.out] at hcell0;rw [add0] at hcell0;have hcell:=hcell0;clear hcell0)|(go_at_call 57;(with_reducible refine (HCU.out _).mono ?_);rintro e wl ⟨vv,rfl,hv,hb⟩;obtain ⟨A2,c2,rfl,hl2,hC2⟩:=Kd.R_reads hv;have HA:=Lib.hid (HA.out.below hb);have HB:=Lib.hid (HB.out.below hb);have HX:=Lib.hid (HX.out.below hb);have HC0:=Lib.hid (Kd.C_below HC0.out hb);have HC1:=Lib.hid (Kd.C_below HC1.out hb);have HW:=Lib.hid (below_then HW.out HW.out.size hb);have HC2:=Lib.hid hC2;have hcell:=pw_cell_below hb hcell;clear hb hv hl2 hC2;obtain ⟨pd,hpE,hq0⟩:=Kd.at_string HC2.out 0 (by decide) (show (0:Int)<((3:Nat):Int) by decide);subst hpE;obtain ⟨_,hpE,hq1⟩:=Kd.at_string HC2.out 1 (by decide) (show (1:Int)<((3:Nat):Int) by decide);cases hpE;obtain ⟨_,hpE,hq2⟩:=Kd.at_string HC2.out 2 (by decide) (show (2:Int)<((3:Nat):Int) by decide);cases hpE;rw [add0] at hq0;have e0:wl.cell? pd=some (.string p0):=hq0;have e1:wl.cell? ⟨pd.block,pd.off+1,none⟩=some (.string p1):=hq1;have e2:wl.cell? ⟨pd.block,pd.off+2,none⟩=some (.string p2):=hq2;clear hq0 hq1 hq2)|(go_at_call 58;(with_reducible refine (HAL.out _).mono ?_);rintro e wl ⟨rfl,hb⟩;have HA:=Lib.hid (HA.out.below hb);have HB:=Lib.hid (HB.out.below hb);have HX:=Lib.hid (HX.out.below hb);have HC0:=Lib.hid (Kd.C_below HC0.out hb);have HC1:=Lib.hid (Kd.C_below HC1.out hb);have HW:=Lib.hid (below_then HW.out HW.out.size hb);have hcell:=pw_cell_below hb hcell;have HC2:=Lib.hid (Kd.C_below HC2.out hb);have e0:=pw_cell_below hb e0;have e1:=pw_cell_below hb e1;have e2:=pw_cell_below hb e2;clear hb)|(go_at_call 59;(with_reducible refine (HVE.out _).mono ?_);rintro e wl ⟨rfl,hb⟩;have HA:=Lib.hid (HA.out.below hb);have HB:=Lib.hid (HB.out.below hb);have HX:=Lib.hid (HX.out.below hb);have HC0:=Lib.hid (Kd.C_below HC0.out hb);have HC1:=Lib.hid (Kd.C_below HC1.out hb);have HW:=Lib.hid (below_then HW.out HW.out.size hb);have hcell:=pw_cell_below hb hcell;have HC2:=Lib.hid (Kd.C_below HC2.out hb);have e0:=pw_cell_below hb e0;have e1:=pw_cell_below hb e1;have e2:=pw_cell_below hb e2;clear hb)|(go_at_call 66;(with_reducible refine (HPL.out _).mono ?_);rintro e wl ⟨rfl,hb⟩;have HA:=Lib.hid (HA.out.below hb);have HB:=Lib.hid (HB.out.below hb);have HX:=Lib.hid (HX.out.below hb);have HC0:=Lib.hid (Kd.C_below HC0.out hb);have HC1:=Lib.hid (Kd.C_below HC1.out hb);have HW:=Lib.hid (below_then HW.out HW.out.size hb);have hcell:=pw_cell_below hb hcell;have HC2:=Lib.hid (Kd.C_below HC2.out hb);have e0:=pw_cell_below hb e0;have e1:=pw_cell_below hb e1;have e2:=pw_cell_below hb e2;clear hb)|(go_at_call 67;(with_reducible refine (HWH.out _).mono ?_);rintro e wl ⟨rfl,hb⟩;have HA:=Lib.hid (HA.out.below hb);have HB:=Lib.hid (HB.out.below hb);have HX:=Lib.hid (HX.out.below hb);have HC0:=Lib.hid (Kd.C_below HC0.out hb);have HC1:=Lib.hid (Kd.C_below HC1.out hb);have HW:=Lib.hid (below_then HW.out HW.out.size hb);have hcell:=pw_cell_below hb hcell;have HC2:=Lib.hid (Kd.C_below HC2.out hb);have e0:=pw_cell_below hb e0;have e1:=pw_cell_below hb e1;have e2:=pw_cell_below hb e2;clear hb)|(go_at_call 46;(with_reducible refine (HF.out _ (StdW.below HS.out HW.out)).mono ?_);rintro e wf ⟨rfl,hb⟩;have HA:=Lib.hid (HA.out.below hb);have HB:=Lib.hid (HB.out.below hb);have HW:=Lib.hid (below_then HW.out HW.out.size hb);clear hb;have hA:=HA.out;have hB:=HB.out;have hlt1:=hA.lt;have hlt2:=hB.lt;obtain ⟨⟨d0,d1,d2⟩,⟨f0,f1,f2⟩,s0,s1,s2⟩:=hA.rpz;obtain ⟨v0,v1,v2,v3,v4,v5,v6,v7,v8,v9,r0,r1,r2,r3,r4,r5,r6,r7,r8,r9⟩:=hB.ten))
 all_goals
  refine bodyPost_ret (v:= .tuple #[.agg #[.int .i64 0,.string ⟨#[]⟩,.slice none 0 0],.int .i64 0,.agg #[.int .i64 1,.string headS,.string ⟨#[]⟩,.string ⟨#[]⟩,.string ⟨#[]⟩,.int .i64 0,.int .i64 0,.int .i64 0,.int .i64 0,.int .i64 80]]) ?_ rfl ⟨rfl,?_⟩
  ·exact rs_res _ _ w.heap.size (w.heap.size+1) 0 ⟨#[]⟩ (.slice none 0 0) 0 1 headS ⟨#[]⟩ ⟨#[]⟩ 0 0 0 80 _ _ rfl rfl rfl (Blk.othB 1 headS ⟨#[]⟩ ⟨#[]⟩ 0 0 0 80 hne1 hA) (Blk.setB 1 headS ⟨#[]⟩ ⟨#[]⟩ 0 0 0 80 hB)
  ·exact (setB_below HW.out (Nat.le_succ _) 1 headS ⟨#[]⟩ ⟨#[]⟩ 0 0 0 80)
set_option maxRecDepth 100000 in
set_option maxHeartbeats 8000000 in
theorem rs_fl (A:Addr) (n c:Nat) (mm:Nat) (hm0:(0:Int)≤(mm:Int)) (hm1:(mm:Int)≤(c:Int)) (S:ByteArray) (L:List ByteArray) (ats:List Int) (w:World) (HEN0:CEn A n c mm w) (KC0:CKc A mm c S w) (HLI0:CLi S L ats w) (hL:((L.length:Int)==0)=false) (hLP:(0:Int)<(L.length:Int)) (l:ByteArray) (HL000:rdOf ByteArray.empty L 0=l) (p0 p1 p2:ByteArray) (HCU0:CCu 3 l [p0,p1,p2]) (HAL0:CBo 58 l false) (HVE0:CBo 59 p0 true) (HPL0:CPl p2 true) (v:Int) (hv0: ¬ v<100) (hv: ¬ v>599) (HWH0:CWh p1 v true) (Lr:List ByteArray) (ar:List Int) (ats0:Int) (fs:List S71) (HLR0:L=l::Lr) (HAR0:ats=ats0::ar) (n':Int) (l0 l1 l2:ByteArray) (a0 a1 a2 c':Int) (hn:n'>0) (HFL0: ∀ W B0 d0 B1 d1,StdW W→Kd.C Kd.string W B0 Lr.length Lr→Lr.length≤d0→Kd.C (Kd.int .i64) W B1 ar.length ar→ar.length≤d1→Calls Tryz.prog 62 #[.slice B0 Lr.length d0,.slice B1 ar.length d1] W fun e w'=> ∃ v_,e= .returned (.tuple #[v_,.agg #[.int .i64 n',.string l0,.string l1,.string l2,.string ⟨#[]⟩,.int .i64 a0,.int .i64 a1,.int .i64 a2,.int .i64 0,.int .i64 c']])∧Kd.R k71 71 w' W.heap.size (fun _=>True) v_ fs∧Below W.heap.size W w') (hS:StdW w):
  Calls Tryz.prog 17 #[.slice (some A) n c] w fun e w'=>e= .returned (.tuple #[.agg #[.int .i64 0,.string ⟨#[]⟩,.slice none 0 0],.int .i64 0,.agg #[.int .i64 n',.string l0,.string l1,.string l2,.string ⟨#[]⟩,.int .i64 a0,.int .i64 a1,.int .i64 a2,.int .i64 0,.int .i64 c']])∧Below w.heap.size w w':=by
 have HS:=Lib.hid hS
 have HEN:=Lib.hid HEN0
 have KC:=Lib.hid KC0
 have HLI:=Lib.hid HLI0
 have HL00:=Lib.hid HL000
 have HCU:=Lib.hid HCU0
 clear HEN0 KC0 HLI0 HL000 HCU0
 have HAL:=Lib.hid HAL0
 have HVE:=Lib.hid HVE0
 have HPL:=Lib.hid HPL0
 have HWH:=Lib.hid HWH0
 have HFL:=Lib.hid HFL0
 have HLR:=Lib.hid HLR0
 have HAR:=Lib.hid HAR0
 clear HAL0 HVE0 HPL0 HWH0 HFL0 HLR0 HAR0
 clear hS
 have HA:=Lib.hid ((Blk.new w rpZ 51).old (.cells zX 32))
 have HB:Hid (Blk ((w.alloc (.cells rpZ 51)).alloc (.cells zX 32)) (w.heap.size+1) zX 32):=Lib.hid (by have:=Blk.new (w.alloc (.cells rpZ 51)) zX 32;rwa [World.size_alloc] at this)
 have HW:=Lib.hid (below_alloc (below_alloc (Below.refl w.heap.size w) (.cells rpZ 51)) (.cells zX 32))
 have hne1:w.heap.size≠w.heap.size+1:=by omega
 have hne2:=hne1.symm
 unfold rpZ rpC zX bad3 at HA HB HW
 go_enter Tryz.func17,Tryz.ntmps17
 go_wp2_with (first|(go_at_call 11;(with_reducible refine (HEN.out _ HW.out).mono ?_);rintro e wn ⟨rfl,hb⟩;have HA:=Lib.hid (HA.out.below hb);have HB:=Lib.hid (HB.out.below hb);have HW:=Lib.hid (below_then HW.out HW.out.size hb);clear hb;have kc:=KC.out _ (below_alloc HW.out (.cells #[.int .i64 0,.string ⟨#[]⟩,.string ⟨#[]⟩,.string ⟨#[]⟩,.string ⟨#[]⟩,.int .i64 0,.int .i64 0,.int .i64 0,.int .i64 0,.int .i64 0] 32)))|(go_at_call 56;(with_reducible refine (HLI.out _ (below_alloc HW.out _)).mono ?_);rintro e wl ⟨vv0,vv1,rfl,hv0,hv1,hb⟩;obtain ⟨A0,c0,rfl,hl0,hC0⟩:=Kd.R_reads hv0;obtain ⟨A1,c1,rfl,hl1,hC1⟩:=Kd.R_reads hv1;clear hv0 hv1;have HPX:=Lib.hid HA.out.lt;have HRX:=Lib.hid HB.out.lt;have HA:=Lib.hid ((HA.out.old _).below hb);have HB:=Lib.hid ((HB.out.old _).below hb);have HX:=Lib.hid ((Blk.new wn #[.int .i64 0,.string ⟨#[]⟩,.string ⟨#[]⟩,.string ⟨#[]⟩,.string ⟨#[]⟩,.int .i64 0,.int .i64 0,.int .i64 0,.int .i64 0,.int .i64 0] 32).below hb);have HW:=Lib.hid (below_then (below_alloc HW.out _) (below_alloc HW.out _).size hb);have HC0:=Lib.hid hC0;have HC1:=Lib.hid hC1;have HL0:=Lib.hid hl0;have HL1:=Lib.hid hl1;clear hb hC0 hC1 hl0 hl1 kc;obtain ⟨ad,hadE,hcell0⟩:=Kd.at_string HC0.out 0 (Int.le_refl _) hLP;subst hadE;rw [HL00.out] at hcell0;rw [add0] at hcell0;have hcell:=hcell0;clear hcell0)|(go_at_call 57;(with_reducible refine (HCU.out _).mono ?_);rintro e wl ⟨vv,rfl,hv,hb⟩;obtain ⟨A2,c2,rfl,hl2,hC2⟩:=Kd.R_reads hv;have HA:=Lib.hid (HA.out.below hb);have HB:=Lib.hid (HB.out.below hb);have HX:=Lib.hid (HX.out.below hb);have HC0:=Lib.hid (Kd.C_below HC0.out hb);have HC1:=Lib.hid (Kd.C_below HC1.out hb);have HW:=Lib.hid (below_then HW.out HW.out.size hb);have HC2:=Lib.hid hC2;have hcell:=pw_cell_below hb hcell;clear hb hv hl2 hC2;obtain ⟨pd,hpE,hq0⟩:=Kd.at_string HC2.out 0 (by decide) (show (0:Int)<((3:Nat):Int) by decide);subst hpE;obtain ⟨_,hpE,hq1⟩:=Kd.at_string HC2.out 1 (by decide) (show (1:Int)<((3:Nat):Int) by decide);cases hpE;obtain ⟨_,hpE,hq2⟩:=Kd.at_string HC2.out 2 (by decide) (show (2:Int)<((3:Nat):Int) by decide);cases hpE;rw [add0] at hq0;have e0:wl.cell? pd=some (.string p0):=hq0;have e1:wl.cell? ⟨pd.block,pd.off+1,none⟩=some (.string p1):=hq1;have e2:wl.cell? ⟨pd.block,pd.off+2,none⟩=some (.string p2):=hq2;clear hq0 hq1 hq2)|(go_at_call 58;(with_reducible refine (HAL.out _).mono ?_);rintro e wl ⟨rfl,hb⟩;have HA:=Lib.hid (HA.out.below hb);have HB:=Lib.hid (HB.out.below hb);have HX:=Lib.hid (HX.out.below hb);have HC0:=Lib.hid (Kd.C_below HC0.out hb);have HC1:=Lib.hid (Kd.C_below HC1.out hb);have HW:=Lib.hid (below_then HW.out HW.out.size hb);have hcell:=pw_cell_below hb hcell;have HC2:=Lib.hid (Kd.C_below HC2.out hb);have e0:=pw_cell_below hb e0;have e1:=pw_cell_below hb e1;have e2:=pw_cell_below hb e2;clear hb)|(go_at_call 59;(with_reducible refine (HVE.out _).mono ?_);rintro e wl ⟨rfl,hb⟩;have HA:=Lib.hid (HA.out.below hb);have HB:=Lib.hid (HB.out.below hb);have HX:=Lib.hid (HX.out.below hb);have HC0:=Lib.hid (Kd.C_below HC0.out hb);have HC1:=Lib.hid (Kd.C_below HC1.out hb);have HW:=Lib.hid (below_then HW.out HW.out.size hb);have hcell:=pw_cell_below hb hcell;have HC2:=Lib.hid (Kd.C_below HC2.out hb);have e0:=pw_cell_below hb e0;have e1:=pw_cell_below hb e1;have e2:=pw_cell_below hb e2;clear hb)|(go_at_call 66;(with_reducible refine (HPL.out _).mono ?_);rintro e wl ⟨rfl,hb⟩;have HA:=Lib.hid (HA.out.below hb);have HB:=Lib.hid (HB.out.below hb);have HX:=Lib.hid (HX.out.below hb);have HC0:=Lib.hid (Kd.C_below HC0.out hb);have HC1:=Lib.hid (Kd.C_below HC1.out hb);have HW:=Lib.hid (below_then HW.out HW.out.size hb);have hcell:=pw_cell_below hb hcell;have HC2:=Lib.hid (Kd.C_below HC2.out hb);have e0:=pw_cell_below hb e0;have e1:=pw_cell_below hb e1;have e2:=pw_cell_below hb e2;clear hb)|(go_at_call 67;(with_reducible refine (HWH.out _).mono ?_);rintro e wl ⟨rfl,hb⟩;have HA:=Lib.hid (HA.out.below hb);have HB:=Lib.hid (HB.out.below hb);have HX:=Lib.hid (HX.out.below hb);have HC0:=Lib.hid (Kd.C_below HC0.out hb);have HC1:=Lib.hid (Kd.C_below HC1.out hb);have HW:=Lib.hid (below_then HW.out HW.out.size hb);have hcell:=pw_cell_below hb hcell;have HC2:=Lib.hid (Kd.C_below HC2.out hb);have e0:=pw_cell_below hb e0;have e1:=pw_cell_below hb e1;have e2:=pw_cell_below hb e2;clear hb))
 have hLr:=HLR.out
 have har:=HAR.out
 have hlL:=HL0.out
 have hlA:=HL1.out
 obtain ⟨ae,haE,-⟩:=Kd.at_int HC1.out 0 (Int.le_refl _) (by rw [har,List.length_cons];omega)
 subst haE
 clear hL hLP
 generalize hNL:L.length=NL at*
 generalize hNA:ats.length=NA at*
 have hr1:Lr.length=NL - 1:=by rw [← hNL,hLr];simp
 have hr2:ar.length=NA - 1:=by rw [← hNA,har];simp
 have n1:1≤NL:=by rw [← hNL,hLr];simp
 have n2:1≤NA:=by rw [← hNA,har];simp
 have t0:Kd.C Kd.string wl (some ad) ((NL - 1)+1) (l::Lr):=by rw [← hLr,show NL - 1+1=NL by omega];exact HC0.out
 have t1:Kd.C (Kd.int .i64) wl (some ae) ((NA - 1)+1) (ats0::ar):=by rw [← har,show NA - 1+1=NA by omega];exact HC1.out
 have hq:=HFL.out
 have hXl:=HX.out.lt
 have hPl:=HA.out.lt
 have hRl:=HB.out.lt
 have i1:(1:Int)≤(NL:Int):=by omega
 have i2:(1:Int)≤(NA:Int):=by omega
 have i3:(NL:Int)≤(c0:Int):=by omega
 have i4:(NA:Int)≤(c1:Int):=by omega
 have n3:0<NL:=n1
 have n4:0<NA:=n2
 have n7: ¬ NL<1:=by omega
 have n8: ¬ NA<1:=by omega
 have n9: ¬ c0<NL:=by omega
 have n10: ¬ c1<NA:=by omega
 clear hLr har hNL hNA HC0 HC1 HL0 HL1 HLR HAR
 by_cases q1:c0=1<;>by_cases q2:c1=1
 all_goals first
  |(subst q1;subst q2;have hz0:NL=1:=(by omega);subst hz0;obtain rfl:Lr=[]:=List.eq_nil_of_length_eq_zero (by rw [hr1]);have hT0:=C_zero_str wl (some ad);have hz1:NA=1:=(by omega);subst hz1;obtain rfl:ar=[]:=List.eq_nil_of_length_eq_zero (by rw [hr2]);have hT1:=C_zero_int wl (some ae);simp only [List.length_nil] at hq;have HCA:=Lib.hid (fun W (hb:Below wl.heap.size wl W)=>hq W (some ad) 0 (some ae) 0 (StdW.below HS.out (below_then HW.out HW.out.size hb)) (Kd.C_below hT0 hb) (by omega) (Kd.C_below hT1 hb) (by omega));clear hq t0 t1 hT0 hT1 hr1 hr2)
  |(subst q1;have q4: ¬ (c1:Int)=1:=(by omega);have hz0:NL=1:=(by omega);subst hz0;obtain rfl:Lr=[]:=List.eq_nil_of_length_eq_zero (by rw [hr1]);have hT0:=C_zero_str wl (some ad);have hT1:=C_tail_int t1 hr2;rw [hr2] at hq;simp only [List.length_nil] at hq;have HCA:=Lib.hid (fun W (hb:Below wl.heap.size wl W)=>hq W (some ad) 0 (some ⟨ae.block,ae.off+1,none⟩) (c1 - 1) (StdW.below HS.out (below_then HW.out HW.out.size hb)) (Kd.C_below hT0 hb) (by omega) (Kd.C_below hT1 hb) (by omega));clear hq t0 t1 hT0 hT1 hr1 hr2)
  |(subst q2;have q3: ¬ (c0:Int)=1:=(by omega);have hT0:=C_tail_str t0 hr1;have hz1:NA=1:=(by omega);subst hz1;obtain rfl:ar=[]:=List.eq_nil_of_length_eq_zero (by rw [hr2]);have hT1:=C_zero_int wl (some ae);rw [hr1] at hq;simp only [List.length_nil] at hq;have HCA:=Lib.hid (fun W (hb:Below wl.heap.size wl W)=>hq W (some ⟨ad.block,ad.off+1,none⟩) (c0 - 1) (some ae) 0 (StdW.below HS.out (below_then HW.out HW.out.size hb)) (Kd.C_below hT0 hb) (by omega) (Kd.C_below hT1 hb) (by omega));clear hq t0 t1 hT0 hT1 hr1 hr2)
  |(have q3: ¬ (c0:Int)=1:=(by omega);have q4: ¬ (c1:Int)=1:=(by omega);have hT0:=C_tail_str t0 hr1;have hT1:=C_tail_int t1 hr2;rw [hr1] at hq;rw [hr2] at hq;have HCA:=Lib.hid (fun W (hb:Below wl.heap.size wl W)=>hq W (some ⟨ad.block,ad.off+1,none⟩) (c0 - 1) (some ⟨ae.block,ae.off+1,none⟩) (c1 - 1) (StdW.below HS.out (below_then HW.out HW.out.size hb)) (Kd.C_below hT0 hb) (by omega) (Kd.C_below hT1 hb) (by omega));clear hq t0 t1 hT0 hT1 hr1 hr2)
 all_goals
  go_region_held3 (fun w'=>True) (trivial) ((go_at_call 62;(with_reducible refine (HCA.out _ (below_drew1 (Below.refl _ _))).mono ?_);rintro e wf ⟨vf,rfl,hf,hbd⟩;have hb:=below_of_drew hbd;obtain ⟨fA,fc,rfl,flc,fC⟩:=Kd.R_reads hf;have hX:=HX.out.below hb;obtain ⟨y0,y1,y2,y3,y4,y5,y6,y7,y8,y9,w0,w1,w2,w3,w4,w5,w6,w7,w8,w9⟩:=(show Blk _ _ zX _ from hX).ten))
  have hA8:=Blk.othB n' l0 l1 l2 a0 a1 a2 c' (Nat.ne_of_lt HPX.out) (HA.out.below hb)
  have hB8:=Blk.othB n' l0 l1 l2 a0 a1 a2 c' (Nat.ne_of_lt HRX.out) (HB.out.below hb)
  have hX8:=Blk.setB n' l0 l1 l2 a0 a1 a2 c' (show Blk _ _ zX _ from hX)
  have hw8:=setB_below (below_then HW.out HW.out.size hb) (Nat.le_of_lt HPX.out) n' l0 l1 l2 a0 a1 a2 c'
  clear y0 y1 y2 y3 y4 y5 y6 y7 y8 y9 w0 w1 w2 w3 w4 w5 w6 w7 w8 w9
  have hn3:=HPX.out
  have hn4:=HRX.out
  unfold setB at hA8 hB8 hX8 hw8
  generalize ((((((((((wf.setCell ⟨wn.heap.size,0,none⟩ (.int .i64 n')).setCell ⟨wn.heap.size,1,none⟩ (.string l0)).setCell ⟨wn.heap.size,2,none⟩ (.string l1)).setCell ⟨wn.heap.size,3,none⟩ (.string l2)).setCell ⟨wn.heap.size,4,none⟩ (.string ⟨#[]⟩)).setCell ⟨wn.heap.size,5,none⟩ (.int .i64 a0)).setCell ⟨wn.heap.size,6,none⟩ (.int .i64 a1)).setCell ⟨wn.heap.size,7,none⟩ (.int .i64 a2)).setCell ⟨wn.heap.size,8,none⟩ (.int .i64 0)).setCell ⟨wn.heap.size,9,none⟩ (.int .i64 c'))=W8 at hA8 hB8 hX8 hw8 ⊢
  generalize wn.heap.size=X1 at hX8 hn3 hn4 ⊢
  clear HA HB HW HX hX hf fC flc HCA hb hbd
  have hA:=hA8
  have hB:=hB8
  have HW:=Lib.hid hw8
  obtain ⟨⟨d0,d1,d2⟩,⟨f0,f1,f2⟩,s0,s1,s2⟩:=hA.rpz
  obtain ⟨v0,v1,v2,v3,v4,v5,v6,v7,v8,v9,r0,r1,r2,r3,r4,r5,r6,r7,r8,r9⟩:=hB.ten
  obtain ⟨y0,y1,y2,y3,y4,y5,y6,y7,y8,y9,w0,w1,w2,w3,w4,w5,w6,w7,w8,w9⟩:=hX8.ten
  have hn5:w.heap.size≠X1:=by omega
  have hn6:w.heap.size+1≠X1:=by omega
  go_wp2
  go_region
  go_wp2
  all_goals
   refine bodyPost_ret (v:= .tuple #[.agg #[.int .i64 0,.string ⟨#[]⟩,.slice none 0 0],.int .i64 0,.agg #[.int .i64 n',.string l0,.string l1,.string l2,.string ⟨#[]⟩,.int .i64 a0,.int .i64 a1,.int .i64 a2,.int .i64 0,.int .i64 c']]) ?_ rfl ⟨rfl,?_⟩
   ·exact rs_res _ _ w.heap.size (w.heap.size+1) 0 ⟨#[]⟩ (.slice none 0 0) 0 n' l0 l1 l2 a0 a1 a2 c' _ _ rfl rfl rfl (Blk.drew1 (Blk.othB n' l0 l1 l2 a0 a1 a2 c' hne1 hA)) (Blk.drew1 (Blk.setB n' l0 l1 l2 a0 a1 a2 c' hB))
   ·exact (below_drew1 (setB_below HW.out (Nat.le_succ _) n' l0 l1 l2 a0 a1 a2 c'))
set_option maxRecDepth 100000 in
set_option maxHeartbeats 8000000 in
theorem rs_ok (A:Addr) (n c:Nat) (mm:Nat) (hm0:(0:Int)≤(mm:Int)) (hm1:(mm:Int)≤(c:Int)) (S:ByteArray) (L:List ByteArray) (ats:List Int) (w:World) (HEN0:CEn A n c mm w) (KC0:CKc A mm c S w) (HLI0:CLi S L ats w) (hL:((L.length:Int)==0)=false) (hLP:(0:Int)<(L.length:Int)) (l:ByteArray) (HL000:rdOf ByteArray.empty L 0=l) (p0 p1 p2:ByteArray) (HCU0:CCu 3 l [p0,p1,p2]) (HAL0:CBo 58 l false) (HVE0:CBo 59 p0 true) (HPL0:CPl p2 true) (v:Int) (hv0: ¬ v<100) (hv: ¬ v>599) (HWH0:CWh p1 v true) (Lr:List ByteArray) (ar:List Int) (ats0:Int) (fs:List S71) (HLR0:L=l::Lr) (HAR0:ats=ats0::ar) (HFL0: ∀ W B0 d0 B1 d1,StdW W→Kd.C Kd.string W B0 Lr.length Lr→Lr.length≤d0→Kd.C (Kd.int .i64) W B1 ar.length ar→ar.length≤d1→Calls Tryz.prog 62 #[.slice B0 Lr.length d0,.slice B1 ar.length d1] W fun e w'=> ∃ v_,e= .returned (.tuple #[v_,.agg #[.int .i64 0,.string ⟨#[]⟩,.string ⟨#[]⟩,.string ⟨#[]⟩,.string ⟨#[]⟩,.int .i64 0,.int .i64 0,.int .i64 0,.int .i64 0,.int .i64 0]])∧Kd.R k71 71 w' W.heap.size (fun _=>True) v_ fs∧Below W.heap.size W w') (hS:StdW w):
  Calls Tryz.prog 17 #[.slice (some A) n c] w fun e w'=> ∃ v0_:Value,e= .returned (.tuple #[.agg #[.int .i64 v,.string p2,v0_],.int .i64 (mm:Int),.agg #[.int .i64 0,.string ⟨#[]⟩,.string ⟨#[]⟩,.string ⟨#[]⟩,.string ⟨#[]⟩,.int .i64 0,.int .i64 0,.int .i64 0,.int .i64 0,.int .i64 0]])∧Kd.R k71 71 w' w.heap.size (fun k=>w.heap.size≤k) v0_ fs∧Below w.heap.size w w':=by
 have HS:=Lib.hid hS
 have HEN:=Lib.hid HEN0
 have KC:=Lib.hid KC0
 have HLI:=Lib.hid HLI0
 have HL00:=Lib.hid HL000
 have HCU:=Lib.hid HCU0
 clear HEN0 KC0 HLI0 HL000 HCU0
 have HAL:=Lib.hid HAL0
 have HVE:=Lib.hid HVE0
 have HPL:=Lib.hid HPL0
 have HWH:=Lib.hid HWH0
 have HFL:=Lib.hid HFL0
 have HLR:=Lib.hid HLR0
 have HAR:=Lib.hid HAR0
 clear HAL0 HVE0 HPL0 HWH0 HFL0 HLR0 HAR0
 clear hS
 have HA:=Lib.hid ((Blk.new w rpZ 51).old (.cells zX 32))
 have HB:Hid (Blk ((w.alloc (.cells rpZ 51)).alloc (.cells zX 32)) (w.heap.size+1) zX 32):=Lib.hid (by have:=Blk.new (w.alloc (.cells rpZ 51)) zX 32;rwa [World.size_alloc] at this)
 have HW:=Lib.hid (below_alloc (below_alloc (Below.refl w.heap.size w) (.cells rpZ 51)) (.cells zX 32))
 have hne1:w.heap.size≠w.heap.size+1:=by omega
 have hne2:=hne1.symm
 unfold rpZ rpC zX bad3 at HA HB HW
 go_enter Tryz.func17,Tryz.ntmps17
 go_wp2_with (first|(go_at_call 11;(with_reducible refine (HEN.out _ HW.out).mono ?_);rintro e wn ⟨rfl,hb⟩;have HA:=Lib.hid (HA.out.below hb);have HB:=Lib.hid (HB.out.below hb);have HW:=Lib.hid (below_then HW.out HW.out.size hb);clear hb;have kc:=KC.out _ (below_alloc HW.out (.cells #[.int .i64 0,.string ⟨#[]⟩,.string ⟨#[]⟩,.string ⟨#[]⟩,.string ⟨#[]⟩,.int .i64 0,.int .i64 0,.int .i64 0,.int .i64 0,.int .i64 0] 32)))|(go_at_call 56;(with_reducible refine (HLI.out _ (below_alloc HW.out _)).mono ?_);rintro e wl ⟨vv0,vv1,rfl,hv0,hv1,hb⟩;obtain ⟨A0,c0,rfl,hl0,hC0⟩:=Kd.R_reads hv0;obtain ⟨A1,c1,rfl,hl1,hC1⟩:=Kd.R_reads hv1;clear hv0 hv1;have HPX:=Lib.hid HA.out.lt;have HRX:=Lib.hid HB.out.lt;have HA:=Lib.hid ((HA.out.old _).below hb);have HB:=Lib.hid ((HB.out.old _).below hb);have HX:=Lib.hid ((Blk.new wn #[.int .i64 0,.string ⟨#[]⟩,.string ⟨#[]⟩,.string ⟨#[]⟩,.string ⟨#[]⟩,.int .i64 0,.int .i64 0,.int .i64 0,.int .i64 0,.int .i64 0] 32).below hb);have HW:=Lib.hid (below_then (below_alloc HW.out _) (below_alloc HW.out _).size hb);have HC0:=Lib.hid hC0;have HC1:=Lib.hid hC1;have HL0:=Lib.hid hl0;have HL1:=Lib.hid hl1;clear hb hC0 hC1 hl0 hl1 kc;obtain ⟨ad,hadE,hcell0⟩:=Kd.at_string HC0.out 0 (Int.le_refl _) hLP;subst hadE;rw [HL00.out] at hcell0;rw [add0] at hcell0;have hcell:=hcell0;clear hcell0)|(go_at_call 57;(with_reducible refine (HCU.out _).mono ?_);rintro e wl ⟨vv,rfl,hv,hb⟩;obtain ⟨A2,c2,rfl,hl2,hC2⟩:=Kd.R_reads hv;have HA:=Lib.hid (HA.out.below hb);have HB:=Lib.hid (HB.out.below hb);have HX:=Lib.hid (HX.out.below hb);have HC0:=Lib.hid (Kd.C_below HC0.out hb);have HC1:=Lib.hid (Kd.C_below HC1.out hb);have HW:=Lib.hid (below_then HW.out HW.out.size hb);have HC2:=Lib.hid hC2;have hcell:=pw_cell_below hb hcell;clear hb hv hl2 hC2;obtain ⟨pd,hpE,hq0⟩:=Kd.at_string HC2.out 0 (by decide) (show (0:Int)<((3:Nat):Int) by decide);subst hpE;obtain ⟨_,hpE,hq1⟩:=Kd.at_string HC2.out 1 (by decide) (show (1:Int)<((3:Nat):Int) by decide);cases hpE;obtain ⟨_,hpE,hq2⟩:=Kd.at_string HC2.out 2 (by decide) (show (2:Int)<((3:Nat):Int) by decide);cases hpE;rw [add0] at hq0;have e0:wl.cell? pd=some (.string p0):=hq0;have e1:wl.cell? ⟨pd.block,pd.off+1,none⟩=some (.string p1):=hq1;have e2:wl.cell? ⟨pd.block,pd.off+2,none⟩=some (.string p2):=hq2;clear hq0 hq1 hq2)|(go_at_call 58;(with_reducible refine (HAL.out _).mono ?_);rintro e wl ⟨rfl,hb⟩;have HA:=Lib.hid (HA.out.below hb);have HB:=Lib.hid (HB.out.below hb);have HX:=Lib.hid (HX.out.below hb);have HC0:=Lib.hid (Kd.C_below HC0.out hb);have HC1:=Lib.hid (Kd.C_below HC1.out hb);have HW:=Lib.hid (below_then HW.out HW.out.size hb);have hcell:=pw_cell_below hb hcell;have HC2:=Lib.hid (Kd.C_below HC2.out hb);have e0:=pw_cell_below hb e0;have e1:=pw_cell_below hb e1;have e2:=pw_cell_below hb e2;clear hb)|(go_at_call 59;(with_reducible refine (HVE.out _).mono ?_);rintro e wl ⟨rfl,hb⟩;have HA:=Lib.hid (HA.out.below hb);have HB:=Lib.hid (HB.out.below hb);have HX:=Lib.hid (HX.out.below hb);have HC0:=Lib.hid (Kd.C_below HC0.out hb);have HC1:=Lib.hid (Kd.C_below HC1.out hb);have HW:=Lib.hid (below_then HW.out HW.out.size hb);have hcell:=pw_cell_below hb hcell;have HC2:=Lib.hid (Kd.C_below HC2.out hb);have e0:=pw_cell_below hb e0;have e1:=pw_cell_below hb e1;have e2:=pw_cell_below hb e2;clear hb)|(go_at_call 66;(with_reducible refine (HPL.out _).mono ?_);rintro e wl ⟨rfl,hb⟩;have HA:=Lib.hid (HA.out.below hb);have HB:=Lib.hid (HB.out.below hb);have HX:=Lib.hid (HX.out.below hb);have HC0:=Lib.hid (Kd.C_below HC0.out hb);have HC1:=Lib.hid (Kd.C_below HC1.out hb);have HW:=Lib.hid (below_then HW.out HW.out.size hb);have hcell:=pw_cell_below hb hcell;have HC2:=Lib.hid (Kd.C_below HC2.out hb);have e0:=pw_cell_below hb e0;have e1:=pw_cell_below hb e1;have e2:=pw_cell_below hb e2;clear hb)|(go_at_call 67;(with_reducible refine (HWH.out _).mono ?_);rintro e wl ⟨rfl,hb⟩;have HA:=Lib.hid (HA.out.below hb);have HB:=Lib.hid (HB.out.below hb);have HX:=Lib.hid (HX.out.below hb);have HC0:=Lib.hid (Kd.C_below HC0.out hb);have HC1:=Lib.hid (Kd.C_below HC1.out hb);have HW:=Lib.hid (below_then HW.out HW.out.size hb);have hcell:=pw_cell_below hb hcell;have HC2:=Lib.hid (Kd.C_below HC2.out hb);have e0:=pw_cell_below hb e0;have e1:=pw_cell_below hb e1;have e2:=pw_cell_below hb e2;clear hb))
 have hLr:=HLR.out
 have har:=HAR.out
 have hlL:=HL0.out
 have hlA:=HL1.out
 obtain ⟨ae,haE,-⟩:=Kd.at_int HC1.out 0 (Int.le_refl _) (by rw [har,List.length_cons];omega)
 subst haE
 clear hL hLP
 generalize hNL:L.length=NL at*
 generalize hNA:ats.length=NA at*
 have hr1:Lr.length=NL - 1:=by rw [← hNL,hLr];simp
 have hr2:ar.length=NA - 1:=by rw [← hNA,har];simp
 have n1:1≤NL:=by rw [← hNL,hLr];simp
 have n2:1≤NA:=by rw [← hNA,har];simp
 have t0:Kd.C Kd.string wl (some ad) ((NL - 1)+1) (l::Lr):=by rw [← hLr,show NL - 1+1=NL by omega];exact HC0.out
 have t1:Kd.C (Kd.int .i64) wl (some ae) ((NA - 1)+1) (ats0::ar):=by rw [← har,show NA - 1+1=NA by omega];exact HC1.out
 have hq:=HFL.out
 have hXl:=HX.out.lt
 have hPl:=HA.out.lt
 have hRl:=HB.out.lt
 have i1:(1:Int)≤(NL:Int):=by omega
 have i2:(1:Int)≤(NA:Int):=by omega
 have i3:(NL:Int)≤(c0:Int):=by omega
 have i4:(NA:Int)≤(c1:Int):=by omega
 have n3:0<NL:=n1
 have n4:0<NA:=n2
 have n7: ¬ NL<1:=by omega
 have n8: ¬ NA<1:=by omega
 have n9: ¬ c0<NL:=by omega
 have n10: ¬ c1<NA:=by omega
 clear hLr har hNL hNA HC0 HC1 HL0 HL1 HLR HAR
 by_cases q1:c0=1<;>by_cases q2:c1=1
 all_goals first
  |(subst q1;subst q2;have hz0:NL=1:=(by omega);subst hz0;obtain rfl:Lr=[]:=List.eq_nil_of_length_eq_zero (by rw [hr1]);have hT0:=C_zero_str wl (some ad);have hz1:NA=1:=(by omega);subst hz1;obtain rfl:ar=[]:=List.eq_nil_of_length_eq_zero (by rw [hr2]);have hT1:=C_zero_int wl (some ae);simp only [List.length_nil] at hq;have HCA:=Lib.hid (fun W (hb:Below wl.heap.size wl W)=>hq W (some ad) 0 (some ae) 0 (StdW.below HS.out (below_then HW.out HW.out.size hb)) (Kd.C_below hT0 hb) (by omega) (Kd.C_below hT1 hb) (by omega));clear hq t0 t1 hT0 hT1 hr1 hr2)
  |(subst q1;have q4: ¬ (c1:Int)=1:=(by omega);have hz0:NL=1:=(by omega);subst hz0;obtain rfl:Lr=[]:=List.eq_nil_of_length_eq_zero (by rw [hr1]);have hT0:=C_zero_str wl (some ad);have hT1:=C_tail_int t1 hr2;rw [hr2] at hq;simp only [List.length_nil] at hq;have HCA:=Lib.hid (fun W (hb:Below wl.heap.size wl W)=>hq W (some ad) 0 (some ⟨ae.block,ae.off+1,none⟩) (c1 - 1) (StdW.below HS.out (below_then HW.out HW.out.size hb)) (Kd.C_below hT0 hb) (by omega) (Kd.C_below hT1 hb) (by omega));clear hq t0 t1 hT0 hT1 hr1 hr2)
  |(subst q2;have q3: ¬ (c0:Int)=1:=(by omega);have hT0:=C_tail_str t0 hr1;have hz1:NA=1:=(by omega);subst hz1;obtain rfl:ar=[]:=List.eq_nil_of_length_eq_zero (by rw [hr2]);have hT1:=C_zero_int wl (some ae);rw [hr1] at hq;simp only [List.length_nil] at hq;have HCA:=Lib.hid (fun W (hb:Below wl.heap.size wl W)=>hq W (some ⟨ad.block,ad.off+1,none⟩) (c0 - 1) (some ae) 0 (StdW.below HS.out (below_then HW.out HW.out.size hb)) (Kd.C_below hT0 hb) (by omega) (Kd.C_below hT1 hb) (by omega));clear hq t0 t1 hT0 hT1 hr1 hr2)
  |(have q3: ¬ (c0:Int)=1:=(by omega);have q4: ¬ (c1:Int)=1:=(by omega);have hT0:=C_tail_str t0 hr1;have hT1:=C_tail_int t1 hr2;rw [hr1] at hq;rw [hr2] at hq;have HCA:=Lib.hid (fun W (hb:Below wl.heap.size wl W)=>hq W (some ⟨ad.block,ad.off+1,none⟩) (c0 - 1) (some ⟨ae.block,ae.off+1,none⟩) (c1 - 1) (StdW.below HS.out (below_then HW.out HW.out.size hb)) (Kd.C_below hT0 hb) (by omega) (Kd.C_below hT1 hb) (by omega));clear hq t0 t1 hT0 hT1 hr1 hr2)
 all_goals
  go_region_held3 (fun w'=>True) (trivial) ((go_at_call 62;(with_reducible refine (HCA.out _ (below_drew1 (Below.refl _ _))).mono ?_);rintro e wf ⟨vf,rfl,hf,hbd⟩;have hb:=below_of_drew hbd;obtain ⟨fA,fc,rfl,flc,fC⟩:=Kd.R_reads hf;have hX:=HX.out.below hb;obtain ⟨y0,y1,y2,y3,y4,y5,y6,y7,y8,y9,w0,w1,w2,w3,w4,w5,w6,w7,w8,w9⟩:=(show Blk _ _ zX _ from hX).ten;obtain ⟨i0,i1,i2,i3,i4,i5,i6,i7,i8,i9⟩:=(show Blk _ _ zX _ from hX).tenid;have e2:=pw_cell_below hb e2))
  have hA:=HA.out.below hb
  have hB:=HB.out.below hb
  have hw:=below_then HW.out HW.out.size hb
  have hfR:=Kd.R_bound hf
  obtain ⟨⟨d0,d1,d2⟩,⟨f0,f1,f2⟩,-⟩:=hA.rpz
  obtain ⟨v0,v1,v2,v3,v4,v5,v6,v7,v8,v9,r0,r1,r2,r3,r4,r5,r6,r7,r8,r9⟩:=hB.ten
  go_wp2
  have hlp:=hPl
  have hlr:=hRl
  have hR1:Kd.R k71 71 (((wf.setCell ⟨w.heap.size,0,none⟩ (.int .i64 v)).setCell ⟨w.heap.size,1,none⟩ (.string p2)).setCell ⟨w.heap.size,2,none⟩ (.slice fA fs.length fc)) _ _ (.slice fA fs.length fc) fs:=Kd.R_far (p:=⟨w.heap.size,2,none⟩) (Kd.R_far (p:=⟨w.heap.size,1,none⟩) (Kd.R_far (p:=⟨w.heap.size,0,none⟩) hfR (fun q hq=>Nat.ne_of_gt (Nat.lt_of_lt_of_le hPl hq.2.1)) _) (fun q hq=>Nat.ne_of_gt (Nat.lt_of_lt_of_le hPl hq.2.1)) _) (fun q hq=>Nat.ne_of_gt (Nat.lt_of_lt_of_le hPl hq.2.1)) _
  have hR2:=R_setB 0 ⟨#[]⟩ ⟨#[]⟩ ⟨#[]⟩ 0 0 0 0 hR1 (R:=w.heap.size+1) (fun q hq=>Nat.ne_of_gt (Nat.lt_of_lt_of_le hRl hq.2.1))
  have hA9:Blk (((wf.setCell ⟨w.heap.size,0,none⟩ (.int .i64 v)).setCell ⟨w.heap.size,1,none⟩ (.string p2)).setCell ⟨w.heap.size,2,none⟩ (.slice fA fs.length fc)) w.heap.size (rpC v p2 (.slice fA fs.length fc)) _:=(((show Blk _ _ (rpC 0 ⟨#[]⟩ (.slice none 0 0)) _ from hA).set 0 (.int .i64 v)).set 1 (.string p2)).set 2 (.slice fA fs.length fc)
  have hB9:=((hB.other ⟨w.heap.size,0,none⟩ hne2 (.int .i64 v)).other ⟨w.heap.size,1,none⟩ hne2 (.string p2)).other ⟨w.heap.size,2,none⟩ hne2 (.slice fA fs.length fc)
  have hw9:=((hw.setCell (p:=⟨w.heap.size,0,none⟩) (Nat.le_refl _) (.int .i64 v)).setCell (p:=⟨w.heap.size,1,none⟩) (Nat.le_refl _) (.string p2)).setCell (p:=⟨w.heap.size,2,none⟩) (Nat.le_refl _) (.slice fA fs.length fc)
  refine bodyPost_ret (v:= .tuple #[.agg #[.int .i64 v,.string p2,.slice fA fs.length fc],.int .i64 (mm:Int),.agg #[.int .i64 0,.string ⟨#[]⟩,.string ⟨#[]⟩,.string ⟨#[]⟩,.string ⟨#[]⟩,.int .i64 0,.int .i64 0,.int .i64 0,.int .i64 0,.int .i64 0]]) ?_ rfl ⟨_,rfl,Kd.R_lower (Kd.R_mono hR2 (fun r hr=>Nat.le_of_lt (Nat.lt_of_lt_of_le hPl hr.2.1))) (Nat.le_of_lt hPl),setB_below hw9 (Nat.le_succ _) 0 ⟨#[]⟩ ⟨#[]⟩ ⟨#[]⟩ 0 0 0 0⟩
  exact rs_res _ _ w.heap.size (w.heap.size+1) v p2 (.slice fA fs.length fc) (mm:Int) 0 ⟨#[]⟩ ⟨#[]⟩ ⟨#[]⟩ 0 0 0 0 _ _ rfl rfl rfl (Blk.othB 0 ⟨#[]⟩ ⟨#[]⟩ ⟨#[]⟩ 0 0 0 0 hne1 hA9) (Blk.setB 0 ⟨#[]⟩ ⟨#[]⟩ ⟨#[]⟩ 0 0 0 0 hB9)
end Go.Proofs.YtgmpdjjoefkndaaGreatDoor.E
