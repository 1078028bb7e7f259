/- What the cards of this seat rest on: the walks and plain laws, part 22. -/
import Derived.Test.YtgmpdjjoefkndaaGreatDoorHR20
import Derived.Test.YtgmpdjjoefkndaaGreatDoorHR21
import Derived.Test.YtgmpdjjoefkndaaGreatDoorHR2
import Derived.Test.YtgmpdjjoefkndaaGreatDoorRows
import Derived.Deep.Slices
import Derived.Deep.Fields
import Derived.ChangeSame
import Derived.SizedLaws
import Derived.OpenShut
import Derived.ChangeSlices
import Derived.Stop.LaidErr
import Derived.Lib.LaidTab
import Derived.Test.YtgmpdjjoefkndaaGreatDoorHR8
import Derived.LaidHandle
import Derived.LaidLaws
import Derived.Lay
import Derived.Deep.DeepHandedRow
import Derived.Stop.Joined
import Derived.JoinedOf

namespace Go.Proofs.YtgmpdjjoefkndaaGreatDoor.E
open Go.RowKit Go.Proofs.YtgmpdjjoefkndaaGreatDoorW.PrintWords Go.Proofs.YtgmpdjjoefkndaaGreatDoorW.PrintLast Go.Proofs.YtgmpdjjoefkndaaGreatDoor.XK
set_option linter.unusedVariables false
set_option linter.unusedSimpArgs false
theorem R_noneB {e base:Nat} {w:World} {ok:Nat→Prop} {A:Option Addr} {n c:Nat} {xs:List Int} (h:Kd.R (Kd.int .u8) e w base ok (.slice A n c) xs):A=none→c=0:=by
 intro hA
 obtain ⟨_,inner,ho,_⟩:=h
 rcases ho.2 with ⟨e,_⟩|⟨g,cap,cur,e,_⟩
 ·cases e;rfl
 ·cases e;cases hA
theorem EOr.setB {o:Option (List (ByteArray×Int)×Int)} {w:World} {R:Nat} {T:TypeId} {n':Int} {l0' l1' l2':ByteArray} {a0' a1' a2' c':Int} {v:Value} (n:Int) (l0 l1 l2:ByteArray) (a0 a1 a2 c:Int) (hb:Blk w R (bad3 n' l0' l1' l2' a0' a1' a2' c') T) (h:EOr o w v):EOr o (E.setB w R n l0 l1 l2 a0 a1 a2 c) v:=by
 have e0:=EOr.set (j:=0) (u:= .int .i64 n) hb rfl h
 have b0:Blk _ R (bad3 n l0' l1' l2' a0' a1' a2' c') T:=hb.set 0 (.int .i64 n)
 have e1:=EOr.set (j:=1) (u:= .string l0) b0 rfl e0
 have b1:Blk _ R (bad3 n l0 l1' l2' a0' a1' a2' c') T:=b0.set 1 (.string l0)
 have e2:=EOr.set (j:=2) (u:= .string l1) b1 rfl e1
 have b2:Blk _ R (bad3 n l0 l1 l2' a0' a1' a2' c') T:=b1.set 2 (.string l1)
 have e3:=EOr.set (j:=3) (u:= .string l2) b2 rfl e2
 have b3:Blk _ R (bad3 n l0 l1 l2 a0' a1' a2' c') T:=b2.set 3 (.string l2)
 have e4:=EOr.set (j:=4) (u:= .string ⟨#[]⟩) b3 rfl e3
 have b4:Blk _ R (bad3 n l0 l1 l2 a0' a1' a2' c') T:=b3.set 4 (.string ⟨#[]⟩)
 have e5:=EOr.set (j:=5) (u:= .int .i64 a0) b4 rfl e4
 have b5:Blk _ R (bad3 n l0 l1 l2 a0 a1' a2' c') T:=b4.set 5 (.int .i64 a0)
 have e6:=EOr.set (j:=6) (u:= .int .i64 a1) b5 rfl e5
 have b6:Blk _ R (bad3 n l0 l1 l2 a0 a1 a2' c') T:=b5.set 6 (.int .i64 a1)
 have e7:=EOr.set (j:=7) (u:= .int .i64 a2) b6 rfl e6
 have b7:Blk _ R (bad3 n l0 l1 l2 a0 a1 a2 c') T:=b6.set 7 (.int .i64 a2)
 have e8:=EOr.set (j:=8) (u:= .int .i64 0) b7 rfl e7
 have b8:Blk _ R (bad3 n l0 l1 l2 a0 a1 a2 c') T:=b7.set 8 (.int .i64 0)
 have e9:=EOr.set (j:=9) (u:= .int .i64 c) b8 rfl e8
 have b9:Blk _ R (bad3 n l0 l1 l2 a0 a1 a2 c) T:=b8.set 9 (.int .i64 c)
 unfold E.setB
 exact e9
set_option maxRecDepth 100000 in
set_option maxHeartbeats 40000000 in
theorem reads_walk (A:Option Addr) (c:Nat) (xs:List Int) (i0 i1 i2:Int) (o0 o1 o2:Option (List (ByteArray×Int)×Int)) (ka:Int) (pa0 pa1 pa2:ByteArray) (qa0 qa1 qa2 ca:Int) (kb:Int) (pb0 pb1 pb2:ByteArray) (qb0 qb1 qb2 cb:Int) (kd:Int) (pd0 pd1 pd2:ByteArray) (qd0 qd1 qd2 cd:Int) (m':ByteArray) (x y z u:Int) (nm:ByteArray) (po:Int) (pa:ByteArray) (l:List S71) (st:Int) (re:ByteArray) (l2:List S71) (w:World)
  (H1: ∀ W,Below w.heap.size w W→Calls Tryz.prog 9 #[.slice A xs.length c] W fun e w'=> ∃ v,e= .returned v∧Kd.R (Kd.int .u8) 5 w' W.heap.size (fun _=>True) v xs∧Below W.heap.size W w')
  (H2: ∀ W A3 c3,Below w.heap.size w W→Kd.C (Kd.int .u8) W A3 xs.length xs→xs.length≤c3→c3≤9223372036854775807→(A3=none→c3=0)→Calls Tryz.prog 10 #[.slice A3 xs.length c3] W fun e w'=> ∃ v,e= .returned (.tuple #[.int .i64 i0,v])∧EOr o0 w' v∧Below W.heap.size W w')
  (H3: ∀ W,Below w.heap.size w W→Calls Tryz.prog 11 #[.slice A xs.length c] W fun e w'=>e= .returned (.tuple #[.int .i64 i0,.agg #[.int .i64 ka,.string pa0,.string pa1,.string pa2,.string ⟨#[]⟩,.int .i64 qa0,.int .i64 qa1,.int .i64 qa2,.int .i64 0,.int .i64 ca]])∧Below W.heap.size W w')
  (H4: ∀ W v,EOr o0 W v→Calls Tryz.prog 12 #[v,.agg #[.int .i64 ka,.string pa0,.string pa1,.string pa2,.string ⟨#[]⟩,.int .i64 qa0,.int .i64 qa1,.int .i64 qa2,.int .i64 0,.int .i64 ca]] W fun e w'=>e= .returned (.bool true)∧Below W.heap.size W w')
  (H5: ∀ W A3 c3,Below w.heap.size w W→Kd.C (Kd.int .u8) W A3 xs.length xs→xs.length≤c3→c3≤9223372036854775807→(A3=none→c3=0)→Calls Tryz.prog 13 #[.slice A3 xs.length c3] W fun e w'=> ∃ v0 v,e= .returned (.tuple #[.agg #[.string m',.int .u8 x,.int .u8 y,.int .u8 z,.int .u8 u,.string nm,.int .i64 po,.string pa,v0],.int .i64 i1,v])∧Kd.R k71 71 w' W.heap.size (fun k=>W.heap.size≤k) v0 l∧EOr o1 w' v∧Below W.heap.size W w')
  (H6: ∀ W,Below w.heap.size w W→Calls Tryz.prog 14 #[.slice A xs.length c] W fun e w'=> ∃ v0,e= .returned (.tuple #[.agg #[.string m',.int .u8 x,.int .u8 y,.int .u8 z,.int .u8 u,.string nm,.int .i64 po,.string pa,v0],.int .i64 i1,.agg #[.int .i64 kb,.string pb0,.string pb1,.string pb2,.string ⟨#[]⟩,.int .i64 qb0,.int .i64 qb1,.int .i64 qb2,.int .i64 0,.int .i64 cb]])∧Kd.R k71 71 w' W.heap.size (fun k=>W.heap.size≤k) v0 l∧Below W.heap.size W w')
  (H7: ∀ W pA pc qA qc,Kd.C k71 W pA l.length l→l.length≤pc→Kd.C k71 W qA l.length l→l.length≤qc→Calls Tryz.prog 15 #[.agg #[.string m',.int .u8 x,.int .u8 y,.int .u8 z,.int .u8 u,.string nm,.int .i64 po,.string pa,.slice pA l.length pc],.agg #[.string m',.int .u8 x,.int .u8 y,.int .u8 z,.int .u8 u,.string nm,.int .i64 po,.string pa,.slice qA l.length qc]] W fun e w'=>e= .returned (.bool true)∧Below W.heap.size W w')
  (H8: ∀ W v,EOr o1 W v→Calls Tryz.prog 12 #[v,.agg #[.int .i64 kb,.string pb0,.string pb1,.string pb2,.string ⟨#[]⟩,.int .i64 qb0,.int .i64 qb1,.int .i64 qb2,.int .i64 0,.int .i64 cb]] W fun e w'=>e= .returned (.bool true)∧Below W.heap.size W w')
  (H9: ∀ W A3 c3,Below w.heap.size w W→Kd.C (Kd.int .u8) W A3 xs.length xs→xs.length≤c3→c3≤9223372036854775807→(A3=none→c3=0)→Calls Tryz.prog 16 #[.slice A3 xs.length c3] W fun e w'=> ∃ v0 v,e= .returned (.tuple #[.agg #[.int .i64 st,.string re,v0],.int .i64 i2,v])∧Kd.R k71 71 w' W.heap.size (fun k=>W.heap.size≤k) v0 l2∧EOr o2 w' v∧Below W.heap.size W w')
  (H10: ∀ W,Below w.heap.size w W→Calls Tryz.prog 17 #[.slice A xs.length c] W fun e w'=> ∃ v0,e= .returned (.tuple #[.agg #[.int .i64 st,.string re,v0],.int .i64 i2,.agg #[.int .i64 kd,.string pd0,.string pd1,.string pd2,.string ⟨#[]⟩,.int .i64 qd0,.int .i64 qd1,.int .i64 qd2,.int .i64 0,.int .i64 cd]])∧Kd.R k71 71 w' W.heap.size (fun k=>W.heap.size≤k) v0 l2∧Below W.heap.size W w')
  (H11: ∀ W pA pc qA qc,Kd.C k71 W pA l2.length l2→l2.length≤pc→Kd.C k71 W qA l2.length l2→l2.length≤qc→Calls Tryz.prog 18 #[.agg #[.int .i64 st,.string re,.slice pA l2.length pc],.agg #[.int .i64 st,.string re,.slice qA l2.length qc]] W fun e w'=>e= .returned (.bool true)∧Below W.heap.size W w')
  (H12: ∀ W v,EOr o2 W v→Calls Tryz.prog 12 #[v,.agg #[.int .i64 kd,.string pd0,.string pd1,.string pd2,.string ⟨#[]⟩,.int .i64 qd0,.int .i64 qd1,.int .i64 qd2,.int .i64 0,.int .i64 cd]] W fun e w'=>e= .returned (.bool true)∧Below W.heap.size W w')
  (H13: ∀ W A3 c3,Below w.heap.size w W→Kd.C (Kd.int .u8) W A3 xs.length xs→xs.length≤c3→Calls Tryz.prog 19 #[.slice A3 xs.length c3,.slice A xs.length c] W fun e w'=>e= .returned (.bool true)∧Below W.heap.size W w')
  (H14: ∀ W,Below w.heap.size w W→Calls Tryz.prog 20 #[] W fun e w'=>e= .returned (.bool true)∧Below W.heap.size W w'):
  Calls Tryz.prog 3 #[.slice A xs.length c] w fun e w'=>e= .returned (.bool true)∧Below w.heap.size w w':=by
 have HB:=Lib.hid (Below.refl w.heap.size w)
 have X1:=Lib.hid H1
 have X2:=Lib.hid H2
 have X3:=Lib.hid H3
 have X4:=Lib.hid H4
 have X5:=Lib.hid H5
 have X6:=Lib.hid H6
 have X7:=Lib.hid H7
 have X8:=Lib.hid H8
 have X9:=Lib.hid H9
 have X10:=Lib.hid H10
 have X11:=Lib.hid H11
 have X12:=Lib.hid H12
 have X13:=Lib.hid H13
 have X14:=Lib.hid H14
 clear H1 H2 H3 H4 H5 H6 H7 H8 H9 H10 H11 H12 H13 H14
 have hzeq: ∀ a:Int,(a==a)=true:=fun a=>beq_self_eq_true a
 go_enter Tryz.func3,Tryz.ntmps3
 go_wp2_with (first|(go_at_call 9;(with_reducible refine (X1.out _ HB.out).mono ?_);rintro e wn ⟨v,rfl,hv,hb⟩;obtain ⟨A3,c3,rfl,hl3,-⟩:=Kd.R_reads hv;have HL3:=Lib.hid hl3;have HC63:=Lib.hid (R_capB hv);have HNO:=Lib.hid (R_noneB hv);have HV:=Lib.hid (Kd.R_mono (Kd.R_bound hv) (fun q hq=>hq.2.2.1));have HW1:=Lib.hid (Nat.le_refl wn.heap.size);generalize hW1:wn.heap.size=N1 at HV HW1;have HW1:=Lib.hid (Nat.le_of_eq hW1.symm);clear hW1;have HB:=Lib.hid (below_then HB.out HB.out.size hb);clear hb hv hl3)|(go_at_call 10;(with_reducible refine (X2.out _ A3 c3 HB.out (Kd.R_reads' HV.out).2.2 HL3.out HC63.out HNO.out).mono ?_);rintro e wn ⟨ve,rfl,hf,hb⟩;have HF:=Lib.hid hf;have HV:=Lib.hid (Kd.R_below HV.out hb);have HW1:=Lib.hid (Nat.le_trans HW1.out hb.size);have HB:=Lib.hid (below_then HB.out HB.out.size hb);clear hb hf)|(go_at_call 11;(with_reducible refine (X3.out _ HB.out).mono ?_);rintro e wn ⟨rfl,hb⟩;have HF:=Lib.hid (EOr.below HF.out hb);have HV:=Lib.hid (Kd.R_below HV.out hb);have HW1:=Lib.hid (Nat.le_trans HW1.out hb.size);have HB:=Lib.hid (below_then HB.out HB.out.size hb);clear hb))
 have HXN:Hid (N1≤wn.heap.size∧w.heap.size≤wn.heap.size):=Lib.hid ⟨HW1.out,HB.out.size⟩
 have hbA:=below_alloc (Below.refl wn.heap.size wn) (.cells #[.int .i64 ka,.string pa0,.string pa1,.string pa2,.string ⟨#[]⟩,.int .i64 qa0,.int .i64 qa1,.int .i64 qa2,.int .i64 0,.int .i64 ca] 32)
 have hN:=Blk.new wn #[.int .i64 ka,.string pa0,.string pa1,.string pa2,.string ⟨#[]⟩,.int .i64 qa0,.int .i64 qa1,.int .i64 qa2,.int .i64 0,.int .i64 ca] 32
 have HF:=EOr.below HF.out hbA
 have HV:=Kd.R_below HV.out hbA
 have HB:=below_then HB.out HB.out.size hbA
 have HW1:=Nat.le_trans HW1.out hbA.size
 generalize (wn.alloc (.cells #[.int .i64 ka,.string pa0,.string pa1,.string pa2,.string ⟨#[]⟩,.int .i64 qa0,.int .i64 qa1,.int .i64 qa2,.int .i64 0,.int .i64 ca] 32))=W7 at hN HF HV HB HW1 ⊢
 clear hbA
 generalize wn.heap.size=X1b at hN HXN ⊢
 have HF:=Lib.hid HF
 have HV:=Lib.hid HV
 have HB:=Lib.hid HB
 have HW1:=Lib.hid HW1
 have HX:=Lib.hid hN
 clear hN
 go_wp2_with (first|(go_at_call 12;(with_reducible refine (X4.out _ ve HF.out).mono ?_);rintro e wn ⟨rfl,hb⟩;have HV:=Lib.hid (Kd.R_below HV.out hb);have HX:=Lib.hid (HX.out.below hb);have HB:=Lib.hid (below_then HB.out HB.out.size hb);clear hb)|(go_at_call 13;(with_reducible refine (X5.out _ A3 c3 HB.out (Kd.R_reads' HV.out).2.2 HL3.out HC63.out HNO.out).mono ?_);rintro e wn ⟨vp,v1,rfl,hp,hf,hb⟩;obtain ⟨pA,pc,rfl,hpl,-⟩:=Kd.R_reads hp;have HXP:=Lib.hid HX.out.lt;have HP:=Lib.hid hp;have HPL:=Lib.hid hpl;have HF:=Lib.hid hf;have HV:=Lib.hid (Kd.R_below HV.out hb);have HX:=Lib.hid (HX.out.below hb);have HB:=Lib.hid (below_then HB.out HB.out.size hb);clear hb hf hp hpl))
 have hxp:=HX.out.lt
 have hbA:=below_alloc (Below.refl wn.heap.size wn) (.cells #[.string m',.int .u8 x,.int .u8 y,.int .u8 z,.int .u8 u,.string nm,.int .i64 po,.string pa,.slice pA l.length pc] 44)
 have hN:=Blk.new wn #[.string m',.int .u8 x,.int .u8 y,.int .u8 z,.int .u8 u,.string nm,.int .i64 po,.string pa,.slice pA l.length pc] 44
 have HF:=EOr.below HF.out hbA
 have HV:=Kd.R_below HV.out hbA
 have HX:=HX.out.below hbA
 have HP:=Kd.R_below HP.out hbA
 have HB:=below_then HB.out HB.out.size hbA
 generalize (wn.alloc (.cells #[.string m',.int .u8 x,.int .u8 y,.int .u8 z,.int .u8 u,.string nm,.int .i64 po,.string pa,.slice pA l.length pc] 44))=W7 at hN HF HV HX HP HB ⊢
 clear hbA
 generalize wn.heap.size=P1q at hN hxp ⊢
 have HF:=Lib.hid HF
 have HV:=Lib.hid HV
 have HX:=Lib.hid HX
 have HP:=Lib.hid HP
 have HB:=Lib.hid HB
 have HPB:=Lib.hid hN
 clear hN
 have hxn:=Nat.ne_of_lt hxp
 have hxn2:=hxn.symm
 go_wp2_with (go_at_call 14;(with_reducible refine (X6.out _ HB.out).mono ?_);rintro e wn ⟨vq,rfl,hq,hb⟩;obtain ⟨qA,qc,rfl,hql,-⟩:=Kd.R_reads hq;have HQ:=Lib.hid hq;have HXQ:=Lib.hid HX.out.lt;have HQL:=Lib.hid hql;have HF:=Lib.hid (EOr.below HF.out hb);have HV:=Lib.hid (Kd.R_below HV.out hb);have HX:=Lib.hid (HX.out.below hb);have HP:=Lib.hid (Kd.R_below HP.out hb);have HPB:=Lib.hid (HPB.out.below hb);have HB:=Lib.hid (below_then HB.out HB.out.size hb);have hX:=HX.out;have hxl:=hX.lt;have hpl1:=HPB.out.lt;have hn1:=Nat.ne_of_lt hxl;have hn2:=hn1.symm;have hn3:=Nat.ne_of_lt hpl1;have hn4:=hn3.symm;obtain ⟨a0,a1,a2,a3,a4,a5,a6,a7,a8,-⟩:=(show Blk _ _ (rqC m' x y z u nm po pa (.slice pA l.length pc)) _ from HPB.out).rq;obtain ⟨y0,y1,y2,y3,y4,y5,y6,y7,y8,y9,w0,w1,w2,w3,w4,w5,w6,w7,w8,w9⟩:=hX.ten;clear hb hq hql)
 have HX8:=(Blk.setB kb pb0 pb1 pb2 qb0 qb1 qb2 cb HX.out).old (.cells #[.string m',.int .u8 x,.int .u8 y,.int .u8 z,.int .u8 u,.string nm,.int .i64 po,.string pa,.slice qA l.length qc] 44)
 have HF8:=EOr.below (EOr.setB kb pb0 pb1 pb2 qb0 qb1 qb2 cb HX.out HF.out) (below_alloc (Below.refl _ _) (.cells #[.string m',.int .u8 x,.int .u8 y,.int .u8 z,.int .u8 u,.string nm,.int .i64 po,.string pa,.slice qA l.length qc] 44))
 have HV8:=Kd.R_below (R_setB kb pb0 pb1 pb2 qb0 qb1 qb2 cb HV.out (fun q hq=>Nat.ne_of_lt (Nat.lt_of_lt_of_le hq HXN.out.1))) (below_alloc (Below.refl _ _) (.cells #[.string m',.int .u8 x,.int .u8 y,.int .u8 z,.int .u8 u,.string nm,.int .i64 po,.string pa,.slice qA l.length qc] 44))
 have HP8:=Kd.R_below (R_setB kb pb0 pb1 pb2 qb0 qb1 qb2 cb HP.out (fun q hq=>Nat.ne_of_gt (Nat.lt_of_lt_of_le HXP.out hq))) (below_alloc (Below.refl _ _) (.cells #[.string m',.int .u8 x,.int .u8 y,.int .u8 z,.int .u8 u,.string nm,.int .i64 po,.string pa,.slice qA l.length qc] 44))
 have HQ8:=Kd.R_below (R_setB kb pb0 pb1 pb2 qb0 qb1 qb2 cb HQ.out (fun q hq=>Nat.ne_of_gt (Nat.lt_of_lt_of_le HXQ.out hq))) (below_alloc (Below.refl _ _) (.cells #[.string m',.int .u8 x,.int .u8 y,.int .u8 z,.int .u8 u,.string nm,.int .i64 po,.string pa,.slice qA l.length qc] 44))
 have HB8:=below_alloc (setB_below HB.out HXN.out.2 kb pb0 pb1 pb2 qb0 qb1 qb2 cb) (.cells #[.string m',.int .u8 x,.int .u8 y,.int .u8 z,.int .u8 u,.string nm,.int .i64 po,.string pa,.slice qA l.length qc] 44)
 clear y0 y1 y2 y3 y4 y5 y6 y7 y8 y9 w0 w1 w2 w3 w4 w5 w6 w7 w8 w9
 unfold setB at HX8 HF8 HV8 HP8 HQ8 HB8
 generalize (((((((((((wn.setCell ⟨X1b,0,none⟩ (.int .i64 kb)).setCell ⟨X1b,1,none⟩ (.string pb0)).setCell ⟨X1b,2,none⟩ (.string pb1)).setCell ⟨X1b,3,none⟩ (.string pb2)).setCell ⟨X1b,4,none⟩ (.string ⟨#[]⟩)).setCell ⟨X1b,5,none⟩ (.int .i64 qb0)).setCell ⟨X1b,6,none⟩ (.int .i64 qb1)).setCell ⟨X1b,7,none⟩ (.int .i64 qb2)).setCell ⟨X1b,8,none⟩ (.int .i64 0)).setCell ⟨X1b,9,none⟩ (.int .i64 cb)).alloc (.cells #[.string m',.int .u8 x,.int .u8 y,.int .u8 z,.int .u8 u,.string nm,.int .i64 po,.string pa,.slice qA l.length qc] 44))=W8 at HX8 HF8 HV8 HP8 HQ8 HB8 ⊢
 clear HX HF HV HP HQ HB HPB hX hxl hpl1 hn1 hn2 hn3 hn4 hxn hxn2 hxp
 have HX:=Lib.hid HX8
 have HF:=Lib.hid HF8
 have HV:=Lib.hid HV8
 have HP:=Lib.hid HP8
 have HQ:=Lib.hid HQ8
 have HB:=Lib.hid HB8
 clear HX8 HF8 HV8 HP8 HQ8 HB8
 go_wp2_with (first|(go_at_call 15;(with_reducible refine (X7.out _ pA pc qA qc (Kd.R_reads' HP.out).2.2 HPL.out (Kd.R_reads' HQ.out).2.2 HQL.out).mono ?_);rintro e wn ⟨rfl,hb⟩;have HF:=Lib.hid (EOr.below HF.out hb);have HV:=Lib.hid (Kd.R_below HV.out hb);have HX:=Lib.hid (HX.out.below hb);have HB:=Lib.hid (below_then HB.out HB.out.size hb);obtain ⟨y0,y1,y2,y3,y4,y5,y6,y7,y8,y9,-⟩:=HX.out.ten;clear hb)|(go_at_call 12;(with_reducible refine (X8.out _ v1 HF.out).mono ?_);rintro e wn ⟨rfl,hb⟩;clear y0 y1 y2 y3 y4 y5 y6 y7 y8 y9;have HV:=Lib.hid (Kd.R_below HV.out hb);have HX:=Lib.hid (HX.out.below hb);have HB:=Lib.hid (below_then HB.out HB.out.size hb);clear hb)|(go_at_call 16;(with_reducible refine (X9.out _ A3 c3 HB.out (Kd.R_reads' HV.out).2.2 HL3.out HC63.out HNO.out).mono ?_);rintro e wn ⟨vp,v2,rfl,hp,hf,hb⟩;obtain ⟨pA,pc,rfl,hpl,-⟩:=Kd.R_reads hp;have HXP:=Lib.hid HX.out.lt;have HP:=Lib.hid hp;have HPL:=Lib.hid hpl;have HF:=Lib.hid hf;have HV:=Lib.hid (Kd.R_below HV.out hb);have HX:=Lib.hid (HX.out.below hb);have HB:=Lib.hid (below_then HB.out HB.out.size hb);clear hb hf hp hpl))
 have hxp:=HX.out.lt
 have hbA:=below_alloc (Below.refl wn.heap.size wn) (.cells #[.int .i64 st,.string re,.slice pA l2.length pc] 51)
 have hN:=Blk.new wn #[.int .i64 st,.string re,.slice pA l2.length pc] 51
 have HF:=EOr.below HF.out hbA
 have HV:=Kd.R_below HV.out hbA
 have HX:=HX.out.below hbA
 have HP:=Kd.R_below HP.out hbA
 have HB:=below_then HB.out HB.out.size hbA
 generalize (wn.alloc (.cells #[.int .i64 st,.string re,.slice pA l2.length pc] 51))=W7 at hN HF HV HX HP HB ⊢
 clear hbA
 generalize wn.heap.size=P1p at hN hxp ⊢
 have HF:=Lib.hid HF
 have HV:=Lib.hid HV
 have HX:=Lib.hid HX
 have HP:=Lib.hid HP
 have HB:=Lib.hid HB
 have HPB:=Lib.hid hN
 clear hN
 have hxn:=Nat.ne_of_lt hxp
 have hxn2:=hxn.symm
 go_wp2_with (go_at_call 17;(with_reducible refine (X10.out _ HB.out).mono ?_);rintro e wn ⟨vq,rfl,hq,hb⟩;obtain ⟨qA,qc,rfl,hql,-⟩:=Kd.R_reads hq;have HQ:=Lib.hid hq;have HXQ:=Lib.hid HX.out.lt;have HQL:=Lib.hid hql;have HF:=Lib.hid (EOr.below HF.out hb);have HV:=Lib.hid (Kd.R_below HV.out hb);have HX:=Lib.hid (HX.out.below hb);have HP:=Lib.hid (Kd.R_below HP.out hb);have HPB:=Lib.hid (HPB.out.below hb);have HB:=Lib.hid (below_then HB.out HB.out.size hb);have hX:=HX.out;have hxl:=hX.lt;have hpl1:=HPB.out.lt;have hn1:=Nat.ne_of_lt hxl;have hn2:=hn1.symm;have hn3:=Nat.ne_of_lt hpl1;have hn4:=hn3.symm;have a0:wn.cell? ⟨P1p,0,none⟩=some (.int .i64 st):=(show Blk _ _ (rpC st re (.slice pA l2.length pc)) _ from HPB.out).cell 0 _ rfl;have a1:wn.cell? ⟨P1p,1,none⟩=some (.string re):=(show Blk _ _ (rpC st re (.slice pA l2.length pc)) _ from HPB.out).cell 1 _ rfl;have a2:wn.cell? ⟨P1p,2,none⟩=some (.slice pA l2.length pc):=(show Blk _ _ (rpC st re (.slice pA l2.length pc)) _ from HPB.out).cell 2 _ rfl;obtain ⟨y0,y1,y2,y3,y4,y5,y6,y7,y8,y9,w0,w1,w2,w3,w4,w5,w6,w7,w8,w9⟩:=hX.ten;clear hb hq hql)
 have HX8:=(Blk.setB kd pd0 pd1 pd2 qd0 qd1 qd2 cd HX.out).old (.cells #[.int .i64 st,.string re,.slice qA l2.length qc] 51)
 have HF8:=EOr.below (EOr.setB kd pd0 pd1 pd2 qd0 qd1 qd2 cd HX.out HF.out) (below_alloc (Below.refl _ _) (.cells #[.int .i64 st,.string re,.slice qA l2.length qc] 51))
 have HV8:=Kd.R_below (R_setB kd pd0 pd1 pd2 qd0 qd1 qd2 cd HV.out (fun q hq=>Nat.ne_of_lt (Nat.lt_of_lt_of_le hq HXN.out.1))) (below_alloc (Below.refl _ _) (.cells #[.int .i64 st,.string re,.slice qA l2.length qc] 51))
 have HP8:=Kd.R_below (R_setB kd pd0 pd1 pd2 qd0 qd1 qd2 cd HP.out (fun q hq=>Nat.ne_of_gt (Nat.lt_of_lt_of_le HXP.out hq))) (below_alloc (Below.refl _ _) (.cells #[.int .i64 st,.string re,.slice qA l2.length qc] 51))
 have HQ8:=Kd.R_below (R_setB kd pd0 pd1 pd2 qd0 qd1 qd2 cd HQ.out (fun q hq=>Nat.ne_of_gt (Nat.lt_of_lt_of_le HXQ.out hq))) (below_alloc (Below.refl _ _) (.cells #[.int .i64 st,.string re,.slice qA l2.length qc] 51))
 have HB8:=below_alloc (setB_below HB.out HXN.out.2 kd pd0 pd1 pd2 qd0 qd1 qd2 cd) (.cells #[.int .i64 st,.string re,.slice qA l2.length qc] 51)
 clear y0 y1 y2 y3 y4 y5 y6 y7 y8 y9 w0 w1 w2 w3 w4 w5 w6 w7 w8 w9
 unfold setB at HX8 HF8 HV8 HP8 HQ8 HB8
 generalize (((((((((((wn.setCell ⟨X1b,0,none⟩ (.int .i64 kd)).setCell ⟨X1b,1,none⟩ (.string pd0)).setCell ⟨X1b,2,none⟩ (.string pd1)).setCell ⟨X1b,3,none⟩ (.string pd2)).setCell ⟨X1b,4,none⟩ (.string ⟨#[]⟩)).setCell ⟨X1b,5,none⟩ (.int .i64 qd0)).setCell ⟨X1b,6,none⟩ (.int .i64 qd1)).setCell ⟨X1b,7,none⟩ (.int .i64 qd2)).setCell ⟨X1b,8,none⟩ (.int .i64 0)).setCell ⟨X1b,9,none⟩ (.int .i64 cd)).alloc (.cells #[.int .i64 st,.string re,.slice qA l2.length qc] 51))=W8 at HX8 HF8 HV8 HP8 HQ8 HB8 ⊢
 clear HX HF HV HP HQ HB HPB hX hxl hpl1 hn1 hn2 hn3 hn4 hxn hxn2 hxp
 have HX:=Lib.hid HX8
 have HF:=Lib.hid HF8
 have HV:=Lib.hid HV8
 have HP:=Lib.hid HP8
 have HQ:=Lib.hid HQ8
 have HB:=Lib.hid HB8
 clear HX8 HF8 HV8 HP8 HQ8 HB8
 go_wp2_with (first|(go_at_call 18;(with_reducible refine (X11.out _ pA pc qA qc (Kd.R_reads' HP.out).2.2 HPL.out (Kd.R_reads' HQ.out).2.2 HQL.out).mono ?_);rintro e wn ⟨rfl,hb⟩;have HF:=Lib.hid (EOr.below HF.out hb);have HV:=Lib.hid (Kd.R_below HV.out hb);have HX:=Lib.hid (HX.out.below hb);have HB:=Lib.hid (below_then HB.out HB.out.size hb);obtain ⟨y0,y1,y2,y3,y4,y5,y6,y7,y8,y9,-⟩:=HX.out.ten;clear hb)|(go_at_call 12;(with_reducible refine (X12.out _ v2 HF.out).mono ?_);rintro e wn ⟨rfl,hb⟩;clear y0 y1 y2 y3 y4 y5 y6 y7 y8 y9;have HV:=Lib.hid (Kd.R_below HV.out hb);have HB:=Lib.hid (below_then HB.out HB.out.size hb);clear hb)|(go_at_call 19;(with_reducible refine (X13.out _ A3 c3 HB.out (Kd.R_reads' HV.out).2.2 HL3.out).mono ?_);rintro e wn ⟨rfl,hb⟩;have HB:=Lib.hid (below_then HB.out HB.out.size hb);clear hb)|(go_at_call 20;(with_reducible refine (X14.out _ HB.out).mono ?_);rintro e wn ⟨rfl,hb⟩;have HB:=Lib.hid (below_then HB.out HB.out.size hb);clear hb))
 go_ret
 exact ⟨rfl,HB.out⟩
end Go.Proofs.YtgmpdjjoefkndaaGreatDoor.E

namespace Go.Proofs.YtgmpdjjoefkndaaGreatDoor.Hd
theorem fieldsR_len: ∀ (k:Nat) (rest:Bs) (p:Nat) (out fs:List Fd.F),out.length≤64→fieldsR k rest p out= .inr fs→fs.length≤64
 |0,_,_,out,fs,h,e=>by cases e;exact h
 |k+1,rest,p,out,fs,h,e=>by
  unfold fieldsR at e
  split at e
  ·cases e;exact h
  ·split at e
   ·cases e
   ·split at e
    ·cases e
    ·exact fieldsR_len k _ _ _ fs (by simp;omega) e
end Go.Proofs.YtgmpdjjoefkndaaGreatDoor.Hd
namespace Go.Proofs.YtgmpdjjoefkndaaGreatDoor.E
open Go.RowKit Go.Proofs.YtgmpdjjoefkndaaGreatDoorW.PrintWords Go.Proofs.YtgmpdjjoefkndaaGreatDoorW.PrintLast Go.Proofs.YtgmpdjjoefkndaaGreatDoor.XK Go.Proofs.YtgmpdjjoefkndaaGreatDoor.XA Go.Proofs.YtgmpdjjoefkndaaGreatDoor.XD Go.Proofs.YtgmpdjjoefkndaaGreatDoor.XBy
set_option linter.unusedVariables false
set_option linter.unusedSimpArgs false
theorem headRq_num (S:ByteArray) (n:Nat) {m:ByteArray} {d:DestT} {q:ByteArray} {fs:List Fd.F} {k:Nat} (h:headRq S n= .inr (m,d,q,fs,k)):k=n∧fs.length≤64:=by
 unfold headRq at h
 split at h
 ·split at h
  ·cases h
  ·split at h
   ·cases h
   ·split at h
    ·cases h
    ·split at h
     ·cases h
     ·split at h
      ·cases h
      ·rename_i hf
       cases h
       exact ⟨rfl,Hd.fieldsR_len _ _ _ _ _ (by simp) hf⟩
 ·cases h
end Go.Proofs.YtgmpdjjoefkndaaGreatDoor.E

namespace Go.Proofs.YtgmpdjjoefkndaaGreatDoor.E
open Go.RowKit Go.Proofs.YtgmpdjjoefkndaaGreatDoorW.PrintWords Go.Proofs.YtgmpdjjoefkndaaGreatDoorW.PrintLast Go.Proofs.YtgmpdjjoefkndaaGreatDoor.XK Go.Proofs.YtgmpdjjoefkndaaGreatDoor.XBz
set_option linter.unusedVariables false
set_option linter.unusedSimpArgs false
theorem rq_few (b:List UInt8):(rqD (reqR b)).l.length≤281474976710656:=by
 cases hr:reqR b with
 |inl x=>
  obtain ⟨a,ch,k⟩:=x
  exact Nat.zero_le _
 |inr x=>
  obtain ⟨m,⟨x,y,z,u,nm,po⟩,pa,fs,k⟩:=x
  unfold reqR at hr
  split at hr
  ·cases hr
  ·obtain ⟨-,hl⟩:=headRq_num _ _ hr
   show (fs.map ofF).length≤_
   rw [List.length_map];omega
theorem headRp_few (S:ByteArray) (n:Nat) {st:Int} {re:ByteArray} {fs:List Fd.F} {k:Nat} (h:headRp S n= .inr (st,re,fs,k)):fs.length≤64:=by
 unfold headRp at h
 split at h
 ·split at h
  ·cases h
  ·split at h
   ·cases h
   ·split at h
    ·cases h
    ·split at h
     ·cases h
     ·split at h
      ·cases h
      ·rename_i hf
       cases h
       exact Hd.fieldsR_len _ _ _ _ _ (by simp) hf
 ·cases h
theorem rp_few (b:List UInt8):(rpD (repR b)).l.length≤281474976710656:=by
 rcases hr:repR b with ⟨a,k⟩|⟨st,re,fs,k⟩
 ·exact Nat.zero_le _
 ·unfold repR at hr
  split at hr
  ·cases hr
  ·have hl:=headRp_few _ _ hr
   show (fs.map ofF).length≤_
   rw [List.length_map];omega
set_option maxRecDepth 100000 in
set_option maxHeartbeats 8000000 in
theorem same_reply (d:RpD) (hl:d.l.length≤281474976710656) (A0:Option Addr) (c0:Nat) (A1:Option Addr) (c1:Nat) (w:World) (h0:Kd.C k71 w A0 d.l.length d.l) (hc0:d.l.length≤c0) (h1:Kd.C k71 w A1 d.l.length d.l) (hc1:d.l.length≤c1):
  Calls Tryz.prog 18 #[.agg #[.int .i64 d.st,.string d.re,.slice A0 d.l.length c0],.agg #[.int .i64 d.st,.string d.re,.slice A1 d.l.length c1]] w fun e w'=>e= .returned (.bool true)∧Below w.heap.size w w':=by
 have hf:sallyportbase_SameFields.f (d.l.length+1) d.l d.l=some true:=by
  unfold sallyportbase_SameFields.f
  rw [if_pos rfl]
  exact same_fields d.l hl d.l.length (d.l.length+1) 0 (by omega) (by omega)
 have HSF:=Lib.hid (fun W (hb:Below w.heap.size w W)=>(sallyportbase_SameFields.calls (d.l.length+1) A0 c0 d.l A1 c1 d.l true W (Kd.C_below h0 hb) hc0 (Kd.C_below h1 hb) hc1 hf).mono fun e w' ⟨h,q⟩=>And.intro h (show Below W.heap.size W w' from q.below))
 have HB:=fun o1 o2=>below_alloc (below_alloc (Below.refl w.heap.size w) o1) o2
 clear hl h0 hc0 h1 hc1 hf
 obtain ⟨st,re,l,i,o⟩:=d
 dsimp only at*
 go_enter Tryz.func18,Tryz.ntmps18
 go_wp2_with (go_at_call 30;(with_reducible refine (HSF.out _ (HB _ _)).mono ?_);rintro e w1 ⟨rfl,hb⟩;have HQ:=Lib.hid (below_then (HB _ _) (HB _ _).size hb);clear hb)
 go_ret
 exact ⟨rfl,HQ.out⟩
def enO:(Nat×Nat) ⊕ Nat→Option (List (ByteArray×Int)×Int)
 | .inl (a,k)=>some ([(headS,(a:Int))],(k:Int))
 | .inr _=>none
def enI:(Nat×Nat) ⊕ Nat→Int
 | .inl _=>0
 | .inr m=>(m:Int)
theorem enO_ok (r:(Nat×Nat) ⊕ Nat):okO (enO r):=by
 intro ch c h
 cases r with
 |inl x=>obtain ⟨a,k⟩:=x;cases h;exact ⟨List.cons_ne_nil _ _,by simp⟩
 |inr m=>cases h
theorem endV_eq (r:(Nat×Nat) ⊕ Nat):endV r= .tuple #[.int .i64 (enI r),.agg (badO (enO r))]:=by
 cases r with
 |inl x=>rfl
 |inr m=>rfl
theorem end_o (r:(Nat×Nat) ⊕ Nat) (W:World) (e:Ending) (w':World) (h:EndPost r W e w'): ∃ v,e= .returned (.tuple #[.int .i64 (enI r),v])∧EOr (enO r) w' v∧Below W.heap.size W w':=by
 cases r with
 |inl x=>
  obtain ⟨a,k⟩:=x
  obtain ⟨hb,v,he,hi⟩:=h
  exact ⟨v,he,hi,hb⟩
 |inr m=>
  obtain ⟨hb,he⟩:=h
  exact ⟨.nilIface,he,rfl,hb⟩
def okRd (xs:List Int):Bool:=xs.all (fun x=>decide (0≤x) && decide (x<256)) && decide (xs.length≤1048576)
def pReads.f (xs:List Int):Option Bool:=if okRd xs then some true else none
theorem pReads.calls (A:Option Addr) (c:Nat) (xs:List Int) (r:Bool) (w:World)
  (hr:Kd.C (Kd.int .u8) w A xs.length xs∧(A=none→c=0)∧c≤9223372036854775807) (hc:xs.length≤c) (hS:StdE w) (h:pReads.f xs=some r):
  Calls Tryz.prog 3 #[.slice A xs.length c] w fun e w'=>e= .returned (.bool r)∧Below w.heap.size w w':=by
 unfold pReads.f at h
 split at h
 ·rename_i hh
  obtain rfl:=Option.some.inj h
  unfold okRd at hh
  simp only [Bool.and_eq_true,decide_eq_true_eq,List.all_eq_true] at hh
  obtain ⟨hx,hxl⟩:=hh
  obtain ⟨hC,hA,h63⟩:=hr
  have ox:okB xs:=hx
  obtain ⟨ka,pa0,pa1,pa2,qa0,qa1,qa2,ca,ea⟩:=badO_some (enO (Hd.endR (Lib.bytesOf xs)))
  obtain ⟨kb,pb0,pb1,pb2,qb0,qb1,qb2,cb,eb⟩:=badO_some (rqD (reqR (Lib.bytesOf xs))).o
  obtain ⟨kd,pd0,pd1,pd2,qd0,qd1,qd2,cd,ed⟩:=badO_some (rpD (repR (Lib.bytesOf xs))).o
  have H3:=fun W (hb:Below w.heap.size w W)=>rend_c A xs.length c xs W (StdW.below hS.std hb) rfl ox (Kd.C_below hC hb) hc hxl _ rfl
  rw [endV_eq,ea] at H3
  have H4:=fun W v (hv:EOr (enO (Hd.endR (Lib.bytesOf xs))) W v)=>is_o _ (enO_ok _) v W hv
  rw [ea] at H4
  have H6:=fun W (hb:Below w.heap.size w W)=>rrequest_c A xs.length c xs W (StdW.below hS.std hb) rfl ox (Kd.C_below hC hb) hc hxl
  unfold RefQ at H6
  rw [eb] at H6
  have H8:=fun W v (hv:EOr (rqD (reqR (Lib.bytesOf xs))).o W v)=>is_o _ (req_len _) v W hv
  rw [eb] at H8
  have H10:=fun W (hb:Below w.heap.size w W)=>rreply_c A xs.length c xs W (StdW.below hS.std hb) rfl ox (Kd.C_below hC hb) hc hxl
  unfold RefP at H10
  rw [ed] at H10
  have H12:=fun W v (hv:EOr (rpD (repR (Lib.bytesOf xs))).o W v)=>is_o _ (rep_ok _) v W hv
  rw [ed] at H12
  exact reads_walk A c xs (enI (Hd.endR (Lib.bytesOf xs))) (rqD (reqR (Lib.bytesOf xs))).i (rpD (repR (Lib.bytesOf xs))).i (enO (Hd.endR (Lib.bytesOf xs))) (rqD (reqR (Lib.bytesOf xs))).o (rpD (repR (Lib.bytesOf xs))).o ka pa0 pa1 pa2 qa0 qa1 qa2 ca kb pb0 pb1 pb2 qb0 qb1 qb2 cb kd pd0 pd1 pd2 qd0 qd1 qd2 cd (rqD (reqR (Lib.bytesOf xs))).m (rqD (reqR (Lib.bytesOf xs))).x (rqD (reqR (Lib.bytesOf xs))).y (rqD (reqR (Lib.bytesOf xs))).z (rqD (reqR (Lib.bytesOf xs))).u (rqD (reqR (Lib.bytesOf xs))).nm (rqD (reqR (Lib.bytesOf xs))).po (rqD (reqR (Lib.bytesOf xs))).pa (rqD (reqR (Lib.bytesOf xs))).l (rpD (repR (Lib.bytesOf xs))).st (rpD (repR (Lib.bytesOf xs))).re (rpD (repR (Lib.bytesOf xs))).l w
   (fun W hb=>bytes_c A xs.length c xs W rfl (Kd.C_below hC hb) hc hxl)
   (fun W A3 c3 hb hC3 hl3 h633 hn3=>(end_c A3 xs.length c3 xs W (StdW.below hS.std hb) rfl ox hC3 hn3 hl3 h633).mono fun e w' h=>end_o _ W e w' h)
   H3 H4
   (fun W A3 c3 hb hC3 hl3 h633 hn3=>request_c2 A3 xs.length c3 xs W (StdE.below hS hb) rfl ox hC3 hn3 hl3 h633)
   H6 (fun W pA pc qA qc h1 h2 h3 h4=>same_request _ (rq_few _) pA pc qA qc W h1 h2 h3 h4) H8
   (fun W A3 c3 hb hC3 hl3 h633 hn3=>reply_c A3 xs.length c3 xs W (StdW.below hS.std hb) rfl ox hC3 hn3 hl3 h633)
   H10 (fun W pA pc qA qc h1 h2 h3 h4=>same_reply _ (rp_few _) pA pc qA qc W h1 h2 h3 h4) H12
   (fun W A3 c3 hb hC3 hl3=>(sallyportbase_SameBytes.calls A3 c3 xs A c xs true W hC3 hl3 (Kd.C_below hC hb) hc (by unfold sallyportbase_SameBytes.f;simp)).mono fun e w' ⟨h,d⟩=>⟨h,d.below⟩)
   (fun W hb=>works08_any W (StdE.below hS hb))
 ·cases h
theorem headReads_law (xs:List Int) (hx:okB xs∧xs.length≤1048576):pReads.f xs=some true:=by
 unfold pReads.f okRd
 rw [if_pos]
 simp only [Bool.and_eq_true,decide_eq_true_eq,List.all_eq_true]
 exact ⟨hx.1,hx.2⟩
end Go.Proofs.YtgmpdjjoefkndaaGreatDoor.E

namespace Go.Proofs.YtgmpdjjoefkndaaGreatDoor.E
open Go.RowKit Go.ChangeShapes Go.WideShapes Go.Deep Go.Proofs.YtgmpdjjoefkndaaGreatDoorW.PrintWords Go.Proofs.YtgmpdjjoefkndaaGreatDoorW.PrintLast Go.Proofs.YtgmpdjjoefkndaaGreatDoor.XK
set_option linter.unusedVariables false
set_option linter.unusedSimpArgs false
section
variable {H:Type} {enc:TypeId×Value→H} {w:World} {base:Nat} {spare:Nat→Bool} {held:Bool}
theorem bulk_pos (d:DataW H):1≤Rows.uptoBulk d:=by
 cases d with
 |lit l=>cases l<;>simp [Rows.uptoBulk]
 |_=>simp [Rows.uptoBulk]
theorem bulk_len: ∀ ds:List (DataW H),ds.length≤Rows.uptoBulkAll ds
 |[]=>Nat.zero_le _
 |d::ds=>by
  simp only [Rows.uptoBulkAll,List.length_cons]
  have:=bulk_pos d;have:=bulk_len ds;omega
end
section
variable {H:Type} {enc:TypeId×Value→H} {w:World} {base:Nat} {spare:Nat→Bool} {held:Bool}
theorem cellsU8:Tryz.prog.cellsOf 5=1:=by kernel_rfl
theorem wf_u8 {n:Int} (h:(Lit.int .u8 n).wf=true):0≤n∧n<256:=by
 have:=bounds_u8 h
 omega
theorem open_bytes {t:TypeId} (ht:Tryz.prog.underlying t=some (.slice 5)) {fuel:Nat} {cs:List Value} {x:DataW H×List MemPlace} (h:DataW.trod enc Tryz.prog w base spare held fuel t cs=some x):
  ∃ (A:Option Addr) (c:Nat) (xs:List Int),cs=[.slice A xs.length c]∧xs.length≤c∧(Kd.C (Kd.int .u8) w A xs.length xs∧(A=none→c=0)∧c≤9223372036854775807)∧okB xs∧xs.length≤Rows.uptoBulk x.1:=by
 rcases open_ints ht Tryz.underlying5 cellsU8 h with ⟨rfl,rfl⟩|⟨a,len,cap,zs,rfl,-,hl,hm,hz,rfl,hc,hw⟩
 ·exact ⟨none,0,[],rfl,Nat.le_refl _,⟨Kd.C_nil _ _,fun _=>rfl,by omega⟩,(fun x hx=>by cases hx),Nat.zero_le _⟩
 ·have hll:len≤zs.length:=by rw [hz];split<;>omega
  have hlen:(zs.take len).length=len:=by rw [List.length_take];omega
  unfold maxLen at hm
  refine ⟨some a,cap,zs.take len,by rw [hlen],by rw [hlen];exact hl,⟨?_,fun e=>(by cases e),by omega⟩,fun x hx=>wf_u8 (hw x (List.mem_of_mem_take hx)),?_⟩
  ·refine Kd.C_of_reads (enc:=Value.int .u8) (d:=(0:Int)) (h1:=fun _=>rfl) ⟨rfl,by rw [hlen];omega,fun _=>⟨a,rfl,fun i hi=>?_⟩⟩
   rw [hlen] at hi
   rw [hc i (by omega)]
   simp [List.getD,hi]
  ·have:=bulk_len (H:=H) (lits .u8 (zs.take len))
   simp only [Rows.uptoBulk]
   have h2:(lits (H:=H) .u8 (zs.take len)).length=len:=by unfold lits;rw [List.length_map,hlen]
   rw [hlen];omega
end
end Go.Proofs.YtgmpdjjoefkndaaGreatDoor.E

namespace Go.Proofs.YtgmpdjjoefkndaaGreatDoor
open Go.RowKit Go.Lib
set_option linter.unusedVariables false
theorem laidMet_tail {P:Program} {x:String×DataW Unit} {r:List (String×DataW Unit)} {W:World} (h:laidMet P (x::r) W):laidMet P r W:=by
 obtain ⟨ps,⟨g,t,cs,fuel,p,q,_,_,_,_,hr,rfl⟩,hn,hh⟩:=h
 exact ⟨q,hr,(List.nodup_append.1 hn).2.1,fun b off hb=>hh b off (List.mem_append_right _ hb)⟩
theorem gSyn:Tryz.prog.globalNamed "strconv.ErrSyntax" =some 2:=by kernel_rfl
theorem gRng:Tryz.prog.globalNamed "strconv.ErrRange" =some 3:=by kernel_rfl
theorem gPowT:(Tryz.prog.globals[7]?).map (·.type)=some 291:=by kernel_rfl
theorem gSynT:(Tryz.prog.globals[2]?).map (·.type)=some 25:=by kernel_rfl
theorem gRngT:(Tryz.prog.globals[3]?).map (·.type)=some 25:=by kernel_rfl
theorem cellsTab:Tryz.prog.cellsOf 291=20:=by kernel_rfl
theorem cellsU64:Tryz.prog.cellsOf 134=1:=by kernel_rfl
theorem cellsES:Tryz.prog.cellsOf 289=1:=by kernel_rfl
theorem cellsSt:Tryz.prog.cellsOf 9=1:=by kernel_rfl
theorem starES: "*" ++ "errors.errorString" = "*errors.errorString" :=by decide
theorem rowES (u:TypeId) (h:Tryz.prog.typeName? 3 u=some "*errors.errorString"):u=287:=
 typeName_ptr_named (nm:= "errors.errorString") (by rw [starES];kernel_rfl) (by kernel_rfl) (by decide) u (by rw [starES];exact h)
def lTab:String×DataW Unit:=("internal/strconv.uint64pow10",Rows.laid_internal_strconv_uint64pow10)
def lAcc:String×DataW Unit:=("unicode/utf8.acceptRanges",Rows.laid_unicode_utf8_acceptRanges)
def lRng:String×DataW Unit:=("strconv.ErrRange",Rows.laid_strconv_ErrRange)
def lSyn:String×DataW Unit:=("strconv.ErrSyntax",Rows.laid_strconv_ErrSyntax)
theorem stdW_of {x0 x1:String×DataW Unit} {r:List (String×DataW Unit)} {W:World} (hL:laidMet Tryz.prog (x0::x1::lTab::lAcc::lRng::lSyn::r) W) (hsh:W.ShapedOpen Tryz.prog):StdW W:=by
 have h2:=laidMet_tail (laidMet_tail hL)
 have ht:TabIs Tryz.prog W "internal/strconv.uint64pow10" .u64 pow10Tab:=tabIs_of_head gPow gPowT Tryz.underlying291 Tryz.underlying134 cellsU64 cellsTab h2
 have h4:=laidMet_tail (laidMet_tail h2)
 obtain ⟨a0,s0,hr,-,-,-⟩:=laid_sentinel h4 gRng gRngT Tryz.underlying25 rowES Tryz.underlying287 Tryz.underlying289 rfl rfl Tryz.underlying9 cellsES cellsSt
 obtain ⟨a1,s1,hs,-,-,-⟩:=laid_sentinel (laidMet_tail h4) gSyn gSynT Tryz.underlying25 rowES Tryz.underlying287 Tryz.underlying289 rfl rfl Tryz.underlying9 cellsES cellsSt
 have cr:=World.var?_cell gRng hr 0
 have cs:=World.var?_cell gSyn hs 0
 refine ⟨Go.Proofs.cell_of_shapedOpen_int (zero:= #[.int .i64 0]) (t:=3) hsh (of_decide_eq_true (by kernel_rfl)) (by kernel_rfl) rfl (by kernel_rfl) (by kernel_rfl) Tryz.underlying3,ht,⟨_,_,by simpa using cs⟩,⟨_,_,by simpa using cr⟩,?_⟩
 have c0:=ht.cell gPow 0 (by decide)
 exact World.block_lt_of_cell? _ _ c0
end Go.Proofs.YtgmpdjjoefkndaaGreatDoor

namespace Go.Proofs.YtgmpdjjoefkndaaGreatDoor
open Go.RowKit Go.Lib Go.Proofs.YtgmpdjjoefkndaaGreatDoor.E
set_option linter.unusedVariables false
theorem gEt:Tryz.prog.globalNamed "errors.errorType" =some 1:=by kernel_rfl
theorem rtRow:(Tryz.prog.cutTypes.find? (·.1== "internal/reflectlite.rtype")).map (·.2)=some 207:=by kernel_rfl
theorem errRow:((List.range 334).filter fun t=>Tryz.prog.rowNamed t [101,114,114,111,114])=[25]:=by kernel_rfl
theorem typesN:Tryz.prog.types.size=334:=by kernel_rfl
def lEt:String×DataW Unit:=("errors.errorType",Rows.laid_errors_errorType)
def plainLaid:List (String×DataW Unit):=[("math/bits.deBruijn32tab",Rows.laid_math_bits_deBruijn32tab),("math/bits.deBruijn64tab",Rows.laid_math_bits_deBruijn64tab),lTab,lAcc,lRng,lSyn,("unicode.CaseRanges",Rows.laid_unicode_CaseRanges),("unicode/utf8.first",Rows.laid_unicode_utf8_first)]
theorem laidH_parts {W:World} (hL:laidMetH Tryz.prog Rows.headReadsRow.laid W):laidMet Tryz.prog plainLaid W∧handlesMet Tryz.prog [lEt] W:=hL
theorem etW_of {W:World} (h:handlesMet Tryz.prog [lEt] W):EtW W:=by
 obtain ⟨name,u,ty,e1,e2,e3,e4,e5⟩:=h _ (List.mem_singleton.2 rfl)
 have en:name=[101,114,114,111,114]:=(Option.some.inj e1).symm
 subst en
 obtain rfl:=Option.some.inj (rtRow.symm.trans e2)
 have hm:ty ∈ (List.range 334).filter fun t=>Tryz.prog.rowNamed t [101,114,114,111,114]:=List.mem_filter.2 ⟨List.mem_range.2 (by rw [← typesN];exact e3),e4⟩
 rw [errRow] at hm
 obtain rfl:=List.mem_singleton.1 hm
 have hh:typeHandle Tryz.prog 25= .pointer (some ⟨11,25,none⟩):=by kernel_rfl
 rw [hh] at e5
 exact (by simpa using World.var?_cell gEt e5 0:W.cell? ⟨1,0,none⟩=some (.iface 207 (.agg #[.pointer (some ⟨11,25,none⟩)])))
theorem stdE_of {W:World} (hL:laidMetH Tryz.prog Rows.headReadsRow.laid W) (hsh:W.ShapedOpen Tryz.prog):StdE W:=⟨stdW_of (laidH_parts hL).1 hsh,etW_of (laidH_parts hL).2⟩
theorem laidMet_on (w0:World) {laid:List (String×DataW Unit)} (args:Array Value) (hf:w0.layFits Tryz.prog laid []=true) (hi:w0.layIfaces Tryz.prog laid (w0.layVars Tryz.prog laid)=true):
  laidMet Tryz.prog laid ((w0.layVars Tryz.prog laid).forCall (fun _ _=>0) ⟨#[],args,[]⟩).memory:=by
 have e1:(laid.filter fun x=>(laid.map (·.1)).contains x.1)=laid:=List.filter_eq_self.2 fun x hx=>List.contains_iff_mem.2 (List.mem_map.2 ⟨x,hx,rfl⟩)
 have e2:(laid.filter fun x=>!(laid.map (·.1)).contains x.1)=[]:=List.filter_eq_nil_iff.2 fun x hx=>by rw [List.contains_iff_mem.2 (List.mem_map.2 ⟨x,hx,rfl⟩)];simp
 have h:laidMet Tryz.prog laid (w0.layVars Tryz.prog laid):=laidMet_layVars (w0:=w0) (laid.map (·.1)) [] (by rw [e1]) (by rw [e1];exact hf) (by rw [e1];exact hi) (by rw [e2];exact LaidIn.none)
 exact h.of_heap (by simp [World.memory,World.forCall,Input.heap])
noncomputable def handleWorld (os:Os):World:=
 let w0:=World.holding Tryz.prog os ⟨#[],#[],[]⟩
 { w0 with heap:=w0.heap.modify 1 fun
  | .cells _ t frozen=> .cells #[.iface 207 (.agg #[.pointer (some ⟨11,25,none⟩)])] t frozen
  |o=>o }
noncomputable def hostWorld (os:Os):World:=(handleWorld os).layVars Tryz.prog plainLaid
theorem hostWorld_os (os:Os):(hostWorld os).os=os:=World.layVars_os _ _ _
theorem hostLaid (os:Os) (args:Array Value):laidMetH Tryz.prog Rows.headReadsRow.laid ((hostWorld os).forCall (fun _ _=>0) ⟨#[],args,[]⟩).memory:=
 laidMetH_of_parts (laidMet_on (handleWorld os) (laid:=plainLaid) args (by kernel_rfl) (by kernel_rfl)) (by kernel_rfl)
end Go.Proofs.YtgmpdjjoefkndaaGreatDoor

namespace Go.Proofs.YtgmpdjjoefkndaaGreatDoor
open Go

section
variable {H:Type} {enc:TypeId×Value→H}
theorem witness_zip {C:Checked} {os:Os} {f:FuncId} {fn:Func} {s:OpenSpec} {conds:List PathCond} {apart:Bool} {laid:List (String×DataW Unit)} (w0:World) (args:Array Value) (hos:w0.os=os)
  (hsh:(w0.forCall (fun _ _=>0) ⟨#[],args,[]⟩).Shaped C.prog)
  (hok:Input.okWideB C.prog (w0.forCall (fun _ _=>0) ⟨#[],args,[]⟩) f ⟨#[],args,[]⟩=true)
  (hrow:s.preRow enc C.prog fn conds apart laid (w0.forCall (fun _ _=>0) ⟨#[],args,[]⟩).memory args):
  ∃ (w:World) (tape:Tape) (i:Input),w.os=os∧(w.forCall tape i).Shaped C.prog∧i.vars=[]∧Input.okWide C.prog (w.forCall tape i) .any w.heap.size f i∧
   s.preRow enc C.prog fn conds apart laid (w.forCall tape i).memory i.args∧({}:Assume).holds C.prog (lone (Frame.enter C.prog f i.args .normal) [] (w.forCall tape i)):=
 ⟨w0,fun _ _=>0,⟨#[],args,[]⟩,hos,hsh,(Input.okWide_of_okWideB (base:=0) hok).1,(Input.okWide_of_okWideB hok).2,hrow,by
  simp only [Assume.holds]
  exact ⟨by simp,by simp,fun _=>Modest.zero,by simp,by simp⟩⟩
end
theorem jf_of {P:Program} {f:FuncId} {fn:Func} {s:ChangeSpec} {c:OpenClaim}
  (a1:(c.wf (OpenSpec.ofChange s) && laidOutB P && mapsRowed P && fn.params.all (P.readableRec ·) && namedTie P c.named s.vars && (c.stops==[]) && (P.stops==[]) && (c.knobs==[]) && (P.stopKnobs==[]))=true)
  (a2:(c.inPlace==P.inPlace f)=true) (a3:(c.unfollowed==P.unfollowed f)=true) (a4:(c.recurses==P.recurses f)=true) (a5:(c.named==P.varsNamed f)=true)
  (a6:((c.maps==(fn.params.toList++s.plain.varTypes P).any (P.mapsRec ·)) && (c.ifaces==(fn.params.toList++s.plain.varTypes P).any (P.ifacesRec ·)) && (c.mapsOut==P.mapsAmong fn.resultTypes.toList) && (c.loops==(fn.params.toList++s.plain.varTypes P).any (P.loopsFrom ·)) && (c.wideKeys==(fn.params.toList++s.plain.varTypes P++fn.resultTypes.toList).any (P.wideKeysFrom ·)))=true)
  (a7:(s.vars.all (P.varReadable ·) && fn.resultTypes.all (fun t=>P.readableRec t && decide (t<P.types.size)) && (c.ifacesOut==fn.resultTypes.toList.any (P.ifacesRec ·)) && (c.loopsOut==fn.resultTypes.toList.any (P.loopsFrom ·)))=true)
  (a8:(c.plainKeys==P.plainKeys)=true) (a9:(c.shortTexts.isNone && P.stopsHeard)=true) (a10:P.mayEnter=true) (a11:(c.lifted==P.liftsFinal)=true) (a12:(P.make==some c.make)=true)
  (a13:((c.kinds==(if c.domain.isEmpty then [] else fn.params.toList.map fun t=>match P.underlying t with|some (.int k)=>some k|_=>none)) && (c.pinned==c.pinnedBy))=true)
  (a14:((c.veiled==(fn.params.toList++s.plain.varTypes P++fn.resultTypes.toList).any (P.veiledRec ·)) && c.veiledFits P fn.params.toList (fn.params.toList++s.plain.varTypes P++fn.resultTypes.toList))=true):joinedFacts P f fn s c=true:=by
 unfold joinedFacts
 simp only [Bool.and_eq_true] at a1 a6 a7 a9 a13 a14 ⊢
 obtain ⟨⟨⟨⟨⟨⟨⟨⟨b1,b2⟩,b3⟩,b4⟩,b5⟩,b6⟩,b7⟩,b8⟩,b9⟩:=a1
 obtain ⟨⟨⟨⟨c1,c2⟩,c3⟩,c4⟩,c5⟩:=a6
 obtain ⟨⟨⟨d1,d2⟩,d3⟩,d4⟩:=a7
 obtain ⟨e1,e2⟩:=a9
 obtain ⟨f1,f2⟩:=a13
 obtain ⟨g1,g2⟩:=a14
 exact ⟨⟨⟨⟨⟨⟨⟨⟨⟨⟨⟨⟨⟨⟨⟨⟨⟨⟨⟨⟨⟨⟨⟨⟨⟨⟨⟨⟨⟨⟨⟨b1,b2⟩,b3⟩,b4⟩,b5⟩,b6⟩,b7⟩,b8⟩,b9⟩,a2⟩,a3⟩,a4⟩,a5⟩,c1⟩,c2⟩,c3⟩,c4⟩,c5⟩,d1⟩,d2⟩,d3⟩,d4⟩,a8⟩,e1⟩,e2⟩,a10⟩,a11⟩,a12⟩,f1⟩,f2⟩,g1⟩,g2⟩
end Go.Proofs.YtgmpdjjoefkndaaGreatDoor
