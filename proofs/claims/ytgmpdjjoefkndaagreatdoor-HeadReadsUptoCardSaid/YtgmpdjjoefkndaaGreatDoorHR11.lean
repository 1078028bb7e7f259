/- What the cards of this seat rest on: the walks and plain laws, part 11. -/
import Derived.Test.YtgmpdjjoefkndaaGreatDoorHR8
import Derived.Test.YtgmpdjjoefkndaaGreatDoorHR9
import Derived.Test.YtgmpdjjoefkndaaGreatDoorHR7
import Derived.Test.YtgmpdjjoefkndaaGreatDoorHR10

namespace Go.Proofs.YtgmpdjjoefkndaaGreatDoor.E
open Go.RowKit Go.Proofs.YtgmpdjjoefkndaaGreatDoorW.PrintWords Go.Proofs.YtgmpdjjoefkndaaGreatDoorW.PrintLast Go.Proofs.YtgmpdjjoefkndaaGreatDoor.XD
set_option linter.unusedVariables false
set_option linter.unusedSimpArgs false
theorem oth {w:World} {R S:Nat} {C:Array Value} {T:TypeId} (h:Blk w R C T) (j:Nat) (hp:R<S) (v:Value):Blk (w.setCell ⟨S,j,none⟩ v) R C T:=h.other ⟨S,j,none⟩ (Nat.ne_of_lt hp) v
theorem bset {B S:Nat} {w W:World} (h:Below B w W) (j:Nat) (hs:B<S) (v:Value):Below B w (W.setCell ⟨S,j,none⟩ v):=h.setCell (p:=⟨S,j,none⟩) (Nat.le_of_lt hs) v
set_option maxRecDepth 100000 in
set_option maxHeartbeats 40000000 in
theorem tgt_dest (m s:ByteArray) (hm:(m.toList==[67,79,78,78,69,67,84])=false) (p:Int) (rest place path0:ByteArray) (ok slash wt:Bool) (hpz:path0.size≤100000) (w:World)
  (HCP0: ∀ W,Below w.heap.size w W→Calls Tryz.prog 97 #[.string s,.string ⟨#[104,116,116,112,58,47,47]⟩] W fun e w'=>e= .returned (.tuple #[.string rest,.bool ok])∧Below W.heap.size W w')
  (HC0: ∀ W,Below w.heap.size w W→Calls Tryz.prog 91 #[.string rest,.string ⟨#[47]⟩] W fun e w'=>e= .returned (.tuple #[.string place,.string path0,.bool slash])∧Below W.heap.size W w')
  (HWI0: ∀ W,Below w.heap.size w W→Calls Tryz.prog 64 #[.string ((⟨#[47]⟩:ByteArray)++path0),.int .u8 33,.int .i64 2048] W fun e w'=>e= .returned (.bool wt)∧Below W.heap.size W w')
  (a b c d:Int) (n:ByteArray) (po:Int) (o o':Option (List (ByteArray×Int)×Int)) (hp0:0≤p) (hp1:p≤100000) (hok:ok=true) (hwt:slash=true→wt=true)
  (HCO0: ∀ W,Below w.heap.size w W→Calls Tryz.prog 98 #[.string place,.string ⟨#[58]⟩] W fun e w'=>e= .returned (.bool true)∧Below W.heap.size W w')
  (HP0: ∀ W,Below w.heap.size w W→Calls Tryz.prog 95 #[.string place] W fun e w'=> ∃ er,e= .returned (.tuple #[.agg (dC a b c d n po),er])∧EOr o w' er∧Below W.heap.size W w')
  (HI0: ∀ W er,Below w.heap.size w W→EOr o W er→Calls Tryz.prog 96 #[.int .i64 (p+7),er] W fun e w'=> ∃ v,e= .returned v∧EOr o' w' v∧Below W.heap.size W w'):
  Calls Tryz.prog 54 #[.string m,.string s,.int .i64 p] w fun e w'=> ∃ v,e= .returned (.tuple #[.agg (dC a b c d n po),.string ((⟨#[47]⟩:ByteArray)++path0),v])∧EOr o' w' v∧Below w.heap.size w w':=by
 have HCP:=Lib.hid HCP0
 have HC:=Lib.hid HC0
 have HWI:=Lib.hid HWI0
 have HW:=Lib.hid hdwrong_no
 have HZ:=Lib.hid (Blk.new w (dC 0 0 0 0 ⟨#[]⟩ 0) 41)
 have HB:=Lib.hid (below_alloc (Below.refl w.heap.size w) (.cells (dC 0 0 0 0 ⟨#[]⟩ 0) 41))
 clear HCP0 HC0 HWI0
 have h47:(⟨#[47]⟩:ByteArray).size=1:=rfl
 have hcat:(⟨#[47]⟩:ByteArray).size+path0.size≤9223372036854775807:=by rw [h47];omega
 have HP:=Lib.hid HP0
 have HI:=Lib.hid HI0
 have HCO:=Lib.hid HCO0
 clear HP0 HI0 HCO0
 subst hok
 unfold dC at*
 cases slash
 ·clear hwt
  go_enter Tryz.func54,Tryz.ntmps54
  go_wp2_with (first|(go_at_call 97;refine (HCP.out _ HB.out).mono ?_;rintro e w2 ⟨rfl,hb2⟩;have HB2:=Lib.hid (below_then HB.out HB.out.size hb2);have HZ2:=Lib.hid (HZ.out.below hb2);clear hb2)|(go_at_call 91;refine (HC.out _ HB2.out).mono ?_;rintro e w3 ⟨rfl,hb3⟩;have HB3:=Lib.hid (below_then HB2.out HB2.out.size hb3);have HZ3:=Lib.hid (HZ2.out.below hb3);clear hb3;have HB4:=HB3;have HZ4:=HZ3)|(go_at_call 64;refine (HWI.out _ HB3.out).mono ?_;rintro e w4 ⟨rfl,hb4⟩;clear HB4 HZ4;have HB4:=Lib.hid (below_then HB3.out HB3.out.size hb4);have HZ4:=Lib.hid (HZ3.out.below hb4);clear hb4)|(go_at_call 98;refine (HCO.out _ (below_alloc HB4.out _)).mono ?_;rintro e w5 ⟨rfl,hb5⟩;have hlt:=HZ4.out.lt;have HB5:=Lib.hid (below_then (below_alloc HB4.out _) (below_alloc HB4.out _).size hb5);have HZ5:=Lib.hid ((HZ4.out.old _).below hb5);have HD5:=Lib.hid ((Blk.new _ _ _).below hb5);clear hb5)|(go_at_call 95;refine (HP.out _ HB5.out).mono ?_;rintro e w6 ⟨er,rfl,he,hb6⟩;have HB6:=Lib.hid (below_then HB5.out HB5.out.size hb6);have HZ6:=Lib.hid (HZ5.out.below hb6);have HD6:=Lib.hid (HD5.out.below hb6);have HE7:=Lib.hid (EOr.put6 (a:=a) (b:=b) (c:=c) (d:=d) (n:=n) (po:=po) HD6.out he);have HD7:=Lib.hid (show Blk _ _ (dC a b c d n po) _ from ((((((HD6.out.set 0 (.int .u8 a)).set 1 (.int .u8 b)).set 2 (.int .u8 c)).set 3 (.int .u8 d)).set 4 (.string n)).set 5 (.int .i64 po)));have HZ7:=Lib.hid (oth (oth (oth (oth (oth (oth HZ6.out 0 hlt (.int .u8 a)) 1 hlt (.int .u8 b)) 2 hlt (.int .u8 c)) 3 hlt (.int .u8 d)) 4 hlt (.string n)) 5 hlt (.int .i64 po));have HB7:=Lib.hid (bset (bset (bset (bset (bset (bset HB6.out 0 hlt (.int .u8 a)) 1 hlt (.int .u8 b)) 2 hlt (.int .u8 c)) 3 hlt (.int .u8 d)) 4 hlt (.string n)) 5 hlt (.int .i64 po));obtain ⟨y0,y1,y2,y3,y4,y5,k0,k1,k2,k3,k4,k5⟩:=Blk.dix HD6.out;obtain ⟨g0,g1,g2,g3,g4,g5,-⟩:=Blk.dix HD7.out;clear he hb6))
  clear y0 y1 y2 y3 y4 y5 k0 k1 k2 k3 k4 k5 HD6
  generalize ((((((w6.setCell ⟨w3.heap.size,0,none⟩ (.int .u8 a)).setCell ⟨w3.heap.size,1,none⟩ (.int .u8 b)).setCell ⟨w3.heap.size,2,none⟩ (.int .u8 c)).setCell ⟨w3.heap.size,3,none⟩ (.int .u8 d)).setCell ⟨w3.heap.size,4,none⟩ (.string n)).setCell ⟨w3.heap.size,5,none⟩ (.int .i64 po))=W7 at HE7 HD7 HZ7 HB7 g0 g1 g2 g3 g4 g5 ⊢
  have hwr:IntKind.i64.wrap (p+7)=p+7:=IntWalk.i64_in _ (by omega)
  have hw0:wrap64 (p+7)=p+7:=by unfold wrap64;omega
  go_region_with (first|(go_at_call 96;refine (HI.out _ _ (below_drew1 HB7.out) (EOr.below HE7.out (below_drew1 (Below.refl _ _)))).mono ?_;rintro e w8 ⟨v,rfl,he8,hbd⟩;have hb8:=below_of_drew hbd;have HE8:=Lib.hid he8;have HB8:=Lib.hid (below_then HB7.out HB7.out.size hb8);have HZ8:=Lib.hid (HZ7.out.below hb8);have HD8:=Lib.hid (HD7.out.below hb8);clear g0 g1 g2 g3 g4 g5;obtain ⟨z0,z1,z2,z3,z4,z5,f0,f1,f2,f3,f4,f5⟩:=Blk.dix HZ8.out;obtain ⟨g0,g1,g2,g3,g4,g5,-⟩:=Blk.dix HD8.out;clear he8 hbd hb8))
  all_goals
   go_wp2
   refine bodyPost_ret (v:= .tuple #[.agg #[.int .u8 a,.int .u8 b,.int .u8 c,.int .u8 d,.string n,.int .i64 po],.string ((⟨#[47]⟩:ByteArray)++path0),v]) ?_ rfl ⟨v,rfl,EOr.put6 HZ8.out HE8.out,?_⟩
   ·exact tgt_res _ _ _ _ _ _ rfl rfl rfl (show Blk _ _ (dC a b c d n po) _ from ((((((HZ8.out.set 0 (.int .u8 a)).set 1 (.int .u8 b)).set 2 (.int .u8 c)).set 3 (.int .u8 d)).set 4 (.string n)).set 5 (.int .i64 po)))
   ·exact (((((HB8.out.setCell (show w.heap.size≤w.heap.size from Nat.le_refl _) _).setCell (show w.heap.size≤w.heap.size from Nat.le_refl _) _).setCell (show w.heap.size≤w.heap.size from Nat.le_refl _) _).setCell (show w.heap.size≤w.heap.size from Nat.le_refl _) _).setCell (show w.heap.size≤w.heap.size from Nat.le_refl _) _).setCell (show w.heap.size≤w.heap.size from Nat.le_refl _) _
 ·obtain rfl:=hwt rfl
  go_enter Tryz.func54,Tryz.ntmps54
  go_wp2_with (first|(go_at_call 97;refine (HCP.out _ HB.out).mono ?_;rintro e w2 ⟨rfl,hb2⟩;have HB2:=Lib.hid (below_then HB.out HB.out.size hb2);have HZ2:=Lib.hid (HZ.out.below hb2);clear hb2)|(go_at_call 91;refine (HC.out _ HB2.out).mono ?_;rintro e w3 ⟨rfl,hb3⟩;have HB3:=Lib.hid (below_then HB2.out HB2.out.size hb3);have HZ3:=Lib.hid (HZ2.out.below hb3);clear hb3;have HB4:=HB3;have HZ4:=HZ3)|(go_at_call 64;refine (HWI.out _ HB3.out).mono ?_;rintro e w4 ⟨rfl,hb4⟩;clear HB4 HZ4;have HB4:=Lib.hid (below_then HB3.out HB3.out.size hb4);have HZ4:=Lib.hid (HZ3.out.below hb4);clear hb4)|(go_at_call 98;refine (HCO.out _ (below_alloc HB4.out _)).mono ?_;rintro e w5 ⟨rfl,hb5⟩;have hlt:=HZ4.out.lt;have HB5:=Lib.hid (below_then (below_alloc HB4.out _) (below_alloc HB4.out _).size hb5);have HZ5:=Lib.hid ((HZ4.out.old _).below hb5);have HD5:=Lib.hid ((Blk.new _ _ _).below hb5);clear hb5)|(go_at_call 95;refine (HP.out _ HB5.out).mono ?_;rintro e w6 ⟨er,rfl,he,hb6⟩;have HB6:=Lib.hid (below_then HB5.out HB5.out.size hb6);have HZ6:=Lib.hid (HZ5.out.below hb6);have HD6:=Lib.hid (HD5.out.below hb6);have HE7:=Lib.hid (EOr.put6 (a:=a) (b:=b) (c:=c) (d:=d) (n:=n) (po:=po) HD6.out he);have HD7:=Lib.hid (show Blk _ _ (dC a b c d n po) _ from ((((((HD6.out.set 0 (.int .u8 a)).set 1 (.int .u8 b)).set 2 (.int .u8 c)).set 3 (.int .u8 d)).set 4 (.string n)).set 5 (.int .i64 po)));have HZ7:=Lib.hid (oth (oth (oth (oth (oth (oth HZ6.out 0 hlt (.int .u8 a)) 1 hlt (.int .u8 b)) 2 hlt (.int .u8 c)) 3 hlt (.int .u8 d)) 4 hlt (.string n)) 5 hlt (.int .i64 po));have HB7:=Lib.hid (bset (bset (bset (bset (bset (bset HB6.out 0 hlt (.int .u8 a)) 1 hlt (.int .u8 b)) 2 hlt (.int .u8 c)) 3 hlt (.int .u8 d)) 4 hlt (.string n)) 5 hlt (.int .i64 po));obtain ⟨y0,y1,y2,y3,y4,y5,k0,k1,k2,k3,k4,k5⟩:=Blk.dix HD6.out;obtain ⟨g0,g1,g2,g3,g4,g5,-⟩:=Blk.dix HD7.out;clear he hb6))
  clear y0 y1 y2 y3 y4 y5 k0 k1 k2 k3 k4 k5 HD6
  generalize ((((((w6.setCell ⟨w4.heap.size,0,none⟩ (.int .u8 a)).setCell ⟨w4.heap.size,1,none⟩ (.int .u8 b)).setCell ⟨w4.heap.size,2,none⟩ (.int .u8 c)).setCell ⟨w4.heap.size,3,none⟩ (.int .u8 d)).setCell ⟨w4.heap.size,4,none⟩ (.string n)).setCell ⟨w4.heap.size,5,none⟩ (.int .i64 po))=W7 at HE7 HD7 HZ7 HB7 g0 g1 g2 g3 g4 g5 ⊢
  have hwr:IntKind.i64.wrap (p+7)=p+7:=IntWalk.i64_in _ (by omega)
  have hw0:wrap64 (p+7)=p+7:=by unfold wrap64;omega
  go_region_with (first|(go_at_call 96;refine (HI.out _ _ (below_drew1 HB7.out) (EOr.below HE7.out (below_drew1 (Below.refl _ _)))).mono ?_;rintro e w8 ⟨v,rfl,he8,hbd⟩;have hb8:=below_of_drew hbd;have HE8:=Lib.hid he8;have HB8:=Lib.hid (below_then HB7.out HB7.out.size hb8);have HZ8:=Lib.hid (HZ7.out.below hb8);have HD8:=Lib.hid (HD7.out.below hb8);clear g0 g1 g2 g3 g4 g5;obtain ⟨z0,z1,z2,z3,z4,z5,f0,f1,f2,f3,f4,f5⟩:=Blk.dix HZ8.out;obtain ⟨g0,g1,g2,g3,g4,g5,-⟩:=Blk.dix HD8.out;clear he8 hbd hb8))
  all_goals
   go_wp2
   refine bodyPost_ret (v:= .tuple #[.agg #[.int .u8 a,.int .u8 b,.int .u8 c,.int .u8 d,.string n,.int .i64 po],.string ((⟨#[47]⟩:ByteArray)++path0),v]) ?_ rfl ⟨v,rfl,EOr.put6 HZ8.out HE8.out,?_⟩
   ·exact tgt_res _ _ _ _ _ _ rfl rfl rfl (show Blk _ _ (dC a b c d n po) _ from ((((((HZ8.out.set 0 (.int .u8 a)).set 1 (.int .u8 b)).set 2 (.int .u8 c)).set 3 (.int .u8 d)).set 4 (.string n)).set 5 (.int .i64 po)))
   ·exact (((((HB8.out.setCell (show w.heap.size≤w.heap.size from Nat.le_refl _) _).setCell (show w.heap.size≤w.heap.size from Nat.le_refl _) _).setCell (show w.heap.size≤w.heap.size from Nat.le_refl _) _).setCell (show w.heap.size≤w.heap.size from Nat.le_refl _) _).setCell (show w.heap.size≤w.heap.size from Nat.le_refl _) _).setCell (show w.heap.size≤w.heap.size from Nat.le_refl _) _
set_option maxRecDepth 100000 in
set_option maxHeartbeats 40000000 in
theorem tgt_host (m s:ByteArray) (hm:(m.toList==[67,79,78,78,69,67,84])=false) (p:Int) (rest place path0:ByteArray) (ok slash wt:Bool) (hpz:path0.size≤100000) (w:World)
  (HCP0: ∀ W,Below w.heap.size w W→Calls Tryz.prog 97 #[.string s,.string ⟨#[104,116,116,112,58,47,47]⟩] W fun e w'=>e= .returned (.tuple #[.string rest,.bool ok])∧Below W.heap.size W w')
  (HC0: ∀ W,Below w.heap.size w W→Calls Tryz.prog 91 #[.string rest,.string ⟨#[47]⟩] W fun e w'=>e= .returned (.tuple #[.string place,.string path0,.bool slash])∧Below W.heap.size W w')
  (HWI0: ∀ W,Below w.heap.size w W→Calls Tryz.prog 64 #[.string ((⟨#[47]⟩:ByteArray)++path0),.int .u8 33,.int .i64 2048] W fun e w'=>e= .returned (.bool wt)∧Below W.heap.size W w')
  (a b c d:Int) (n:ByteArray) (o o':Option (List (ByteArray×Int)×Int)) (hp0:0≤p) (hp1:p≤100000) (hok:ok=true) (hwt:slash=true→wt=true)
  (HCO0: ∀ W,Below w.heap.size w W→Calls Tryz.prog 98 #[.string place,.string ⟨#[58]⟩] W fun e w'=>e= .returned (.bool false)∧Below W.heap.size W w')
  (HP0: ∀ W,Below w.heap.size w W→Calls Tryz.prog 99 #[.string place] W fun e w'=> ∃ er,e= .returned (.tuple #[.agg #[.int .u8 a,.int .u8 b,.int .u8 c,.int .u8 d,.string n],er])∧EOr o w' er∧Below W.heap.size W w')
  (HI0: ∀ W er,Below w.heap.size w W→EOr o W er→Calls Tryz.prog 96 #[.int .i64 (p+7),er] W fun e w'=> ∃ v,e= .returned v∧EOr o' w' v∧Below W.heap.size W w'):
  Calls Tryz.prog 54 #[.string m,.string s,.int .i64 p] w fun e w'=> ∃ v,e= .returned (.tuple #[.agg (dC a b c d n 80),.string ((⟨#[47]⟩:ByteArray)++path0),v])∧EOr o' w' v∧Below w.heap.size w w':=by
 have HCP:=Lib.hid HCP0
 have HC:=Lib.hid HC0
 have HWI:=Lib.hid HWI0
 have HW:=Lib.hid hdwrong_no
 have HZ:=Lib.hid (Blk.new w (dC 0 0 0 0 ⟨#[]⟩ 0) 41)
 have HB:=Lib.hid (below_alloc (Below.refl w.heap.size w) (.cells (dC 0 0 0 0 ⟨#[]⟩ 0) 41))
 clear HCP0 HC0 HWI0
 have h47:(⟨#[47]⟩:ByteArray).size=1:=rfl
 have hcat:(⟨#[47]⟩:ByteArray).size+path0.size≤9223372036854775807:=by rw [h47];omega
 have HP:=Lib.hid HP0
 have HI:=Lib.hid HI0
 have HCO:=Lib.hid HCO0
 clear HP0 HI0 HCO0
 subst hok
 unfold dC at*
 cases slash
 ·clear hwt
  go_enter Tryz.func54,Tryz.ntmps54
  go_wp2_with (first|(go_at_call 97;refine (HCP.out _ HB.out).mono ?_;rintro e w2 ⟨rfl,hb2⟩;have HB2:=Lib.hid (below_then HB.out HB.out.size hb2);have HZ2:=Lib.hid (HZ.out.below hb2);clear hb2)|(go_at_call 91;refine (HC.out _ HB2.out).mono ?_;rintro e w3 ⟨rfl,hb3⟩;have HB3:=Lib.hid (below_then HB2.out HB2.out.size hb3);have HZ3:=Lib.hid (HZ2.out.below hb3);clear hb3;have HB4:=HB3;have HZ4:=HZ3)|(go_at_call 64;refine (HWI.out _ HB3.out).mono ?_;rintro e w4 ⟨rfl,hb4⟩;clear HB4 HZ4;have HB4:=Lib.hid (below_then HB3.out HB3.out.size hb4);have HZ4:=Lib.hid (HZ3.out.below hb4);clear hb4)|(go_at_call 98;refine (HCO.out _ (below_alloc HB4.out _)).mono ?_;rintro e w5 ⟨rfl,hb5⟩;have hlt:=HZ4.out.lt;have HB5:=Lib.hid (below_then (below_alloc HB4.out _) (below_alloc HB4.out _).size hb5);have HZ5:=Lib.hid ((HZ4.out.old _).below hb5);have HD5:=Lib.hid ((Blk.new _ _ _).below hb5);obtain ⟨y0,y1,y2,y3,y4,y5,k0,k1,k2,k3,k4,k5⟩:=Blk.dix HD5.out;clear hb5)|(go_at_call 99;refine (HP.out _ (bset HB5.out 5 hlt (.int .i64 80))).mono ?_;rintro e w6 ⟨er,rfl,he,hb6⟩;clear y0 y1 y2 y3 y4 y5 k0 k1 k2 k3 k4 k5;have HB6:=Lib.hid (below_then (bset HB5.out 5 hlt (.int .i64 80)) (bset HB5.out 5 hlt (.int .i64 80)).size hb6);have HZ6:=Lib.hid ((oth HZ5.out 5 hlt (.int .i64 80)).below hb6);have HD6:=Lib.hid (show Blk _ _ (dC 0 0 0 0 ⟨#[]⟩ 80) _ from (HD5.out.set 5 (.int .i64 80)).below hb6);have HE7:=Lib.hid (EOr.set (C:=dC a b c d ⟨#[]⟩ 80) (j:=4) (u:= .string n) (show Blk _ _ _ _ from ((((HD6.out.set 0 (.int .u8 a)).set 1 (.int .u8 b)).set 2 (.int .u8 c)).set 3 (.int .u8 d))) rfl (EOr.set (C:=dC a b c 0 ⟨#[]⟩ 80) (j:=3) (u:= .int .u8 d) (show Blk _ _ _ _ from (((HD6.out.set 0 (.int .u8 a)).set 1 (.int .u8 b)).set 2 (.int .u8 c))) rfl (EOr.set (C:=dC a b 0 0 ⟨#[]⟩ 80) (j:=2) (u:= .int .u8 c) (show Blk _ _ _ _ from ((HD6.out.set 0 (.int .u8 a)).set 1 (.int .u8 b))) rfl (EOr.set (C:=dC a 0 0 0 ⟨#[]⟩ 80) (j:=1) (u:= .int .u8 b) (show Blk _ _ _ _ from (HD6.out.set 0 (.int .u8 a))) rfl (EOr.set (C:=dC 0 0 0 0 ⟨#[]⟩ 80) (j:=0) (u:= .int .u8 a) (show Blk _ _ _ _ from HD6.out) rfl he)))));have HD7:=Lib.hid (show Blk _ _ (dC a b c d n 80) _ from (((((HD6.out.set 0 (.int .u8 a)).set 1 (.int .u8 b)).set 2 (.int .u8 c)).set 3 (.int .u8 d)).set 4 (.string n)));have HZ7:=Lib.hid (oth (oth (oth (oth (oth HZ6.out 0 hlt (.int .u8 a)) 1 hlt (.int .u8 b)) 2 hlt (.int .u8 c)) 3 hlt (.int .u8 d)) 4 hlt (.string n));have HB7:=Lib.hid (bset (bset (bset (bset (bset HB6.out 0 hlt (.int .u8 a)) 1 hlt (.int .u8 b)) 2 hlt (.int .u8 c)) 3 hlt (.int .u8 d)) 4 hlt (.string n));obtain ⟨y0,y1,y2,y3,y4,y5,k0,k1,k2,k3,k4,k5⟩:=Blk.dix HD6.out;obtain ⟨g0,g1,g2,g3,g4,g5,-⟩:=Blk.dix HD7.out;clear he hb6))
  clear y0 y1 y2 y3 y4 y5 k0 k1 k2 k3 k4 k5 HD6
  generalize (((((w6.setCell ⟨w3.heap.size,0,none⟩ (.int .u8 a)).setCell ⟨w3.heap.size,1,none⟩ (.int .u8 b)).setCell ⟨w3.heap.size,2,none⟩ (.int .u8 c)).setCell ⟨w3.heap.size,3,none⟩ (.int .u8 d)).setCell ⟨w3.heap.size,4,none⟩ (.string n))=W7 at HE7 HD7 HZ7 HB7 g0 g1 g2 g3 g4 g5 ⊢
  have hwr:IntKind.i64.wrap (p+7)=p+7:=IntWalk.i64_in _ (by omega)
  have hw0:wrap64 (p+7)=p+7:=by unfold wrap64;omega
  go_region_with (first|(go_at_call 96;refine (HI.out _ _ (below_drew1 HB7.out) (EOr.below HE7.out (below_drew1 (Below.refl _ _)))).mono ?_;rintro e w8 ⟨v,rfl,he8,hbd⟩;have hb8:=below_of_drew hbd;have HE8:=Lib.hid he8;have HB8:=Lib.hid (below_then HB7.out HB7.out.size hb8);have HZ8:=Lib.hid (HZ7.out.below hb8);have HD8:=Lib.hid (HD7.out.below hb8);clear g0 g1 g2 g3 g4 g5;obtain ⟨z0,z1,z2,z3,z4,z5,f0,f1,f2,f3,f4,f5⟩:=Blk.dix HZ8.out;obtain ⟨g0,g1,g2,g3,g4,g5,-⟩:=Blk.dix HD8.out;clear he8 hbd hb8))
  all_goals
   go_wp2
   refine bodyPost_ret (v:= .tuple #[.agg #[.int .u8 a,.int .u8 b,.int .u8 c,.int .u8 d,.string n,.int .i64 80],.string ((⟨#[47]⟩:ByteArray)++path0),v]) ?_ rfl ⟨v,rfl,EOr.put6 HZ8.out HE8.out,?_⟩
   ·exact tgt_res _ _ _ _ _ _ rfl rfl rfl (show Blk _ _ (dC a b c d n 80) _ from ((((((HZ8.out.set 0 (.int .u8 a)).set 1 (.int .u8 b)).set 2 (.int .u8 c)).set 3 (.int .u8 d)).set 4 (.string n)).set 5 (.int .i64 80)))
   ·exact (((((HB8.out.setCell (show w.heap.size≤w.heap.size from Nat.le_refl _) _).setCell (show w.heap.size≤w.heap.size from Nat.le_refl _) _).setCell (show w.heap.size≤w.heap.size from Nat.le_refl _) _).setCell (show w.heap.size≤w.heap.size from Nat.le_refl _) _).setCell (show w.heap.size≤w.heap.size from Nat.le_refl _) _).setCell (show w.heap.size≤w.heap.size from Nat.le_refl _) _
 ·obtain rfl:=hwt rfl
  go_enter Tryz.func54,Tryz.ntmps54
  go_wp2_with (first|(go_at_call 97;refine (HCP.out _ HB.out).mono ?_;rintro e w2 ⟨rfl,hb2⟩;have HB2:=Lib.hid (below_then HB.out HB.out.size hb2);have HZ2:=Lib.hid (HZ.out.below hb2);clear hb2)|(go_at_call 91;refine (HC.out _ HB2.out).mono ?_;rintro e w3 ⟨rfl,hb3⟩;have HB3:=Lib.hid (below_then HB2.out HB2.out.size hb3);have HZ3:=Lib.hid (HZ2.out.below hb3);clear hb3;have HB4:=HB3;have HZ4:=HZ3)|(go_at_call 64;refine (HWI.out _ HB3.out).mono ?_;rintro e w4 ⟨rfl,hb4⟩;clear HB4 HZ4;have HB4:=Lib.hid (below_then HB3.out HB3.out.size hb4);have HZ4:=Lib.hid (HZ3.out.below hb4);clear hb4)|(go_at_call 98;refine (HCO.out _ (below_alloc HB4.out _)).mono ?_;rintro e w5 ⟨rfl,hb5⟩;have hlt:=HZ4.out.lt;have HB5:=Lib.hid (below_then (below_alloc HB4.out _) (below_alloc HB4.out _).size hb5);have HZ5:=Lib.hid ((HZ4.out.old _).below hb5);have HD5:=Lib.hid ((Blk.new _ _ _).below hb5);obtain ⟨y0,y1,y2,y3,y4,y5,k0,k1,k2,k3,k4,k5⟩:=Blk.dix HD5.out;clear hb5)|(go_at_call 99;refine (HP.out _ (bset HB5.out 5 hlt (.int .i64 80))).mono ?_;rintro e w6 ⟨er,rfl,he,hb6⟩;clear y0 y1 y2 y3 y4 y5 k0 k1 k2 k3 k4 k5;have HB6:=Lib.hid (below_then (bset HB5.out 5 hlt (.int .i64 80)) (bset HB5.out 5 hlt (.int .i64 80)).size hb6);have HZ6:=Lib.hid ((oth HZ5.out 5 hlt (.int .i64 80)).below hb6);have HD6:=Lib.hid (show Blk _ _ (dC 0 0 0 0 ⟨#[]⟩ 80) _ from (HD5.out.set 5 (.int .i64 80)).below hb6);have HE7:=Lib.hid (EOr.set (C:=dC a b c d ⟨#[]⟩ 80) (j:=4) (u:= .string n) (show Blk _ _ _ _ from ((((HD6.out.set 0 (.int .u8 a)).set 1 (.int .u8 b)).set 2 (.int .u8 c)).set 3 (.int .u8 d))) rfl (EOr.set (C:=dC a b c 0 ⟨#[]⟩ 80) (j:=3) (u:= .int .u8 d) (show Blk _ _ _ _ from (((HD6.out.set 0 (.int .u8 a)).set 1 (.int .u8 b)).set 2 (.int .u8 c))) rfl (EOr.set (C:=dC a b 0 0 ⟨#[]⟩ 80) (j:=2) (u:= .int .u8 c) (show Blk _ _ _ _ from ((HD6.out.set 0 (.int .u8 a)).set 1 (.int .u8 b))) rfl (EOr.set (C:=dC a 0 0 0 ⟨#[]⟩ 80) (j:=1) (u:= .int .u8 b) (show Blk _ _ _ _ from (HD6.out.set 0 (.int .u8 a))) rfl (EOr.set (C:=dC 0 0 0 0 ⟨#[]⟩ 80) (j:=0) (u:= .int .u8 a) (show Blk _ _ _ _ from HD6.out) rfl he)))));have HD7:=Lib.hid (show Blk _ _ (dC a b c d n 80) _ from (((((HD6.out.set 0 (.int .u8 a)).set 1 (.int .u8 b)).set 2 (.int .u8 c)).set 3 (.int .u8 d)).set 4 (.string n)));have HZ7:=Lib.hid (oth (oth (oth (oth (oth HZ6.out 0 hlt (.int .u8 a)) 1 hlt (.int .u8 b)) 2 hlt (.int .u8 c)) 3 hlt (.int .u8 d)) 4 hlt (.string n));have HB7:=Lib.hid (bset (bset (bset (bset (bset HB6.out 0 hlt (.int .u8 a)) 1 hlt (.int .u8 b)) 2 hlt (.int .u8 c)) 3 hlt (.int .u8 d)) 4 hlt (.string n));obtain ⟨y0,y1,y2,y3,y4,y5,k0,k1,k2,k3,k4,k5⟩:=Blk.dix HD6.out;obtain ⟨g0,g1,g2,g3,g4,g5,-⟩:=Blk.dix HD7.out;clear he hb6))
  clear y0 y1 y2 y3 y4 y5 k0 k1 k2 k3 k4 k5 HD6
  generalize (((((w6.setCell ⟨w4.heap.size,0,none⟩ (.int .u8 a)).setCell ⟨w4.heap.size,1,none⟩ (.int .u8 b)).setCell ⟨w4.heap.size,2,none⟩ (.int .u8 c)).setCell ⟨w4.heap.size,3,none⟩ (.int .u8 d)).setCell ⟨w4.heap.size,4,none⟩ (.string n))=W7 at HE7 HD7 HZ7 HB7 g0 g1 g2 g3 g4 g5 ⊢
  have hwr:IntKind.i64.wrap (p+7)=p+7:=IntWalk.i64_in _ (by omega)
  have hw0:wrap64 (p+7)=p+7:=by unfold wrap64;omega
  go_region_with (first|(go_at_call 96;refine (HI.out _ _ (below_drew1 HB7.out) (EOr.below HE7.out (below_drew1 (Below.refl _ _)))).mono ?_;rintro e w8 ⟨v,rfl,he8,hbd⟩;have hb8:=below_of_drew hbd;have HE8:=Lib.hid he8;have HB8:=Lib.hid (below_then HB7.out HB7.out.size hb8);have HZ8:=Lib.hid (HZ7.out.below hb8);have HD8:=Lib.hid (HD7.out.below hb8);clear g0 g1 g2 g3 g4 g5;obtain ⟨z0,z1,z2,z3,z4,z5,f0,f1,f2,f3,f4,f5⟩:=Blk.dix HZ8.out;obtain ⟨g0,g1,g2,g3,g4,g5,-⟩:=Blk.dix HD8.out;clear he8 hbd hb8))
  all_goals
   go_wp2
   refine bodyPost_ret (v:= .tuple #[.agg #[.int .u8 a,.int .u8 b,.int .u8 c,.int .u8 d,.string n,.int .i64 80],.string ((⟨#[47]⟩:ByteArray)++path0),v]) ?_ rfl ⟨v,rfl,EOr.put6 HZ8.out HE8.out,?_⟩
   ·exact tgt_res _ _ _ _ _ _ rfl rfl rfl (show Blk _ _ (dC a b c d n 80) _ from ((((((HZ8.out.set 0 (.int .u8 a)).set 1 (.int .u8 b)).set 2 (.int .u8 c)).set 3 (.int .u8 d)).set 4 (.string n)).set 5 (.int .i64 80)))
   ·exact (((((HB8.out.setCell (show w.heap.size≤w.heap.size from Nat.le_refl _) _).setCell (show w.heap.size≤w.heap.size from Nat.le_refl _) _).setCell (show w.heap.size≤w.heap.size from Nat.le_refl _) _).setCell (show w.heap.size≤w.heap.size from Nat.le_refl _) _).setCell (show w.heap.size≤w.heap.size from Nat.le_refl _) _).setCell (show w.heap.size≤w.heap.size from Nat.le_refl _) _
theorem contains_calls (s sub:ByteArray) (hs:s.size<4294967281) (w:World) (hS:StdW w):
  Calls Tryz.prog 98 #[.string s,.string sub] w fun e w'=>e= .returned (.bool (Lib.contains s.data.toList sub.data.toList))∧Below w.heap.size w w':=by
 obtain ⟨m,hm⟩:=hS.max
 exact (Tryz.strings_Contains s sub m w hs hm).mono fun e w' ⟨he,hw⟩=>⟨he,hw▸Below.refl _ _⟩
theorem cutpre_calls (s p:ByteArray) (w:World):
  Calls Tryz.prog 97 #[.string s,.string p] w fun e w'=>e= .returned (.tuple #[.string ⟨(Lib.trimPrefix s.data.toList p.data.toList).toArray⟩,.bool (Lib.hasPrefix s.data.toList p.data.toList)])∧Below w.heap.size w w':=
 (Tryz.strings_CutPrefix s p w).mono fun e w' ⟨he,hw⟩=>⟨he,hw▸Below.refl _ _⟩
theorem pdX_calls (s:ByteArray) (hs:s.size≤281474976710656) (r:(Int×List (ByteArray×Int)×Int) ⊕ DestT) (hr:pdX s=r) (w:World) (hS:StdE w):
 Calls Tryz.prog 95 #[.string s] w (PDXPost r w):=hr▸pdX_any s hs w hS
theorem restS_size (s:ByteArray):(restS s).size≤s.size:=by
 show (Lib.trimPrefix s.data.toList [104,116,116,112,58,47,47]).toArray.size≤_
 rw [List.size_toArray,Lib.size_eq s]
 unfold Lib.trimPrefix
 split
 ·rw [List.length_drop];omega
 ·exact Nat.le_refl _
theorem slash_data (q:ByteArray):((⟨#[47]⟩:ByteArray)++q).data.toList=47::q.data.toList:=by simp [ByteArray.append_eq,ByteArray.data_append]
theorem slash_eq (l:List UInt8):((⟨#[47]⟩:ByteArray)++⟨l.toArray⟩)=⟨(47::l).toArray⟩:=by
 apply ByteArray.ext;apply Array.toList_inj.1
 rw [slash_data]
theorem tgt_no (m s:ByteArray) (p:Int) (hm:m.size≤100000) (hs:s.size≤100000) (hp0:0≤p) (hp1:p≤100000) (w:World) (hS:StdE w) (hc: ¬ m.data.toList=[67,79,78,78,69,67,84]):
  Calls Tryz.prog 54 #[.string m,.string s,.int .i64 p] w (TgtPost (targetR m s p) w):=by
 have hm':(m.toList==[67,79,78,78,69,67,84])=false:=by rw [ByteArray.toList_eq,beq_eq_false_iff_ne];exact hc
 unfold targetR
 rw [if_neg hc]
 have hrz:=restS_size s
 have hcs:(Lib.cut (restS s).data.toList [47]).1.length≤100000:=by have:=Hd.cut_len1 (restS s).data.toList [47];rw [← Lib.size_eq] at this;omega
 have hcs2:(Lib.cut (restS s).data.toList [47]).2.1.length≤100000:=by have:=Hd.cut_len2 (restS s).data.toList [47];rw [← Lib.size_eq] at this;omega
 have HCP: ∀ W,Below w.heap.size w W→Calls Tryz.prog 97 #[.string s,.string ⟨#[104,116,116,112,58,47,47]⟩] W fun e w'=>e= .returned (.tuple #[.string (restS s),.bool (Lib.hasPrefix s.data.toList [104,116,116,112,58,47,47])])∧Below W.heap.size W w':=fun W _=>cutpre_calls s ⟨#[104,116,116,112,58,47,47]⟩ W
 have HC: ∀ W,Below w.heap.size w W→Calls Tryz.prog 91 #[.string (restS s),.string ⟨#[47]⟩] W fun e w'=>e= .returned (.tuple #[.string ⟨(Lib.cut (restS s).data.toList [47]).1.toArray⟩,.string ⟨(Lib.cut (restS s).data.toList [47]).2.1.toArray⟩,.bool (Lib.cut (restS s).data.toList [47]).2.2])∧Below W.heap.size W w':=fun W hb=>
  Cut.calls (restS s) ⟨#[47]⟩ _ _ _ W (StdW.below hS.std hb) (by unfold Cut.f;rw [if_pos (by omega)])
 have HWI: ∀ W,Below w.heap.size w W→Calls Tryz.prog 64 #[.string ((⟨#[47]⟩:ByteArray)++⟨(Lib.cut (restS s).data.toList [47]).2.1.toArray⟩),.int .u8 33,.int .i64 2048] W fun e w'=>e= .returned (.bool (Hd.plain (47::(Lib.cut (restS s).data.toList [47]).2.1) 33 2048))∧Below W.heap.size W w':=fun W _=>by
  rw [slash_eq]
  exact within_any ⟨(47::(Lib.cut (restS s).data.toList [47]).2.1).toArray⟩ (by show (47::(Lib.cut (restS s).data.toList [47]).2.1).toArray.size≤_;rw [List.size_toArray,List.length_cons];omega) 33 2048 W
 generalize restS s=rest at*
 generalize Lib.hasPrefix s.data.toList [104,116,116,112,58,47,47]=ok at*
 generalize Hd.plain (47::(Lib.cut rest.data.toList [47]).2.1) 33 2048=wt at*
 generalize hsl:(Lib.cut rest.data.toList [47]).2.2=slash at*
 have hsz:(⟨(Lib.cut rest.data.toList [47]).2.1.toArray⟩:ByteArray).size≤100000:=by show (Lib.cut rest.data.toList [47]).2.1.toArray.size≤_;rw [List.size_toArray];exact hcs2
 have hpz:(⟨(Lib.cut rest.data.toList [47]).1.toArray⟩:ByteArray).size≤100000:=by show (Lib.cut rest.data.toList [47]).1.toArray.size≤_;rw [List.size_toArray];exact hcs
 rw [← slash_eq]
 clear hsl hcs hcs2 hrz
 generalize (⟨(Lib.cut rest.data.toList [47]).2.1.toArray⟩:ByteArray)=path0 at*
 generalize (⟨(Lib.cut rest.data.toList [47]).1.toArray⟩:ByteArray)=place at*
 cases hbad:(!ok||(slash && !wt))
 ·rw [if_neg Bool.false_ne_true]
  have hok:ok=true:=by cases ok<;>simp_all
  have hwt:slash=true→wt=true:=by intro h;subst h;cases wt<;>simp_all
  have HI: ∀ (o:Option (List (ByteArray×Int)×Int)),(∀ r c,o=some (r,c)→r≠[])→ ∀ W er,Below w.heap.size w W→EOr o W er→Calls Tryz.prog 96 #[.int .i64 (p+7),er] W fun e w'=> ∃ v,e= .returned v∧EOr (insO (p+7) o) w' v∧Below W.heap.size W w':=
   fun o ho W er hb he=>inside_any o ho (p+7) er W (EtW.below hS.et hb) he
  unfold placeR
  have HCO:=fun W (hb:Below w.heap.size w W)=>contains_calls place ⟨#[58]⟩ (by omega) W (StdW.below hS.std hb)
  rw [show (⟨#[58]⟩:ByteArray).data.toList=[58] from rfl] at HCO
  cases hk:Lib.contains place.data.toList [58]
  ·rw [hk] at HCO
   rw [if_neg Bool.false_ne_true]
   have HP:=fun W (hb:Below w.heap.size w W)=>hparse_any place (by omega) W (StdW.below hS.std hb)
   cases hr:hpRes place with
   |inl x=>
    obtain ⟨a,k⟩:=x
    rw [hr] at HP
    refine (tgt_host m s hm' p rest place path0 ok slash wt hsz w HCP HC HWI 0 0 0 0 ⟨#[]⟩ (some ([(hostS,a)],k)) _ hp0 hp1 hok hwt HCO (fun W hb=>(HP W hb).mono fun e w' ⟨h1,v,h2,h3⟩=>⟨v,h2,h3,h1⟩) (HI _ (fun r c e=>by cases e;exact List.cons_ne_nil _ _))).mono ?_
    rintro e w' ⟨v,rfl,he,hb⟩
    exact ⟨hb,_,_,_,_,_,_,_,v,rfl,he⟩
   |inr x=>
    obtain ⟨l,n⟩:=x
    rw [hr] at HP
    refine (tgt_host m s hm' p rest place path0 ok slash wt hsz w HCP HC HWI (l.getD 0 0) (l.getD 1 0) (l.getD 2 0) (l.getD 3 0) n none _ hp0 hp1 hok hwt HCO (fun W hb=>(HP W hb).mono fun e w' ⟨h1,h2⟩=>⟨_,h2,rfl,h1⟩) (HI none (fun r c e=>by cases e))).mono ?_
    rintro e w' ⟨v,rfl,he,hb⟩
    obtain rfl:v= .nilIface:=he
    exact ⟨hb,rfl⟩
  ·rw [hk] at HCO
   rw [if_pos rfl]
   cases hr:pdX place with
   |inl x=>
    obtain ⟨a,ch,k⟩:=x
    refine (tgt_dest m s hm' p rest place path0 ok slash wt hsz w HCP HC HWI 0 0 0 0 ⟨#[]⟩ 0 (some ((hostS,a)::ch,k)) _ hp0 hp1 hok hwt HCO (fun W hb=>(pdX_calls place (by omega) _ hr W (StdE.below hS hb)).mono fun e w' ⟨h1,v,h2,h3⟩=>⟨v,h2,h3,h1⟩) (HI _ (fun r c e=>by cases e;exact List.cons_ne_nil _ _))).mono ?_
    rintro e w' ⟨v,rfl,he,hb⟩
    exact ⟨hb,_,_,_,_,_,_,_,v,rfl,he⟩
   |inr x=>
    obtain ⟨a,b,c,d,n,po⟩:=x
    refine (tgt_dest m s hm' p rest place path0 ok slash wt hsz w HCP HC HWI a b c d n po none _ hp0 hp1 hok hwt HCO (fun W hb=>(pdX_calls place (by omega) _ hr W (StdE.below hS hb)).mono fun e w' ⟨h1,h2⟩=>⟨_,h2,rfl,h1⟩) (HI none (fun r c e=>by cases e))).mono ?_
    rintro e w' ⟨v,rfl,he,hb⟩
    obtain rfl:v= .nilIface:=he
    exact ⟨hb,rfl⟩
 ·rw [if_pos rfl]
  refine (tgt_bad m s hm' p rest place path0 ok slash wt hsz w HCP HC HWI hbad).mono ?_
  rintro e w' ⟨v,rfl,he,hb⟩
  exact ⟨hb,_,_,_,_,_,_,_,v,rfl,he⟩
theorem target_any (m s:ByteArray) (p:Int) (hm:m.size≤100000) (hs:s.size≤100000) (hp0:0≤p) (hp1:p≤100000) (w:World) (hS:StdE w):
  Calls Tryz.prog 54 #[.string m,.string s,.int .i64 p] w (TgtPost (targetR m s p) w):=by
 by_cases hc:m.data.toList=[67,79,78,78,69,67,84]
 ·have hm':(m.toList==[67,79,78,78,69,67,84])=true:=by rw [ByteArray.toList_eq,hc];rfl
  have HI: ∀ (o:Option (List (ByteArray×Int)×Int)),(∀ r c,o=some (r,c)→r≠[])→ ∀ W er,Below w.heap.size w W→EOr o W er→Calls Tryz.prog 96 #[.int .i64 p,er] W fun e w'=> ∃ v,e= .returned v∧EOr (insO p o) w' v∧Below W.heap.size W w':=
   fun o ho W er hb he=>inside_any o ho p er W (EtW.below hS.et hb) he
  unfold targetR
  rw [if_pos hc]
  cases hr:pdX s with
  |inl x=>
   obtain ⟨a,ch,k⟩:=x
   refine (tgt_conn m s hm' p 0 0 0 0 ⟨#[]⟩ 0 (some ((hostS,a)::ch,k)) _ w hS.et (fun W hb=>(pdX_calls s (by omega) _ hr W (StdE.below hS hb)).mono fun e w' ⟨h1,v,h2,h3⟩=>⟨v,h2,h3,h1⟩) (HI _ (fun r c e=>by cases e;exact List.cons_ne_nil _ _))).mono ?_
   rintro e w' ⟨v,rfl,he,hb⟩
   exact ⟨hb,_,_,_,_,_,_,_,v,rfl,he⟩
  |inr x=>
   obtain ⟨a,b,c,d,n,po⟩:=x
   refine (tgt_conn m s hm' p a b c d n po none _ w hS.et (fun W hb=>(pdX_calls s (by omega) _ hr W (StdE.below hS hb)).mono fun e w' ⟨h1,h2⟩=>⟨_,h2,rfl,h1⟩) (HI none (fun r c e=>by cases e))).mono ?_
   rintro e w' ⟨v,rfl,he,hb⟩
   obtain rfl:v= .nilIface:=he
   exact ⟨hb,rfl⟩
 ·exact tgt_no m s p hm hs hp0 hp1 w hS hc
def wordsB (s:ByteArray):List ByteArray:=Lib.splitB ⟨#[32]⟩ 0 (Lib.countB s ⟨#[32]⟩) s
theorem split_blank (s:ByteArray) (hs:s.size<4294967281) (w:World) (hS:StdW w):
  Calls Tryz.prog 50 #[.string s,.string ⟨#[32]⟩] w fun e w'=>e= .returned (.slice (some ⟨w.heap.size,0,none⟩) (wordsB s).length (wordsB s).length)∧Blk w' w.heap.size ((wordsB s).map Value.string).toArray 9∧Below w.heap.size w w':=by
 obtain ⟨m,hm⟩:=hS.max
 refine (Tryz.strings_Split s ⟨#[32]⟩ m w hs hm (Nat.le_refl _)).mono ?_
 rintro e w' ⟨rfl,rfl⟩
 have hl:=Lib.splitB_all ⟨#[32]⟩ (Nat.le_refl _) 0 _ s rfl
 exact ⟨by unfold wordsB;rw [hl],Blk.new _ _ _,below_alloc (Below.refl _ _) _⟩
def verB (s:ByteArray):Bool:=s.toList==[72,84,84,80,47,49,46,49]||s.toList==[72,84,84,80,47,49,46,48]
theorem version_any (s:ByteArray) (w:World):Calls Tryz.prog 52 #[.string s] w fun e w'=>e= .returned (.bool (verB s))∧Below w.heap.size w w':=by
 unfold verB
 cases h1:s.toList==[72,84,84,80,47,49,46,49]<;>cases h2:s.toList==[72,84,84,80,47,49,46,48]
 all_goals
  go_enter Tryz.func52,Tryz.ntmps52
  go_wp2
  go_ret
  exact ⟨rfl,Below.refl _ _⟩
end Go.Proofs.YtgmpdjjoefkndaaGreatDoor.E

namespace Go.Proofs.YtgmpdjjoefkndaaGreatDoor.E
open Go.RowKit Go.Proofs.YtgmpdjjoefkndaaGreatDoorW.PrintWords Go.Proofs.YtgmpdjjoefkndaaGreatDoorW.PrintLast Go.Proofs.YtgmpdjjoefkndaaGreatDoor.XK Go.Proofs.YtgmpdjjoefkndaaGreatDoor.XA Go.Proofs.YtgmpdjjoefkndaaGreatDoor.XD
set_option linter.unusedVariables false
set_option linter.unusedSimpArgs false
def rqC (m:ByteArray) (a b c d:Int) (n:ByteArray) (po:Int) (pa:ByteArray) (fs:Value):Array Value:= #[.string m,.int .u8 a,.int .u8 b,.int .u8 c,.int .u8 d,.string n,.int .i64 po,.string pa,fs]
def rqZ:Array Value:=rqC ⟨#[]⟩ 0 0 0 0 ⟨#[]⟩ 0 ⟨#[]⟩ (.slice none 0 0)
theorem Blk.rq {w:World} {R:Nat} {m:ByteArray} {a b c d:Int} {n:ByteArray} {po:Int} {pa:ByteArray} {fs:Value} {T:TypeId} (h:Blk w R (rqC m a b c d n po pa fs) T):
  w.cell? ⟨R,0,none⟩=some (.string m)∧w.cell? ⟨R,1,none⟩=some (.int .u8 a)∧w.cell? ⟨R,2,none⟩=some (.int .u8 b)∧w.cell? ⟨R,3,none⟩=some (.int .u8 c)∧w.cell? ⟨R,4,none⟩=some (.int .u8 d)∧w.cell? ⟨R,5,none⟩=some (.string n)∧w.cell? ⟨R,6,none⟩=some (.int .i64 po)∧w.cell? ⟨R,7,none⟩=some (.string pa)∧w.cell? ⟨R,8,none⟩=some (fs)∧w.frozen? ⟨R,0,none⟩=false∧w.frozen? ⟨R,1,none⟩=false∧w.frozen? ⟨R,2,none⟩=false∧w.frozen? ⟨R,3,none⟩=false∧w.frozen? ⟨R,4,none⟩=false∧w.frozen? ⟨R,5,none⟩=false∧w.frozen? ⟨R,6,none⟩=false∧w.frozen? ⟨R,7,none⟩=false∧w.frozen? ⟨R,8,none⟩=false:=
 ⟨h.cell 0 _ rfl,h.cell 1 _ rfl,h.cell 2 _ rfl,h.cell 3 _ rfl,h.cell 4 _ rfl,h.cell 5 _ rfl,h.cell 6 _ rfl,h.cell 7 _ rfl,h.cell 8 _ rfl,h.free 0,h.free 1,h.free 2,h.free 3,h.free 4,h.free 5,h.free 6,h.free 7,h.free 8⟩
theorem Blk.rqz {w:World} {R:Nat} {T:TypeId} (h:Blk w R rqZ T):
  w.cell? ⟨R,0,none⟩=some (.string ⟨#[]⟩)∧w.cell? ⟨R,1,none⟩=some (.int .u8 0)∧w.cell? ⟨R,2,none⟩=some (.int .u8 0)∧w.cell? ⟨R,3,none⟩=some (.int .u8 0)∧w.cell? ⟨R,4,none⟩=some (.int .u8 0)∧w.cell? ⟨R,5,none⟩=some (.string ⟨#[]⟩)∧w.cell? ⟨R,6,none⟩=some (.int .i64 0)∧w.cell? ⟨R,7,none⟩=some (.string ⟨#[]⟩)∧w.cell? ⟨R,8,none⟩=some (.slice none 0 0)∧w.frozen? ⟨R,0,none⟩=false∧w.frozen? ⟨R,1,none⟩=false∧w.frozen? ⟨R,2,none⟩=false∧w.frozen? ⟨R,3,none⟩=false∧w.frozen? ⟨R,4,none⟩=false∧w.frozen? ⟨R,5,none⟩=false∧w.frozen? ⟨R,6,none⟩=false∧w.frozen? ⟨R,7,none⟩=false∧w.frozen? ⟨R,8,none⟩=false∧w.setCell ⟨R,0,none⟩ (.string ⟨#[]⟩)=w∧w.setCell ⟨R,1,none⟩ (.int .u8 0)=w∧w.setCell ⟨R,2,none⟩ (.int .u8 0)=w∧w.setCell ⟨R,3,none⟩ (.int .u8 0)=w∧w.setCell ⟨R,4,none⟩ (.int .u8 0)=w∧w.setCell ⟨R,5,none⟩ (.string ⟨#[]⟩)=w∧w.setCell ⟨R,6,none⟩ (.int .i64 0)=w∧w.setCell ⟨R,7,none⟩ (.string ⟨#[]⟩)=w∧w.setCell ⟨R,8,none⟩ (.slice none 0 0)=w:=
 ⟨h.cell 0 _ rfl,h.cell 1 _ rfl,h.cell 2 _ rfl,h.cell 3 _ rfl,h.cell 4 _ rfl,h.cell 5 _ rfl,h.cell 6 _ rfl,h.cell 7 _ rfl,h.cell 8 _ rfl,h.free 0,h.free 1,h.free 2,h.free 3,h.free 4,h.free 5,h.free 6,h.free 7,h.free 8,setCell_id _ _ _ _ (h.cell 0 _ rfl),setCell_id _ _ _ _ (h.cell 1 _ rfl),setCell_id _ _ _ _ (h.cell 2 _ rfl),setCell_id _ _ _ _ (h.cell 3 _ rfl),setCell_id _ _ _ _ (h.cell 4 _ rfl),setCell_id _ _ _ _ (h.cell 5 _ rfl),setCell_id _ _ _ _ (h.cell 6 _ rfl),setCell_id _ _ _ _ (h.cell 7 _ rfl),setCell_id _ _ _ _ (h.cell 8 _ rfl)⟩
theorem Blk.words3 {w:World} {R:Nat} {p0 p1 p2:ByteArray} {T:TypeId} (h:Blk w R (([p0,p1,p2]:List ByteArray).map Value.string).toArray T):
 w.cell? ⟨R,0,none⟩=some (.string p0)∧w.cell? ⟨R,1,none⟩=some (.string p1)∧w.cell? ⟨R,2,none⟩=some (.string p2):=⟨h.cell 0 _ rfl,h.cell 1 _ rfl,h.cell 2 _ rfl⟩
abbrev FaultT:Type:=Int×List (ByteArray×Int)×Int
abbrev RqT:Type:=ByteArray×DestT×ByteArray×List Fd.F×Nat
def RqPost (r:FaultT ⊕ RqT) (w:World) (e:Ending) (w':World):Prop:=
 Below w.heap.size w w'∧match r with
  | .inl (a,ch,k)=> ∃ v,e= .returned (.tuple #[.agg rqZ,.int .i64 0,v])∧ErrIs w' v ((headS,a)::ch) k
  | .inr (m,(x,y,z,u,nm,po),pa,fs,k)=> ∃ v,e= .returned (.tuple #[.agg (rqC m x y z u nm po pa v),.int .i64 (k:Int),.nilIface])∧RF w w w' v (fs.map ofF)
theorem rq_res (A:Array Value) (W:World) (R:Nat) (m:ByteArray) (a b c d:Int) (n:ByteArray) (po:Int) (pa:ByteArray) (fs x3 x4:Value) (T:TypeId) (h2:A.getD 2 undef= .pointer (some ⟨R,0,none⟩)) (h3:A.getD 3 undef=x3) (h4:A.getD 4 undef=x4) (hB:Blk W R (rqC m a b c d n po pa fs) T):
  (results Tryz.f13 A).run Tryz.prog W= .ok (.tuple #[.agg #[.string m,.int .u8 a,.int .u8 b,.int .u8 c,.int .u8 d,.string n,.int .i64 po,.string pa,fs],x3,x4]) W:=by
 obtain ⟨e0,e1,e2,e3,e4,e5,e6,e7,e8,-⟩:=hB.rq
 rw [Array.getD_eq_getD_getElem?] at h2 h3 h4
 simp [results,Tryz.results13,go_sem,h2,h3,h4,e0,e1,e2,e3,e4,e5,e6,e7,e8]
theorem Blk.drew {w:World} {R:Nat} {C:Array Value} {T:TypeId} (h:Blk w R C T):Blk w.drew R C T:=h
def setRq (w:World) (R:Nat) (m:ByteArray) (a b c d:Int) (n:ByteArray) (po:Int) (pa:ByteArray) (fs:Value):World:=
 (((((((((w.setCell ⟨R,0,none⟩ (.string m)).setCell ⟨R,1,none⟩ (.int .u8 a)).setCell ⟨R,2,none⟩ (.int .u8 b)).setCell ⟨R,3,none⟩ (.int .u8 c)).setCell ⟨R,4,none⟩ (.int .u8 d)).setCell ⟨R,5,none⟩ (.string n)).setCell ⟨R,6,none⟩ (.int .i64 po)).setCell ⟨R,7,none⟩ (.string pa)).setCell ⟨R,8,none⟩ fs)
theorem setRq_blk {w:World} {R:Nat} (m:ByteArray) (a b c d:Int) (n:ByteArray) (po:Int) (pa:ByteArray) (fs:Value) {T:TypeId} (h:Blk w R rqZ T):Blk (setRq w R m a b c d n po pa fs).drew R (rqC m a b c d n po pa fs) T:=by
 have h0:Blk _ R (rqC m 0 0 0 0 ⟨#[]⟩ 0 ⟨#[]⟩ (.slice none 0 0)) T:=h.set 0 (.string m)
 have h1:Blk _ R (rqC m a 0 0 0 ⟨#[]⟩ 0 ⟨#[]⟩ (.slice none 0 0)) T:=h0.set 1 (.int .u8 a)
 have h2:Blk _ R (rqC m a b 0 0 ⟨#[]⟩ 0 ⟨#[]⟩ (.slice none 0 0)) T:=h1.set 2 (.int .u8 b)
 have h3:Blk _ R (rqC m a b c 0 ⟨#[]⟩ 0 ⟨#[]⟩ (.slice none 0 0)) T:=h2.set 3 (.int .u8 c)
 have h4:Blk _ R (rqC m a b c d ⟨#[]⟩ 0 ⟨#[]⟩ (.slice none 0 0)) T:=h3.set 4 (.int .u8 d)
 have h5:Blk _ R (rqC m a b c d n 0 ⟨#[]⟩ (.slice none 0 0)) T:=h4.set 5 (.string n)
 have h6:Blk _ R (rqC m a b c d n po ⟨#[]⟩ (.slice none 0 0)) T:=h5.set 6 (.int .i64 po)
 have h7:Blk _ R (rqC m a b c d n po pa (.slice none 0 0)) T:=h6.set 7 (.string pa)
 have h8:Blk _ R (rqC m a b c d n po pa fs) T:=h7.set 8 fs
 unfold setRq
 exact Blk.drew h8
theorem setRq_below {B R:Nat} {w W:World} (hb:Below B w W) (hR:B≤R) (m:ByteArray) (a b c d:Int) (n:ByteArray) (po:Int) (pa:ByteArray) (fs:Value):Below B w (setRq W R m a b c d n po pa fs).drew:=by
 refine below_drew1 ?_
 unfold setRq
 iterate 9 refine Below.setCell ?_ hR _
 exact hb
theorem setRq_rows {R:Nat} {wb w0 w:World} {v:Value} {l:List S71} (h:RF wb w0 w v l) (hb:wb.heap.size≤R) (hR:R<w0.heap.size) (m:ByteArray) (a b c d:Int) (n:ByteArray) (po:Int) (pa:ByteArray) (fs:Value):RF wb wb (setRq w R m a b c d n po pa fs).drew v l:=by
 have hf: ∀ k,w0.heap.size≤k→k≠R:=fun k hk e=>by omega
 have h9:RF wb w0 (setRq w R m a b c d n po pa fs) v l:=by
  unfold setRq
  iterate 9 refine Kd.R_far ?_ hf _
  exact h
 exact Kd.R_mono (Kd.R_below h9 (below_drew1 (Below.refl _ _))) (fun k hk=>by omega)
abbrev TRd:TypeId:=146
abbrev OpE (A:Option Addr) (n c:Nat) (a k:Int) (w:World):Prop:= ∀ W,Below w.heap.size w W→Calls Tryz.prog 48 #[.slice A n c] W fun e w'=> ∃ v,e= .returned (.tuple #[.pointer none,.int .i64 0,v])∧ErrIs w' v [(headS,a)] k∧Below W.heap.size W w'
abbrev OpC (A:Option Addr) (n c:Nat) (S:ByteArray) (m:Int) (w:World):Prop:= ∀ W,Below w.heap.size w W→Calls Tryz.prog 48 #[.slice A n c] W fun e w'=> ∃ R,W.heap.size≤R∧e= .returned (.tuple #[.pointer (some ⟨R,0,none⟩),.int .i64 m,.nilIface])∧Blk w' R (rdC S 0) TRd∧Below W.heap.size W w'
abbrev LnC (S l S2:ByteArray) (p2:Nat) (w:World):Prop:= ∀ W R,Below w.heap.size w W→w.heap.size≤R→Blk W R (rdC S 0) TRd→Calls Tryz.prog 49 #[.pointer (some ⟨R,0,none⟩)] W fun e w'=>e= .returned (.tuple #[.string l,.int .i64 0])∧Blk w' R (rdC S2 (p2:Int)) TRd∧KeptR R W w'∧Below w.heap.size w w'
abbrev SpC (l:ByteArray) (ps:List ByteArray) (w:World):Prop:= ∀ W,Below w.heap.size w W→Calls Tryz.prog 50 #[.string l,.string ⟨#[32]⟩] W fun e w'=> ∃ PB,W.heap.size≤PB∧e= .returned (.slice (some ⟨PB,0,none⟩) ps.length ps.length)∧Blk w' PB (ps.map Value.string).toArray 9∧Below W.heap.size W w'
abbrev BkC (l:ByteArray) (bk:Bool):Prop:= ∀ W,Calls Tryz.prog 51 #[.string l] W fun e w'=>e= .returned (.bool bk)∧Below W.heap.size W w'
abbrev VeC (p:ByteArray) (ver:Bool):Prop:= ∀ W,Calls Tryz.prog 52 #[.string p] W fun e w'=>e= .returned (.bool ver)∧Below W.heap.size W w'
abbrev TkC (p:ByteArray) (tk:Bool) (w:World):Prop:= ∀ W,Below w.heap.size w W→Calls Tryz.prog 53 #[.string p] W fun e w'=>e= .returned (.bool tk)∧Below W.heap.size W w'
abbrev TgE (p0 p1:ByteArray) (p a:Int) (ch:List (ByteArray×Int)) (k:Int) (w:World):Prop:= ∀ W,Below w.heap.size w W→Calls Tryz.prog 54 #[.string p0,.string p1,.int .i64 p] W fun e w'=> ∃ x y z u nm po q v,e= .returned (.tuple #[.agg #[.int .u8 x,.int .u8 y,.int .u8 z,.int .u8 u,.string nm,.int .i64 po],.string q,v])∧ErrIs w' v ((headS,a)::ch) k∧Below W.heap.size W w'
abbrev TgC (p0 p1:ByteArray) (p:Int) (x y z u:Int) (nm:ByteArray) (po:Int) (q:ByteArray) (w:World):Prop:= ∀ W,Below w.heap.size w W→Calls Tryz.prog 54 #[.string p0,.string p1,.int .i64 p] W fun e w'=>e= .returned (.tuple #[.agg #[.int .u8 x,.int .u8 y,.int .u8 z,.int .u8 u,.string nm,.int .i64 po],.string q,.nilIface])∧Below W.heap.size W w'
abbrev FlE (S2:ByteArray) (p2:Nat) (a k:Int) (w:World):Prop:= ∀ W R,Below w.heap.size w W→w.heap.size≤R→Blk W R (rdC S2 (p2:Int)) TRd→Calls Tryz.prog 55 #[.pointer (some ⟨R,0,none⟩)] W fun e w'=> ∃ v,e= .returned (.tuple #[.slice none 0 0,v])∧ErrIs w' v [(headS,a)] k∧KeptR R W w'∧Below w.heap.size w w'
abbrev FlC (S2:ByteArray) (p2:Nat) (fs:List Fd.F) (w:World):Prop:= ∀ W R,Below w.heap.size w W→w.heap.size≤R→Blk W R (rdC S2 (p2:Int)) TRd→Calls Tryz.prog 55 #[.pointer (some ⟨R,0,none⟩)] W fun e w'=> ∃ v,e= .returned (.tuple #[v,.nilIface])∧RF w W w' v (fs.map ofF)∧KeptR R W w'∧Below w.heap.size w w'
end Go.Proofs.YtgmpdjjoefkndaaGreatDoor.E
