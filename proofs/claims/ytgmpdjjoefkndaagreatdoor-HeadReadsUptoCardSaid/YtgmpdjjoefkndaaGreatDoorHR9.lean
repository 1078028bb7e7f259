/- What the cards of this seat rest on: the walks and plain laws, part 9. -/
import Derived.Test.YtgmpdjjoefkndaaGreatDoorHR8
import Derived.Test.YtgmpdjjoefkndaaGreatDoorHR2
import Derived.Lib.IndexAny

namespace Go.Proofs.YtgmpdjjoefkndaaGreatDoor.E
open Go.RowKit Go.Proofs.YtgmpdjjoefkndaaGreatDoorW.PrintWords Go.Proofs.YtgmpdjjoefkndaaGreatDoorW.PrintLast Go.Proofs.YtgmpdjjoefkndaaGreatDoor.XR Go.Proofs.YtgmpdjjoefkndaaGreatDoor.XV
set_option linter.unusedVariables false
set_option linter.unusedSimpArgs false
theorem rd6_res (A:Array Value) (W:World) (P R:Nat) (x0 x1 x2 x3:Int) (nm:ByteArray) (po n:Int) (l0 l1 l2:ByteArray) (a0 a1 a2 c:Int) (T1 T2:TypeId) (h2:A.getD 2 undef= .pointer (some ⟨P,0,none⟩)) (h3:A.getD 3 undef= .pointer (some ⟨R,0,none⟩)) (hA:Blk W P (dC x0 x1 x2 x3 nm po) T1) (hB:Blk W R (bad3 n l0 l1 l2 a0 a1 a2 c) T2):
  (results Tryz.f103 A).run Tryz.prog W= .ok (.tuple #[.agg (dC x0 x1 x2 x3 nm po),.agg (bad3 n l0 l1 l2 a0 a1 a2 c)]) W:=by
 obtain ⟨e0,e1,e2,e3,e4,e5,-⟩:=hA.dix
 obtain ⟨b0,b1,b2,b3,b4,b5,b6,b7,b8,b9,-⟩:=hB.ten
 rw [Array.getD_eq_getD_getElem?] at h2 h3
 simp [results,Tryz.results103,go_sem,h2,h3,e0,e1,e2,e3,e4,e5,b0,b1,b2,b3,b4,b5,b6,b7,b8,b9,dC,bad3]
def RDPost (r:(Int×List (ByteArray×Int)×Int) ⊕ DestT) (w:World) (e:Ending) (w':World):Prop:=
 Below w.heap.size w w'∧match r with
  | .inl (a,ch,c)=>e= .returned (.tuple #[.agg zD6,.agg (badP ((hostS,a)::ch) c)])
  | .inr (x,y,z,u,n,po)=>e= .returned (.tuple #[.agg (dC x y z u n po),.agg zX])
theorem Blk.tenid {w:World} {R:Nat} {T:TypeId} (h:Blk w R zX T):w.setCell ⟨R,0,none⟩ (.int .i64 0)=w∧w.setCell ⟨R,1,none⟩ (.string ⟨#[]⟩)=w∧w.setCell ⟨R,2,none⟩ (.string ⟨#[]⟩)=w∧w.setCell ⟨R,3,none⟩ (.string ⟨#[]⟩)=w∧w.setCell ⟨R,4,none⟩ (.string ⟨#[]⟩)=w∧w.setCell ⟨R,5,none⟩ (.int .i64 0)=w∧w.setCell ⟨R,6,none⟩ (.int .i64 0)=w∧w.setCell ⟨R,7,none⟩ (.int .i64 0)=w∧w.setCell ⟨R,8,none⟩ (.int .i64 0)=w∧w.setCell ⟨R,9,none⟩ (.int .i64 0)=w:=
 ⟨setCell_id _ _ _ _ (h.cell 0 _ rfl),setCell_id _ _ _ _ (h.cell 1 _ rfl),setCell_id _ _ _ _ (h.cell 2 _ rfl),setCell_id _ _ _ _ (h.cell 3 _ rfl),setCell_id _ _ _ _ (h.cell 4 _ rfl),setCell_id _ _ _ _ (h.cell 5 _ rfl),setCell_id _ _ _ _ (h.cell 6 _ rfl),setCell_id _ _ _ _ (h.cell 7 _ rfl),setCell_id _ _ _ _ (h.cell 8 _ rfl),setCell_id _ _ _ _ (h.cell 9 _ rfl)⟩
set_option maxRecDepth 100000 in
set_option maxHeartbeats 8000000 in
theorem rpd_long (s:ByteArray) (hs:259<s.size) (w:World) (hS:StdW w):
  Calls Tryz.prog 103 #[.string s] w fun e w'=>e= .returned (.tuple #[.agg zD6,badV 259 3])∧Below w.heap.size w w':=by
 have HF:=Lib.hid (fun W h=>refFault 259 3 W h)
 have HS:=Lib.hid hS
 have hs1:(259:Int)<(s.size:Int):=by omega
 clear hS
 go_enter Tryz.func103,Tryz.ntmps103
 go_wp2_with (go_at_call 149;refine (HF.out _ (StdW.below HS.out (below_alloc (below_alloc (Below.refl _ _) _) _))).mono ?_;rintro e w1 ⟨rfl,hb⟩;obtain ⟨hA,hB,hw⟩:=own2g w w1 zD6 zX _ _ hb;clear hb;obtain ⟨a0,a1,a2,a3,a4,a5,f0,f1,f2,f3,f4,f5,s0,s1,s2,s3,s4,s5⟩:=hA.dids;obtain ⟨b0,b1,b2,b3,b4,b5,b6,b7,b8,b9,g0,g1,g2,g3,g4,g5,g6,g7,g8,g9⟩:=hB.ten)
 exact bodyPost_ret (v:= .tuple #[.agg zD6,badV 259 3]) (rd6_res _ _ w.heap.size (w.heap.size+1) 0 0 0 0 ⟨#[]⟩ 0 1 hostS ⟨#[]⟩ ⟨#[]⟩ 259 0 0 3 _ _ rfl rfl (Blk.othB 1 hostS ⟨#[]⟩ ⟨#[]⟩ 259 0 0 3 (Nat.ne_of_lt (Nat.lt_succ_self _)) hA) (Blk.setB 1 hostS ⟨#[]⟩ ⟨#[]⟩ 259 0 0 3 hB)) rfl ⟨rfl,setB_below hw (Nat.le_succ _) 1 hostS ⟨#[]⟩ ⟨#[]⟩ 259 0 0 3⟩
set_option maxRecDepth 100000 in
set_option maxHeartbeats 8000000 in
theorem rpd_none (s:ByteArray) (hs:s.size≤259) (el:Lib.lastIndexByte s 58= -1) (w:World) (hS:StdW w):
  Calls Tryz.prog 103 #[.string s] w fun e w'=>e= .returned (.tuple #[.agg zD6,badV s.size 62])∧Below w.heap.size w w':=by
 have HS:=Lib.hid hS
 have hs1:(s.size:Int)≤259:=by omega
 have HL:Hid (Lib.lastIdx s 58 s.size= -1):=Lib.hid el
 have HF:=Lib.hid (fun W h=>refFault (s.size:Int) 62 W h)
 clear el
 clear hS
 go_enter Tryz.func103,Tryz.ntmps103
 go_wp2
 go_loopw [4,5] (fun co i wr=> ∃ k:Nat,k≤s.size∧i= .int .i64 k∧co= .int .i64 (Lib.lastIdx s 58 k)∧Hid (Blk wr w.heap.size zD6 41)∧Hid (Blk wr (w.heap.size+1) zX 32)∧Hid (Below w.heap.size w wr)) (fun _ i _=>s.size - (intOf i).toNat)
 case atStart=>exact ⟨0,Nat.zero_le _,rfl,rfl,Lib.hid ((Blk.new w zD6 _).old _),Lib.hid (by have:=Blk.new (w.alloc (.cells zD6 41)) zX 32;rwa [World.size_alloc] at this),Lib.hid (below_alloc (below_alloc (Below.refl _ _) _) _)⟩
 case round=>
  obtain ⟨k,hk,rfl,rfl,HA,HB,HW⟩:=hrel
  by_cases hlt:k<s.size
  ·have hk0:(0:Int)≤(k:Int):=Int.natCast_nonneg _
   have hk1:(k:Int)<(s.size:Int):=by omega
   have hsk:s.data[k]! =s[k]:=getElem!_pos s.data k hlt
   by_cases h58:s[k].toNat=58
   ·have e58:((s[k].toNat:Int)==58)=true:=by rw [beq_iff_eq];omega
    have HN:=Lib.hid (Lib.lastIdx_hit s 58 k (by rw [hsk];omega))
    clear hsk
    generalize Lib.lastIdx s 58 k=old
    go_wp2
    go_roundw
    case rel=>exact ⟨k+1,by omega,by go_num,by rw [HN.out],HA,HB,HW⟩
    case measure=>simp [intOf];omega
   ·have e58:((s[k].toNat:Int)==58)=false:=by rw [beq_eq_false_iff_ne];omega
    have HN:=Lib.hid (Lib.lastIdx_miss s 58 k (by rw [hsk];omega))
    clear hsk
    go_wp2
    go_roundw
    case rel=>exact ⟨k+1,by omega,by go_num,by rw [HN.out],HA,HB,HW⟩
    case measure=>simp [intOf];omega
  ·have hke:k=s.size:=by omega
   subst hke
   have hk1: ¬ (s.size:Int)<(s.size:Int):=by omega
   rw [HL.out]
   have hne1:w.heap.size≠w.heap.size+1:=by omega
   go_wp2_with (go_at_call 149;refine (HF.out _ (StdW.below HS.out HW.out)).mono ?_;rintro e w1 ⟨rfl,hb⟩;have hA:=HA.out.below hb;have hB:=HB.out.below hb;have hw:=below_then HW.out HW.out.size hb;clear hb;obtain ⟨a0,a1,a2,a3,a4,a5,f0,f1,f2,f3,f4,f5,s0,s1,s2,s3,s4,s5⟩:=hA.dids;obtain ⟨b0,b1,b2,b3,b4,b5,b6,b7,b8,b9,g0,g1,g2,g3,g4,g5,g6,g7,g8,g9⟩:=hB.ten)
   refine bodyPost_ret (v:= .tuple #[.agg zD6,badV s.size 62]) (rd6_res _ _ w.heap.size (w.heap.size+1) 0 0 0 0 ⟨#[]⟩ 0 1 hostS ⟨#[]⟩ ⟨#[]⟩ s.size 0 0 62 _ _ rfl rfl (Blk.othB 1 hostS ⟨#[]⟩ ⟨#[]⟩ s.size 0 0 62 hne1 hA) (Blk.setB 1 hostS ⟨#[]⟩ ⟨#[]⟩ s.size 0 0 62 hB)) rfl ⟨rfl,setB_below hw (Nat.le_succ _) 1 hostS ⟨#[]⟩ ⟨#[]⟩ s.size 0 0 62⟩
set_option maxRecDepth 100000 in
set_option maxHeartbeats 8000000 in
theorem rpd_host (s:ByteArray) (hs:s.size≤259) (i:Nat) (hi:i<s.size) (el:Lib.lastIndexByte s 58=(i:Int)) (a c:Int) (HP0: ∀ W,StdW W→Calls Tryz.prog 104 #[.string (s.extract 0 i)] W fun e w'=>e= .returned (.tuple #[.agg #[.int .u8 0,.int .u8 0,.int .u8 0,.int .u8 0,.string ⟨#[]⟩],.agg #[.int .i64 1,.string hostS,.string ⟨#[]⟩,.string ⟨#[]⟩,.string ⟨#[]⟩,.int .i64 a,.int .i64 0,.int .i64 0,.int .i64 0,.int .i64 c]])∧Below W.heap.size W w') (w:World) (hS:StdW w):
  Calls Tryz.prog 103 #[.string s] w fun e w'=>e= .returned (.tuple #[.agg zD6,badV a c])∧Below w.heap.size w w':=by
 have HS:=Lib.hid hS
 have hs1:(s.size:Int)≤259:=by omega
 have HL:Hid (Lib.lastIdx s 58 s.size=(i:Int)):=Lib.hid el
 have hi0:(0:Int)≤(i:Int):=by omega
 have hi1:(i:Int)≤(s.size:Int):=by omega
 have hineg: ¬ (i:Int)<0:=by omega
 have HP:=Lib.hid HP0
 clear el HP0
 clear hS
 go_enter Tryz.func103,Tryz.ntmps103
 go_wp2
 go_loopw [4,5] (fun co i wr=> ∃ k:Nat,k≤s.size∧i= .int .i64 k∧co= .int .i64 (Lib.lastIdx s 58 k)∧Hid (Blk wr w.heap.size zD6 41)∧Hid (Blk wr (w.heap.size+1) zX 32)∧Hid (Below w.heap.size w wr)) (fun _ i _=>s.size - (intOf i).toNat)
 case atStart=>exact ⟨0,Nat.zero_le _,rfl,rfl,Lib.hid ((Blk.new w zD6 _).old _),Lib.hid (by have:=Blk.new (w.alloc (.cells zD6 41)) zX 32;rwa [World.size_alloc] at this),Lib.hid (below_alloc (below_alloc (Below.refl _ _) _) _)⟩
 case round=>
  obtain ⟨k,hk,rfl,rfl,HA,HB,HW⟩:=hrel
  by_cases hlt:k<s.size
  ·have hk0:(0:Int)≤(k:Int):=Int.natCast_nonneg _
   have hk1:(k:Int)<(s.size:Int):=by omega
   have hsk:s.data[k]! =s[k]:=getElem!_pos s.data k hlt
   by_cases h58:s[k].toNat=58
   ·have e58:((s[k].toNat:Int)==58)=true:=by rw [beq_iff_eq];omega
    have HN:=Lib.hid (Lib.lastIdx_hit s 58 k (by rw [hsk];omega))
    clear hsk
    generalize Lib.lastIdx s 58 k=old
    go_wp2
    go_roundw
    case rel=>exact ⟨k+1,by omega,by go_num,by rw [HN.out],HA,HB,HW⟩
    case measure=>simp [intOf];omega
   ·have e58:((s[k].toNat:Int)==58)=false:=by rw [beq_eq_false_iff_ne];omega
    have HN:=Lib.hid (Lib.lastIdx_miss s 58 k (by rw [hsk];omega))
    clear hsk
    go_wp2
    go_roundw
    case rel=>exact ⟨k+1,by omega,by go_num,by rw [HN.out],HA,HB,HW⟩
    case measure=>simp [intOf];omega
  ·have hke:k=s.size:=by omega
   subst hke
   have hk1: ¬ (s.size:Int)<(s.size:Int):=by omega
   rw [HL.out]
   have hne1:w.heap.size≠w.heap.size+1:=by omega
   go_wp2_with (go_at_call 104;refine (HP.out _ (StdW.below HS.out HW.out)).mono ?_;rintro e w1 ⟨rfl,hb⟩;have hA:=HA.out.below hb;have hB:=HB.out.below hb;have hw:=below_then HW.out HW.out.size hb;clear hb;obtain ⟨a0,a1,a2,a3,a4,a5,f0,f1,f2,f3,f4,f5,s0,s1,s2,s3,s4,s5⟩:=hA.dids;obtain ⟨b0,b1,b2,b3,b4,b5,b6,b7,b8,b9,g0,g1,g2,g3,g4,g5,g6,g7,g8,g9⟩:=hB.ten;have hlt1:=hA.lt;have hlt2:=hB.lt)
   go_region
   go_wp2
   all_goals
    refine bodyPost_ret (v:= .tuple #[.agg zD6,badV a c]) ?_ rfl ⟨rfl,?_⟩
    ·exact rd6_res _ _ w.heap.size (w.heap.size+1) 0 0 0 0 ⟨#[]⟩ 0 1 hostS ⟨#[]⟩ ⟨#[]⟩ a 0 0 c _ _ rfl rfl (Blk.drew1 (((Blk.othB 1 hostS ⟨#[]⟩ ⟨#[]⟩ a 0 0 c hne1 hA).old _).old _)) (Blk.drew1 (((Blk.setB 1 hostS ⟨#[]⟩ ⟨#[]⟩ a 0 0 c hB).old _).old _))
    ·exact below_drew1 (below_alloc (below_alloc (setB_below hw (Nat.le_succ _) 1 hostS ⟨#[]⟩ ⟨#[]⟩ a 0 0 c) _) _)
set_option maxRecDepth 100000 in
set_option maxHeartbeats 8000000 in
theorem rpd_port (s:ByteArray) (hs:s.size≤259) (i:Nat) (hi:i<s.size) (el:Lib.lastIndexByte s 58=(i:Int)) (x0 x1 x2 x3:Int) (nm:ByteArray) (HP0: ∀ W,StdW W→Calls Tryz.prog 104 #[.string (s.extract 0 i)] W fun e w'=>e= .returned (.tuple #[.agg #[.int .u8 x0,.int .u8 x1,.int .u8 x2,.int .u8 x3,.string nm],.agg #[.int .i64 0,.string ⟨#[]⟩,.string ⟨#[]⟩,.string ⟨#[]⟩,.string ⟨#[]⟩,.int .i64 0,.int .i64 0,.int .i64 0,.int .i64 0,.int .i64 0]])∧Below W.heap.size W w') (HQ0: ∀ W,StdW W→Calls Tryz.prog 150 #[.string (s.extract (i+1) s.size)] W fun e w'=>e= .returned (.tuple #[.int .i64 0,.agg #[.int .i64 1,.string hostS,.string ⟨#[]⟩,.string ⟨#[]⟩,.string ⟨#[]⟩,.int .i64 0,.int .i64 0,.int .i64 0,.int .i64 0,.int .i64 62]])∧Below W.heap.size W w') (w:World) (hS:StdW w):
  Calls Tryz.prog 103 #[.string s] w fun e w'=>e= .returned (.tuple #[.agg zD6,.agg (bad3 2 hostS hostS ⟨#[]⟩ ((i:Int)+1) 0 0 62)])∧Below w.heap.size w w':=by
 have HS:=Lib.hid hS
 have hs1:(s.size:Int)≤259:=by omega
 have HL:Hid (Lib.lastIdx s 58 s.size=(i:Int)):=Lib.hid el
 have hi0:(0:Int)≤(i:Int):=by omega
 have hi1:(i:Int)≤(s.size:Int):=by omega
 have hineg: ¬ (i:Int)<0:=by omega
 have HP:=Lib.hid HP0
 clear el HP0
 have HQ:=Lib.hid HQ0
 have HWr:=Lib.hid (fun W=>wrap_one hostS hostS ((i:Int)+1) 0 62 W)
 unfold bad at HWr
 clear HQ0
 clear hS
 go_enter Tryz.func103,Tryz.ntmps103
 go_wp2
 go_loopw [4,5] (fun co i wr=> ∃ k:Nat,k≤s.size∧i= .int .i64 k∧co= .int .i64 (Lib.lastIdx s 58 k)∧Hid (Blk wr w.heap.size zD6 41)∧Hid (Blk wr (w.heap.size+1) zX 32)∧Hid (Below w.heap.size w wr)) (fun _ i _=>s.size - (intOf i).toNat)
 case atStart=>exact ⟨0,Nat.zero_le _,rfl,rfl,Lib.hid ((Blk.new w zD6 _).old _),Lib.hid (by have:=Blk.new (w.alloc (.cells zD6 41)) zX 32;rwa [World.size_alloc] at this),Lib.hid (below_alloc (below_alloc (Below.refl _ _) _) _)⟩
 case round=>
  obtain ⟨k,hk,rfl,rfl,HA,HB,HW⟩:=hrel
  by_cases hlt:k<s.size
  ·have hk0:(0:Int)≤(k:Int):=Int.natCast_nonneg _
   have hk1:(k:Int)<(s.size:Int):=by omega
   have hsk:s.data[k]! =s[k]:=getElem!_pos s.data k hlt
   by_cases h58:s[k].toNat=58
   ·have e58:((s[k].toNat:Int)==58)=true:=by rw [beq_iff_eq];omega
    have HN:=Lib.hid (Lib.lastIdx_hit s 58 k (by rw [hsk];omega))
    clear hsk
    generalize Lib.lastIdx s 58 k=old
    go_wp2
    go_roundw
    case rel=>exact ⟨k+1,by omega,by go_num,by rw [HN.out],HA,HB,HW⟩
    case measure=>simp [intOf];omega
   ·have e58:((s[k].toNat:Int)==58)=false:=by rw [beq_eq_false_iff_ne];omega
    have HN:=Lib.hid (Lib.lastIdx_miss s 58 k (by rw [hsk];omega))
    clear hsk
    go_wp2
    go_roundw
    case rel=>exact ⟨k+1,by omega,by go_num,by rw [HN.out],HA,HB,HW⟩
    case measure=>simp [intOf];omega
  ·have hke:k=s.size:=by omega
   subst hke
   have hk1: ¬ (s.size:Int)<(s.size:Int):=by omega
   rw [HL.out]
   have hne1:w.heap.size≠w.heap.size+1:=by omega
   go_wp2_with (go_at_call 104;refine (HP.out _ (StdW.below HS.out HW.out)).mono ?_;rintro e w1 ⟨rfl,hb⟩;have hA:=HA.out.below hb;have hB:=HB.out.below hb;have hw:=below_then HW.out HW.out.size hb;clear hb)
   have hA7:Blk ((w1.alloc (.cells #[.int .u8 x0,.int .u8 x1,.int .u8 x2,.int .u8 x3,.string nm] 39)).alloc (.cells #[.int .i64 0,.string ⟨#[]⟩,.string ⟨#[]⟩,.string ⟨#[]⟩,.string ⟨#[]⟩,.int .i64 0,.int .i64 0,.int .i64 0,.int .i64 0,.int .i64 0] 32)) w.heap.size zD6 _:=(hA.old _).old _
   have hB7:Blk ((w1.alloc (.cells #[.int .u8 x0,.int .u8 x1,.int .u8 x2,.int .u8 x3,.string nm] 39)).alloc (.cells #[.int .i64 0,.string ⟨#[]⟩,.string ⟨#[]⟩,.string ⟨#[]⟩,.string ⟨#[]⟩,.int .i64 0,.int .i64 0,.int .i64 0,.int .i64 0,.int .i64 0] 32)) (w.heap.size+1) zX _:=(hB.old _).old _
   have hH7:Blk ((w1.alloc (.cells #[.int .u8 x0,.int .u8 x1,.int .u8 x2,.int .u8 x3,.string nm] 39)).alloc (.cells #[.int .i64 0,.string ⟨#[]⟩,.string ⟨#[]⟩,.string ⟨#[]⟩,.string ⟨#[]⟩,.int .i64 0,.int .i64 0,.int .i64 0,.int .i64 0,.int .i64 0] 32)) w1.heap.size (hC x0 x1 x2 x3 nm) 39:=(Blk.new w1 (hC x0 x1 x2 x3 nm) 39).old _
   have hX7:Blk ((w1.alloc (.cells #[.int .u8 x0,.int .u8 x1,.int .u8 x2,.int .u8 x3,.string nm] 39)).alloc (.cells #[.int .i64 0,.string ⟨#[]⟩,.string ⟨#[]⟩,.string ⟨#[]⟩,.string ⟨#[]⟩,.int .i64 0,.int .i64 0,.int .i64 0,.int .i64 0,.int .i64 0] 32)) (w1.heap.size+1) zX 32:=by
    have:=Blk.new (w1.alloc (.cells #[.int .u8 x0,.int .u8 x1,.int .u8 x2,.int .u8 x3,.string nm] 39)) zX 32
    rwa [World.size_alloc] at this
   have hw7:Below w.heap.size w ((w1.alloc (.cells #[.int .u8 x0,.int .u8 x1,.int .u8 x2,.int .u8 x3,.string nm] 39)).alloc (.cells #[.int .i64 0,.string ⟨#[]⟩,.string ⟨#[]⟩,.string ⟨#[]⟩,.string ⟨#[]⟩,.int .i64 0,.int .i64 0,.int .i64 0,.int .i64 0,.int .i64 0] 32)):=below_alloc (below_alloc hw _) _
   have hl1:=hA.lt
   have hl2:=hB.lt
   generalize ((w1.alloc (.cells #[.int .u8 x0,.int .u8 x1,.int .u8 x2,.int .u8 x3,.string nm] 39)).alloc (.cells #[.int .i64 0,.string ⟨#[]⟩,.string ⟨#[]⟩,.string ⟨#[]⟩,.string ⟨#[]⟩,.int .i64 0,.int .i64 0,.int .i64 0,.int .i64 0,.int .i64 0] 32))=W7 at hA7 hB7 hH7 hX7 hw7 ⊢
   generalize w1.heap.size=H1 at hH7 hX7 hl1 hl2 ⊢
   clear hA hB hw HA HB HW HP
   have hn1:w.heap.size≠H1:=by omega
   have hn2:w.heap.size+1≠H1:=by omega
   have hn3:w.heap.size≠H1+1:=by omega
   have hn4:w.heap.size+1≠H1+1:=by omega
   have hn5:H1≠H1+1:=by omega
   have hwi:wrap64 ((i:Int)+1)=(i:Int)+1:=wrap64_id _ (by omega) (by omega)
   go_wp2_with (go_at_call 150;refine (HQ.out _ (StdW.below HS.out hw7)).mono ?_;rintro e w2 ⟨rfl,hb⟩;have hA8:=hA7.below hb;have hB8:=hB7.below hb;have hX8:=hX7.below hb;have hw8:=below_then hw7 hw7.size hb;clear hb;obtain ⟨b0,b1,b2,b3,b4,b5,b6,b7,b8,b9,g0,g1,g2,g3,g4,g5,g6,g7,g8,g9⟩:=hX8.ten)
   have hA8:=Blk.othB 1 hostS ⟨#[]⟩ ⟨#[]⟩ 0 0 0 62 hn3 hA8
   have hB8:=Blk.othB 1 hostS ⟨#[]⟩ ⟨#[]⟩ 0 0 0 62 hn4 hB8
   have hw8:=setB_below hw8 (show w.heap.size≤H1+1 by omega) 1 hostS ⟨#[]⟩ ⟨#[]⟩ 0 0 0 62
   clear b0 b1 b2 b3 b4 b5 b6 b7 b8 b9 g0 g1 g2 g3 g4 g5 g6 g7 g8 g9 hX8
   unfold setB at hA8 hB8 hw8
   generalize ((((((((((w2.setCell ⟨H1+1,0,none⟩ (.int .i64 1)).setCell ⟨H1+1,1,none⟩ (.string hostS)).setCell ⟨H1+1,2,none⟩ (.string ⟨#[]⟩)).setCell ⟨H1+1,3,none⟩ (.string ⟨#[]⟩)).setCell ⟨H1+1,4,none⟩ (.string ⟨#[]⟩)).setCell ⟨H1+1,5,none⟩ (.int .i64 0)).setCell ⟨H1+1,6,none⟩ (.int .i64 0)).setCell ⟨H1+1,7,none⟩ (.int .i64 0)).setCell ⟨H1+1,8,none⟩ (.int .i64 0)).setCell ⟨H1+1,9,none⟩ (.int .i64 62))=W8 at hA8 hB8 hw8 ⊢
   go_wp2_with (go_at_call 69;refine (HWr.out _).mono ?_;rintro e w3 ⟨rfl,hb⟩;have hA9:=hA8.below hb;have hB9:=hB8.below hb;have hw9:=below_then hw8 hw8.size hb;clear hb;obtain ⟨a0,a1,a2,a3,a4,a5,f0,f1,f2,f3,f4,f5,s0,s1,s2,s3,s4,s5⟩:=hA9.dids;obtain ⟨b0,b1,b2,b3,b4,b5,b6,b7,b8,b9,g0,g1,g2,g3,g4,g5,g6,g7,g8,g9⟩:=hB9.ten)
   refine bodyPost_ret (v:= .tuple #[.agg zD6,.agg (bad3 2 hostS hostS ⟨#[]⟩ ((i:Int)+1) 0 0 62)]) ?_ rfl ⟨rfl,?_⟩
   ·exact rd6_res _ _ w.heap.size (w.heap.size+1) 0 0 0 0 ⟨#[]⟩ 0 2 hostS hostS ⟨#[]⟩ ((i:Int)+1) 0 0 62 _ _ rfl rfl (Blk.othB 2 hostS hostS ⟨#[]⟩ ((i:Int)+1) 0 0 62 hne1 hA9) (Blk.setB 2 hostS hostS ⟨#[]⟩ ((i:Int)+1) 0 0 62 hB9)
   ·exact setB_below hw9 (Nat.le_succ _) 2 hostS hostS ⟨#[]⟩ ((i:Int)+1) 0 0 62
set_option maxRecDepth 100000 in
set_option maxHeartbeats 8000000 in
theorem rpd_ok (s:ByteArray) (hs:s.size≤259) (i:Nat) (hi:i<s.size) (el:Lib.lastIndexByte s 58=(i:Int)) (x0 x1 x2 x3:Int) (nm:ByteArray) (HP0: ∀ W,StdW W→Calls Tryz.prog 104 #[.string (s.extract 0 i)] W fun e w'=>e= .returned (.tuple #[.agg #[.int .u8 x0,.int .u8 x1,.int .u8 x2,.int .u8 x3,.string nm],.agg #[.int .i64 0,.string ⟨#[]⟩,.string ⟨#[]⟩,.string ⟨#[]⟩,.string ⟨#[]⟩,.int .i64 0,.int .i64 0,.int .i64 0,.int .i64 0,.int .i64 0]])∧Below W.heap.size W w') (p:Int) (HQ0: ∀ W,StdW W→Calls Tryz.prog 150 #[.string (s.extract (i+1) s.size)] W fun e w'=>e= .returned (.tuple #[.int .i64 p,.agg #[.int .i64 0,.string ⟨#[]⟩,.string ⟨#[]⟩,.string ⟨#[]⟩,.string ⟨#[]⟩,.int .i64 0,.int .i64 0,.int .i64 0,.int .i64 0,.int .i64 0]])∧Below W.heap.size W w') (w:World) (hS:StdW w):
  Calls Tryz.prog 103 #[.string s] w fun e w'=>e= .returned (.tuple #[.agg (dC x0 x1 x2 x3 nm p),.agg zX])∧Below w.heap.size w w':=by
 have HS:=Lib.hid hS
 have hs1:(s.size:Int)≤259:=by omega
 have HL:Hid (Lib.lastIdx s 58 s.size=(i:Int)):=Lib.hid el
 have hi0:(0:Int)≤(i:Int):=by omega
 have hi1:(i:Int)≤(s.size:Int):=by omega
 have hineg: ¬ (i:Int)<0:=by omega
 have HP:=Lib.hid HP0
 clear el HP0
 have HQ:=Lib.hid HQ0
 clear HQ0
 clear hS
 go_enter Tryz.func103,Tryz.ntmps103
 go_wp2
 go_loopw [4,5] (fun co i wr=> ∃ k:Nat,k≤s.size∧i= .int .i64 k∧co= .int .i64 (Lib.lastIdx s 58 k)∧Hid (Blk wr w.heap.size zD6 41)∧Hid (Blk wr (w.heap.size+1) zX 32)∧Hid (Below w.heap.size w wr)) (fun _ i _=>s.size - (intOf i).toNat)
 case atStart=>exact ⟨0,Nat.zero_le _,rfl,rfl,Lib.hid ((Blk.new w zD6 _).old _),Lib.hid (by have:=Blk.new (w.alloc (.cells zD6 41)) zX 32;rwa [World.size_alloc] at this),Lib.hid (below_alloc (below_alloc (Below.refl _ _) _) _)⟩
 case round=>
  obtain ⟨k,hk,rfl,rfl,HA,HB,HW⟩:=hrel
  by_cases hlt:k<s.size
  ·have hk0:(0:Int)≤(k:Int):=Int.natCast_nonneg _
   have hk1:(k:Int)<(s.size:Int):=by omega
   have hsk:s.data[k]! =s[k]:=getElem!_pos s.data k hlt
   by_cases h58:s[k].toNat=58
   ·have e58:((s[k].toNat:Int)==58)=true:=by rw [beq_iff_eq];omega
    have HN:=Lib.hid (Lib.lastIdx_hit s 58 k (by rw [hsk];omega))
    clear hsk
    generalize Lib.lastIdx s 58 k=old
    go_wp2
    go_roundw
    case rel=>exact ⟨k+1,by omega,by go_num,by rw [HN.out],HA,HB,HW⟩
    case measure=>simp [intOf];omega
   ·have e58:((s[k].toNat:Int)==58)=false:=by rw [beq_eq_false_iff_ne];omega
    have HN:=Lib.hid (Lib.lastIdx_miss s 58 k (by rw [hsk];omega))
    clear hsk
    go_wp2
    go_roundw
    case rel=>exact ⟨k+1,by omega,by go_num,by rw [HN.out],HA,HB,HW⟩
    case measure=>simp [intOf];omega
  ·have hke:k=s.size:=by omega
   subst hke
   have hk1: ¬ (s.size:Int)<(s.size:Int):=by omega
   rw [HL.out]
   have hne1:w.heap.size≠w.heap.size+1:=by omega
   go_wp2_with (go_at_call 104;refine (HP.out _ (StdW.below HS.out HW.out)).mono ?_;rintro e w1 ⟨rfl,hb⟩;have hA:=HA.out.below hb;have hB:=HB.out.below hb;have hw:=below_then HW.out HW.out.size hb;clear hb)
   have hA7:Blk ((w1.alloc (.cells #[.int .u8 x0,.int .u8 x1,.int .u8 x2,.int .u8 x3,.string nm] 39)).alloc (.cells #[.int .i64 0,.string ⟨#[]⟩,.string ⟨#[]⟩,.string ⟨#[]⟩,.string ⟨#[]⟩,.int .i64 0,.int .i64 0,.int .i64 0,.int .i64 0,.int .i64 0] 32)) w.heap.size zD6 _:=(hA.old _).old _
   have hB7:Blk ((w1.alloc (.cells #[.int .u8 x0,.int .u8 x1,.int .u8 x2,.int .u8 x3,.string nm] 39)).alloc (.cells #[.int .i64 0,.string ⟨#[]⟩,.string ⟨#[]⟩,.string ⟨#[]⟩,.string ⟨#[]⟩,.int .i64 0,.int .i64 0,.int .i64 0,.int .i64 0,.int .i64 0] 32)) (w.heap.size+1) zX _:=(hB.old _).old _
   have hH7:Blk ((w1.alloc (.cells #[.int .u8 x0,.int .u8 x1,.int .u8 x2,.int .u8 x3,.string nm] 39)).alloc (.cells #[.int .i64 0,.string ⟨#[]⟩,.string ⟨#[]⟩,.string ⟨#[]⟩,.string ⟨#[]⟩,.int .i64 0,.int .i64 0,.int .i64 0,.int .i64 0,.int .i64 0] 32)) w1.heap.size (hC x0 x1 x2 x3 nm) 39:=(Blk.new w1 (hC x0 x1 x2 x3 nm) 39).old _
   have hX7:Blk ((w1.alloc (.cells #[.int .u8 x0,.int .u8 x1,.int .u8 x2,.int .u8 x3,.string nm] 39)).alloc (.cells #[.int .i64 0,.string ⟨#[]⟩,.string ⟨#[]⟩,.string ⟨#[]⟩,.string ⟨#[]⟩,.int .i64 0,.int .i64 0,.int .i64 0,.int .i64 0,.int .i64 0] 32)) (w1.heap.size+1) zX 32:=by
    have:=Blk.new (w1.alloc (.cells #[.int .u8 x0,.int .u8 x1,.int .u8 x2,.int .u8 x3,.string nm] 39)) zX 32
    rwa [World.size_alloc] at this
   have hw7:Below w.heap.size w ((w1.alloc (.cells #[.int .u8 x0,.int .u8 x1,.int .u8 x2,.int .u8 x3,.string nm] 39)).alloc (.cells #[.int .i64 0,.string ⟨#[]⟩,.string ⟨#[]⟩,.string ⟨#[]⟩,.string ⟨#[]⟩,.int .i64 0,.int .i64 0,.int .i64 0,.int .i64 0,.int .i64 0] 32)):=below_alloc (below_alloc hw _) _
   have hl1:=hA.lt
   have hl2:=hB.lt
   generalize ((w1.alloc (.cells #[.int .u8 x0,.int .u8 x1,.int .u8 x2,.int .u8 x3,.string nm] 39)).alloc (.cells #[.int .i64 0,.string ⟨#[]⟩,.string ⟨#[]⟩,.string ⟨#[]⟩,.string ⟨#[]⟩,.int .i64 0,.int .i64 0,.int .i64 0,.int .i64 0,.int .i64 0] 32))=W7 at hA7 hB7 hH7 hX7 hw7 ⊢
   generalize w1.heap.size=H1 at hH7 hX7 hl1 hl2 ⊢
   clear hA hB hw HA HB HW HP
   have hn1:w.heap.size≠H1:=by omega
   have hn2:w.heap.size+1≠H1:=by omega
   have hn3:w.heap.size≠H1+1:=by omega
   have hn4:w.heap.size+1≠H1+1:=by omega
   have hn5:H1≠H1+1:=by omega
   have hwi:wrap64 ((i:Int)+1)=(i:Int)+1:=wrap64_id _ (by omega) (by omega)
   go_wp2_with (go_at_call 150;refine (HQ.out _ (StdW.below HS.out hw7)).mono ?_;rintro e w2 ⟨rfl,hb⟩;have hA8:=hA7.below hb;have hB8:=hB7.below hb;have hX8:=hX7.below hb;have hH8:=hH7.below hb;have hw8:=below_then hw7 hw7.size hb;clear hb;obtain ⟨b0,b1,b2,b3,b4,b5,b6,b7,b8,b9,g0,g1,g2,g3,g4,g5,g6,g7,g8,g9⟩:=hX8.ten;obtain ⟨i0,i1,i2,i3,i4,i5,i6,i7,i8,i9⟩:=hX8.tenid;obtain ⟨a0,a1,a2,a3,a4,a5,f0,f1,f2,f3,f4,f5,-⟩:=hA8.dids;obtain ⟨h0,h1,h2,h3,h4,-⟩:=hH8.five;obtain ⟨v0,v1,v2,v3,v4,v5,v6,v7,v8,v9,r0,r1,r2,r3,r4,r5,r6,r7,r8,r9⟩:=hB8.ten)
   all_goals
    refine bodyPost_ret (v:= .tuple #[.agg (dC x0 x1 x2 x3 nm p),.agg zX]) ?_ rfl ⟨rfl,?_⟩
    ·first
      |exact rd6_res _ _ w.heap.size (w.heap.size+1) x0 x1 x2 x3 nm p 0 ⟨#[]⟩ ⟨#[]⟩ ⟨#[]⟩ 0 0 0 0 _ _ rfl rfl (Blk.othB 0 ⟨#[]⟩ ⟨#[]⟩ ⟨#[]⟩ 0 0 0 0 hne1 (Blk.set6 x0 x1 x2 x3 nm p hA8)) (Blk.setB 0 ⟨#[]⟩ ⟨#[]⟩ ⟨#[]⟩ 0 0 0 0 (Blk.oth6 x0 x1 x2 x3 nm p hne1.symm hB8))
      |exact rd6_res _ _ w.heap.size (w.heap.size+1) x0 x1 x2 x3 nm p 0 ⟨#[]⟩ ⟨#[]⟩ ⟨#[]⟩ 0 0 0 0 _ _ rfl rfl (Blk.drew1 (Blk.othB 0 ⟨#[]⟩ ⟨#[]⟩ ⟨#[]⟩ 0 0 0 0 hne1 (Blk.set6 x0 x1 x2 x3 nm p hA8))) (Blk.drew1 (Blk.setB 0 ⟨#[]⟩ ⟨#[]⟩ ⟨#[]⟩ 0 0 0 0 (Blk.oth6 x0 x1 x2 x3 nm p hne1.symm hB8)))
    ·first
      |exact setB_below (below6 x0 x1 x2 x3 nm p (Nat.le_refl _) hw8) (Nat.le_succ _) 0 ⟨#[]⟩ ⟨#[]⟩ ⟨#[]⟩ 0 0 0 0
      |exact below_drew1 (setB_below (below6 x0 x1 x2 x3 nm p (Nat.le_refl _) hw8) (Nat.le_succ _) 0 ⟨#[]⟩ ⟨#[]⟩ ⟨#[]⟩ 0 0 0 0)
theorem rpdest_any (s:ByteArray) (w:World) (hS:StdW w):Calls Tryz.prog 103 #[.string s] w (RDPost (pdX s) w):=by
 unfold pdX
 by_cases h1:259<s.size
 ·rw [if_pos h1]
  exact (rpd_long s h1 w hS).mono fun e w' ⟨he,hb⟩=>⟨hb,he⟩
 rw [if_neg h1]
 rcases Lib.lastIndexByte_spec s 58 with ⟨el,-⟩|⟨i,hi,el,-⟩
 ·rw [el,if_pos (by decide)]
  exact (rpd_none s (by omega) el w hS).mono fun e w' ⟨he,hb⟩=>⟨hb,he⟩
 ·rw [el,if_neg (show ¬ (i:Int)<0 by omega),Int.toNat_natCast]
  have HP:=fun W (h:StdW W)=>rparse_any (s.extract 0 i) (by rw [ByteArray.size_extract];omega) W h
  have HQ:=fun W (h:StdW W)=>rport_calls (s.extract (i+1) s.size) W h
  cases hr:hpRes (s.extract 0 i) with
  |inl x=>
   obtain ⟨a,c⟩:=x
   rw [hr] at HP
   exact (rpd_host s (by omega) i hi el a c (fun W h=>(HP W h).mono fun e w' ⟨hb,he⟩=>⟨he,hb⟩) w hS).mono fun e w' ⟨he,hb⟩=>⟨hb,he⟩
  |inr x=>
   obtain ⟨l,n⟩:=x
   rw [hr] at HP
   have HP2: ∀ W,StdW W→Calls Tryz.prog 104 #[.string (s.extract 0 i)] W fun e w'=>e= .returned (.tuple #[.agg (hC (l.getD 0 0) (l.getD 1 0) (l.getD 2 0) (l.getD 3 0) n),.agg zX])∧Below W.heap.size W w':=fun W h=>(HP W h).mono fun e w' ⟨hb,he⟩=>⟨he,hb⟩
   dsimp only
   cases hp:ppoRes (s.extract (i+1) s.size) with
   |none=>
    rw [hp] at HQ
    exact (rpd_port s (by omega) i hi el _ _ _ _ n HP2 HQ w hS).mono fun e w' ⟨he,hb⟩=>⟨hb,he⟩
   |some p=>
    rw [hp] at HQ
    exact (rpd_ok s (by omega) i hi el _ _ _ _ n HP2 p HQ w hS).mono fun e w' ⟨he,hb⟩=>⟨hb,he⟩
end Go.Proofs.YtgmpdjjoefkndaaGreatDoor.E

namespace Go.Proofs.YtgmpdjjoefkndaaGreatDoor.Hd
open Go.Lib

def broken (l:Bs):Bool:=containsAny l [13,10]
def fieldR (l:Bs):Nat ⊕ Fd.F:=
 if !(cut l [58]).2.2||broken l then .inl 80 else if !Fd.token (cut l [58]).1 then .inl 81 else if !value (Fd.trimB (cut l [58]).2.1) then .inl 83 else .inr ((cut l [58]).1,Fd.trimB (cut l [58]).2.1)
def fieldsR:Nat→Bs→Nat→List Fd.F→(Nat×Nat) ⊕ List Fd.F
 |0,_,_,out=> .inr out
 |k+1,rest,p,out=>
  if (cut rest crlf).1=[] then .inr out
  else if out.length=64 then .inl (p,3)
  else match fieldR (cut rest crlf).1 with
   | .inl c=> .inl (p,c)
   | .inr f=>fieldsR k (cut rest crlf).2.1 (p+(cut rest crlf).1.length+2) (out++[f])
def fieldsL:List Bs→Nat→List Fd.F→(Nat×Nat) ⊕ List Fd.F
 |[],_,out=> .inr out
 |l::r,p,out=>
  if out.length=64 then .inl (p,3)
  else match fieldR l with
   | .inl c=> .inl (p,c)
   | .inr f=>fieldsL r (p+l.length+2) (out++[f])
def textOf (L:List Bs):Bs:=L.flatMap (fun l=>l++crlf)++crlf
def okLine (l:Bs):Prop:=l≠[]∧ ∀ j,crAt l j=false
theorem crAt_mid (l r:Bs):crAt (l++13::10::r) l.length=true:=by
 unfold crAt
 simp
theorem crAt_before (l r:Bs) (h: ∀ j,crAt l j=false) (j:Nat) (hj:j<l.length):crAt (l++13::r) j=false:=by
 have h1:=h j
 unfold crAt at h1 ⊢
 rw [List.getElem?_append_left hj]
 by_cases hj2:j+1<l.length
 ·rw [List.getElem?_append_left hj2];exact h1
 ·have e:j+1=l.length:=by omega
  rw [e,List.getElem?_append_right (Nat.le_refl _),Nat.sub_self,List.getElem?_cons_zero]
  simp
theorem cut_line (l r:Bs) (h: ∀ j,crAt l j=false):cut (l++(crlf++r)) crlf=(l,r,true):=by
 have hi:index (l++(crlf++r)) crlf=(l.length:Int):=by
  refine index_first (by simp) ?_ (fun j hj=>?_)
  ·rw [occ2];exact crAt_mid l r
  ·rw [occ2];exact crAt_before l (10::r) h j hj
 unfold cut
 rw [hi,if_pos (by omega)]
 simp [crlf]
theorem textOf_cons (l:Bs) (L:List Bs):textOf (l::L)=l++(crlf++textOf L):=by
 unfold textOf
 rw [List.flatMap_cons];simp
theorem no_nil (j:Nat):crAt [] j=false:=by unfold crAt;simp
theorem cut_end:cut (textOf []) crlf=([],[],true):=cut_line [] [] no_nil
theorem fieldsR_text: ∀ (L:List Bs) (k p:Nat) (out:List Fd.F),(∀ l ∈ L,okLine l)→66≤k+out.length→out.length≤64→fieldsR k (textOf L) p out=fieldsL L p out
 |[],k,p,out,_,hk,ho=>by
  obtain ⟨k,rfl⟩: ∃ m,k=m+1:=⟨k - 1,by omega⟩
  unfold fieldsR fieldsL
  rw [cut_end,if_pos rfl]
 |l::L,k,p,out,h,hk,ho=>by
  obtain ⟨k,rfl⟩: ∃ m,k=m+1:=⟨k - 1,by omega⟩
  have hl:=h l List.mem_cons_self
  unfold fieldsR fieldsL
  rw [textOf_cons,cut_line l _ hl.2]
  dsimp only
  rw [if_neg hl.1]
  by_cases h64:out.length=64
  ·rw [if_pos h64,if_pos h64]
  ·rw [if_neg h64,if_neg h64]
   cases fieldR l with
   |inl c=>rfl
   |inr f=>
    dsimp only
    refine fieldsR_text L k _ _ (fun x hx=>h x (List.mem_cons_of_mem _ hx)) ?_ ?_<;>simp<;>omega
theorem head_lines (m:Nat): ∀ (s:Bs) (n:Nat),s.length≤m→headN s=some n→ ∃ L,s.take n=textOf L∧ ∀ l ∈ L,okLine l:=by
 induction m using Nat.strongRecOn with
 |_ m ih=>
  intro s n hm h
  obtain ⟨i,rfl,he,hmin⟩:=headN_some h
  have hce:crAt s i=true:=by unfold empAt at he;rw [Bool.and_eq_true] at he;exact he.1
  obtain ⟨p,hp,hpm⟩: ∃ p,crAt s p=true∧ ∀ j,j<p→crAt s j=false:=by
   rcases index_spec s crlf with ⟨_,h2⟩|⟨p,_,_,h3,h4⟩
   ·have:=h2 i (by have:=crAt_lt hce;omega)
    rw [occ2,hce] at this;cases this
   ·rw [occ2] at h3
    exact ⟨p,h3,fun j hj=>by have:=h4 j hj;rwa [occ2] at this⟩
  have hlt:=crAt_lt hp
  have hs:s=s.take p++13::10::s.drop (p+2):=by
   unfold crAt at hp
   simp only [Bool.and_eq_true,beq_iff_eq] at hp
   conv=>lhs;rw [← List.take_append_drop p s]
   congr 1
   rw [List.drop_eq_getElem_cons (by omega:p<s.length),List.drop_eq_getElem_cons (by omega:p+1<s.length)]
   congr 1
   ·have:=(List.getElem?_eq_some_iff.1 hp.1).2;exact this
   ·congr 1
    have:=(List.getElem?_eq_some_iff.1 hp.2).2;exact this
  by_cases hp0:p=0
  ·subst hp0
   have hi0:i=0:=by
    by_cases hi:i=0
    ·exact hi
    ·have:=hmin 0 (by omega)
     unfold empAt at this
     rw [hp] at this
     cases this
   subst hi0
   refine ⟨[],?_,fun l hl=>by cases hl⟩
   rw [hs];rfl
  ·have hip:p+2≤i:=by
    rcases Nat.lt_or_ge i p with h1|h1
    ·rw [hpm i h1] at hce;cases hce
    ·rcases Nat.eq_or_lt_of_le h1 with rfl|h1
     ·exfalso
      unfold empAt at he
      simp only [Bool.and_eq_true,Bool.or_eq_true,beq_iff_eq,decide_eq_true_eq] at he
      rcases he.2 with h2|⟨h2,h3⟩
      ·exact hp0 h2
      ·rw [hpm _ (by omega)] at h3;cases h3
     ·rcases Nat.eq_or_lt_of_le h1 with h2|h2
      ·exfalso
       rw [← h2] at hce
       unfold crAt at hce hp
       simp only [Bool.and_eq_true,beq_iff_eq] at hce hp
       rw [hp.2] at hce
       exact absurd hce.1 (by decide)
      ·exact h2
   have hsh: ∀ j,crAt (s.drop (p+2)) j=crAt s (p+2+j):=fun j=>by
    unfold crAt;rw [List.getElem?_drop,List.getElem?_drop,Nat.add_assoc (p+2) j 1]
   have hem: ∀ j,empAt (s.drop (p+2)) j=empAt s (p+2+j):=fun j=>by
    unfold empAt
    rw [hsh j]
    cases hc:crAt s (p+2+j)
    ·rfl
    ·rw [Bool.true_and,Bool.true_and]
     have hz:(p+2+j==0)=false:=by rw [beq_eq_false_iff_ne];omega
     rw [hz,Bool.false_or,decide_eq_true (show 2≤p+2+j by omega),Bool.true_and]
     match j,hc with
     |0,hc=>rw [show p+2+0 - 2=p by omega,hp];rfl
     |1,hc=>
      have:crAt s (p+2+1 - 2)=false:=by
       rw [show p+2+1 - 2=p+1 by omega]
       unfold crAt at hp ⊢
       simp only [Bool.and_eq_true,beq_iff_eq] at hp
       rw [hp.2];simp
      rw [this];simp
     |j+2,hc=>
      rw [hsh,show p+2+(j+2) - 2=p+2+j by omega,show j+2 - 2=j by omega]
      simp
   have hh:headN (s.drop (p+2))=some (i - p):=by
    have:=headN_min (s.drop (p+2)) (i - p - 2) (by rw [hem,show p+2+(i - p - 2)=i by omega];exact he) (fun j hj=>by rw [hem];exact hmin _ (by omega))
    rw [this];congr 1;omega
   have hlen:(s.drop (p+2)).length<m:=by rw [List.length_drop];omega
   obtain ⟨L,hL,hok⟩:=ih (s.drop (p+2)).length hlen (s.drop (p+2)) (i - p) (Nat.le_refl _) hh
   refine ⟨s.take p::L,?_,fun l hl=>?_⟩
   ·rw [textOf_cons,← hL]
    conv=>lhs;rw [hs]
    have e:i+2=(s.take p).length+(2+(i - p)):=by rw [List.length_take];omega
    rw [e,List.take_length_add_append]
    show _++List.take (2+(i - p)) (13::10::s.drop (p+2))=_
    rw [show 2+(i - p)=(i - p)+1+1 by omega,List.take_succ_cons,List.take_succ_cons];rfl
   ·rcases List.mem_cons.1 hl with rfl|hl
    ·refine ⟨fun e=>?_,fun j=>?_⟩
     ·have:=congrArg List.length e
      rw [List.length_take,List.length_nil] at this
      omega
     ·cases hc:crAt (s.take p) j
      ·rfl
      ·have h1:=crAt_lt hc
       rw [List.length_take] at h1
       have h2:=hpm j (by omega)
       unfold crAt at hc h2
       rw [List.getElem?_take_of_lt (by omega),List.getElem?_take_of_lt (by omega)] at hc
       rw [hc] at h2;cases h2
    ·exact hok l hl
theorem index_le (s sub:Bs):index s sub≤(s.length:Int):=by
 rcases index_spec s sub with ⟨h,_⟩|⟨i,h,hi,_⟩
 ·rw [h];omega
 ·rw [h];omega
theorem cut_len1 (s sep:Bs):(cut s sep).1.length≤s.length:=by
 unfold cut
 split
 ·simp only [List.length_take];omega
 ·exact Nat.le_refl _
theorem cut_len2 (s sep:Bs):(cut s sep).2.1.length≤s.length:=by
 unfold cut
 split
 ·simp only [List.length_drop];omega
 ·exact Nat.zero_le _
end Go.Proofs.YtgmpdjjoefkndaaGreatDoor.Hd
