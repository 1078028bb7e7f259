/- What the cards of this seat rest on: the walks and plain laws, part 21. -/
import Derived.Test.YtgmpdjjoefkndaaGreatDoorHR20
import Derived.Test.YtgmpdjjoefkndaaGreatDoorHR8
import Derived.Lib.SmallJoins

namespace Go.Proofs.YtgmpdjjoefkndaaGreatDoor.E
open Go.RowKit Go.Proofs.YtgmpdjjoefkndaaGreatDoorW.PrintWords Go.Proofs.YtgmpdjjoefkndaaGreatDoorW.PrintLast Go.Proofs.YtgmpdjjoefkndaaGreatDoor.XK Go.Proofs.YtgmpdjjoefkndaaGreatDoor.XA Go.Proofs.YtgmpdjjoefkndaaGreatDoor.XD
set_option linter.unusedVariables false
set_option linter.unusedSimpArgs false
theorem is8_one (v:Value) (w0 w:World) (h:ErrIs w0 v [(headS,4)] 82) (hb:Below w0.heap.size w0 w):Calls Tryz.prog 12 #[v,.agg (bad 1 headS ⟨#[]⟩ 4 0 82)] w fun e w'=>e= .returned (.bool true)∧Below w.heap.size w w':=
 is_same v 1 headS ⟨#[]⟩ 4 0 82 (fun W=>by kernel_rfl) (fun W=>by kernel_rfl) w (fun W hW=>of_one v headS 4 82 W (ErrIs.below hW (ErrIs.below hb h)))
theorem is8_two (v:Value) (w0 w:World) (h:ErrIs w0 v [(headS,11),(hostS,0)] 61) (hb:Below w0.heap.size w0 w):Calls Tryz.prog 12 #[v,.agg (bad 2 headS hostS 11 0 61)] w fun e w'=>e= .returned (.bool true)∧Below w.heap.size w w':=
 is_same v 2 headS hostS 11 0 61 (fun W=>by kernel_rfl) (fun W=>by kernel_rfl) w (fun W hW=>of_two v headS hostS 11 0 61 W (ErrIs.below hW (ErrIs.below hb h)))
set_option maxRecDepth 100000 in
set_option maxHeartbeats 8000000 in
theorem works08_any (w:World) (hS:StdE w):Calls Tryz.prog 20 #[] w fun e w'=>e= .returned (.bool true)∧Below w.heap.size w w':=by
 have HS:=Lib.hid hS
 have P0:=Lib.hid ex80_c
 have P1:=Lib.hid ex81_c
 have P2:=Lib.hid ex82_c
 have B1:=Lib.hid (fun W=>fail_any headS 4 82 W)
 have B2:=Lib.hid (fun W=>fail_any hostS 0 61 W)
 have W1:=Lib.hid (fun W=>wrap_one headS hostS 11 0 61 W)
 have I1:=Lib.hid is8_one
 have I2:=Lib.hid is8_two
 have kc:=fun (w:World) (C:Array Value) (n c:Nat)=>Lib.run_convert_bytes_const (P:=Tryz.prog) w 22 5 C n c Tryz.underlying22 Tryz.underlying5
 have kc1:=fun (w:World) (o:Obj) (C:Array Value) (n c:Nat)=>Go.Joins.run_convert_bytes_const_at (P:=Tryz.prog) (w.alloc o) 22 5 C n c (w.heap.size+1) (World.size_alloc w o).symm Tryz.underlying22 Tryz.underlying5
 clear hS
 unfold bad hostS headS at*
 go_enter Tryz.func20,Tryz.ntmps20
 go_wp2_with (go_at_call 13;(with_reducible refine (P0.out _ _ _ rfl HS.out).mono ?_);rintro e w1 ⟨fA,fc,rfl,hb⟩;have HB:=Lib.hid hb;have HT:=Lib.hid (Blk.new w1 #[.string ⟨#[71,69,84]⟩,.int .u8 0,.int .u8 0,.int .u8 0,.int .u8 0,.string ⟨#[97,46,98]⟩,.int .i64 80,.string ⟨#[47,120]⟩,.slice fA 1 fc] 44);clear hb)
 go_wp2_with (go_at_call 13;(with_reducible refine (P1.out _ _ _ (World.size_alloc _ _).symm (StdE.below HS.out (below_alloc HB.out (.cells #[.string ⟨#[71,69,84]⟩,.int .u8 0,.int .u8 0,.int .u8 0,.int .u8 0,.string ⟨#[97,46,98]⟩,.int .i64 80,.string ⟨#[47,120]⟩,.slice fA 1 fc] 44)))).mono ?_);rintro e w2 ⟨v2,rfl,he2,hb⟩;have HT:=Lib.hid (HT.out.below hb);have HB:=Lib.hid (below_then (below_alloc HB.out (.cells #[.string ⟨#[71,69,84]⟩,.int .u8 0,.int .u8 0,.int .u8 0,.int .u8 0,.string ⟨#[97,46,98]⟩,.int .i64 80,.string ⟨#[47,120]⟩,.slice fA 1 fc] 44)) (below_alloc HB.out (.cells #[.string ⟨#[71,69,84]⟩,.int .u8 0,.int .u8 0,.int .u8 0,.int .u8 0,.string ⟨#[97,46,98]⟩,.int .i64 80,.string ⟨#[47,120]⟩,.slice fA 1 fc] 44)).size hb);have HE2:=Lib.hid he2;clear hb he2)
 go_wp2_with (go_at_call 13;(with_reducible refine (P2.out _ _ _ (World.size_alloc _ _).symm (StdE.below HS.out (below_alloc HB.out (.cells #[.string ⟨#[]⟩,.int .u8 0,.int .u8 0,.int .u8 0,.int .u8 0,.string ⟨#[]⟩,.int .i64 0,.string ⟨#[]⟩,.slice none 0 0] 44)))).mono ?_);rintro e w3 ⟨v3,rfl,he3,hb⟩;have HE2:=Lib.hid (ErrIs.below hb (ErrIs.below (below_alloc (Below.refl _ _) _) HE2.out));have HT:=Lib.hid ((HT.out.old (.cells #[.string ⟨#[]⟩,.int .u8 0,.int .u8 0,.int .u8 0,.int .u8 0,.string ⟨#[]⟩,.int .i64 0,.string ⟨#[]⟩,.slice none 0 0] 44)).below hb);have HB:=Lib.hid (below_then (below_alloc HB.out (.cells #[.string ⟨#[]⟩,.int .u8 0,.int .u8 0,.int .u8 0,.int .u8 0,.string ⟨#[]⟩,.int .i64 0,.string ⟨#[]⟩,.slice none 0 0] 44)) (below_alloc HB.out (.cells #[.string ⟨#[]⟩,.int .u8 0,.int .u8 0,.int .u8 0,.int .u8 0,.string ⟨#[]⟩,.int .i64 0,.string ⟨#[]⟩,.slice none 0 0] 44)).size hb);have HE3:=Lib.hid he3;have hlt:=HT.out.lt;obtain ⟨c0,c1,c2,c3,c4,c5,c6,c7,c8,-⟩:=(show Blk _ _ (rqC ⟨#[71,69,84]⟩ 0 0 0 0 ⟨#[97,46,98]⟩ 80 ⟨#[47,120]⟩ (.slice fA 1 fc)) _ from HT.out).rq;have HB3:=Lib.hid (Below.refl w3.heap.size w3);clear hb he3)
 go_wp2_with (go_at_call 68;(with_reducible refine (B1.out _).mono ?_);rintro e w4 ⟨rfl,hb⟩;have HB:=Lib.hid (below_alloc HB.out (.cells #[.string ⟨#[]⟩,.int .u8 0,.int .u8 0,.int .u8 0,.int .u8 0,.string ⟨#[]⟩,.int .i64 0,.string ⟨#[]⟩,.slice none 0 0] 44));have HB3:=Lib.hid (below_alloc HB3.out (.cells #[.string ⟨#[]⟩,.int .u8 0,.int .u8 0,.int .u8 0,.int .u8 0,.string ⟨#[]⟩,.int .i64 0,.string ⟨#[]⟩,.slice none 0 0] 44));have HB:=Lib.hid (below_then HB.out HB.out.size hb);have HB3:=Lib.hid (below_then HB3.out HB3.out.size hb);clear hb)
 go_wp2_with (go_at_call 12;(with_reducible refine (I1.out _ _ _ HE2.out HB3.out).mono ?_);rintro e w5 ⟨rfl,hb⟩;have HB:=Lib.hid (below_then HB.out HB.out.size hb);have HB3:=Lib.hid (below_then HB3.out HB3.out.size hb);clear hb)
 go_wp2_with (go_at_call 68;(with_reducible refine (B2.out _).mono ?_);rintro e w6 ⟨rfl,hb⟩;have HB:=Lib.hid (below_then HB.out HB.out.size hb);have HB3:=Lib.hid (below_then HB3.out HB3.out.size hb);clear hb)
 go_wp2_with (go_at_call 69;(with_reducible refine (W1.out _).mono ?_);rintro e w7 ⟨rfl,hb⟩;have HB:=Lib.hid (below_then HB.out HB.out.size hb);have HB3:=Lib.hid (below_then HB3.out HB3.out.size hb);clear hb)
 go_wp2_with (go_at_call 12;(with_reducible refine (I2.out _ _ _ HE3.out HB3.out).mono ?_);rintro e w8 ⟨rfl,hb⟩;have HB:=Lib.hid (below_then HB.out HB.out.size hb);have HB3:=Lib.hid (below_then HB3.out HB3.out.size hb);clear hb)
 go_ret
 exact ⟨rfl,HB.out⟩
end Go.Proofs.YtgmpdjjoefkndaaGreatDoor.E
