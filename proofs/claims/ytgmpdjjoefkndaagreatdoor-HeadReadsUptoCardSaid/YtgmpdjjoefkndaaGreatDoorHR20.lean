/- What the cards of this seat rest on: the walks and plain laws, part 20. -/
import Derived.Test.YtgmpdjjoefkndaaGreatDoorProg
import Derived.Below
import Derived.Deep.Draws
import Derived.Deep.AppendLies
import Derived.Maps.AppendAt
import Derived.OwnWalk
import Derived.Laws.BytesArg
import Derived.Laws.MakeOwn
import Derived.Laws.OwnMore
import Derived.Deep.OwnRows
import Derived.Tactics
import Derived.Lib.ConvBytes
import Derived.Laws.Slices
import Derived.WalkKit
import Derived.KernelRfl
import Derived.RowKit3
import Derived.Deep.LoopGhost
import Derived.Deep.QuietTactic
import Derived.BigQuiet
import Derived.WideLaws
import Derived.Deep.DeepCutAuto
import Derived.Deep.CutBlock
import Derived.Deep.RegionHeld3
import Derived.Laws.Rows
import Derived.Lib.AppendStr
import Derived.ArgAppend
import Derived.Laws.IdiomCopy
import Derived.OrdersHeld
import Derived.Laws.BitsLemmas
import Derived.RowKit
import Derived.Test.YtgmpdjjoefkndaaGreatDoorHR1
import Derived.Test.YtgmpdjjoefkndaaGreatDoorHR2
import Derived.Test.YtgmpdjjoefkndaaGreatDoorHR9
import Derived.Test.YtgmpdjjoefkndaaGreatDoorHR8
import Derived.ChangeKeysEq
import Derived.Test.YtgmpdjjoefkndaaGreatDoorHR13
import Derived.IntWalk
import Derived.Test.YtgmpdjjoefkndaaGreatDoorHR14
import Derived.Test.YtgmpdjjoefkndaaGreatDoorHR15
import Derived.Test.YtgmpdjjoefkndaaGreatDoorHR16
import Derived.Test.YtgmpdjjoefkndaaGreatDoorHR17
import Derived.Test.YtgmpdjjoefkndaaGreatDoorHR18
import Derived.Test.YtgmpdjjoefkndaaGreatDoorHR19

namespace Go.Proofs.YtgmpdjjoefkndaaGreatDoor.XBy
open Go.Proofs.YtgmpdjjoefkndaaGreatDoor.XK Go.RowKit Go.Proofs.YtgmpdjjoefkndaaGreatDoorW.PrintWords Go.Proofs.YtgmpdjjoefkndaaGreatDoorW.PrintLast Go.Proofs.YtgmpdjjoefkndaaGreatDoorW.PrintMore
attribute [local go_sem] max2_int min2_int max_two min_two max_three min_three max_four min_four
set_option linter.unusedVariables false
set_option linter.unusedSimpArgs false
theorem info5:(Tryz.prog.info? 5).map (fun i=>(i.zero,i.size,i.bytes))=some (some (.int .u8 0),1,1):=by kernel_rfl
theorem eqA37 (d:Nat) (w:World) (x0 y0:Int) (x1 y1:Int) (x2 y2:Int) (x3 y3:Int):
  (Op.equalIn (d+2) 37 (.agg #[.int .u8 x0,.int .u8 x1,.int .u8 x2,.int .u8 x3]) (.agg #[.int .u8 y0,.int .u8 y1,.int .u8 y2,.int .u8 y3])).run Tryz.prog w= .ok (x0==y0 && (x1==y1 && (x2==y2 && (x3==y3)))) w:=by
 refine eqA_of Tryz.underlying37 (by kernel_rfl) ?_
 refine eqf_cons (by rfl) (by go_simp;rfl) (by go_simp;rfl) (by go_simp) ?_
 refine eqf_cons (by rfl) (by go_simp;rfl) (by go_simp;rfl) (by go_simp) ?_
 refine eqf_cons (by rfl) (by go_simp;rfl) (by go_simp;rfl) (by go_simp) ?_
 exact eqf_last (by rfl) (by go_simp;rfl) (by go_simp;rfl) (by go_simp)
theorem eqA39 (d:Nat) (w:World) (x0 y0:Int) (x1 y1:Int) (x2 y2:Int) (x3 y3:Int) (x4 y4:ByteArray):
  (Op.equalIn (d+3) 39 (.agg #[.int .u8 x0,.int .u8 x1,.int .u8 x2,.int .u8 x3,.string x4]) (.agg #[.int .u8 y0,.int .u8 y1,.int .u8 y2,.int .u8 y3,.string y4])).run Tryz.prog w= .ok ((x0==y0 && (x1==y1 && (x2==y2 && (x3==y3)))) && (x4.toList==y4.toList)) w:=by
 refine eqA_of Tryz.underlying39 (by kernel_rfl) ?_
 refine eqf_cons (by rfl) (by go_simp) (by go_simp) (eqA37 (d+0) w _ _ _ _ _ _ _ _) ?_
 exact eqf_last (by rfl) (by go_simp;rfl) (by go_simp;rfl) (by go_simp)
theorem eqA41 (d:Nat) (w:World) (x0 y0:Int) (x1 y1:Int) (x2 y2:Int) (x3 y3:Int) (x4 y4:ByteArray) (x5 y5:Int):
  (Op.equalIn (d+4) 41 (.agg #[.int .u8 x0,.int .u8 x1,.int .u8 x2,.int .u8 x3,.string x4,.int .i64 x5]) (.agg #[.int .u8 y0,.int .u8 y1,.int .u8 y2,.int .u8 y3,.string y4,.int .i64 y5])).run Tryz.prog w= .ok (((x0==y0 && (x1==y1 && (x2==y2 && (x3==y3)))) && (x4.toList==y4.toList)) && (x5==y5)) w:=by
 refine eqA_of Tryz.underlying41 (by kernel_rfl) ?_
 refine eqf_cons (by rfl) (by go_simp) (by go_simp) (eqA39 (d+0) w _ _ _ _ _ _ _ _ _ _) ?_
 exact eqf_last (by rfl) (by go_simp;rfl) (by go_simp;rfl) (by go_simp)
end Go.Proofs.YtgmpdjjoefkndaaGreatDoor.XBy

namespace Go.Proofs.YtgmpdjjoefkndaaGreatDoor.XBy
open Go.Proofs.YtgmpdjjoefkndaaGreatDoor.XK Go.RowKit Go.Proofs.YtgmpdjjoefkndaaGreatDoorW.PrintWords Go.Proofs.YtgmpdjjoefkndaaGreatDoorW.PrintLast Go.Proofs.YtgmpdjjoefkndaaGreatDoorW.PrintMore
attribute [local go_sem] max2_int min2_int max_two min_two max_three min_three max_four min_four
set_option linter.unusedVariables false
set_option linter.unusedSimpArgs false
attribute [local go_sem high] eqA41
def sallyportbase_Bytes.f (l0:List Int):Option (List Int):=(some (([]:List Int):List Int)).bind fun y101=>(if y101.length+l0.length<140737488355328 then (some (y101++l0)) else (none))
set_option maxHeartbeats 8000000 in
set_option maxRecDepth 100000 in
theorem sallyportbase_Bytes.calls (A0:Option Addr) (c0:Nat) (l0:List Int) (r:List Int) (w:World) (hr0:Kd.C (Kd.int .u8) w A0 l0.length l0) (hc0:l0.length≤c0) (h:sallyportbase_Bytes.f l0=some r):
  Calls Tryz.prog 9 #[.slice A0 l0.length c0] w fun e w'=> ∃ v0_:Value,e= .returned (v0_)∧Kd.R (Kd.int .u8) 5 w' w.heap.size (fun _=>True) v0_ r∧Below w.heap.size w w':=by
 have HR0:=Aside0.mk hr0
 have HC0:=Aside0.mk hc0
 clear hr0 hc0
 have HB:=Aside0.mk (Below.refl w.heap.size w)
 have H:((some (([]:List Int):List Int)).bind fun y101=>(if y101.length+l0.length<140737488355328 then (some (y101++l0)) else (none)))=some r:=h
 clear h
 obtain ⟨y101,hy101⟩: ∃ y_:List Int,y_=(([]:List Int)):=⟨_,rfl⟩
 replace H:(if y101.length+l0.length<140737488355328 then (some (y101++l0)) else (none))=some r:=by first|(rw [hy101];with_reducible exact H)|(have H2_:=(Option.bind_some _ _).symm.trans H;rw [hy101];with_reducible exact H2_)|(have H2_:=(Option.bind_some _ _).symm.trans H;with_reducible exact H2_)|with_reducible exact H|(rw [hy101];exact H)|exact H
 have Ny101:=Aside0.mk hy101
 clear hy101
 by_cases c2:y101.length+l0.length<140737488355328
 ·rw [if_pos c2] at H
  have LMc2:=Aside0.mk c2
  clear c2
  obtain ⟨y104,hy104⟩: ∃ y_:List Int,y_=(y101++l0):=⟨_,rfl⟩
  replace H:(some y104)=some r:=by first|(rw [hy104];with_reducible exact H)|(have H2_:=(Option.bind_some _ _).symm.trans H;rw [hy104];with_reducible exact H2_)|(have H2_:=(Option.bind_some _ _).symm.trans H;with_reducible exact H2_)|with_reducible exact H|(rw [hy104];exact H)|exact H
  have Ny104:=Aside0.mk hy104
  clear hy104
  obtain rfl:=Option.some.inj H
  go_enter Tryz.func9,Tryz.ntmps9
  go_wp2_with (first|((with_reducible refine gate_dst (N:=3) rfl ?_);refine Kd.R_lit (Kd.int .u8) _ 5 ?hg (N:=3) ?hd (xs:=([]:List Int)) (inner:=[]) (ok:=fun _=>True) (okp:=fun _=>True) ?hr ?hp (fun _ hk=>hk) trivial (Below.refl _ _) (Nat.le_refl _) (by simp) ?_;(case hd=>rfl);(case hg=>rfl);(case hr=>first|(go_simp;done)|(go_simp;rfl));(case hp=>exact (Reps.none _ _));intro v102 w3 ho4 hb hg_ hnew_;clear hg_ hnew_;(first|rw [← Ny101.out] at ho4|(simp only [Int.reduceToNat] at ho4;rw [← Ny101.out] at ho4));have HO103:=Aside0.mk (Kd.R_lower ho4 (below_size (by repeat (with_reducible first|exact HB.out|apply below_alloc|apply pw_below_drewN|apply below_drew1))));replace HB:=Aside0.mk (below_step (by repeat (with_reducible first|exact HB.out|apply below_alloc|apply pw_below_drewN|apply below_drew1)) hb);clear hb ho4)|((with_reducible refine gate_builtin (b:= .append) (xs:= #[.tmp 3,.tmp 4]) rfl ?_);at_builtin;refine Kd.R_append_rows (Kd.int .u8) (w0:=w) w.heap.size rfl (.tmp 3) (.tmp 4) 22 5 (.int .u8 0) 1 rfl Tryz.underlying22 info5 rfl (by decide) (by omega) v102 y101 l0 _ _ _ (fun _=>True) (fun _=>False) rfl rfl ?aO ?aR (fun _ _ h=>h) (fun _ h=>h.elim) ?aF ?aB ?aS ?aL ?_;(case aR=>repeat (first|exact (Kd.C_below HR0.out HB.out)|(with_reducible refine Kd.C_alloc ?_ _)|(with_reducible refine Kd.C_drewN ?_ _)|(with_reducible refine Kd.C_drew ?_)));(case aB=>exact (by repeat (with_reducible first|exact HB.out|apply below_alloc|apply pw_below_drewN|apply below_drew1)));(case aF=>exact (fun _ _=>trivial));(case aO=>exact (by (with_reducible repeat (first|apply Kd.R_alloc|apply Kd.R_drewN|apply Kd.R_drew));exact HO103.out));(case aS=>exact (below_size (by repeat (with_reducible first|exact HB.out|apply below_alloc|apply pw_below_drewN|apply below_drew1))));(case aL=>have:=LMc2.out;omega);intro v105 w5 ho hb hg hat;rw [← Ny104.out] at ho;have n0_:=Aside0.mk (hb);have n1_:=Aside0.mk (ho);clear HB;clear HO103;have HB:=n0_;have HO106:=n1_;clear n0_ n1_;clear ho hb hg hat))
  go_ret
  exact ⟨_,rfl,by (with_reducible repeat (first|apply Kd.R_alloc|apply Kd.R_drewN|apply Kd.R_drew));exact HO106.out,by repeat (with_reducible first|exact HB.out|apply below_alloc|apply pw_below_drewN|apply below_drew1)⟩
 ·rw [if_neg c2] at H
  exact absurd H (by simp)
end Go.Proofs.YtgmpdjjoefkndaaGreatDoor.XBy

namespace Go.Proofs.YtgmpdjjoefkndaaGreatDoor.XBy
open Go.Proofs.YtgmpdjjoefkndaaGreatDoor.XK
open Go.RowKit Go.Proofs.YtgmpdjjoefkndaaGreatDoorW.PrintWords Go.Proofs.YtgmpdjjoefkndaaGreatDoorW.PrintLast Go.Proofs.YtgmpdjjoefkndaaGreatDoorW.PrintMore
attribute [local go_sem] max2_int min2_int max_two min_two max_three min_three max_four min_four
set_option linter.unusedVariables false
set_option linter.unusedSimpArgs false
end Go.Proofs.YtgmpdjjoefkndaaGreatDoor.XBy

namespace Go.Proofs.YtgmpdjjoefkndaaGreatDoor.Hd
open Go.Lib

theorem endR_inr {b:Bs} {n:Nat} (h:endR b= .inr n):headN (b.take 8192)=some n:=by
 unfold endR at h
 split at h
 ·rename_i m hm
  injection h with h
  rw [hm,h]
 ·split at h<;>cases h
end Go.Proofs.YtgmpdjjoefkndaaGreatDoor.Hd

namespace Go.Proofs.YtgmpdjjoefkndaaGreatDoor.E
open Go.RowKit Go.Proofs.YtgmpdjjoefkndaaGreatDoorW.PrintWords Go.Proofs.YtgmpdjjoefkndaaGreatDoorW.PrintLast
set_option linter.unusedVariables false
set_option linter.unusedSimpArgs false
theorem eqA_str (l0 l1 l2 l3:ByteArray) (W:World):(Op.equalIn 9999 28 (.agg #[.string l0,.string l1,.string l2,.string l3]) (.agg #[.string l0,.string l1,.string l2,.string l3])).run Tryz.prog W= .ok true W:=by
 obtain ⟨i,hi⟩: ∃ i,Tryz.prog.info? 9=some i:=Option.isSome_iff_exists.1 (by kernel_rfl)
 have hc:Tryz.prog.cellsOf 9=1:=by kernel_rfl
 have p0:(part 9 #[.string l0,.string l1,.string l2,.string l3] 0).run Tryz.prog W= .ok (.string l0) W:=by kernel_rfl
 have p1:(part 9 #[.string l0,.string l1,.string l2,.string l3] 1).run Tryz.prog W= .ok (.string l1) W:=by kernel_rfl
 have p2:(part 9 #[.string l0,.string l1,.string l2,.string l3] 2).run Tryz.prog W= .ok (.string l2) W:=by kernel_rfl
 have p3:(part 9 #[.string l0,.string l1,.string l2,.string l3] 3).run Tryz.prog W= .ok (.string l3) W:=by kernel_rfl
 have q: ∀ s,(Op.equalIn 9998 9 (.string s) (.string s)).run Tryz.prog W= .ok true W:=fun s=>by rw [show (9998:Nat)=9997+1 from rfl,run_equalIn_string W 9997 _ s s Tryz.underlying9];simp
 rw [show (9999:Nat)=9998+1 from rfl,run_equalIn_array (P:=Tryz.prog) W 9998 _ _ Tryz.underlying28 hi,hc]
 simp [List.range,List.range.loop,Op.eqItems,Sem.run_bind,p0,p1,p2,p3,q]
theorem eqA_int (a0 a1 a2 a3:Int) (W:World):(Op.equalIn 9999 29 (.agg #[.int .i64 a0,.int .i64 a1,.int .i64 a2,.int .i64 a3]) (.agg #[.int .i64 a0,.int .i64 a1,.int .i64 a2,.int .i64 a3])).run Tryz.prog W= .ok true W:=by
 obtain ⟨i,hi⟩: ∃ i,Tryz.prog.info? 3=some i:=Option.isSome_iff_exists.1 (by kernel_rfl)
 have hc:Tryz.prog.cellsOf 3=1:=by kernel_rfl
 have p0:(part 3 #[.int .i64 a0,.int .i64 a1,.int .i64 a2,.int .i64 a3] 0).run Tryz.prog W= .ok (.int .i64 a0) W:=by kernel_rfl
 have p1:(part 3 #[.int .i64 a0,.int .i64 a1,.int .i64 a2,.int .i64 a3] 1).run Tryz.prog W= .ok (.int .i64 a1) W:=by kernel_rfl
 have p2:(part 3 #[.int .i64 a0,.int .i64 a1,.int .i64 a2,.int .i64 a3] 2).run Tryz.prog W= .ok (.int .i64 a2) W:=by kernel_rfl
 have p3:(part 3 #[.int .i64 a0,.int .i64 a1,.int .i64 a2,.int .i64 a3] 3).run Tryz.prog W= .ok (.int .i64 a3) W:=by kernel_rfl
 have q: ∀ s,(Op.equalIn 9998 3 (.int .i64 s) (.int .i64 s)).run Tryz.prog W= .ok true W:=fun s=>by rw [show (9998:Nat)=9997+1 from rfl,run_equalIn_int W 9997 _ .i64 .i64 s s Tryz.underlying3];simp
 rw [show (9999:Nat)=9998+1 from rfl,run_equalIn_array (P:=Tryz.prog) W 9998 _ _ Tryz.underlying29 hi,hc]
 simp [List.range,List.range.loop,Op.eqItems,Sem.run_bind,p0,p1,p2,p3,q]
set_option maxRecDepth 100000 in
set_option maxHeartbeats 8000000 in
theorem is3_same (v:Value) (k:Int) (l0 l1 l2:ByteArray) (a0 a1 a2 c:Int) (w:World)
  (HO: ∀ W,Below w.heap.size w W→Calls Tryz.prog 47 #[v] W fun e w'=>e= .returned (.tuple #[.agg (bad3 k l0 l1 l2 a0 a1 a2 c),.bool true])∧Below W.heap.size W w'):
  Calls Tryz.prog 12 #[v,.agg (bad3 k l0 l1 l2 a0 a1 a2 c)] w fun e w'=>e= .returned (.bool true)∧Below w.heap.size w w':=by
 have XO:=Lib.hid HO
 clear HO
 have H1:=eqA_str l0 l1 l2 ⟨#[]⟩
 have H2:=eqA_int a0 a1 a2 0
 unfold bad3 at*
 go_enter Tryz.func12,Tryz.ntmps12
 go_wp2_with (go_at_call 47;refine (XO.out _ (below_alloc (Below.refl _ _) _)).mono ?_;rintro e w1 ⟨rfl,hb⟩;have c0:=boxCell hb 0 (.int .i64 k) rfl;have c1:=boxCell hb 1 (.string l0) rfl;have c2:=boxCell hb 2 (.string l1) rfl;have c3:=boxCell hb 3 (.string l2) rfl;have c4:=boxCell hb 4 (.string ⟨#[]⟩) rfl;have c5:=boxCell hb 5 (.int .i64 a0) rfl;have c6:=boxCell hb 6 (.int .i64 a1) rfl;have c7:=boxCell hb 7 (.int .i64 a2) rfl;have c8:=boxCell hb 8 (.int .i64 0) rfl;have c9:=boxCell hb 9 (.int .i64 c) rfl;have hlt:w.heap.size<w1.heap.size:=(by have:=hb.size;simp at this;omega);have HB:=Lib.hid (below_then (below_alloc (Below.refl w.heap.size w) _) (below_alloc (Below.refl w.heap.size w) _).size hb);clear hb)
 go_ret
 exact ⟨rfl,below_alloc HB.out _⟩
def badO:Option (List (ByteArray×Int)×Int)→Array Value
 |none=>badP [] 0
 |some (ch,c)=>badP ch c
def okO (o:Option (List (ByteArray×Int)×Int)):Prop:= ∀ ch c,o=some (ch,c)→ch≠[]∧ch.length≤3
theorem badP_some (ch:List (ByteArray×Int)) (c:Int): ∃ k l0 l1 l2 a0 a1 a2 c',badP ch c=bad3 k l0 l1 l2 a0 a1 a2 c':=by
 rcases ch with _|⟨⟨l0,a0⟩,_|⟨⟨l1,a1⟩,_|⟨⟨l2,a2⟩,r⟩⟩⟩
 ·exact ⟨_,_,_,_,_,_,_,_,rfl⟩
 ·exact ⟨_,_,_,_,_,_,_,_,rfl⟩
 ·exact ⟨_,_,_,_,_,_,_,_,rfl⟩
 ·exact ⟨_,_,_,_,_,_,_,_,rfl⟩
theorem badO_some (o:Option (List (ByteArray×Int)×Int)): ∃ k l0 l1 l2 a0 a1 a2 c',badO o=bad3 k l0 l1 l2 a0 a1 a2 c':=by
 rcases o with _|⟨ch,c⟩
 ·exact badP_some [] 0
 ·exact badP_some ch c
theorem of_o (o:Option (List (ByteArray×Int)×Int)) (ho:okO o) (v:Value) (w:World) (h:EOr o w v):
  Calls Tryz.prog 47 #[v] w fun e w'=>e= .returned (.tuple #[.agg (badO o),.bool true])∧Below w.heap.size w w':=by
 rcases o with _|⟨ch,c⟩
 ·obtain rfl:v= .nilIface:=h
  exact of_nil w
 ·obtain ⟨h1,h2⟩:=ho ch c rfl
  exact of_chain v ch c h1 h2 w h
theorem is_o (o:Option (List (ByteArray×Int)×Int)) (ho:okO o) (v:Value) (w:World) (h:EOr o w v):
  Calls Tryz.prog 12 #[v,.agg (badO o)] w fun e w'=>e= .returned (.bool true)∧Below w.heap.size w w':=by
 have HO:=fun W (hb:Below w.heap.size w W)=>of_o o ho v W (EOr.below h hb)
 obtain ⟨k,l0,l1,l2,a0,a1,a2,c,e⟩:=badO_some o
 rw [e] at HO ⊢
 exact is3_same v k l0 l1 l2 a0 a1 a2 c w HO
end Go.Proofs.YtgmpdjjoefkndaaGreatDoor.E

namespace Go.Proofs.YtgmpdjjoefkndaaGreatDoor.E
open Go.RowKit Go.Proofs.YtgmpdjjoefkndaaGreatDoorW.PrintWords Go.Proofs.YtgmpdjjoefkndaaGreatDoorW.PrintLast Go.Proofs.YtgmpdjjoefkndaaGreatDoor.XK Go.Proofs.YtgmpdjjoefkndaaGreatDoor.XA Go.Proofs.YtgmpdjjoefkndaaGreatDoor.XD Go.Proofs.YtgmpdjjoefkndaaGreatDoor.XBy
set_option linter.unusedVariables false
set_option linter.unusedSimpArgs false
theorem bytesIn_C {w:World} {A:Option Addr} {xs:List Int} {n:Nat} (hn:n=xs.length) (h:Kd.C (Kd.int .u8) w A n xs):Lib.BytesIn w A n xs:=by
 rcases Nat.eq_zero_or_pos n with h0|h0
 ·intro h1;omega
 obtain ⟨ad,rfl,hc⟩:=Kd.at_int h 0 (Int.le_refl _) (by omega)
 have hsp:=World.cell?_spot hc
 refine Lib.BytesIn.of_cells fun i hi=>?_
 obtain ⟨ad2,e2,h2⟩:=Kd.at_int h (i:Int) (by omega) (by omega)
 cases e2
 rw [Int.toNat_natCast] at h2
 exact h2
def okB (xs:List Int):Prop:= ∀ x ∈ xs,0≤x∧x<256
theorem R_capB {e base:Nat} {w:World} {ok:Nat→Prop} {A:Option Addr} {n c:Nat} {xs:List Int} (h:Kd.R (Kd.int .u8) e w base ok (.slice A n c) xs):c≤9223372036854775807:=by
 obtain ⟨_,inner,ho,_⟩:=h
 rcases ho.2 with ⟨e,_⟩|⟨g,cap,cur,e,_,_,_,hc,_⟩
 ·cases e;omega
 ·cases e;unfold maxLen at hc;omega
structure RqD where
 m:ByteArray
 x:Int
 y:Int
 z:Int
 u:Int
 nm:ByteArray
 po:Int
 pa:ByteArray
 l:List S71
 i:Int
 o:Option (List (ByteArray×Int)×Int)
def rqD:FaultT ⊕ RqT→RqD
 | .inl (a,ch,k)=>⟨⟨#[]⟩,0,0,0,0,⟨#[]⟩,0,⟨#[]⟩,[],0,some ((headS,a)::ch,k)⟩
 | .inr (m,(x,y,z,u,nm,po),pa,fs,k)=>⟨m,x,y,z,u,nm,po,pa,fs.map ofF,(k:Int),none⟩
theorem pdX_len (s:ByteArray) (a:Int) (ch:List (ByteArray×Int)) (k:Int) (h:pdX s= .inl (a,ch,k)):ch.length≤1:=by
 unfold pdX at h
 split at h
 ·cases h;simp
 ·split at h
  ·cases h;simp
  ·split at h
   ·cases h;simp
   ·split at h
    ·cases h;simp
    ·cases h
theorem target_len (m s:ByteArray) (p a:Int) (ch:List (ByteArray×Int)) (k:Int) (h:targetR m s p= .inl (a,ch,k)):ch.length≤2:=by
 unfold targetR at h
 split at h
 ·split at h
  ·rename_i hx;cases h
   have:=pdX_len _ _ _ _ hx
   rw [List.length_cons];omega
  ·cases h
 ·split at h
  ·cases h;simp
  ·unfold placeR at h
   split at h
   ·split at h
    ·rename_i hx;cases h
     have:=pdX_len _ _ _ _ hx
     rw [List.length_cons];omega
    ·cases h
   ·split at h
    ·cases h;simp
    ·cases h
theorem req_len (b:List UInt8):okO (rqD (reqR b)).o:=by
 have key: ∀ a ch k,reqR b= .inl (a,ch,k)→ch.length≤2:=by
  intro a ch k h
  unfold reqR at h
  split at h
  ·cases h;simp
  ·unfold headRq at h
   split at h
   ·split at h
    ·cases h;simp
    ·split at h
     ·cases h;simp
     ·split at h
      ·cases h;simp
      ·split at h
       ·rename_i hx;cases h
        exact target_len _ _ _ _ _ _ hx
       ·split at h
        ·cases h;simp
        ·cases h
   ·cases h;simp
 intro ch c h
 cases hr:reqR b with
 |inl x=>
  obtain ⟨a,ch',k⟩:=x
  rw [hr] at h
  cases h
  have:=key _ _ _ hr
  exact ⟨List.cons_ne_nil _ _,by rw [List.length_cons];omega⟩
 |inr x=>
  obtain ⟨m,⟨x,y,z,u,nm,po⟩,pa,fs,k⟩:=x
  rw [hr] at h
  cases h
theorem end_c (A:Option Addr) (n c:Nat) (xs:List Int) (w:World) (hS:StdW w) (hn:n=xs.length) (hr:okB xs) (hC:Kd.C (Kd.int .u8) w A n xs) (hA:A=none→c=0) (hcap:n≤c) (hc63:c≤9223372036854775807):
  Calls Tryz.prog 10 #[.slice A n c] w (EndPost (Hd.endR (Lib.bytesOf xs)) w):=
 end_any A n c xs w hS hn.symm hr (bytesIn_C hn hC) hA hcap hc63
theorem same_fields (l:List S71) (hl:l.length≤281474976710656): ∀ (m k i:Nat),i+m=l.length→m<k→sallyportbase_SameFields.l0 k l l (i:Int)=some true:=by
 intro m
 induction m with
 |zero=>
  intro k i hi hk
  obtain ⟨k,rfl⟩: ∃ j,k=j+1:=⟨k - 1,by omega⟩
  simp only [sallyportbase_SameFields.l0]
  rw [if_neg (by omega)]
 |succ m ih=>
  intro k i hi hk
  obtain ⟨k,rfl⟩: ∃ j,k=j+1:=⟨k - 1,by omega⟩
  have hw:wrap64 ((i:Int)+1)=((i+1:Nat):Int):=wrap64_nat i l.length (by omega) hl
  simp only [sallyportbase_SameFields.l0]
  rw [if_pos (by omega),if_pos (by omega),if_pos (by omega),if_neg (by simp),hw]
  exact ih k (i+1) (by omega) (by omega)
attribute [local go_sem high] XBy.eqA41 in
set_option maxRecDepth 100000 in
set_option maxHeartbeats 8000000 in
theorem same_request (d:RqD) (hl:d.l.length≤281474976710656) (A0:Option Addr) (c0:Nat) (A1:Option Addr) (c1:Nat) (w:World) (h0:Kd.C k71 w A0 d.l.length d.l) (hc0:d.l.length≤c0) (h1:Kd.C k71 w A1 d.l.length d.l) (hc1:d.l.length≤c1):
  Calls Tryz.prog 15 #[.agg #[.string d.m,.int .u8 d.x,.int .u8 d.y,.int .u8 d.z,.int .u8 d.u,.string d.nm,.int .i64 d.po,.string d.pa,.slice A0 d.l.length c0],.agg #[.string d.m,.int .u8 d.x,.int .u8 d.y,.int .u8 d.z,.int .u8 d.u,.string d.nm,.int .i64 d.po,.string d.pa,.slice A1 d.l.length c1]] w fun e w'=>e= .returned (.bool true)∧Below w.heap.size w w':=by
 have hf:sallyportbase_SameFields.f (d.l.length+1) d.l d.l=some true:=by
  unfold sallyportbase_SameFields.f
  rw [if_pos rfl]
  exact same_fields d.l hl d.l.length (d.l.length+1) 0 (by omega) (by omega)
 have HSF:=Lib.hid (fun W (hb:Below w.heap.size w W)=>(sallyportbase_SameFields.calls (d.l.length+1) A0 c0 d.l A1 c1 d.l true W (Kd.C_below h0 hb) hc0 (Kd.C_below h1 hb) hc1 hf).mono fun e w' ⟨h,q⟩=>And.intro h (show Below W.heap.size W w' from q.below))
 have HB:=fun o1 o2=>below_alloc (below_alloc (Below.refl w.heap.size w) o1) o2
 have kE:=fun (W:World) (n:Nat)=>XBy.eqA41 n W d.x d.x d.y d.y d.z d.z d.u d.u d.nm d.nm d.po d.po
 clear hl h0 hc0 h1 hc1 hf
 obtain ⟨m,x,y,z,u,nm,po,pa,l,i,o⟩:=d
 dsimp only at*
 go_enter Tryz.func15,Tryz.ntmps15
 go_wp2_with (go_at_call 30;(with_reducible refine (HSF.out _ (HB _ _)).mono ?_);rintro e w1 ⟨rfl,hb⟩;have HQ:=Lib.hid (below_then (HB _ _) (HB _ _).size hb);clear hb)
 go_ret
 exact ⟨rfl,HQ.out⟩
theorem bytes_c (A:Option Addr) (n c:Nat) (xs:List Int) (w:World) (hn:n=xs.length) (hC:Kd.C (Kd.int .u8) w A n xs) (hcap:n≤c) (hl:n≤1048576):
  Calls Tryz.prog 9 #[.slice A n c] w fun e w'=> ∃ v,e= .returned v∧Kd.R (Kd.int .u8) 5 w' w.heap.size (fun _=>True) v xs∧Below w.heap.size w w':=by
 subst hn
 exact sallyportbase_Bytes.calls A c xs xs w hC hcap (by unfold sallyportbase_Bytes.f;rw [Option.bind_some,List.length_nil,if_pos (by omega),List.nil_append])
end Go.Proofs.YtgmpdjjoefkndaaGreatDoor.E

namespace Go.Proofs.YtgmpdjjoefkndaaGreatDoor.E
open Go.RowKit Go.Proofs.YtgmpdjjoefkndaaGreatDoorW.PrintWords Go.Proofs.YtgmpdjjoefkndaaGreatDoorW.PrintLast Go.Proofs.YtgmpdjjoefkndaaGreatDoor.XK Go.Proofs.YtgmpdjjoefkndaaGreatDoor.XA Go.Proofs.YtgmpdjjoefkndaaGreatDoor.XD
set_option linter.unusedVariables false
set_option linter.unusedSimpArgs false
set_option maxRecDepth 100000 in
set_option maxHeartbeats 40000000 in
theorem rp_open (A:Option Addr) (n c:Nat) (w:World) (a k:Int) (HOP0:OpE A n c a k w):
  Calls Tryz.prog 16 #[.slice A n c] w (RpPost (.inl (a,k)) w):=by
 have HOP:=Lib.hid HOP0
 clear HOP0
 have HZ:=Lib.hid (Blk.new w rpZ 51)
 have HB:=Lib.hid (below_alloc (Below.refl w.heap.size w) (.cells rpZ 51))
 have HW:=Lib.hid hdwrong_no
 unfold rpZ rpC at*
 go_enter Tryz.func16,Tryz.ntmps16
 go_wp2_with (first|(go_at_call 48;(with_reducible refine (HOP.out _ HB.out).mono ?_);rintro e wn ⟨v,rfl,he,hb⟩;obtain ⟨t,x,rfl⟩:=he.iface;have HE:=Lib.hid he;have HZ:=Lib.hid (HZ.out.below hb);have HB:=Lib.hid (below_then HB.out HB.out.size hb);clear he hb;obtain ⟨⟨c0,c1,c2⟩,⟨f0,f1,f2⟩,s0,s1,s2⟩:=HZ.out.rpz))
 refine bodyPost_ret (v:= .tuple #[.agg #[.int .i64 0,.string ⟨#[]⟩,.slice none 0 0],.int .i64 0,_]) ?_ rfl ⟨HB.out,_,rfl,HE.out⟩
 exact rp_res _ _ _ _ _ _ _ _ _ rfl rfl rfl (show Blk _ _ rpZ _ from HZ.out)
set_option maxRecDepth 100000 in
set_option maxHeartbeats 40000000 in
theorem rp_words (A:Option Addr) (n c:Nat) (w:World) (S l S2:ByteArray) (mm:Nat) (pe:Nat) (ps:List ByteArray) (hn0:ps.length≠3) (HOP0:OpC A n c S (mm:Int) w) (HLN0:LnC S l S2 pe w) (HSP0:SnC l ps w):
  Calls Tryz.prog 16 #[.slice A n c] w (RpPost (.inl (0,80)) w):=by
 have HOP:=Lib.hid HOP0
 have HLN:=Lib.hid HLN0
 have HSP:=Lib.hid HSP0
 clear HOP0 HLN0 HSP0
 have HZ:=Lib.hid (Blk.new w rpZ 51)
 have HB:=Lib.hid (below_alloc (Below.refl w.heap.size w) (.cells rpZ 51))
 have HW:=Lib.hid hdwrong_no
 unfold rpZ rpC at*
 have hn:((ps.length:Int)==3)=false:=by rw [beq_eq_false_iff_ne];omega
 have hn2:((ps.length:Int) !=3)=true:=by unfold bne;rw [hn];rfl
 clear hn0
 go_enter Tryz.func16,Tryz.ntmps16
 go_wp2_with (first|(go_at_call 48;(with_reducible refine (HOP.out _ HB.out).mono ?_);rintro e wn ⟨R,hR,rfl,hk,hb⟩;have HRW:=Lib.hid (show w.heap.size<R from Nat.lt_of_lt_of_le (by simp) hR);have HZ:=Lib.hid (HZ.out.below hb);have HK:=Lib.hid hk;have HB:=Lib.hid (below_then HB.out HB.out.size hb);clear hk hb hR)|(go_at_call 49;(with_reducible refine (HLN.out _ R HB.out (Nat.le_of_lt HRW.out) HK.out).mono ?_);rintro e wn ⟨rfl,hk,hkp,hb⟩;have HZ:=Lib.hid (HZ.out.keptR hkp (Nat.ne_of_lt HRW.out));have HK:=Lib.hid hk;have HB:=Lib.hid hb;clear hk hkp hb)|(go_at_call 63;(with_reducible refine (HSP.out _ HB.out).mono ?_);rintro e wn ⟨PB,cp,hPB,rfl,hq,hb⟩;have HZ:=Lib.hid (HZ.out.below hb);have HK:=Lib.hid (HK.out.below hb);have HB:=Lib.hid (below_then HB.out HB.out.size hb);clear hq hb)|(go_at_call 45;(with_reducible refine (HW.out _ _ _).mono ?_);rintro e wn ⟨v,rfl,he,hb⟩;have HE:=Lib.hid he;have HZ:=Lib.hid (HZ.out.below hb);have HB:=Lib.hid (below_then HB.out HB.out.size hb);clear he hb;obtain ⟨⟨c0,c1,c2⟩,⟨f0,f1,f2⟩,s0,s1,s2⟩:=HZ.out.rpz))
 refine bodyPost_ret (v:= .tuple #[.agg #[.int .i64 0,.string ⟨#[]⟩,.slice none 0 0],.int .i64 0,_]) ?_ rfl ⟨HB.out,_,rfl,HE.out⟩
 exact rp_res _ _ _ _ _ _ _ _ _ rfl rfl rfl (show Blk _ _ rpZ _ from HZ.out)
set_option maxRecDepth 100000 in
set_option maxHeartbeats 40000000 in
theorem rp_broken (A:Option Addr) (n c:Nat) (w:World) (S l S2:ByteArray) (mm:Nat) (pe:Nat) (p0 p1 p2:ByteArray) (HOP0:OpC A n c S (mm:Int) w) (HLN0:LnC S l S2 pe w) (HSP0:SnC l [p0,p1,p2] w) (HBK0:BkC l true):
  Calls Tryz.prog 16 #[.slice A n c] w (RpPost (.inl (0,80)) w):=by
 have HOP:=Lib.hid HOP0
 have HLN:=Lib.hid HLN0
 have HSP:=Lib.hid HSP0
 have HBK:=Lib.hid HBK0
 clear HOP0 HLN0 HSP0 HBK0
 have HZ:=Lib.hid (Blk.new w rpZ 51)
 have HB:=Lib.hid (below_alloc (Below.refl w.heap.size w) (.cells rpZ 51))
 have HW:=Lib.hid hdwrong_no
 unfold rpZ rpC at*
 go_enter Tryz.func16,Tryz.ntmps16
 go_wp2_with (first|(go_at_call 48;(with_reducible refine (HOP.out _ HB.out).mono ?_);rintro e wn ⟨R,hR,rfl,hk,hb⟩;have HRW:=Lib.hid (show w.heap.size<R from Nat.lt_of_lt_of_le (by simp) hR);have HZ:=Lib.hid (HZ.out.below hb);have HK:=Lib.hid hk;have HB:=Lib.hid (below_then HB.out HB.out.size hb);clear hk hb hR)|(go_at_call 49;(with_reducible refine (HLN.out _ R HB.out (Nat.le_of_lt HRW.out) HK.out).mono ?_);rintro e wn ⟨rfl,hk,hkp,hb⟩;have HZ:=Lib.hid (HZ.out.keptR hkp (Nat.ne_of_lt HRW.out));have HK:=Lib.hid hk;have HB:=Lib.hid hb;clear hk hkp hb)|(go_at_call 63;(with_reducible refine (HSP.out _ HB.out).mono ?_);rintro e wn ⟨PB,cp,hPB,rfl,hq,hb⟩;have HRQ:=Lib.hid (Nat.lt_of_lt_of_le HK.out.lt hPB);clear hPB;have HQ:=Lib.hid (hq rfl);have HZ:=Lib.hid (HZ.out.below hb);have HK:=Lib.hid (HK.out.below hb);have HB:=Lib.hid (below_then HB.out HB.out.size hb);clear hq hb;obtain ⟨q0,q1,q2⟩:=HQ.out.words3)|(go_at_call 51;(with_reducible refine (HBK.out _).mono ?_);rintro e wn ⟨rfl,hb⟩;have HQ:=Lib.hid (HQ.out.below hb);have HZ:=Lib.hid (HZ.out.below hb);have HK:=Lib.hid (HK.out.below hb);have HB:=Lib.hid (below_then HB.out HB.out.size hb);clear q0 q1 q2 hb;obtain ⟨q0,q1,q2⟩:=HQ.out.words3)|(go_at_call 45;(with_reducible refine (HW.out _ _ _).mono ?_);rintro e wn ⟨v,rfl,he,hb⟩;have HE:=Lib.hid he;have HZ:=Lib.hid (HZ.out.below hb);have HB:=Lib.hid (below_then HB.out HB.out.size hb);clear he hb;obtain ⟨⟨c0,c1,c2⟩,⟨f0,f1,f2⟩,s0,s1,s2⟩:=HZ.out.rpz))
 refine bodyPost_ret (v:= .tuple #[.agg #[.int .i64 0,.string ⟨#[]⟩,.slice none 0 0],.int .i64 0,_]) ?_ rfl ⟨HB.out,_,rfl,HE.out⟩
 exact rp_res _ _ _ _ _ _ _ _ _ rfl rfl rfl (show Blk _ _ rpZ _ from HZ.out)
set_option maxRecDepth 100000 in
set_option maxHeartbeats 40000000 in
theorem rp_version (A:Option Addr) (n c:Nat) (w:World) (S l S2:ByteArray) (mm:Nat) (pe:Nat) (p0 p1 p2:ByteArray) (HOP0:OpC A n c S (mm:Int) w) (HLN0:LnC S l S2 pe w) (HSP0:SnC l [p0,p1,p2] w) (HBK0:BkC l false) (HVE0:VeC p0 false):
  Calls Tryz.prog 16 #[.slice A n c] w (RpPost (.inl (0,80)) w):=by
 have HOP:=Lib.hid HOP0
 have HLN:=Lib.hid HLN0
 have HSP:=Lib.hid HSP0
 have HBK:=Lib.hid HBK0
 have HVE:=Lib.hid HVE0
 clear HOP0 HLN0 HSP0 HBK0 HVE0
 have HZ:=Lib.hid (Blk.new w rpZ 51)
 have HB:=Lib.hid (below_alloc (Below.refl w.heap.size w) (.cells rpZ 51))
 have HW:=Lib.hid hdwrong_no
 unfold rpZ rpC at*
 go_enter Tryz.func16,Tryz.ntmps16
 go_wp2_with (first|(go_at_call 48;(with_reducible refine (HOP.out _ HB.out).mono ?_);rintro e wn ⟨R,hR,rfl,hk,hb⟩;have HRW:=Lib.hid (show w.heap.size<R from Nat.lt_of_lt_of_le (by simp) hR);have HZ:=Lib.hid (HZ.out.below hb);have HK:=Lib.hid hk;have HB:=Lib.hid (below_then HB.out HB.out.size hb);clear hk hb hR)|(go_at_call 49;(with_reducible refine (HLN.out _ R HB.out (Nat.le_of_lt HRW.out) HK.out).mono ?_);rintro e wn ⟨rfl,hk,hkp,hb⟩;have HZ:=Lib.hid (HZ.out.keptR hkp (Nat.ne_of_lt HRW.out));have HK:=Lib.hid hk;have HB:=Lib.hid hb;clear hk hkp hb)|(go_at_call 63;(with_reducible refine (HSP.out _ HB.out).mono ?_);rintro e wn ⟨PB,cp,hPB,rfl,hq,hb⟩;have HRQ:=Lib.hid (Nat.lt_of_lt_of_le HK.out.lt hPB);clear hPB;have HQ:=Lib.hid (hq rfl);have HZ:=Lib.hid (HZ.out.below hb);have HK:=Lib.hid (HK.out.below hb);have HB:=Lib.hid (below_then HB.out HB.out.size hb);clear hq hb;obtain ⟨q0,q1,q2⟩:=HQ.out.words3)|(go_at_call 51;(with_reducible refine (HBK.out _).mono ?_);rintro e wn ⟨rfl,hb⟩;have HQ:=Lib.hid (HQ.out.below hb);have HZ:=Lib.hid (HZ.out.below hb);have HK:=Lib.hid (HK.out.below hb);have HB:=Lib.hid (below_then HB.out HB.out.size hb);clear q0 q1 q2 hb;obtain ⟨q0,q1,q2⟩:=HQ.out.words3)|(go_at_call 52;(with_reducible refine (HVE.out _).mono ?_);rintro e wn ⟨rfl,hb⟩;have HQ:=Lib.hid (HQ.out.below hb);have HZ:=Lib.hid (HZ.out.below hb);have HK:=Lib.hid (HK.out.below hb);have HB:=Lib.hid (below_then HB.out HB.out.size hb);clear q0 q1 q2 hb;obtain ⟨q0,q1,q2⟩:=HQ.out.words3)|(go_at_call 45;(with_reducible refine (HW.out _ _ _).mono ?_);rintro e wn ⟨v,rfl,he,hb⟩;have HE:=Lib.hid he;have HZ:=Lib.hid (HZ.out.below hb);have HB:=Lib.hid (below_then HB.out HB.out.size hb);clear he hb;obtain ⟨⟨c0,c1,c2⟩,⟨f0,f1,f2⟩,s0,s1,s2⟩:=HZ.out.rpz))
 refine bodyPost_ret (v:= .tuple #[.agg #[.int .i64 0,.string ⟨#[]⟩,.slice none 0 0],.int .i64 0,_]) ?_ rfl ⟨HB.out,_,rfl,HE.out⟩
 exact rp_res _ _ _ _ _ _ _ _ _ rfl rfl rfl (show Blk _ _ rpZ _ from HZ.out)
set_option maxRecDepth 100000 in
set_option maxHeartbeats 40000000 in
theorem rp_within (A:Option Addr) (n c:Nat) (w:World) (S l S2:ByteArray) (mm:Nat) (pe:Nat) (p0 p1 p2:ByteArray) (HOP0:OpC A n c S (mm:Int) w) (HLN0:LnC S l S2 pe w) (HSP0:SnC l [p0,p1,p2] w) (HBK0:BkC l false) (HVE0:VeC p0 true) (HWI0:WiC p2 false):
  Calls Tryz.prog 16 #[.slice A n c] w (RpPost (.inl (0,80)) w):=by
 have HOP:=Lib.hid HOP0
 have HLN:=Lib.hid HLN0
 have HSP:=Lib.hid HSP0
 have HBK:=Lib.hid HBK0
 have HVE:=Lib.hid HVE0
 have HWI:=Lib.hid HWI0
 clear HOP0 HLN0 HSP0 HBK0 HVE0 HWI0
 have HZ:=Lib.hid (Blk.new w rpZ 51)
 have HB:=Lib.hid (below_alloc (Below.refl w.heap.size w) (.cells rpZ 51))
 have HW:=Lib.hid hdwrong_no
 unfold rpZ rpC at*
 go_enter Tryz.func16,Tryz.ntmps16
 go_wp2_with (first|(go_at_call 48;(with_reducible refine (HOP.out _ HB.out).mono ?_);rintro e wn ⟨R,hR,rfl,hk,hb⟩;have HRW:=Lib.hid (show w.heap.size<R from Nat.lt_of_lt_of_le (by simp) hR);have HZ:=Lib.hid (HZ.out.below hb);have HK:=Lib.hid hk;have HB:=Lib.hid (below_then HB.out HB.out.size hb);clear hk hb hR)|(go_at_call 49;(with_reducible refine (HLN.out _ R HB.out (Nat.le_of_lt HRW.out) HK.out).mono ?_);rintro e wn ⟨rfl,hk,hkp,hb⟩;have HZ:=Lib.hid (HZ.out.keptR hkp (Nat.ne_of_lt HRW.out));have HK:=Lib.hid hk;have HB:=Lib.hid hb;clear hk hkp hb)|(go_at_call 63;(with_reducible refine (HSP.out _ HB.out).mono ?_);rintro e wn ⟨PB,cp,hPB,rfl,hq,hb⟩;have HRQ:=Lib.hid (Nat.lt_of_lt_of_le HK.out.lt hPB);clear hPB;have HQ:=Lib.hid (hq rfl);have HZ:=Lib.hid (HZ.out.below hb);have HK:=Lib.hid (HK.out.below hb);have HB:=Lib.hid (below_then HB.out HB.out.size hb);clear hq hb;obtain ⟨q0,q1,q2⟩:=HQ.out.words3)|(go_at_call 51;(with_reducible refine (HBK.out _).mono ?_);rintro e wn ⟨rfl,hb⟩;have HQ:=Lib.hid (HQ.out.below hb);have HZ:=Lib.hid (HZ.out.below hb);have HK:=Lib.hid (HK.out.below hb);have HB:=Lib.hid (below_then HB.out HB.out.size hb);clear q0 q1 q2 hb;obtain ⟨q0,q1,q2⟩:=HQ.out.words3)|(go_at_call 52;(with_reducible refine (HVE.out _).mono ?_);rintro e wn ⟨rfl,hb⟩;have HQ:=Lib.hid (HQ.out.below hb);have HZ:=Lib.hid (HZ.out.below hb);have HK:=Lib.hid (HK.out.below hb);have HB:=Lib.hid (below_then HB.out HB.out.size hb);clear q0 q1 q2 hb;obtain ⟨q0,q1,q2⟩:=HQ.out.words3)|(go_at_call 64;(with_reducible refine (HWI.out _).mono ?_);rintro e wn ⟨rfl,hb⟩;have HQ:=Lib.hid (HQ.out.below hb);have HZ:=Lib.hid (HZ.out.below hb);have HK:=Lib.hid (HK.out.below hb);have HB:=Lib.hid (below_then HB.out HB.out.size hb);clear q0 q1 q2 hb;obtain ⟨q0,q1,q2⟩:=HQ.out.words3)|(go_at_call 45;(with_reducible refine (HW.out _ _ _).mono ?_);rintro e wn ⟨v,rfl,he,hb⟩;have HE:=Lib.hid he;have HZ:=Lib.hid (HZ.out.below hb);have HB:=Lib.hid (below_then HB.out HB.out.size hb);clear he hb;obtain ⟨⟨c0,c1,c2⟩,⟨f0,f1,f2⟩,s0,s1,s2⟩:=HZ.out.rpz))
 refine bodyPost_ret (v:= .tuple #[.agg #[.int .i64 0,.string ⟨#[]⟩,.slice none 0 0],.int .i64 0,_]) ?_ rfl ⟨HB.out,_,rfl,HE.out⟩
 exact rp_res _ _ _ _ _ _ _ _ _ rfl rfl rfl (show Blk _ _ rpZ _ from HZ.out)
set_option maxRecDepth 100000 in
set_option maxHeartbeats 40000000 in
theorem rp_code (A:Option Addr) (n c:Nat) (w:World) (S l S2:ByteArray) (mm:Nat) (pe:Nat) (p0 p1 p2:ByteArray) (st:Int) (HOP0:OpC A n c S (mm:Int) w) (HLN0:LnC S l S2 pe w) (HSP0:SnC l [p0,p1,p2] w) (HBK0:BkC l false) (HVE0:VeC p0 true) (HWI0:WiC p2 true) (HCO0:CoC p1 st false w):
  Calls Tryz.prog 16 #[.slice A n c] w (RpPost (.inl (0,80)) w):=by
 have HOP:=Lib.hid HOP0
 have HLN:=Lib.hid HLN0
 have HSP:=Lib.hid HSP0
 have HBK:=Lib.hid HBK0
 have HVE:=Lib.hid HVE0
 have HWI:=Lib.hid HWI0
 have HCO:=Lib.hid HCO0
 clear HOP0 HLN0 HSP0 HBK0 HVE0 HWI0 HCO0
 have HZ:=Lib.hid (Blk.new w rpZ 51)
 have HB:=Lib.hid (below_alloc (Below.refl w.heap.size w) (.cells rpZ 51))
 have HW:=Lib.hid hdwrong_no
 unfold rpZ rpC at*
 go_enter Tryz.func16,Tryz.ntmps16
 go_wp2_with (first|(go_at_call 48;(with_reducible refine (HOP.out _ HB.out).mono ?_);rintro e wn ⟨R,hR,rfl,hk,hb⟩;have HRW:=Lib.hid (show w.heap.size<R from Nat.lt_of_lt_of_le (by simp) hR);have HZ:=Lib.hid (HZ.out.below hb);have HK:=Lib.hid hk;have HB:=Lib.hid (below_then HB.out HB.out.size hb);clear hk hb hR)|(go_at_call 49;(with_reducible refine (HLN.out _ R HB.out (Nat.le_of_lt HRW.out) HK.out).mono ?_);rintro e wn ⟨rfl,hk,hkp,hb⟩;have HZ:=Lib.hid (HZ.out.keptR hkp (Nat.ne_of_lt HRW.out));have HK:=Lib.hid hk;have HB:=Lib.hid hb;clear hk hkp hb)|(go_at_call 63;(with_reducible refine (HSP.out _ HB.out).mono ?_);rintro e wn ⟨PB,cp,hPB,rfl,hq,hb⟩;have HRQ:=Lib.hid (Nat.lt_of_lt_of_le HK.out.lt hPB);clear hPB;have HQ:=Lib.hid (hq rfl);have HZ:=Lib.hid (HZ.out.below hb);have HK:=Lib.hid (HK.out.below hb);have HB:=Lib.hid (below_then HB.out HB.out.size hb);clear hq hb;obtain ⟨q0,q1,q2⟩:=HQ.out.words3)|(go_at_call 51;(with_reducible refine (HBK.out _).mono ?_);rintro e wn ⟨rfl,hb⟩;have HQ:=Lib.hid (HQ.out.below hb);have HZ:=Lib.hid (HZ.out.below hb);have HK:=Lib.hid (HK.out.below hb);have HB:=Lib.hid (below_then HB.out HB.out.size hb);clear q0 q1 q2 hb;obtain ⟨q0,q1,q2⟩:=HQ.out.words3)|(go_at_call 52;(with_reducible refine (HVE.out _).mono ?_);rintro e wn ⟨rfl,hb⟩;have HQ:=Lib.hid (HQ.out.below hb);have HZ:=Lib.hid (HZ.out.below hb);have HK:=Lib.hid (HK.out.below hb);have HB:=Lib.hid (below_then HB.out HB.out.size hb);clear q0 q1 q2 hb;obtain ⟨q0,q1,q2⟩:=HQ.out.words3)|(go_at_call 64;(with_reducible refine (HWI.out _).mono ?_);rintro e wn ⟨rfl,hb⟩;have HQ:=Lib.hid (HQ.out.below hb);have HZ:=Lib.hid (HZ.out.below hb);have HK:=Lib.hid (HK.out.below hb);have HB:=Lib.hid (below_then HB.out HB.out.size hb);clear q0 q1 q2 hb;obtain ⟨q0,q1,q2⟩:=HQ.out.words3)|(go_at_call 65;(with_reducible refine (HCO.out _ HB.out).mono ?_);rintro e wn ⟨rfl,hb⟩;have HQ:=Lib.hid (HQ.out.below hb);have HZ:=Lib.hid (HZ.out.below hb);have HK:=Lib.hid (HK.out.below hb);have HB:=Lib.hid (below_then HB.out HB.out.size hb);clear q0 q1 q2 hb;obtain ⟨q0,q1,q2⟩:=HQ.out.words3)|(go_at_call 45;(with_reducible refine (HW.out _ _ _).mono ?_);rintro e wn ⟨v,rfl,he,hb⟩;have HE:=Lib.hid he;have HZ:=Lib.hid (HZ.out.below hb);have HB:=Lib.hid (below_then HB.out HB.out.size hb);clear he hb;obtain ⟨⟨c0,c1,c2⟩,⟨f0,f1,f2⟩,s0,s1,s2⟩:=HZ.out.rpz))
 refine bodyPost_ret (v:= .tuple #[.agg #[.int .i64 0,.string ⟨#[]⟩,.slice none 0 0],.int .i64 0,_]) ?_ rfl ⟨HB.out,_,rfl,HE.out⟩
 exact rp_res _ _ _ _ _ _ _ _ _ rfl rfl rfl (show Blk _ _ rpZ _ from HZ.out)
set_option maxRecDepth 100000 in
set_option maxHeartbeats 40000000 in
theorem rp_fields (A:Option Addr) (n c:Nat) (w:World) (S l S2:ByteArray) (mm:Nat) (pe:Nat) (p0 p1 p2:ByteArray) (st a k:Int) (HOP0:OpC A n c S (mm:Int) w) (HLN0:LnC S l S2 pe w) (HSP0:SnC l [p0,p1,p2] w) (HBK0:BkC l false) (HVE0:VeC p0 true) (HWI0:WiC p2 true) (HCO0:CoC p1 st true w) (HFL0:FlE S2 pe a k w):
  Calls Tryz.prog 16 #[.slice A n c] w (RpPost (.inl (a,k)) w):=by
 have HOP:=Lib.hid HOP0
 have HLN:=Lib.hid HLN0
 have HSP:=Lib.hid HSP0
 have HBK:=Lib.hid HBK0
 have HVE:=Lib.hid HVE0
 have HWI:=Lib.hid HWI0
 have HCO:=Lib.hid HCO0
 have HFL:=Lib.hid HFL0
 clear HOP0 HLN0 HSP0 HBK0 HVE0 HWI0 HCO0 HFL0
 have HZ:=Lib.hid (Blk.new w rpZ 51)
 have HB:=Lib.hid (below_alloc (Below.refl w.heap.size w) (.cells rpZ 51))
 have HW:=Lib.hid hdwrong_no
 unfold rpZ rpC at*
 go_enter Tryz.func16,Tryz.ntmps16
 go_wp2_with (first|(go_at_call 48;(with_reducible refine (HOP.out _ HB.out).mono ?_);rintro e wn ⟨R,hR,rfl,hk,hb⟩;have HRW:=Lib.hid (show w.heap.size<R from Nat.lt_of_lt_of_le (by simp) hR);have HZ:=Lib.hid (HZ.out.below hb);have HK:=Lib.hid hk;have HB:=Lib.hid (below_then HB.out HB.out.size hb);clear hk hb hR)|(go_at_call 49;(with_reducible refine (HLN.out _ R HB.out (Nat.le_of_lt HRW.out) HK.out).mono ?_);rintro e wn ⟨rfl,hk,hkp,hb⟩;have HZ:=Lib.hid (HZ.out.keptR hkp (Nat.ne_of_lt HRW.out));have HK:=Lib.hid hk;have HB:=Lib.hid hb;clear hk hkp hb)|(go_at_call 63;(with_reducible refine (HSP.out _ HB.out).mono ?_);rintro e wn ⟨PB,cp,hPB,rfl,hq,hb⟩;have HRQ:=Lib.hid (Nat.lt_of_lt_of_le HK.out.lt hPB);clear hPB;have HQ:=Lib.hid (hq rfl);have HZ:=Lib.hid (HZ.out.below hb);have HK:=Lib.hid (HK.out.below hb);have HB:=Lib.hid (below_then HB.out HB.out.size hb);clear hq hb;obtain ⟨q0,q1,q2⟩:=HQ.out.words3)|(go_at_call 51;(with_reducible refine (HBK.out _).mono ?_);rintro e wn ⟨rfl,hb⟩;have HQ:=Lib.hid (HQ.out.below hb);have HZ:=Lib.hid (HZ.out.below hb);have HK:=Lib.hid (HK.out.below hb);have HB:=Lib.hid (below_then HB.out HB.out.size hb);clear q0 q1 q2 hb;obtain ⟨q0,q1,q2⟩:=HQ.out.words3)|(go_at_call 52;(with_reducible refine (HVE.out _).mono ?_);rintro e wn ⟨rfl,hb⟩;have HQ:=Lib.hid (HQ.out.below hb);have HZ:=Lib.hid (HZ.out.below hb);have HK:=Lib.hid (HK.out.below hb);have HB:=Lib.hid (below_then HB.out HB.out.size hb);clear q0 q1 q2 hb;obtain ⟨q0,q1,q2⟩:=HQ.out.words3)|(go_at_call 64;(with_reducible refine (HWI.out _).mono ?_);rintro e wn ⟨rfl,hb⟩;have HQ:=Lib.hid (HQ.out.below hb);have HZ:=Lib.hid (HZ.out.below hb);have HK:=Lib.hid (HK.out.below hb);have HB:=Lib.hid (below_then HB.out HB.out.size hb);clear q0 q1 q2 hb;obtain ⟨q0,q1,q2⟩:=HQ.out.words3)|(go_at_call 65;(with_reducible refine (HCO.out _ HB.out).mono ?_);rintro e wn ⟨rfl,hb⟩;have HQ:=Lib.hid (HQ.out.below hb);have HZ:=Lib.hid (HZ.out.below hb);have HK:=Lib.hid (HK.out.below hb);have HB:=Lib.hid (below_then HB.out HB.out.size hb);clear q0 q1 q2 hb;obtain ⟨q0,q1,q2⟩:=HQ.out.words3)|(go_at_call 55;(with_reducible refine (HFL.out _ R HB.out (Nat.le_of_lt HRW.out) HK.out).mono ?_);rintro e wn ⟨v,rfl,he,hkp,hb⟩;obtain ⟨et,ex,rfl⟩:=he.iface;have HE:=Lib.hid he;clear he;have HZ:=Lib.hid (HZ.out.keptR hkp (Nat.ne_of_lt HRW.out));have HQ:=Lib.hid (HQ.out.keptR hkp (Nat.ne_of_gt HRQ.out));have HB:=Lib.hid hb;clear hkp hb q0 q1 q2;obtain ⟨⟨c0,c1,c2⟩,⟨f0,f1,f2⟩,s0,s1,s2⟩:=HZ.out.rpz))
 refine bodyPost_ret (v:= .tuple #[.agg #[.int .i64 0,.string ⟨#[]⟩,.slice none 0 0],.int .i64 0,_]) ?_ rfl ⟨HB.out,_,rfl,HE.out⟩
 exact rp_res _ _ _ _ _ _ _ _ _ rfl rfl rfl (show Blk _ _ rpZ _ from HZ.out)
set_option maxRecDepth 100000 in
set_option maxHeartbeats 40000000 in
theorem rp_whole (A:Option Addr) (n c:Nat) (w:World) (S l S2:ByteArray) (mm:Nat) (pe:Nat) (p0 p1 p2:ByteArray) (st:Int) (fs:List Fd.F) (HOP0:OpC A n c S (mm:Int) w) (HLN0:LnC S l S2 pe w) (HSP0:SnC l [p0,p1,p2] w) (HBK0:BkC l false) (HVE0:VeC p0 true) (HWI0:WiC p2 true) (HCO0:CoC p1 st true w) (HFL0:FlC S2 pe fs w):
  Calls Tryz.prog 16 #[.slice A n c] w (RpPost (.inr (st,p2,fs,mm)) w):=by
 have HOP:=Lib.hid HOP0
 have HLN:=Lib.hid HLN0
 have HSP:=Lib.hid HSP0
 have HBK:=Lib.hid HBK0
 have HVE:=Lib.hid HVE0
 have HWI:=Lib.hid HWI0
 have HCO:=Lib.hid HCO0
 have HFL:=Lib.hid HFL0
 clear HOP0 HLN0 HSP0 HBK0 HVE0 HWI0 HCO0 HFL0
 have HZ:=Lib.hid (Blk.new w rpZ 51)
 have HB:=Lib.hid (below_alloc (Below.refl w.heap.size w) (.cells rpZ 51))
 have HW:=Lib.hid hdwrong_no
 unfold rpZ rpC at*
 go_enter Tryz.func16,Tryz.ntmps16
 go_wp2_with (first|(go_at_call 48;(with_reducible refine (HOP.out _ HB.out).mono ?_);rintro e wn ⟨R,hR,rfl,hk,hb⟩;have HRW:=Lib.hid (show w.heap.size<R from Nat.lt_of_lt_of_le (by simp) hR);have HZ:=Lib.hid (HZ.out.below hb);have HK:=Lib.hid hk;have HB:=Lib.hid (below_then HB.out HB.out.size hb);clear hk hb hR)|(go_at_call 49;(with_reducible refine (HLN.out _ R HB.out (Nat.le_of_lt HRW.out) HK.out).mono ?_);rintro e wn ⟨rfl,hk,hkp,hb⟩;have HZ:=Lib.hid (HZ.out.keptR hkp (Nat.ne_of_lt HRW.out));have HK:=Lib.hid hk;have HB:=Lib.hid hb;clear hk hkp hb)|(go_at_call 63;(with_reducible refine (HSP.out _ HB.out).mono ?_);rintro e wn ⟨PB,cp,hPB,rfl,hq,hb⟩;have HRQ:=Lib.hid (Nat.lt_of_lt_of_le HK.out.lt hPB);clear hPB;have HQ:=Lib.hid (hq rfl);have HZ:=Lib.hid (HZ.out.below hb);have HK:=Lib.hid (HK.out.below hb);have HB:=Lib.hid (below_then HB.out HB.out.size hb);clear hq hb;obtain ⟨q0,q1,q2⟩:=HQ.out.words3)|(go_at_call 51;(with_reducible refine (HBK.out _).mono ?_);rintro e wn ⟨rfl,hb⟩;have HQ:=Lib.hid (HQ.out.below hb);have HZ:=Lib.hid (HZ.out.below hb);have HK:=Lib.hid (HK.out.below hb);have HB:=Lib.hid (below_then HB.out HB.out.size hb);clear q0 q1 q2 hb;obtain ⟨q0,q1,q2⟩:=HQ.out.words3)|(go_at_call 52;(with_reducible refine (HVE.out _).mono ?_);rintro e wn ⟨rfl,hb⟩;have HQ:=Lib.hid (HQ.out.below hb);have HZ:=Lib.hid (HZ.out.below hb);have HK:=Lib.hid (HK.out.below hb);have HB:=Lib.hid (below_then HB.out HB.out.size hb);clear q0 q1 q2 hb;obtain ⟨q0,q1,q2⟩:=HQ.out.words3)|(go_at_call 64;(with_reducible refine (HWI.out _).mono ?_);rintro e wn ⟨rfl,hb⟩;have HQ:=Lib.hid (HQ.out.below hb);have HZ:=Lib.hid (HZ.out.below hb);have HK:=Lib.hid (HK.out.below hb);have HB:=Lib.hid (below_then HB.out HB.out.size hb);clear q0 q1 q2 hb;obtain ⟨q0,q1,q2⟩:=HQ.out.words3)|(go_at_call 65;(with_reducible refine (HCO.out _ HB.out).mono ?_);rintro e wn ⟨rfl,hb⟩;have HQ:=Lib.hid (HQ.out.below hb);have HZ:=Lib.hid (HZ.out.below hb);have HK:=Lib.hid (HK.out.below hb);have HB:=Lib.hid (below_then HB.out HB.out.size hb);clear q0 q1 q2 hb;obtain ⟨q0,q1,q2⟩:=HQ.out.words3)|(go_at_call 55;(with_reducible refine (HFL.out _ R HB.out (Nat.le_of_lt HRW.out) HK.out).mono ?_);rintro e wn ⟨v,rfl,hrf,hkp,hb⟩;obtain ⟨fA,fc,rfl,flc,fC⟩:=Kd.R_reads hrf;clear flc fC;rw [List.length_map] at hrf;have HF:=Lib.hid hrf;clear hrf;have HWL:=Lib.hid HZ.out.lt;have HZ:=Lib.hid (HZ.out.keptR hkp (Nat.ne_of_lt HRW.out));have HQ:=Lib.hid (HQ.out.keptR hkp (Nat.ne_of_gt HRQ.out));have HB:=Lib.hid hb;clear hkp hb q0 q1 q2;obtain ⟨q0,q1,q2⟩:=HQ.out.words3;obtain ⟨⟨c0,c1,c2⟩,⟨f0,f1,f2⟩,s0,s1,s2⟩:=HZ.out.rpz))
 refine bodyPost_ret (v:= .tuple #[.agg #[.int .i64 st,.string p2,.slice fA fs.length fc],.int .i64 (mm:Int),.nilIface]) (rp_res _ _ w.heap.size st p2 (.slice fA fs.length fc) (.int .i64 (mm:Int)) .nilIface 51 rfl rfl rfl (show Blk _ _ (rpC st p2 (.slice fA fs.length fc)) _ from (((HZ.out.set 0 (.int .i64 st)).set 1 (.string p2)).set 2 (.slice fA fs.length fc)))) rfl ⟨?_,_,rfl,?_⟩
 ·exact (Below.setCell (p:=⟨w.heap.size,2,none⟩) (Below.setCell (p:=⟨w.heap.size,1,none⟩) (Below.setCell (p:=⟨w.heap.size,0,none⟩) HB.out (Nat.le_refl _) (.int .i64 st)) (Nat.le_refl _) (.string p2)) (Nat.le_refl _) (.slice fA fs.length fc))
 ·have hwl:=HWL.out
  exact Kd.R_mono (Kd.R_far (p:=⟨w.heap.size,2,none⟩) (Kd.R_far (p:=⟨w.heap.size,1,none⟩) (Kd.R_far (p:=⟨w.heap.size,0,none⟩) HF.out (fun k hk=>by show k≠w.heap.size;omega) (.int .i64 st)) (fun k hk=>by show k≠w.heap.size;omega) (.string p2)) (fun k hk=>by show k≠w.heap.size;omega) (.slice fA fs.length fc)) (fun k hk=>by omega)
theorem splitB_size (sep:ByteArray) (save:Nat): ∀ (k:Nat) (s p:ByteArray),p ∈ Lib.splitB sep save k s→p.size≤s.size
 |0,s,p,h=>by
  rw [Lib.splitB_zero] at h
  rw [List.mem_singleton.1 h];exact Nat.le_refl _
 |k+1,s,p,h=>by
  unfold Lib.splitB at h
  split at h
  ·rw [List.mem_singleton.1 h];exact Nat.le_refl _
  ·rcases List.mem_cons.1 h with rfl|h
   ·rw [ByteArray.size_extract];omega
   ·have:=splitB_size sep save k _ p h
    rw [ByteArray.size_extract] at this;omega
def headRp (S:ByteArray) (n:Nat):(Int×Int) ⊕ RpT:=
 match wordsN (cutL S) with
 |[p0,p1,p2]=>
  if Hd.broken (cutL S).data.toList then .inl (0,80) else if !verB p0 then .inl (0,80) else if !Hd.plain p2.data.toList 32 256 then .inl (0,80) else if !codeOk p1.data.toList then .inl (0,80) else
   match Hd.fieldsR 66 (cutR2 S).data.toList ((cutL S).size+2) [] with
   | .inl (a,k)=> .inl ((a:Int),(k:Int))
   | .inr fs=> .inr (atoiV p1.data.toList,p2,fs,n)
 |_=> .inl (0,80)
def repR (b:List UInt8):(Int×Int) ⊕ RpT:=match Hd.endR b with
 | .inl (a,k)=> .inl ((a:Int),(k:Int))
 | .inr n=>headRp ⟨(b.take n).toArray⟩ n
theorem headRp_no (S:ByteArray) (n:Nat) (h:(wordsN (cutL S)).length≠3):headRp S n= .inl (0,80):=by
 unfold headRp
 split
 ·rename_i e;rw [e] at h;exact absurd rfl h
 ·rfl
theorem headRp_yes (S:ByteArray) (n:Nat) (p0 p1 p2:ByteArray) (h:wordsN (cutL S)=[p0,p1,p2]):headRp S n=if Hd.broken (cutL S).data.toList then .inl (0,80) else if !verB p0 then .inl (0,80) else if !Hd.plain p2.data.toList 32 256 then .inl (0,80) else if !codeOk p1.data.toList then .inl (0,80) else
  match Hd.fieldsR 66 (cutR2 S).data.toList ((cutL S).size+2) [] with
  | .inl (a,k)=> .inl ((a:Int),(k:Int))
  | .inr fs=> .inr (atoiV p1.data.toList,p2,fs,n):=by
 unfold headRp;rw [h]
theorem reply_any (A:Option Addr) (n c:Nat) (xs:List Int) (w:World) (hS:StdW w) (hx:xs.length=n) (hr: ∀ x ∈ xs,0≤x∧x<256) (h:Lib.BytesIn w A n xs) (hA:A=none→c=0) (hcap:n≤c) (hc63:c≤9223372036854775807):
  Calls Tryz.prog 16 #[.slice A n c] w (RpPost (repR (Lib.bytesOf xs)) w):=by
 have HOP:=fun W (hb:Below w.heap.size w W)=>opened_any A n c xs W (StdW.below hS hb) hx hr (bytesIn_below h hb) hA hcap hc63
 unfold repR
 cases hR:Hd.endR (Lib.bytesOf xs) with
 |inl x=>
  obtain ⟨a,k⟩:=x
  rw [hR] at HOP
  exact rp_open A n c w a k (fun W hb=>(HOP W hb).mono fun e w' ⟨h1,v,h2,h3⟩=>⟨v,h2,h3,h1⟩)
 |inr m=>
  rw [hR] at HOP
  have hle:=Hd.endR_le hR
  dsimp only
  have hz:(⟨((Lib.bytesOf xs).take m).toArray⟩:ByteArray).size≤8192:=by show ((Lib.bytesOf xs).take m).toArray.size≤_;rw [List.size_toArray,List.length_take];omega
  have HO:OpC A n c ⟨((Lib.bytesOf xs).take m).toArray⟩ (m:Int) w:=fun W hb=>(HOP W hb).mono fun e w' ⟨h1,R,h2,h3,h4⟩=>⟨R,h2,h3,h4,h1⟩
  clear HOP
  generalize (⟨((Lib.bytesOf xs).take m).toArray⟩:ByteArray)=S at HO hz ⊢
  have HL:=line_c S hz w hS
  have hlz:=cutL_size S
  have hlr:=cutLR_size S
  have HSP:SnC (cutL S) (wordsN (cutL S)) w:=splitn_calls (cutL S) (by omega) w hS
  rcases three_words (wordsN (cutL S)) with ⟨p0,p1,p2,hp⟩|hp
  ·rw [headRp_yes S m p0 p1 p2 hp]
   have hz1:p1.size≤(cutL S).size:=splitB_size _ _ _ _ p1 (show p1 ∈ wordsN (cutL S) by rw [hp];exact List.mem_cons_of_mem _ List.mem_cons_self)
   have hz2:p2.size≤(cutL S).size:=splitB_size _ _ _ _ p2 (show p2 ∈ wordsN (cutL S) by rw [hp];exact List.mem_cons_of_mem _ (List.mem_cons_of_mem _ List.mem_cons_self))
   rw [hp] at HSP
   have HBK:BkC (cutL S) (Hd.broken (cutL S).data.toList):=fun W=>broken_any (cutL S) (by omega) W
   have HVE:VeC p0 (verB p0):=fun W=>version_any p0 W
   have HWI:WiC p2 (Hd.plain p2.data.toList 32 256):=fun W=>within_any p2 (by omega) 32 256 W
   have HCO:CoC p1 (atoiV p1.data.toList) (codeOk p1.data.toList) w:=fun W hb=>hcode_any p1 (by omega) W (StdW.below hS hb)
   have HFL:=fun W R (hb:Below w.heap.size w W) (hR:w.heap.size≤R) (hK:Blk W R (rdC (cutR2 S) (((cutL S).size+2:Nat):Int)) TRd)=>fields_any (cutR2 S) ((cutL S).size+2) R w W hS hb hR hK (by omega) (by omega)
   cases hbk:Hd.broken (cutL S).data.toList
   ·rw [hbk] at HBK
    rw [if_neg Bool.false_ne_true]
    cases hve:verB p0
    ·rw [hve] at HVE
     rw [if_pos (show (!false)=true from rfl)]
     exact rp_version A n c w S (cutL S) (cutR2 S) m _ p0 p1 p2 HO HL HSP HBK HVE
    ·rw [hve] at HVE
     rw [if_neg (show ¬ (!true)=true by decide)]
     cases hwi:Hd.plain p2.data.toList 32 256
     ·rw [hwi] at HWI
      rw [if_pos (show (!false)=true from rfl)]
      exact rp_within A n c w S (cutL S) (cutR2 S) m _ p0 p1 p2 HO HL HSP HBK HVE HWI
     ·rw [hwi] at HWI
      rw [if_neg (show ¬ (!true)=true by decide)]
      cases hco:codeOk p1.data.toList
      ·rw [hco] at HCO
       rw [if_pos (show (!false)=true from rfl)]
       exact rp_code A n c w S (cutL S) (cutR2 S) m _ p0 p1 p2 _ HO HL HSP HBK HVE HWI HCO
      ·rw [hco] at HCO
       rw [if_neg (show ¬ (!true)=true by decide)]
       cases hfl:Hd.fieldsR 66 (cutR2 S).data.toList ((cutL S).size+2) [] with
       |inl x=>
        obtain ⟨a,k⟩:=x
        rw [hfl] at HFL
        exact rp_fields A n c w S (cutL S) (cutR2 S) m _ p0 p1 p2 _ a k HO HL HSP HBK HVE HWI HCO (fun W R hb hR hK=>(HFL W R hb hR hK).mono fun e w' ⟨h1,h2,v,h3,h4⟩=>⟨v,h3,h4,h2,h1⟩)
       |inr fs=>
        rw [hfl] at HFL
        exact rp_whole A n c w S (cutL S) (cutR2 S) m _ p0 p1 p2 _ fs HO HL HSP HBK HVE HWI HCO (fun W R hb hR hK=>(HFL W R hb hR hK).mono fun e w' ⟨h1,h2,v,h3,h4⟩=>⟨v,h3,h4,h2,h1⟩)
   ·rw [hbk] at HBK
    rw [if_pos rfl]
    exact rp_broken A n c w S (cutL S) (cutR2 S) m _ p0 p1 p2 HO HL HSP HBK
  ·rw [headRp_no S m hp]
   exact rp_words A n c w S (cutL S) (cutR2 S) m _ (wordsN (cutL S)) hp HO HL HSP
end Go.Proofs.YtgmpdjjoefkndaaGreatDoor.E

namespace Go.Proofs.YtgmpdjjoefkndaaGreatDoor.E
open Go.RowKit Go.Proofs.YtgmpdjjoefkndaaGreatDoorW.PrintWords Go.Proofs.YtgmpdjjoefkndaaGreatDoorW.PrintLast Go.Proofs.YtgmpdjjoefkndaaGreatDoor.XK Go.Proofs.YtgmpdjjoefkndaaGreatDoor.XZ Go.Proofs.YtgmpdjjoefkndaaGreatDoor.XRf Go.Proofs.YtgmpdjjoefkndaaGreatDoor.XV
set_option linter.unusedVariables false
set_option linter.unusedSimpArgs false
def endV:(Nat×Nat) ⊕ Nat→Value
 | .inl (a,k)=> .tuple #[.int .i64 0,.agg (bad3 1 headS ⟨#[]⟩ ⟨#[]⟩ (a:Int) 0 0 (k:Int))]
 | .inr m=> .tuple #[.int .i64 (m:Int),.agg zX]
theorem rend_c (A:Option Addr) (n c:Nat) (xs:List Int) (W:World) (hS:StdW W) (hn:n=xs.length) (hr:okB xs) (hC:Kd.C (Kd.int .u8) W A n xs) (hcap:n≤c) (hl:n≤1048576) (r:(Nat×Nat) ⊕ Nat) (hR:Hd.endR (Lib.bytesOf xs)=r):
  Calls Tryz.prog 11 #[.slice A n c] W fun e w'=>e= .returned (endV r)∧Below W.heap.size W w':=by
 subst hn
 have h:=rend_f xs hr (by omega)
 rw [hR] at h
 cases r with
 |inl x=>
  obtain ⟨a,k⟩:=x
  exact sallyportref08_End.calls _ A c xs 0 1 headS ⟨#[]⟩ ⟨#[]⟩ ⟨#[]⟩ (a:Int) 0 0 0 (k:Int) W hC hcap hS h
 |inr m=>exact sallyportref08_End.calls _ A c xs (m:Int) 0 ⟨#[]⟩ ⟨#[]⟩ ⟨#[]⟩ ⟨#[]⟩ 0 0 0 0 0 W hC hcap hS h
theorem head_text {b:List UInt8} {m:Nat} (h:Hd.endR b= .inr m): ∃ L,b.take m=Hd.textOf L∧ ∀ l ∈ L,Hd.okLine l:=by
 obtain ⟨L,e,hok⟩:=Hd.head_lines (b.take 8192).length (b.take 8192) m (Nat.le_refl _) (Hd.endR_inr h)
 have hle:=Hd.endR_le h
 rw [List.take_take,Nat.min_eq_left hle.2.2] at e
 exact ⟨L,e,hok⟩
theorem rlines_c (S:ByteArray) (hs:S.size≤8192) (L:List (List UInt8)) (hL:S.data.toList=Hd.textOf L) (hok: ∀ l ∈ L,Hd.okLine l) (W:World):
  Calls Tryz.prog 56 #[.string S] W fun e w'=> ∃ v0_ v1_:Value,e= .returned (.tuple #[v0_,v1_])∧Kd.R Kd.string 9 w' W.heap.size (fun _=>True) v0_ (linT (Hd.offs L 0)).1∧Kd.R (Kd.int .i64) 3 w' W.heap.size (fun _=>True) v1_ (linT (Hd.offs L 0)).2∧Below W.heap.size W w':=
 sallyportref08_lines.calls (S.size+3) S _ _ W (rlines_f S hs L hL hok _ (by omega))
theorem rcut_c (s:ByteArray) (hs:s.size≤8192) (most:Nat) (hm:1≤most) (W:World):
  Calls Tryz.prog 57 #[.string s,.int .i64 (most:Int)] W fun e w'=> ∃ v0_:Value,e= .returned v0_∧Kd.R Kd.string 9 w' W.heap.size (fun _=>True) v0_ (cutN (most - 1) s.data.toList ⟨#[]⟩)∧Below W.heap.size W w':=
 sallyportref08_cut.calls (s.size+1) s most _ W (rcut_f s hs most hm _ (by omega))
theorem ralone_c (s:ByteArray) (hs:s.size≤8192) (W:World):Calls Tryz.prog 58 #[.string s] W fun e w'=>e= .returned (.bool (Hd.broken s.data.toList))∧Below W.heap.size W w':=
 (sallyportref08_alone.calls (s.size+2) s _ W (ralone_f s (by omega) _ (by omega))).mono fun e w' ⟨h,d⟩=>⟨h,d.below⟩
theorem rversion_c (s:ByteArray) (W:World):Calls Tryz.prog 59 #[.string s] W fun e w'=>e= .returned (.bool (verB s))∧Below W.heap.size W w':=
 (sallyportref08_version.calls s _ W (rversion_f s)).mono fun e w' ⟨h,d⟩=>⟨h,d.below⟩
theorem rtoken_c (s:ByteArray) (hs:s.size≤8192) (W:World):Calls Tryz.prog 60 #[.string s] W fun e w'=>e= .returned (.bool (tokB s))∧Below W.heap.size W w':=
 (sallyportref08_Token.calls (s.size+21) s _ W (rtoken_f s (by omega) _ (by omega))).mono fun e w' ⟨h,d⟩=>⟨h,d.below⟩
theorem rwhole_c (s:ByteArray) (W:World):Calls Tryz.prog 67 #[.string s,.int .i64 3] W fun e w'=>e= .returned (.tuple #[.int .i64 (wholeV s.data.toList 3).1,.bool (wholeV s.data.toList 3).2])∧Below W.heap.size W w':=refWhole s W
abbrev RefQ (d:RqD) (W:World) (e:Ending) (w':World):Prop:= ∃ v0_:Value,e= .returned (.tuple #[.agg #[.string d.m,.int .u8 d.x,.int .u8 d.y,.int .u8 d.z,.int .u8 d.u,.string d.nm,.int .i64 d.po,.string d.pa,v0_],.int .i64 d.i,.agg (badO d.o)])∧Kd.R k71 71 w' W.heap.size (fun k=>W.heap.size≤k) v0_ d.l∧Below W.heap.size W w'
theorem refQ_bad {ch:List (ByteArray×Int)} {a k:Int} {W w':World} {e:Ending} (h:e= .returned (.tuple #[.agg rqZ,.int .i64 0,.agg (badP ((headS,a)::ch) k)])∧Below W.heap.size W w'):RefQ (rqD (.inl (a,ch,k))) W e w':=⟨_,h.1,Kd.R_nil _ _ _ _ _,h.2⟩
theorem line_cut (l:List UInt8) (L:List (List UInt8)) (h:Hd.okLine l) (S:ByteArray) (hS:S.data.toList=Hd.textOf (l::L)):cutL S=⟨l.toArray⟩∧(cutR2 S).data.toList=Hd.textOf L:=by
 have e:Lib.cut S.data.toList [13,10]=(l,Hd.textOf L,true):=by rw [hS,Hd.textOf_cons];exact Hd.cut_line l _ h.2
 refine ⟨?_,?_⟩
 ·unfold cutL
  rw [e]
 ·unfold cutR2
  rw [e]
theorem conv_c (a:Addr) (n c:Nat) (xs:List Int) (hn:n=xs.length) (m:Nat) (hm:m≤n) (w:World) (hC:Kd.C (Kd.int .u8) w (some a) n xs): ∀ W,Below w.heap.size w W→(convert 22 9 (.slice (some a) m c)).run Tryz.prog W= .ok (.string ⟨((Lib.bytesOf xs).take m).toArray⟩) W:=fun W hB=>by
 rw [← strOf_take]
 exact Lib.BytesIn.convert (P:=Tryz.prog) (bytesIn_take (bytesIn_below (bytesIn_C hn hC) hB) hn.symm m hm) (by rw [List.length_take];omega) c 22 5 9 Tryz.underlying22 Tryz.underlying5 Tryz.underlying9
theorem offs_le: ∀ (L:List (List UInt8)) (p:Nat),(∀ l ∈ L,l.length≤8192)→ ∀ x ∈ Hd.offs L p,x.1.length≤8192
 |[],p,h,x,hx=>by cases hx
 |l::r,p,h,x,hx=>by
  unfold Hd.offs at hx
  rcases List.mem_cons.1 hx with rfl|hx
  ·exact h l List.mem_cons_self
  ·exact offs_le r _ (fun y hy=>h y (List.mem_cons_of_mem _ hy)) x hx
theorem text_le: ∀ (L:List (List UInt8)),∀ l ∈ L,l.length≤(Hd.textOf L).length
 |[],l,h=>by cases h
 |a::r,l,h=>by
  rw [Hd.textOf_cons,List.length_append,List.length_append]
  rcases List.mem_cons.1 h with rfl|h
  ·omega
  ·have:=text_le r l h;omega
theorem rrequest_c (A:Option Addr) (n c:Nat) (xs:List Int) (w:World) (hS:StdW w) (hn:n=xs.length) (hr:okB xs) (hC:Kd.C (Kd.int .u8) w A n xs) (hcap:n≤c) (hl:n≤1048576):
  Calls Tryz.prog 14 #[.slice A n c] w (RefQ (rqD (reqR (Lib.bytesOf xs))) w):=by
 have HEN:=fun W (hb:Below w.heap.size w W)=>rend_c A n c xs W (StdW.below hS hb) hn hr (Kd.C_below hC hb) hcap hl _ rfl
 unfold reqR
 cases hR:Hd.endR (Lib.bytesOf xs) with
 |inl x=>
  obtain ⟨a,k⟩:=x
  rw [hR] at HEN
  exact (rr_end A n c 1 headS ⟨#[]⟩ ⟨#[]⟩ (a:Int) 0 0 (k:Int) (by decide) w HEN hS).mono fun e w' h=>refQ_bad h
 |inr m=>
  rw [hR] at HEN
  have hle:=Hd.endR_le hR
  have hlx:=bytesOf_length xs
  rw [hlx,← hn] at hle
  obtain ⟨ad,rfl,-⟩:=Kd.at_int hC 0 (Int.le_refl _) (by omega)
  obtain ⟨L,hL,hok⟩:=head_text hR
  have KC:=conv_c ad n c xs hn m hle.2.1 w hC
  have hz:(⟨((Lib.bytesOf xs).take m).toArray⟩:ByteArray).size≤8192:=by show ((Lib.bytesOf xs).take m).toArray.size≤_;rw [List.size_toArray,List.length_take];omega
  have hSd:(⟨((Lib.bytesOf xs).take m).toArray⟩:ByteArray).data.toList=Hd.textOf L:=hL
  dsimp only
  generalize (⟨((Lib.bytesOf xs).take m).toArray⟩:ByteArray)=S at KC hz hSd ⊢
  have hm0:(0:Int)≤(m:Int):=by omega
  have hm1:(m:Int)≤(c:Int):=by omega
  have HLI:=fun W (_:Below w.heap.size w W)=>rlines_c S hz L hSd hok W
  have HF80:=fun W (h:StdW W)=>rfault_c 0 80 W h
  have HF81:=fun W (h:StdW W)=>rfault_c 0 81 W h
  cases L with
  |nil=>
   have hno:(wordsB (cutL S)).length≠3:=by
    have e:cutL S=⟨#[]⟩:=by
     have e:Lib.cut S.data.toList [13,10]=([],[],true):=by rw [hSd];exact Hd.cut_end
     unfold cutL
     rw [e]
    have:=congrArg List.length (words_data (cutL S))
    rw [List.length_map,e] at this
    rw [e,this];decide
   rw [headRq_no S m hno]
   exact (rr_nil ad n c m hm0 hm1 S _ _ w HEN KC HLI rfl HF80 hS).mono fun e w' h=>refQ_bad (ch:=[]) h
  |cons l0 Lr=>
   have hok0:=hok l0 List.mem_cons_self
   obtain ⟨hcl,hcr⟩:=line_cut l0 Lr hok0 S hSd
   have hlen: ∀ l ∈ l0::Lr,l.length≤8192:=fun l h=>by have:=text_le _ l h;rw [← hSd,len_size] at this;omega
   have hz0:(⟨l0.toArray⟩:ByteArray).size≤8192:=by show l0.toArray.size≤_;rw [List.size_toArray];exact hlen l0 List.mem_cons_self
   have hcz:(⟨l0.toArray⟩:ByteArray).size=l0.length:=List.size_toArray ..
   have HCU:=fun W=>rcut_c ⟨l0.toArray⟩ hz0 99 (by decide) W
   have e99:=cut99 ⟨l0.toArray⟩
   have hne:(((linT (Hd.offs (l0::Lr) 0)).1.length:Int)==0)=false:=by rw [beq_eq_false_iff_ne];unfold linT Hd.offs;rw [List.map_cons,List.length_cons];omega
   have hpos:(0:Int)<((linT (Hd.offs (l0::Lr) 0)).1.length:Int):=by unfold linT Hd.offs;rw [List.map_cons,List.length_cons];omega
   have hl00:rdOf ByteArray.empty (linT (Hd.offs (l0::Lr) 0)).1 0=⟨l0.toArray⟩:=rfl
   rcases three_words (wordsB (cutL S)) with ⟨p0,p1,p2,hp⟩|hp
   ·rw [headRq_yes S m p0 p1 p2 hp]
    rw [hcl] at hp ⊢
    have hz0:=words_size ⟨l0.toArray⟩ p0 (by rw [hp];exact List.mem_cons_self)
    have hz1:=words_size ⟨l0.toArray⟩ p1 (by rw [hp];exact List.mem_cons_of_mem _ List.mem_cons_self)
    have e3:cutN 98 (⟨l0.toArray⟩:ByteArray).data.toList ⟨#[]⟩=[p0,p1,p2]:=by
     rcases e99 with e|⟨e,-⟩
     ·rw [e,hp]
     ·rw [hp] at e;exact absurd rfl e
    have HCU: ∀ W,Calls Tryz.prog 57 #[.string ⟨l0.toArray⟩,.int .i64 99] W fun e w'=> ∃ v0_:Value,e= .returned v0_∧Kd.R Kd.string 9 w' W.heap.size (fun _=>True) v0_ [p0,p1,p2]∧Below W.heap.size W w':=fun W=>by rw [← e3];exact HCU W
    have HAL:=fun W=>ralone_c ⟨l0.toArray⟩ (by omega) W
    have HVE:=fun W=>rversion_c p2 W
    have HTK:=fun W=>rtoken_c p0 (by omega) W
    cases hbk:Hd.broken (⟨l0.toArray⟩:ByteArray).data.toList
    ·rw [hbk] at HAL
     rw [if_neg Bool.false_ne_true]
     cases hve:verB p2
     ·rw [hve] at HVE
      rw [if_pos (show (!false)=true from rfl)]
      exact (rr_ve ad n c m hm0 hm1 S _ _ w HEN KC HLI hne hpos _ hl00 p0 p1 p2 HCU HAL HVE HF80 hS).mono fun e w' h=>refQ_bad (ch:=[]) h
     ·rw [hve] at HVE
      rw [if_neg (show ¬ (!true)=true by decide)]
      cases htk:tokB p0
      ·rw [htk] at HTK
       rw [if_pos (show (!false)=true from rfl)]
       exact (rr_tk ad n c m hm0 hm1 S _ _ w HEN KC HLI hne hpos _ hl00 p0 p1 p2 HCU HAL HVE HTK HF81 hS).mono fun e w' h=>refQ_bad (ch:=[]) h
      ·rw [htk] at HTK
       rw [if_neg (show ¬ (!true)=true by decide)]
       have HTG:=fun W (h:StdW W)=>rtarget_any p0 p1 ((p0.size:Int)+1) (by omega) (by omega) (by omega) W h
       cases htg:targetR p0 p1 ((p0.size:Int)+1) with
       |inl x=>
        obtain ⟨a,ch,k⟩:=x
        rw [htg] at HTG
        have hch:=target_len p0 p1 _ a ch k htg
        obtain ⟨q,l0',l1',l2',a0',a1',a2',c',eb⟩:=badP_some ((headS,a)::ch) k
        have hq:q>0:=by
         rcases ch with _|⟨⟨x1,y1⟩,_|⟨⟨x2,y2⟩,r⟩⟩<;>(unfold badP bad3 at eb;injection eb with eb;injection eb with eb _;injection eb with _ eb;omega)
        have HTG: ∀ W,StdW W→Calls Tryz.prog 61 #[.string p0,.string p1,.int .i64 ((p0.size:Int)+1)] W fun e w'=>e= .returned (.tuple #[.agg zD6,.string ⟨#[]⟩,.agg (bad3 q l0' l1' l2' a0' a1' a2' c')])∧Below W.heap.size W w':=fun W h=>(HTG W h).mono fun e w' ⟨hb,he⟩=>⟨by rw [← eb];exact he,hb⟩
        exact (rr_tg ad n c m hm0 hm1 S _ _ w HEN KC HLI hne hpos _ hl00 p0 p1 p2 HCU HAL HVE HTK q l0' l1' l2' a0' a1' a2' c' hq (by omega) HTG hS).mono fun e w' h=>refQ_bad ⟨by rw [eb];exact h.1,h.2⟩
       |inr x=>
        obtain ⟨⟨tx,ty,tz,tu,tn,tp⟩,tq⟩:=x
        rw [htg] at HTG
        have HTG: ∀ W,StdW W→Calls Tryz.prog 61 #[.string p0,.string p1,.int .i64 ((p0.size:Int)+1)] W fun e w'=>e= .returned (.tuple #[.agg (dC tx ty tz tu tn tp),.string tq,.agg zX])∧Below W.heap.size W w':=fun W h=>(HTG W h).mono fun e w' ⟨hb,he⟩=>⟨he,hb⟩
        dsimp only
        have hG:fieldsG (Hd.offs Lr (0+l0.length+2)) []=Hd.fieldsR 66 (cutR2 S).data.toList ((⟨l0.toArray⟩:ByteArray).size+2) []:=by
         rw [fieldsG_offs,hcr,hcz,Hd.fieldsR_text Lr 66 _ [] (fun l h=>hok l (List.mem_cons_of_mem _ h)) (by decide) (by decide),Nat.zero_add]
        have HFL:=fun W B0 d0 B1 d1 (h:StdW W) h0 hd0 h1 hd1=>rfields_c (Hd.offs Lr (0+l0.length+2)) (offs_le Lr _ (fun l h=>hlen l (List.mem_cons_of_mem _ h))) _ hG W B0 d0 B1 d1 h h0 hd0 h1 hd1
        cases hfl:Hd.fieldsR 66 (cutR2 S).data.toList ((⟨l0.toArray⟩:ByteArray).size+2) [] with
        |inl x=>
         obtain ⟨a,k⟩:=x
         rw [hfl] at HFL
         exact (rr_fl ad n c m hm0 hm1 S _ _ w HEN KC HLI hne hpos _ hl00 p0 p1 p2 HCU HAL HVE HTK _ _ 0 _ rfl rfl tx ty tz tu tn tp tq (by omega) HTG 1 headS ⟨#[]⟩ ⟨#[]⟩ (a:Int) 0 0 (k:Int) (by decide) HFL hS).mono fun e w' h=>refQ_bad (ch:=[]) h
        |inr fs=>
         rw [hfl] at HFL
         exact (rr_ok ad n c m hm0 hm1 S _ _ w HEN KC HLI hne hpos _ hl00 p0 p1 p2 HCU HAL HVE HTK _ _ 0 _ rfl rfl tx ty tz tu tn tp tq (by omega) HTG HFL hS).mono fun e w' ⟨v0,h1,h2,h3⟩=>⟨v0,h1,h2,h3⟩
    ·rw [hbk] at HAL
     rw [if_pos rfl]
     exact (rr_bk ad n c m hm0 hm1 S _ _ w HEN KC HLI hne hpos _ hl00 p0 p1 p2 HCU HAL HF80 hS).mono fun e w' h=>refQ_bad (ch:=[]) h
   ·rw [headRq_no S m hp]
    rw [hcl] at hp
    have e3:((cutN 98 (⟨l0.toArray⟩:ByteArray).data.toList ⟨#[]⟩).length:Int)≠3:=by
     rcases e99 with e|⟨-,e⟩
     ·rw [e];omega
     ·omega
    exact (rr_len ad n c m hm0 hm1 S _ _ w HEN KC HLI hne hpos _ hl00 _ HCU (by rw [beq_eq_false_iff_ne];exact e3) HF80 hS).mono fun e w' h=>refQ_bad (ch:=[]) h
structure RpD where
 st:Int
 re:ByteArray
 l:List S71
 i:Int
 o:Option (List (ByteArray×Int)×Int)
def rpD:(Int×Int) ⊕ RpT→RpD
 | .inl (a,k)=>⟨0,⟨#[]⟩,[],0,some ([(headS,a)],k)⟩
 | .inr (st,re,fs,k)=>⟨st,re,fs.map ofF,(k:Int),none⟩
abbrev RpG (d:RpD) (W:World) (e:Ending) (w':World):Prop:= ∃ v0_ v:Value,e= .returned (.tuple #[.agg #[.int .i64 d.st,.string d.re,v0_],.int .i64 d.i,v])∧Kd.R k71 71 w' W.heap.size (fun k=>W.heap.size≤k) v0_ d.l∧EOr d.o w' v∧Below W.heap.size W w'
theorem reply_c (A:Option Addr) (n c:Nat) (xs:List Int) (w:World) (hS:StdW w) (hn:n=xs.length) (hr:okB xs) (hC:Kd.C (Kd.int .u8) w A n xs) (hA:A=none→c=0) (hcap:n≤c) (hc63:c≤9223372036854775807):
  Calls Tryz.prog 16 #[.slice A n c] w (RpG (rpD (repR (Lib.bytesOf xs))) w):=by
 refine (reply_any A n c xs w hS hn.symm hr (bytesIn_C hn hC) hA hcap hc63).mono ?_
 generalize repR (Lib.bytesOf xs)=r
 rintro e w' ⟨hb,h⟩
 rcases r with ⟨a,k⟩|⟨st,re,fs,k⟩
 ·obtain ⟨v,rfl,he⟩:=h
  exact ⟨_,v,rfl,Kd.R_nil _ _ _ _ _,he,hb⟩
 ·obtain ⟨v,rfl,hf⟩:=h
  exact ⟨v,.nilIface,rfl,hf,rfl,hb⟩
theorem rep_ok (b:List UInt8):okO (rpD (repR b)).o:=by
 intro ch c h
 rcases hr:repR b with ⟨a,k⟩|⟨st,re,fs,k⟩
 ·rw [hr] at h
  cases h
  exact ⟨List.cons_ne_nil _ _,by simp⟩
 ·rw [hr] at h
  cases h
theorem code_whole (l:List UInt8):codeOk l=((wholeV l 3).2 && (decide (100≤(wholeV l 3).1) && decide ((wholeV l 3).1≤599)))∧(codeOk l=true→atoiV l=(wholeV l 3).1):=by
 obtain ⟨n1,n2⟩:=num_whole l 3 599 (by decide) (by decide) (by decide)
 have n1:numOk l 599=_:=n1
 have n2:numOk l 599=true→_:=n2
 have e:codeOk l=(numOk l 599 && decide (100≤atoiV l)):=by
  unfold codeOk numOk atoiV
  cases Lib.atoiAll l with
  |ok v=>
   dsimp only
   by_cases h1:100≤v
   ·rw [decide_eq_true h1,decide_eq_true (show 0≤v by omega),Bool.true_and,Bool.and_true]
   ·rw [decide_eq_false h1,Bool.false_and,Bool.and_false]
  |_=>rfl
 rw [e]
 cases hn:numOk l 599
 ·refine ⟨?_,fun h=>by cases h⟩
  rw [hn] at n1
  have n1:false=((wholeV l 3).2 && decide ((wholeV l 3).1≤599)):=n1
  rw [Bool.false_and]
  cases h1:(wholeV l 3).2
  ·rfl
  ·rw [h1,Bool.true_and] at n1
   rw [← n1,Bool.and_false];rfl
 ·have h2:=n2 hn
  rw [hn] at n1
  have n1:true=((wholeV l 3).2 && decide ((wholeV l 3).1≤599)):=n1
  have n1:=n1.symm
  rw [Bool.and_eq_true] at n1
  rw [h2,n1.1,n1.2,Bool.true_and,Bool.true_and,Bool.and_true]
  exact ⟨rfl,fun _=>rfl⟩
abbrev RqG2 (d:RqD) (W:World) (e:Ending) (w':World):Prop:= ∃ v0_ v:Value,e= .returned (.tuple #[.agg #[.string d.m,.int .u8 d.x,.int .u8 d.y,.int .u8 d.z,.int .u8 d.u,.string d.nm,.int .i64 d.po,.string d.pa,v0_],.int .i64 d.i,v])∧Kd.R k71 71 w' W.heap.size (fun k=>W.heap.size≤k) v0_ d.l∧EOr d.o w' v∧Below W.heap.size W w'
theorem request_c2 (A:Option Addr) (n c:Nat) (xs:List Int) (w:World) (hS:StdE w) (hn:n=xs.length) (hr:okB xs) (hC:Kd.C (Kd.int .u8) w A n xs) (hA:A=none→c=0) (hcap:n≤c) (hc63:c≤9223372036854775807):
  Calls Tryz.prog 13 #[.slice A n c] w (RqG2 (rqD (reqR (Lib.bytesOf xs))) w):=by
 refine (request_any A n c xs w hS hn.symm hr (bytesIn_C hn hC) hA hcap hc63).mono ?_
 generalize reqR (Lib.bytesOf xs)=r
 rintro e w' ⟨hb,h⟩
 rcases r with ⟨a,ch,k⟩|⟨m,⟨x,y,z,u,nm,po⟩,pa,fs,k⟩
 ·obtain ⟨v,rfl,he⟩:=h
  exact ⟨_,v,rfl,Kd.R_nil _ _ _ _ _,he,hb⟩
 ·obtain ⟨v,rfl,hf⟩:=h
  exact ⟨v,.nilIface,rfl,hf,rfl,hb⟩
abbrev RefP (d:RpD) (W:World) (e:Ending) (w':World):Prop:= ∃ v0_:Value,e= .returned (.tuple #[.agg #[.int .i64 d.st,.string d.re,v0_],.int .i64 d.i,.agg (badO d.o)])∧Kd.R k71 71 w' W.heap.size (fun k=>W.heap.size≤k) v0_ d.l∧Below W.heap.size W w'
theorem refP_bad {a k:Int} {W w':World} {e:Ending} (h:e= .returned (.tuple #[.agg rpZ,.int .i64 0,.agg (badP [(headS,a)] k)])∧Below W.heap.size W w'):RefP (rpD (.inl (a,k))) W e w':=⟨_,h.1,Kd.R_nil _ _ _ _ _,h.2⟩
theorem rreply_c (A:Option Addr) (n c:Nat) (xs:List Int) (w:World) (hS:StdW w) (hn:n=xs.length) (hr:okB xs) (hC:Kd.C (Kd.int .u8) w A n xs) (hcap:n≤c) (hl:n≤1048576):
  Calls Tryz.prog 17 #[.slice A n c] w (RefP (rpD (repR (Lib.bytesOf xs))) w):=by
 have HEN:=fun W (hb:Below w.heap.size w W)=>rend_c A n c xs W (StdW.below hS hb) hn hr (Kd.C_below hC hb) hcap hl _ rfl
 unfold repR
 cases hR:Hd.endR (Lib.bytesOf xs) with
 |inl x=>
  obtain ⟨a,k⟩:=x
  rw [hR] at HEN
  exact (rs_end A n c 1 headS ⟨#[]⟩ ⟨#[]⟩ (a:Int) 0 0 (k:Int) (by decide) w HEN hS).mono fun e w' h=>refP_bad h
 |inr m=>
  rw [hR] at HEN
  have hle:=Hd.endR_le hR
  have hlx:=bytesOf_length xs
  rw [hlx,← hn] at hle
  obtain ⟨ad,rfl,-⟩:=Kd.at_int hC 0 (Int.le_refl _) (by omega)
  obtain ⟨L,hL,hok⟩:=head_text hR
  have KC:=conv_c ad n c xs hn m hle.2.1 w hC
  have hz:(⟨((Lib.bytesOf xs).take m).toArray⟩:ByteArray).size≤8192:=by show ((Lib.bytesOf xs).take m).toArray.size≤_;rw [List.size_toArray,List.length_take];omega
  have hSd:(⟨((Lib.bytesOf xs).take m).toArray⟩:ByteArray).data.toList=Hd.textOf L:=hL
  dsimp only
  generalize (⟨((Lib.bytesOf xs).take m).toArray⟩:ByteArray)=S at KC hz hSd ⊢
  have hm0:(0:Int)≤(m:Int):=by omega
  have hm1:(m:Int)≤(c:Int):=by omega
  have HLI:=fun W (_:Below w.heap.size w W)=>rlines_c S hz L hSd hok W
  have HF80:=fun W (h:StdW W)=>rfault_c 0 80 W h
  cases L with
  |nil=>
   have e:cutL S=⟨#[]⟩:=by
    have e:Lib.cut S.data.toList [13,10]=([],[],true):=by rw [hSd];exact Hd.cut_end
    unfold cutL
    rw [e]
   have hno:(wordsN (cutL S)).length≠3:=by
    rw [e,← cut3]
    decide
   rw [headRp_no S m hno]
   exact (rs_nil ad n c m hm0 hm1 S _ _ w HEN KC HLI rfl HF80 hS).mono fun e w' h=>refP_bad h
  |cons l0 Lr=>
   have hok0:=hok l0 List.mem_cons_self
   obtain ⟨hcl,hcr⟩:=line_cut l0 Lr hok0 S hSd
   have hlen: ∀ l ∈ l0::Lr,l.length≤8192:=fun l h=>by have:=text_le _ l h;rw [← hSd,len_size] at this;omega
   have hz0:(⟨l0.toArray⟩:ByteArray).size≤8192:=by show l0.toArray.size≤_;rw [List.size_toArray];exact hlen l0 List.mem_cons_self
   have hcz:(⟨l0.toArray⟩:ByteArray).size=l0.length:=List.size_toArray ..
   have HCU: ∀ W,Calls Tryz.prog 57 #[.string ⟨l0.toArray⟩,.int .i64 3] W fun e w'=> ∃ v0_:Value,e= .returned v0_∧Kd.R Kd.string 9 w' W.heap.size (fun _=>True) v0_ (wordsN ⟨l0.toArray⟩)∧Below W.heap.size W w':=fun W=>by
    rw [← cut3]
    exact rcut_c ⟨l0.toArray⟩ hz0 3 (by decide) W
   have hne:(((linT (Hd.offs (l0::Lr) 0)).1.length:Int)==0)=false:=by rw [beq_eq_false_iff_ne];unfold linT Hd.offs;rw [List.map_cons,List.length_cons];omega
   have hpos:(0:Int)<((linT (Hd.offs (l0::Lr) 0)).1.length:Int):=by unfold linT Hd.offs;rw [List.map_cons,List.length_cons];omega
   have hl00:rdOf ByteArray.empty (linT (Hd.offs (l0::Lr) 0)).1 0=⟨l0.toArray⟩:=rfl
   rcases three_words (wordsN (cutL S)) with ⟨p0,p1,p2,hp⟩|hp
   ·rw [headRp_yes S m p0 p1 p2 hp]
    rw [hcl] at hp ⊢
    have hz2:=splitB_size ⟨#[32]⟩ 0 _ ⟨l0.toArray⟩ p2 (show p2 ∈ wordsN _ by rw [hp];simp)
    rw [hp] at HCU
    have HAL:=fun W=>ralone_c ⟨l0.toArray⟩ (by omega) W
    have HVE:=fun W=>rversion_c p0 W
    have HPL:=fun W=>rplain_c p2 (by omega) 32 256 W
    have HWH:=fun W=>rwhole_c p1 W
    obtain ⟨k1,k2⟩:=code_whole p1.data.toList
    cases hbk:Hd.broken (⟨l0.toArray⟩:ByteArray).data.toList
    ·rw [hbk] at HAL
     rw [if_neg Bool.false_ne_true]
     cases hve:verB p0
     ·rw [hve] at HVE
      rw [if_pos (show (!false)=true from rfl)]
      exact (rs_ve ad n c m hm0 hm1 S _ _ w HEN KC HLI hne hpos _ hl00 p0 p1 p2 HCU HAL HVE HF80 hS).mono fun e w' h=>refP_bad h
     ·rw [hve] at HVE
      rw [if_neg (show ¬ (!true)=true by decide)]
      cases hpl:Hd.plain p2.data.toList 32 256
      ·rw [hpl] at HPL
       rw [if_pos (show (!false)=true from rfl)]
       exact (rs_pl ad n c m hm0 hm1 S _ _ w HEN KC HLI hne hpos _ hl00 p0 p1 p2 HCU HAL HVE HPL HF80 hS).mono fun e w' h=>refP_bad h
      ·rw [hpl] at HPL
       rw [if_neg (show ¬ (!true)=true by decide)]
       cases hco:codeOk p1.data.toList
       ·rw [if_pos (show (!false)=true from rfl)]
        rw [hco] at k1
        generalize wholeV p1.data.toList 3=v at HWH k1
        obtain ⟨v,ok⟩:=v
        cases ok
        ·exact (rs_co0 ad n c m hm0 hm1 S _ _ w HEN KC HLI hne hpos _ hl00 p0 p1 p2 HCU HAL HVE HPL v HWH HF80 hS).mono fun e w' h=>refP_bad h
        ·dsimp only at k1
         rw [Bool.true_and] at k1
         by_cases h1:v<100
         ·exact (rs_co1 ad n c m hm0 hm1 S _ _ w HEN KC HLI hne hpos _ hl00 p0 p1 p2 HCU HAL HVE HPL v h1 HWH HF80 hS).mono fun e w' h=>refP_bad h
         ·rw [decide_eq_true (show 100≤v by omega),Bool.true_and] at k1
          have h2:=of_decide_eq_false k1.symm
          exact (rs_co2 ad n c m hm0 hm1 S _ _ w HEN KC HLI hne hpos _ hl00 p0 p1 p2 HCU HAL HVE HPL v h1 (by omega) HWH HF80 hS).mono fun e w' h=>refP_bad h
       ·rw [if_neg (show ¬ (!true)=true by decide),k2 hco]
        rw [hco] at k1
        generalize wholeV p1.data.toList 3=v at HWH k1 ⊢
        obtain ⟨v,ok⟩:=v
        have k1:=k1.symm
        rw [Bool.and_eq_true,Bool.and_eq_true,decide_eq_true_eq,decide_eq_true_eq] at k1
        obtain ⟨hokv,hv1,hv2⟩:=k1
        dsimp only at hokv hv1 hv2 HWH ⊢
        subst hokv
        have hG:fieldsG (Hd.offs Lr (0+l0.length+2)) []=Hd.fieldsR 66 (cutR2 S).data.toList ((⟨l0.toArray⟩:ByteArray).size+2) []:=by
         rw [fieldsG_offs,hcr,hcz,Hd.fieldsR_text Lr 66 _ [] (fun l h=>hok l (List.mem_cons_of_mem _ h)) (by decide) (by decide),Nat.zero_add]
        have HFL:=fun W B0 d0 B1 d1 (h:StdW W) h0 hd0 h1 hd1=>rfields_c (Hd.offs Lr (0+l0.length+2)) (offs_le Lr _ (fun l h=>hlen l (List.mem_cons_of_mem _ h))) _ hG W B0 d0 B1 d1 h h0 hd0 h1 hd1
        cases hfl:Hd.fieldsR 66 (cutR2 S).data.toList ((⟨l0.toArray⟩:ByteArray).size+2) [] with
        |inl x=>
         obtain ⟨a,k⟩:=x
         rw [hfl] at HFL
         exact (rs_fl ad n c m hm0 hm1 S _ _ w HEN KC HLI hne hpos _ hl00 p0 p1 p2 HCU HAL HVE HPL v (by omega) (by omega) HWH _ _ 0 _ rfl rfl 1 headS ⟨#[]⟩ ⟨#[]⟩ (a:Int) 0 0 (k:Int) (by decide) HFL hS).mono fun e w' h=>refP_bad h
        |inr fs=>
         rw [hfl] at HFL
         exact (rs_ok ad n c m hm0 hm1 S _ _ w HEN KC HLI hne hpos _ hl00 p0 p1 p2 HCU HAL HVE HPL v (by omega) (by omega) HWH _ _ 0 _ rfl rfl HFL hS).mono fun e w' ⟨v0,h1,h2,h3⟩=>⟨v0,h1,h2,h3⟩
    ·rw [hbk] at HAL
     rw [if_pos rfl]
     exact (rs_bk ad n c m hm0 hm1 S _ _ w HEN KC HLI hne hpos _ hl00 p0 p1 p2 HCU HAL HF80 hS).mono fun e w' h=>refP_bad h
   ·rw [headRp_no S m hp]
    rw [hcl] at hp
    exact (rs_len ad n c m hm0 hm1 S _ _ w HEN KC HLI hne hpos _ hl00 _ HCU (by rw [beq_eq_false_iff_ne];omega) HF80 hS).mono fun e w' h=>refP_bad h
end Go.Proofs.YtgmpdjjoefkndaaGreatDoor.E

namespace Go.Proofs.YtgmpdjjoefkndaaGreatDoor.XBz
open Go.Proofs.YtgmpdjjoefkndaaGreatDoor.XK
open Go.RowKit Go.Proofs.YtgmpdjjoefkndaaGreatDoorW.PrintWords Go.Proofs.YtgmpdjjoefkndaaGreatDoorW.PrintLast Go.Proofs.YtgmpdjjoefkndaaGreatDoorW.PrintMore
attribute [local go_sem] max2_int min2_int max_two min_two max_three min_three max_four min_four
set_option linter.unusedVariables false
set_option linter.unusedSimpArgs false
end Go.Proofs.YtgmpdjjoefkndaaGreatDoor.XBz

namespace Go.Proofs.YtgmpdjjoefkndaaGreatDoor.XBz
open Go.Proofs.YtgmpdjjoefkndaaGreatDoor.XK Go.RowKit Go.Proofs.YtgmpdjjoefkndaaGreatDoorW.PrintWords Go.Proofs.YtgmpdjjoefkndaaGreatDoorW.PrintLast Go.Proofs.YtgmpdjjoefkndaaGreatDoorW.PrintMore
attribute [local go_sem] max2_int min2_int max_two min_two max_three min_three max_four min_four
set_option linter.unusedVariables false
set_option linter.unusedSimpArgs false
def sallyportbase_SameBytes.f (l0:List Int) (l1:List Int):Option (Bool):=some ((strOfNums l0).toList==(strOfNums l1).toList)
set_option maxHeartbeats 8000000 in
set_option maxRecDepth 100000 in
theorem sallyportbase_SameBytes.calls (A0:Option Addr) (c0:Nat) (l0:List Int) (A1:Option Addr) (c1:Nat) (l1:List Int) (r:Bool) (w:World) (hr0:Kd.C (Kd.int .u8) w A0 l0.length l0) (hc0:l0.length≤c0) (hr1:Kd.C (Kd.int .u8) w A1 l1.length l1) (hc1:l1.length≤c1) (h:sallyportbase_SameBytes.f l0 l1=some r):
  Calls Tryz.prog 19 #[.slice A0 l0.length c0,.slice A1 l1.length c1] w fun e w'=>e= .returned (.bool r)∧Drawn0 w w':=by
 have HR0:=Aside0.mk hr0
 have HC0:=Aside0.mk hc0
 clear hr0 hc0
 have HR1:=Aside0.mk hr1
 have HC1:=Aside0.mk hc1
 clear hr1 hc1
 have H:(some ((strOfNums l0).toList==(strOfNums l1).toList))=some r:=h
 clear h
 obtain rfl:=Option.some.inj H
 have hcv3:=Kd.C_string (P:=Tryz.prog) (A:=A0) (c:=c0) Tryz.underlying22 Tryz.underlying5 Tryz.underlying9 HR0.out
 have hcv4:=Kd.C_string (P:=Tryz.prog) (A:=A1) (c:=c1) Tryz.underlying22 Tryz.underlying5 Tryz.underlying9 HR1.out
 go_enter Tryz.func19,Tryz.ntmps19
 go_wp2
 go_ret
 exact ⟨by first|rfl|(simp;done)|(simp [*];done),by repeat (first|exact Drawn0.refl _|apply Drawn0.step)⟩
end Go.Proofs.YtgmpdjjoefkndaaGreatDoor.XBz

namespace Go.Proofs.YtgmpdjjoefkndaaGreatDoor.XBz
open Go.Proofs.YtgmpdjjoefkndaaGreatDoor.XK
open Go.RowKit Go.Proofs.YtgmpdjjoefkndaaGreatDoorW.PrintWords Go.Proofs.YtgmpdjjoefkndaaGreatDoorW.PrintLast Go.Proofs.YtgmpdjjoefkndaaGreatDoorW.PrintMore
attribute [local go_sem] max2_int min2_int max_two min_two max_three min_three max_four min_four
set_option linter.unusedVariables false
set_option linter.unusedSimpArgs false
end Go.Proofs.YtgmpdjjoefkndaaGreatDoor.XBz

namespace Go.Proofs.YtgmpdjjoefkndaaGreatDoor.E
open Go.RowKit Go.Proofs.YtgmpdjjoefkndaaGreatDoorW.PrintWords Go.Proofs.YtgmpdjjoefkndaaGreatDoorW.PrintLast Go.Proofs.YtgmpdjjoefkndaaGreatDoor.XK Go.Proofs.YtgmpdjjoefkndaaGreatDoor.XA Go.Proofs.YtgmpdjjoefkndaaGreatDoor.XD
set_option linter.unusedVariables false
set_option linter.unusedSimpArgs false
theorem bytes_new (W:World) (xs:List Int) (T:TypeId) (y:Nat×Nat):Lib.BytesIn (W.alloc (.cells (xs.map (Value.int .u8)).toArray T y)) (some ⟨W.heap.size,0,none⟩) xs.length xs:=fun _=>by
 refine ⟨W.heap.size,0,rfl,fun i hi=>?_⟩
 rw [Nat.zero_add,World.cell?_alloc_mark,List.getElem?_toArray,List.getElem?_map,List.getElem?_eq_getElem hi,List.getD_eq_getElem?_getD,List.getElem?_eq_getElem hi];rfl
theorem request_new (xs:List Int) (hr: ∀ x ∈ xs,0≤x∧x<256) (hl:xs.length≤1000000) (T:TypeId) (r:FaultT ⊕ RqT) (he:reqR (Lib.bytesOf xs)=r) (W:World) (y:Nat×Nat) (hS:StdE W):
  Calls Tryz.prog 13 #[.slice (some ⟨W.heap.size,0,none⟩) xs.length xs.length] (W.alloc (.cells (xs.map (Value.int .u8)).toArray T y)) (RqPost r (W.alloc (.cells (xs.map (Value.int .u8)).toArray T y))):=by
 subst he
 exact request_any _ xs.length xs.length xs _ (StdE.below hS (below_alloc (Below.refl _ _) _)) rfl hr (bytes_new W xs T y) (fun h=>by cases h) (Nat.le_refl _) (by omega)
def ex80:List Int:=[71,69,84,32,104,116,116,112,58,47,47,97,46,98,47,120,32,72,84,84,80,47,49,46,49,13,10,72,111,115,116,58,32,97,46,98,13,10,13,10,109,111,114,101]
theorem ex80_ok: ∀ x ∈ ex80,0≤x∧x<256:=by unfold ex80;decide
def ex81:List Int:=[71,69,84,32,47,120,32,72,84,84,80,47,49,46,49,13,10,13,10]
theorem ex81_ok: ∀ x ∈ ex81,0≤x∧x<256:=by unfold ex81;decide
def ex82:List Int:=[71,69,84,32,104,116,116,112,58,47,47,45,47,32,72,84,84,80,47,49,46,49,13,10,13,10]
theorem ex82_ok: ∀ x ∈ ex82,0≤x∧x<256:=by unfold ex82;decide
theorem ex80_r:reqR (Lib.bytesOf ex80)= .inr (⟨#[71,69,84]⟩,(0,0,0,0,⟨#[97,46,98]⟩,80),⟨#[47,120]⟩,[([72,111,115,116],[97,46,98])],40):=by kernel_rfl
theorem ex81_r:reqR (Lib.bytesOf ex81)= .inl (4,[],82):=by kernel_rfl
theorem ex82_r:reqR (Lib.bytesOf ex82)= .inl (11,[(hostS,0)],61):=by kernel_rfl
theorem ex80_c: ∀ W (y:Nat×Nat) (g:Nat),g=W.heap.size→StdE W→Calls Tryz.prog 13 #[.slice (some ⟨g,0,none⟩) 44 44] (W.alloc (.cells #[.int .u8 71,.int .u8 69,.int .u8 84,.int .u8 32,.int .u8 104,.int .u8 116,.int .u8 116,.int .u8 112,.int .u8 58,.int .u8 47,.int .u8 47,.int .u8 97,.int .u8 46,.int .u8 98,.int .u8 47,.int .u8 120,.int .u8 32,.int .u8 72,.int .u8 84,.int .u8 84,.int .u8 80,.int .u8 47,.int .u8 49,.int .u8 46,.int .u8 49,.int .u8 13,.int .u8 10,.int .u8 72,.int .u8 111,.int .u8 115,.int .u8 116,.int .u8 58,.int .u8 32,.int .u8 97,.int .u8 46,.int .u8 98,.int .u8 13,.int .u8 10,.int .u8 13,.int .u8 10,.int .u8 109,.int .u8 111,.int .u8 114,.int .u8 101] 5 y)) fun e w'=> ∃ fA fc,e= .returned (.tuple #[.agg #[.string ⟨#[71,69,84]⟩,.int .u8 0,.int .u8 0,.int .u8 0,.int .u8 0,.string ⟨#[97,46,98]⟩,.int .i64 80,.string ⟨#[47,120]⟩,.slice fA 1 fc],.int .i64 40,.nilIface])∧Below W.heap.size W w':=fun W y g hg hS=>by
 subst hg
 refine (request_new ex80 ex80_ok (by decide) 5 _ ex80_r W y hS).mono ?_
 rintro e w' ⟨hb,v,rfl,hf⟩
 obtain ⟨fA,fc,rfl,-,-⟩:=Kd.R_reads hf
 exact ⟨fA,fc,rfl,below_then (below_alloc (Below.refl _ _) _) (below_alloc (Below.refl _ _) _).size hb⟩
theorem ex81_c: ∀ W (y:Nat×Nat) (g:Nat),g=W.heap.size→StdE W→Calls Tryz.prog 13 #[.slice (some ⟨g,0,none⟩) 19 19] (W.alloc (.cells #[.int .u8 71,.int .u8 69,.int .u8 84,.int .u8 32,.int .u8 47,.int .u8 120,.int .u8 32,.int .u8 72,.int .u8 84,.int .u8 84,.int .u8 80,.int .u8 47,.int .u8 49,.int .u8 46,.int .u8 49,.int .u8 13,.int .u8 10,.int .u8 13,.int .u8 10] 5 y)) fun e w'=> ∃ v,e= .returned (.tuple #[.agg #[.string ⟨#[]⟩,.int .u8 0,.int .u8 0,.int .u8 0,.int .u8 0,.string ⟨#[]⟩,.int .i64 0,.string ⟨#[]⟩,.slice none 0 0],.int .i64 0,v])∧ErrIs w' v [(headS,4)] 82∧Below W.heap.size W w':=fun W y g hg hS=>by
 subst hg
 refine (request_new ex81 ex81_ok (by decide) 5 _ ex81_r W y hS).mono ?_
 rintro e w' ⟨hb,v,rfl,he⟩
 exact ⟨v,rfl,he,below_then (below_alloc (Below.refl _ _) _) (below_alloc (Below.refl _ _) _).size hb⟩
theorem ex82_c: ∀ W (y:Nat×Nat) (g:Nat),g=W.heap.size→StdE W→Calls Tryz.prog 13 #[.slice (some ⟨g,0,none⟩) 26 26] (W.alloc (.cells #[.int .u8 71,.int .u8 69,.int .u8 84,.int .u8 32,.int .u8 104,.int .u8 116,.int .u8 116,.int .u8 112,.int .u8 58,.int .u8 47,.int .u8 47,.int .u8 45,.int .u8 47,.int .u8 32,.int .u8 72,.int .u8 84,.int .u8 84,.int .u8 80,.int .u8 47,.int .u8 49,.int .u8 46,.int .u8 49,.int .u8 13,.int .u8 10,.int .u8 13,.int .u8 10] 5 y)) fun e w'=> ∃ v,e= .returned (.tuple #[.agg #[.string ⟨#[]⟩,.int .u8 0,.int .u8 0,.int .u8 0,.int .u8 0,.string ⟨#[]⟩,.int .i64 0,.string ⟨#[]⟩,.slice none 0 0],.int .i64 0,v])∧ErrIs w' v [(headS,11),(hostS,0)] 61∧Below W.heap.size W w':=fun W y g hg hS=>by
 subst hg
 refine (request_new ex82 ex82_ok (by decide) 5 _ ex82_r W y hS).mono ?_
 rintro e w' ⟨hb,v,rfl,he⟩
 exact ⟨v,rfl,he,below_then (below_alloc (Below.refl _ _) _) (below_alloc (Below.refl _ _) _).size hb⟩
end Go.Proofs.YtgmpdjjoefkndaaGreatDoor.E
