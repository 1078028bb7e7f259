/- What the cards of this seat rest on: the walks and plain laws, part 6. -/
import Derived.Test.YtgmpdjjoefkndaaGreatDoorHR5
import Derived.Test.YtgmpdjjoefkndaaGreatDoorHR2

namespace Go.Proofs.YtgmpdjjoefkndaaGreatDoor.E
open Go.RowKit Go.Proofs.YtgmpdjjoefkndaaGreatDoorW.PrintWords Go.Proofs.YtgmpdjjoefkndaaGreatDoorW.PrintLast Go.Proofs.YtgmpdjjoefkndaaGreatDoorW.PrintMore Go.Proofs.YtgmpdjjoefkndaaGreatDoor.XR Go.Proofs.YtgmpdjjoefkndaaGreatDoor.XV
set_option linter.unusedVariables false
set_option linter.unusedSimpArgs false
def badV (a c:Int):Value:= .agg #[.int .i64 1,.string hostS,.string ⟨#[]⟩,.string ⟨#[]⟩,.string ⟨#[]⟩,.int .i64 a,.int .i64 0,.int .i64 0,.int .i64 0,.int .i64 c]
def zA4:Array Value:= #[.int .u8 0,.int .u8 0,.int .u8 0,.int .u8 0]
def zB10:Array Value:= #[.int .i64 0,.string ⟨#[]⟩,.string ⟨#[]⟩,.string ⟨#[]⟩,.string ⟨#[]⟩,.int .i64 0,.int .i64 0,.int .i64 0,.int .i64 0,.int .i64 0]
theorem Blk.fourz {w:World} {R:Nat} {T:TypeId} (h:Blk w R zA4 T):
  w.cell? ⟨R,0,none⟩=some (.int .u8 0)∧w.cell? ⟨R,1,none⟩=some (.int .u8 0)∧w.cell? ⟨R,2,none⟩=some (.int .u8 0)∧w.cell? ⟨R,3,none⟩=some (.int .u8 0)∧
  w.frozen? ⟨R,0,none⟩=false∧w.frozen? ⟨R,1,none⟩=false∧w.frozen? ⟨R,2,none⟩=false∧w.frozen? ⟨R,3,none⟩=false∧
  w.setCell ⟨R,0,none⟩ (.int .u8 0)=w∧w.setCell ⟨R,1,none⟩ (.int .u8 0)=w∧w.setCell ⟨R,2,none⟩ (.int .u8 0)=w∧w.setCell ⟨R,3,none⟩ (.int .u8 0)=w:=
 ⟨h.cell 0 _ rfl,h.cell 1 _ rfl,h.cell 2 _ rfl,h.cell 3 _ rfl,h.free 0,h.free 1,h.free 2,h.free 3,
  setCell_id _ _ _ _ (h.cell 0 _ rfl),setCell_id _ _ _ _ (h.cell 1 _ rfl),setCell_id _ _ _ _ (h.cell 2 _ rfl),setCell_id _ _ _ _ (h.cell 3 _ rfl)⟩
theorem Blk.tenz {w:World} {R:Nat} {T:TypeId} (h:Blk w R zB10 T):
  w.cell? ⟨R,0,none⟩=some (.int .i64 0)∧w.cell? ⟨R,1,none⟩=some (.string ⟨#[]⟩)∧w.cell? ⟨R,2,none⟩=some (.string ⟨#[]⟩)∧w.cell? ⟨R,3,none⟩=some (.string ⟨#[]⟩)∧w.cell? ⟨R,4,none⟩=some (.string ⟨#[]⟩)∧w.cell? ⟨R,5,none⟩=some (.int .i64 0)∧w.cell? ⟨R,6,none⟩=some (.int .i64 0)∧w.cell? ⟨R,7,none⟩=some (.int .i64 0)∧w.cell? ⟨R,8,none⟩=some (.int .i64 0)∧w.cell? ⟨R,9,none⟩=some (.int .i64 0)∧
  w.frozen? ⟨R,0,none⟩=false∧w.frozen? ⟨R,1,none⟩=false∧w.frozen? ⟨R,2,none⟩=false∧w.frozen? ⟨R,3,none⟩=false∧w.frozen? ⟨R,4,none⟩=false∧w.frozen? ⟨R,5,none⟩=false∧w.frozen? ⟨R,6,none⟩=false∧w.frozen? ⟨R,7,none⟩=false∧w.frozen? ⟨R,8,none⟩=false∧w.frozen? ⟨R,9,none⟩=false:=
 ⟨h.cell 0 _ rfl,h.cell 1 _ rfl,h.cell 2 _ rfl,h.cell 3 _ rfl,h.cell 4 _ rfl,h.cell 5 _ rfl,h.cell 6 _ rfl,h.cell 7 _ rfl,h.cell 8 _ rfl,h.cell 9 _ rfl,h.free 0,h.free 1,h.free 2,h.free 3,h.free 4,h.free 5,h.free 6,h.free 7,h.free 8,h.free 9⟩
def badC (a c:Int):Array Value:= #[.int .i64 1,.string hostS,.string ⟨#[]⟩,.string ⟨#[]⟩,.string ⟨#[]⟩,.int .i64 a,.int .i64 0,.int .i64 0,.int .i64 0,.int .i64 c]
def setBad (w1:World) (R:Nat) (a c:Int):World:=((((((((((w1.setCell ⟨R,0,none⟩ (.int .i64 1)).setCell ⟨R,1,none⟩ (.string hostS)).setCell ⟨R,2,none⟩ (.string ⟨#[]⟩)).setCell ⟨R,3,none⟩ (.string ⟨#[]⟩)).setCell ⟨R,4,none⟩ (.string ⟨#[]⟩)).setCell ⟨R,5,none⟩ (.int .i64 a)).setCell ⟨R,6,none⟩ (.int .i64 0)).setCell ⟨R,7,none⟩ (.int .i64 0)).setCell ⟨R,8,none⟩ (.int .i64 0)).setCell ⟨R,9,none⟩ (.int .i64 c))
theorem setBad_eq (w1:World) (R:Nat) (a c:Int):((((((((((w1.setCell ⟨R,0,none⟩ (.int .i64 1)).setCell ⟨R,1,none⟩ (.string hostS)).setCell ⟨R,2,none⟩ (.string ⟨#[]⟩)).setCell ⟨R,3,none⟩ (.string ⟨#[]⟩)).setCell ⟨R,4,none⟩ (.string ⟨#[]⟩)).setCell ⟨R,5,none⟩ (.int .i64 a)).setCell ⟨R,6,none⟩ (.int .i64 0)).setCell ⟨R,7,none⟩ (.int .i64 0)).setCell ⟨R,8,none⟩ (.int .i64 0)).setCell ⟨R,9,none⟩ (.int .i64 c))=setBad w1 R a c:=rfl
theorem setBad_blk {w1:World} {R:Nat} {T:TypeId} (a c:Int) (h:Blk w1 R zB10 T):Blk (setBad w1 R a c) R (badC a c) T:=((((((((((h.set 0 (.int .i64 1)).set 1 (.string hostS)).set 2 (.string ⟨#[]⟩)).set 3 (.string ⟨#[]⟩)).set 4 (.string ⟨#[]⟩)).set 5 (.int .i64 a)).set 6 (.int .i64 0)).set 7 (.int .i64 0)).set 8 (.int .i64 0)).set 9 (.int .i64 c))
theorem setBad_other {w1:World} {R Q:Nat} {C:Array Value} {T:TypeId} (a c:Int) (hn:Q≠R) (h:Blk w1 Q C T):Blk (setBad w1 R a c) Q C T:=((((((((((h.other ⟨R,0,none⟩ hn (.int .i64 1)).other ⟨R,1,none⟩ hn (.string hostS)).other ⟨R,2,none⟩ hn (.string ⟨#[]⟩)).other ⟨R,3,none⟩ hn (.string ⟨#[]⟩)).other ⟨R,4,none⟩ hn (.string ⟨#[]⟩)).other ⟨R,5,none⟩ hn (.int .i64 a)).other ⟨R,6,none⟩ hn (.int .i64 0)).other ⟨R,7,none⟩ hn (.int .i64 0)).other ⟨R,8,none⟩ hn (.int .i64 0)).other ⟨R,9,none⟩ hn (.int .i64 c))
theorem setBad_below {w w1:World} {n R:Nat} (a c:Int) (hn:n≤R) (h:Below n w w1):Below n w (setBad w1 R a c):=((((((((((h.setCell (p:=⟨R,0,none⟩) hn (.int .i64 1)).setCell (p:=⟨R,1,none⟩) hn (.string hostS)).setCell (p:=⟨R,2,none⟩) hn (.string ⟨#[]⟩)).setCell (p:=⟨R,3,none⟩) hn (.string ⟨#[]⟩)).setCell (p:=⟨R,4,none⟩) hn (.string ⟨#[]⟩)).setCell (p:=⟨R,5,none⟩) hn (.int .i64 a)).setCell (p:=⟨R,6,none⟩) hn (.int .i64 0)).setCell (p:=⟨R,7,none⟩) hn (.int .i64 0)).setCell (p:=⟨R,8,none⟩) hn (.int .i64 0)).setCell (p:=⟨R,9,none⟩) hn (.int .i64 c))
theorem Blk.tenb {w:World} {R:Nat} {T:TypeId} {a c:Int} (h:Blk w R (badC a c) T):
  w.cell? ⟨R,0,none⟩=some (.int .i64 1)∧w.cell? ⟨R,1,none⟩=some (.string hostS)∧w.cell? ⟨R,2,none⟩=some (.string ⟨#[]⟩)∧w.cell? ⟨R,3,none⟩=some (.string ⟨#[]⟩)∧w.cell? ⟨R,4,none⟩=some (.string ⟨#[]⟩)∧w.cell? ⟨R,5,none⟩=some (.int .i64 a)∧w.cell? ⟨R,6,none⟩=some (.int .i64 0)∧w.cell? ⟨R,7,none⟩=some (.int .i64 0)∧w.cell? ⟨R,8,none⟩=some (.int .i64 0)∧w.cell? ⟨R,9,none⟩=some (.int .i64 c):=
 ⟨h.cell 0 _ rfl,h.cell 1 _ rfl,h.cell 2 _ rfl,h.cell 3 _ rfl,h.cell 4 _ rfl,h.cell 5 _ rfl,h.cell 6 _ rfl,h.cell 7 _ rfl,h.cell 8 _ rfl,h.cell 9 _ rfl⟩
def setOk (w1:World) (P R:Nat) (x0 x1 x2 x3:Int):World:=((((((((((((((w1.setCell ⟨P,0,none⟩ (.int .u8 x0)).setCell ⟨P,1,none⟩ (.int .u8 x1)).setCell ⟨P,2,none⟩ (.int .u8 x2)).setCell ⟨P,3,none⟩ (.int .u8 x3)).setCell ⟨R,0,none⟩ (.int .i64 0)).setCell ⟨R,1,none⟩ (.string ⟨#[]⟩)).setCell ⟨R,2,none⟩ (.string ⟨#[]⟩)).setCell ⟨R,3,none⟩ (.string ⟨#[]⟩)).setCell ⟨R,4,none⟩ (.string ⟨#[]⟩)).setCell ⟨R,5,none⟩ (.int .i64 0)).setCell ⟨R,6,none⟩ (.int .i64 0)).setCell ⟨R,7,none⟩ (.int .i64 0)).setCell ⟨R,8,none⟩ (.int .i64 0)).setCell ⟨R,9,none⟩ (.int .i64 0))
theorem setOk_eq (w1:World) (P R:Nat) (x0 x1 x2 x3:Int):((((((((((((((w1.setCell ⟨P,0,none⟩ (.int .u8 x0)).setCell ⟨P,1,none⟩ (.int .u8 x1)).setCell ⟨P,2,none⟩ (.int .u8 x2)).setCell ⟨P,3,none⟩ (.int .u8 x3)).setCell ⟨R,0,none⟩ (.int .i64 0)).setCell ⟨R,1,none⟩ (.string ⟨#[]⟩)).setCell ⟨R,2,none⟩ (.string ⟨#[]⟩)).setCell ⟨R,3,none⟩ (.string ⟨#[]⟩)).setCell ⟨R,4,none⟩ (.string ⟨#[]⟩)).setCell ⟨R,5,none⟩ (.int .i64 0)).setCell ⟨R,6,none⟩ (.int .i64 0)).setCell ⟨R,7,none⟩ (.int .i64 0)).setCell ⟨R,8,none⟩ (.int .i64 0)).setCell ⟨R,9,none⟩ (.int .i64 0))=setOk w1 P R x0 x1 x2 x3:=rfl
theorem setOk_a {w1:World} {P R:Nat} {T:TypeId} (x0 x1 x2 x3:Int) (hn:P≠R) (h:Blk w1 P zA4 T):Blk (setOk w1 P R x0 x1 x2 x3) P #[.int .u8 x0,.int .u8 x1,.int .u8 x2,.int .u8 x3] T:=((((((((((((((h.set 0 (.int .u8 x0)).set 1 (.int .u8 x1)).set 2 (.int .u8 x2)).set 3 (.int .u8 x3)).other ⟨R,0,none⟩ hn (.int .i64 0)).other ⟨R,1,none⟩ hn (.string ⟨#[]⟩)).other ⟨R,2,none⟩ hn (.string ⟨#[]⟩)).other ⟨R,3,none⟩ hn (.string ⟨#[]⟩)).other ⟨R,4,none⟩ hn (.string ⟨#[]⟩)).other ⟨R,5,none⟩ hn (.int .i64 0)).other ⟨R,6,none⟩ hn (.int .i64 0)).other ⟨R,7,none⟩ hn (.int .i64 0)).other ⟨R,8,none⟩ hn (.int .i64 0)).other ⟨R,9,none⟩ hn (.int .i64 0))
theorem setOk_b {w1:World} {P R:Nat} {T:TypeId} (x0 x1 x2 x3:Int) (hn:P≠R) (h:Blk w1 R zB10 T):Blk (setOk w1 P R x0 x1 x2 x3) R zB10 T:=((((((((((((((h.other ⟨P,0,none⟩ hn.symm (.int .u8 x0)).other ⟨P,1,none⟩ hn.symm (.int .u8 x1)).other ⟨P,2,none⟩ hn.symm (.int .u8 x2)).other ⟨P,3,none⟩ hn.symm (.int .u8 x3)).set 0 (.int .i64 0)).set 1 (.string ⟨#[]⟩)).set 2 (.string ⟨#[]⟩)).set 3 (.string ⟨#[]⟩)).set 4 (.string ⟨#[]⟩)).set 5 (.int .i64 0)).set 6 (.int .i64 0)).set 7 (.int .i64 0)).set 8 (.int .i64 0)).set 9 (.int .i64 0))
theorem setOk_below {w w1:World} {n P R:Nat} (x0 x1 x2 x3:Int) (hp:n≤P) (hr:n≤R) (h:Below n w w1):Below n w (setOk w1 P R x0 x1 x2 x3):=((((((((((((((h.setCell (p:=⟨P,0,none⟩) hp (.int .u8 x0)).setCell (p:=⟨P,1,none⟩) hp (.int .u8 x1)).setCell (p:=⟨P,2,none⟩) hp (.int .u8 x2)).setCell (p:=⟨P,3,none⟩) hp (.int .u8 x3)).setCell (p:=⟨R,0,none⟩) hr (.int .i64 0)).setCell (p:=⟨R,1,none⟩) hr (.string ⟨#[]⟩)).setCell (p:=⟨R,2,none⟩) hr (.string ⟨#[]⟩)).setCell (p:=⟨R,3,none⟩) hr (.string ⟨#[]⟩)).setCell (p:=⟨R,4,none⟩) hr (.string ⟨#[]⟩)).setCell (p:=⟨R,5,none⟩) hr (.int .i64 0)).setCell (p:=⟨R,6,none⟩) hr (.int .i64 0)).setCell (p:=⟨R,7,none⟩) hr (.int .i64 0)).setCell (p:=⟨R,8,none⟩) hr (.int .i64 0)).setCell (p:=⟨R,9,none⟩) hr (.int .i64 0))
theorem refFault (a c:Int) (w:World) (hS:StdW w):Calls Tryz.prog 149 #[.int .i64 a,.int .i64 c] w fun e w'=>e= .returned (.agg #[.int .i64 1,.string hostS,.string ⟨#[]⟩,.string ⟨#[]⟩,.string ⟨#[]⟩,.int .i64 a,.int .i64 0,.int .i64 0,.int .i64 0,.int .i64 c])∧Below w.heap.size w w':=
 sallyportref06_fault.calls a c 1 hostS ⟨#[]⟩ ⟨#[]⟩ ⟨#[]⟩ a 0 0 0 c w hS rfl
theorem refWhole (p:ByteArray) (w:World):Calls Tryz.prog 67 #[.string p,.int .i64 3] w fun e w'=>e= .returned (.tuple #[.int .i64 (wholeV p.data.toList 3).1,.bool (wholeV p.data.toList 3).2])∧Below w.heap.size w w':=
 (sallyportbase_Whole.calls 21 p 3 _ _ w (whole_f p 3 21 (by decide) (by decide))).mono fun e w' ⟨he,hd⟩=>⟨he,by obtain ⟨n,rfl⟩:=hd;exact below_drewN w n⟩
theorem own2 (w w1:World) (hb:Below ((w.alloc (.cells zA4 37)).alloc (.cells zB10 32)).heap.size ((w.alloc (.cells zA4 37)).alloc (.cells zB10 32)) w1):
  Blk w1 w.heap.size zA4 37∧Blk w1 (w.heap.size+1) zB10 32∧Below w.heap.size w w1:=by
 refine ⟨((Blk.new w zA4 _).old _).below hb,?_,below_then (below_alloc (below_alloc (Below.refl _ _) _) _) (below_alloc (below_alloc (Below.refl _ _) _) _).size hb⟩
 have:=(Blk.new (w.alloc (.cells zA4 37)) zB10 32).below hb
 rwa [World.size_alloc] at this
set_option maxRecDepth 100000 in
set_option maxHeartbeats 4000000 in
theorem rpa_long (s:ByteArray) (hs:253<s.size) (w:World) (hS:StdW w):
  Calls Tryz.prog 152 #[.string s] w fun e w'=>e= .returned (.tuple #[.agg zA4,badV 253 3])∧Below w.heap.size w w':=by
 have HF:=Lib.hid (fun W h=>refFault 253 3 W h)
 have HS:=Lib.hid hS
 have hs1:(253:Int)<(s.size:Int):=by omega
 clear hS
 go_enter Tryz.func152,Tryz.ntmps152
 go_wp2_with (go_at_call 149;refine (HF.out _ (StdW.below HS.out (below_alloc (below_alloc (Below.refl _ _) _) _))).mono ?_;rintro e w1 ⟨rfl,hb⟩;obtain ⟨hA,hB,hw⟩:=own2 w w1 hb;obtain ⟨a0,a1,a2,a3,f0,f1,f2,f3,s0,s1,s2,s3⟩:=hA.fourz;obtain ⟨b0,b1,b2,b3,b4,b5,b6,b7,b8,b9,g0,g1,g2,g3,g4,g5,g6,g7,g8,g9⟩:=hB.tenz;have hlt:=hB.lt;clear hb)
 have hn1: ¬ w.heap.size=w.heap.size+1:=by omega
 have hn2: ¬ w.heap.size+1=w.heap.size:=by omega
 rw [setBad_eq]
 have hA2:=setBad_other 253 3 hn1 hA
 have hB2:=setBad_blk 253 3 hB
 have hw2:=setBad_below 253 3 (show w.heap.size≤w.heap.size+1 by omega) hw
 generalize setBad w1 (w.heap.size+1) 253 3=wf at hA2 hB2 hw2 ⊢
 clear a0 a1 a2 a3 f0 f1 f2 f3 s0 s1 s2 s3 b0 b1 b2 b3 b4 b5 b6 b7 b8 b9 g0 g1 g2 g3 g4 g5 g6 g7 g8 g9
 obtain ⟨a0,a1,a2,a3,-⟩:=hA2.fourz
 obtain ⟨b0,b1,b2,b3,b4,b5,b6,b7,b8,b9⟩:=hB2.tenb
 exact bodyPost_ret (v:= .tuple #[.agg #[.int .u8 0,.int .u8 0,.int .u8 0,.int .u8 0],.agg #[.int .i64 1,.string hostS,.string ⟨#[]⟩,.string ⟨#[]⟩,.string ⟨#[]⟩,.int .i64 253,.int .i64 0,.int .i64 0,.int .i64 0,.int .i64 3]]) (by simp [results,Tryz.results152,go_sem,a0,a1,a2,a3,b0,b1,b2,b3,b4,b5,b6,b7,b8,b9]) rfl ⟨rfl,hw2⟩
def rpaLoop (sz:Int) (ats:List Int):Nat→List ByteArray→List Int→(Int×Int) ⊕ List Int
 |k,[],acc=>if k<4 then .inl (sz,63) else .inr acc
 |k,p::r,acc=>if k=4 then .inl (ats.getD 4 0,63) else if (wholeV p.data.toList 3).2=false∨255<(wholeV p.data.toList 3).1 then .inl (ats.getD k 0,60)
  else rpaLoop sz ats (k+1) r (acc++[(wholeV p.data.toList 3).1])
def rpaRes (s:ByteArray):(Int×Int) ⊕ List Int:=if 253<s.size then .inl (253,3) else rpaLoop s.size (0::starts 0 s.data.toList) 0 (cutR s.data.toList ⟨#[]⟩) []
def RPPost (r:(Int×Int) ⊕ List Int) (w:World) (e:Ending) (w':World):Prop:=
 Below w.heap.size w w'∧match r with
  | .inl (a,c)=>e= .returned (.tuple #[.agg zA4,badV a c])
  | .inr l=>e= .returned (.tuple #[.agg #[.int .u8 (l.getD 0 0),.int .u8 (l.getD 1 0),.int .u8 (l.getD 2 0),.int .u8 (l.getD 3 0)],.agg zB10])
def accC (acc:List Int):Array Value:= #[.int .u8 (acc.getD 0 0),.int .u8 (acc.getD 1 0),.int .u8 (acc.getD 2 0),.int .u8 (acc.getD 3 0)]
theorem accC_put (acc:List Int) (k:Nat) (hk:acc.length=k) (h4:k<4) (v:Int):(accC acc).setIfInBounds k (.int .u8 v)=accC (acc++[v]):=by
 match acc,hk with
 |[],hk=>subst hk;rfl
 |[a],hk=>subst hk;rfl
 |[a,b],hk=>subst hk;rfl
 |[a,b,c],hk=>subst hk;rfl
 |_::_::_::_::_,hk=>simp only [List.length_cons] at hk;omega
theorem accC_cell (acc:List Int) (k:Nat) (h4:k<4):(accC acc)[k]? =some (.int .u8 (acc.getD k 0)):=by
 match k,h4 with
 |0,_=>rfl
 |1,_=>rfl
 |2,_=>rfl
 |3,_=>rfl
set_option maxRecDepth 100000 in
set_option maxHeartbeats 8000000 in
theorem rpa_short (s:ByteArray) (hs:s.size≤253) (w:World) (hS:StdW w):
  Calls Tryz.prog 152 #[.string s] w (RPPost (rpaRes s) w):=by
 have HP:=Lib.hid (fun W=>sallyportref06_parts.calls 300 s _ _ W (parts_f s hs 300 (by omega)))
 have HF:=Lib.hid (fun a c W h=>refFault a c W h)
 have HR:=Lib.hid (show rpaRes s=_ by unfold rpaRes;rw [if_neg (show ¬ 253<s.size by omega)])
 have HS:=Lib.hid hS
 have hs1: ¬ (253:Int)<(s.size:Int):=by omega
 clear hS
 have hlen:(0::starts 0 s.data.toList:List Int).length=(cutR s.data.toList ⟨#[]⟩).length:=by rw [← starts_len s.data.toList ⟨#[]⟩ 0];rfl
 generalize cutR s.data.toList ⟨#[]⟩=l at HP HR hlen
 generalize (0::starts 0 s.data.toList:List Int)=ats at HP HR hlen
 go_enter Tryz.func152,Tryz.ntmps152
 go_wp2_with (go_at_call 190;refine (HP.out _).mono ?_;rintro e w1 ⟨v0,v1,rfl,hv0,hv1,hb⟩;obtain ⟨hA,hB,hw⟩:=own2 w w1 hb;obtain ⟨A0,c0,e0⟩:=Kd.R_slice hv0;obtain ⟨A1,c1,e1⟩:=Kd.R_slice hv1;subst e0 e1)
 have hC0:=(Kd.R_reads' hv0).2.2
 have hC1:=(Kd.R_reads' hv1).2.2
 have hn1:w.heap.size≠w.heap.size+1:=by omega
 have hlt1:w.heap.size+1<w1.heap.size:=hB.lt
 clear hv0 hv1 hb
 have HLEN:=Lib.hid hlen
 clear hlen
 go_loopw [7] (fun i wr=> ∃ (k:Nat) (acc:List Int),k≤l.length∧k≤4∧i= .int .i64 k∧Hid (acc.length=k)∧Hid (rpaRes s=rpaLoop s.size ats k (l.drop k) acc)∧Hid (Blk wr w1.heap.size (accC acc) 218)∧Hid (Below w1.heap.size w1 wr)) (fun i _=>l.length - (intOf i).toNat)
 case atStart=>exact ⟨0,[],Nat.zero_le _,by omega,rfl,rfl,Lib.hid (by rw [HR.out];rfl),Lib.hid (Blk.new w1 (accC []) _),Lib.hid (below_alloc (Below.refl _ _) _)⟩
 case round=>
  obtain ⟨k,acc,hk,hk4,rfl,HAL,HP2,HBK,HBR⟩:=hrel
  have hAr:=hA.below HBR.out
  have hBr:=hB.below HBR.out
  have hCr0:=Kd.C_below hC0 HBR.out
  have hCr1:=Kd.C_below hC1 HBR.out
  have hwr:=below_then hw hw.size HBR.out
  have hk0:(0:Int)≤(k:Int):=Int.natCast_nonneg _
  by_cases hlt:k<l.length
  ·have hk1:(k:Int)<(l.length:Int):=by omega
   have hk1':(k:Int)<(ats.length:Int):=by have:=HLEN.out;omega
   obtain ⟨ad,rfl,hcell⟩:=Kd.at_string hCr0 k hk0 hk1
   obtain ⟨ad1,rfl,hcell1⟩:=Kd.at_int hCr1 k hk0 hk1'
   rw [rdOf_at l k hlt,Int.toNat_natCast] at hcell
   rw [Int.toNat_natCast] at hcell1
   rw [List.drop_eq_getElem_cons hlt] at HP2
   generalize l[k]=p at hcell HP2
   unfold rpaLoop at HP2
   by_cases h4:k=4
   ·subst h4
    have HPE:Hid (rpaRes s= .inl (rd ats 4,63)):=Lib.hid (by rw [HP2.out,if_pos rfl];rfl)
    clear HP2
    have h4l:(4:Int)<(ats.length:Int):=hk1'
    have hc4:wr.cell? ⟨ad1.block,ad1.off+4,none⟩=some (.int .i64 (rd ats 4)):=hcell1
    go_wp2_with ((go_at_call 149;refine (HF.out _ _ _ (StdW.below HS.out hwr)).mono ?_;rintro e w3 ⟨rfl,hb3⟩;have hAe:=hAr.below hb3;have hBe:=hBr.below hb3;have hwe:=below_then hwr hwr.size hb3;obtain ⟨a0,a1,a2,a3,f0,f1,f2,f3,s0,s1,s2,s3⟩:=hAe.fourz;obtain ⟨b0,b1,b2,b3,b4,b5,b6,b7,b8,b9,g0,g1,g2,g3,g4,g5,g6,g7,g8,g9⟩:=hBe.tenz;clear hb3))
    rw [setBad_eq]
    have hA2:=setBad_other (rd ats 4) 63 hn1 hAe
    have hB2:=setBad_blk (rd ats 4) 63 hBe
    have hw2:=setBad_below (rd ats 4) 63 (show w.heap.size≤w.heap.size+1 by omega) hwe
    generalize setBad _ (w.heap.size+1) (rd ats 4) 63=wf at hA2 hB2 hw2 ⊢
    clear a0 a1 a2 a3 f0 f1 f2 f3 s0 s1 s2 s3 b0 b1 b2 b3 b4 b5 b6 b7 b8 b9 g0 g1 g2 g3 g4 g5 g6 g7 g8 g9
    obtain ⟨a0,a1,a2,a3,-⟩:=hA2.fourz
    obtain ⟨b0,b1,b2,b3,b4,b5,b6,b7,b8,b9⟩:=hB2.tenb
    exact bodyPost_ret (v:= .tuple #[.agg #[.int .u8 0,.int .u8 0,.int .u8 0,.int .u8 0],.agg #[.int .i64 1,.string hostS,.string ⟨#[]⟩,.string ⟨#[]⟩,.string ⟨#[]⟩,.int .i64 (rd ats 4),.int .i64 0,.int .i64 0,.int .i64 0,.int .i64 63]]) (by simp [results,Tryz.results152,go_sem,a0,a1,a2,a3,b0,b1,b2,b3,b4,b5,b6,b7,b8,b9]) rfl ⟨hw2,by rw [HPE.out];rfl⟩
   ·have h4':((k:Int)==4)=false:=by rw [beq_eq_false_iff_ne];omega
    have hk3':k<4:=by omega
    have hk3:(k:Int)<4:=by omega
    rw [if_neg h4] at HP2
    have HW:=Lib.hid (fun W=>refWhole p W)
    obtain ⟨⟨n,ok⟩,hv⟩: ∃ x,wholeV p.data.toList 3=x:=⟨_,rfl⟩
    have hn0:0≤n:=by unfold wholeV at hv;split at hv<;>cases hv<;>omega
    rw [hv] at HW HP2
    clear hv
    simp only [] at HW HP2
    cases ok
    ·have HPE:Hid (rpaRes s= .inl (rd ats k,60)):=Lib.hid (by rw [HP2.out,if_pos (.inl rfl)];rfl)
     clear HP2
     go_wp2_with (first|(go_at_call 67;refine (HW.out _).mono ?_;rintro e w2 ⟨rfl,hb2⟩;have hA2:=hAr.below hb2;have hB2:=hBr.below hb2;have hw2:=below_then hwr hwr.size hb2;have hK2:=HBK.out.below hb2;have hC2:=hcell1;have hD2:=pw_cell_below hb2 hcell1;have HB2:=Lib.hid (below_then HBR.out HBR.out.size hb2);have hcb:=hK2.cell k _ (accC_cell acc k hk3');have hfb:=hK2.free k;have HK2:=Lib.hid hK2;clear hK2)|(go_at_call 149;refine (HF.out _ _ _ (StdW.below HS.out hw2)).mono ?_;rintro e w3 ⟨rfl,hb3⟩;have hAe:=hA2.below hb3;have hBe:=hB2.below hb3;have hwe:=below_then hw2 hw2.size hb3;obtain ⟨a0,a1,a2,a3,f0,f1,f2,f3,s0,s1,s2,s3⟩:=hAe.fourz;obtain ⟨b0,b1,b2,b3,b4,b5,b6,b7,b8,b9,g0,g1,g2,g3,g4,g5,g6,g7,g8,g9⟩:=hBe.tenz;clear hb3))
     rw [setBad_eq]
     have hA2:=setBad_other (rd ats k) 60 hn1 hAe
     have hB2:=setBad_blk (rd ats k) 60 hBe
     have hw2:=setBad_below (rd ats k) 60 (show w.heap.size≤w.heap.size+1 by omega) hwe
     generalize setBad _ (w.heap.size+1) (rd ats k) 60=wf at hA2 hB2 hw2 ⊢
     clear a0 a1 a2 a3 f0 f1 f2 f3 s0 s1 s2 s3 b0 b1 b2 b3 b4 b5 b6 b7 b8 b9 g0 g1 g2 g3 g4 g5 g6 g7 g8 g9
     obtain ⟨a0,a1,a2,a3,-⟩:=hA2.fourz
     obtain ⟨b0,b1,b2,b3,b4,b5,b6,b7,b8,b9⟩:=hB2.tenb
     exact bodyPost_ret (v:= .tuple #[.agg #[.int .u8 0,.int .u8 0,.int .u8 0,.int .u8 0],.agg #[.int .i64 1,.string hostS,.string ⟨#[]⟩,.string ⟨#[]⟩,.string ⟨#[]⟩,.int .i64 (rd ats k),.int .i64 0,.int .i64 0,.int .i64 0,.int .i64 60]]) (by simp [results,Tryz.results152,go_sem,a0,a1,a2,a3,b0,b1,b2,b3,b4,b5,b6,b7,b8,b9]) rfl ⟨hw2,by rw [HPE.out];rfl⟩
    ·by_cases hbig:255<n
     ·have HPE:Hid (rpaRes s= .inl (rd ats k,60)):=Lib.hid (by rw [HP2.out,if_pos (.inr hbig)];rfl)
      clear HP2
      go_wp2_with (first|(go_at_call 67;refine (HW.out _).mono ?_;rintro e w2 ⟨rfl,hb2⟩;have hA2:=hAr.below hb2;have hB2:=hBr.below hb2;have hw2:=below_then hwr hwr.size hb2;have hK2:=HBK.out.below hb2;have hC2:=hcell1;have hD2:=pw_cell_below hb2 hcell1;have HB2:=Lib.hid (below_then HBR.out HBR.out.size hb2);have hcb:=hK2.cell k _ (accC_cell acc k hk3');have hfb:=hK2.free k;have HK2:=Lib.hid hK2;clear hK2)|(go_at_call 149;refine (HF.out _ _ _ (StdW.below HS.out hw2)).mono ?_;rintro e w3 ⟨rfl,hb3⟩;have hAe:=hA2.below hb3;have hBe:=hB2.below hb3;have hwe:=below_then hw2 hw2.size hb3;obtain ⟨a0,a1,a2,a3,f0,f1,f2,f3,s0,s1,s2,s3⟩:=hAe.fourz;obtain ⟨b0,b1,b2,b3,b4,b5,b6,b7,b8,b9,g0,g1,g2,g3,g4,g5,g6,g7,g8,g9⟩:=hBe.tenz;clear hb3))
      rw [setBad_eq]
      have hA2:=setBad_other (rd ats k) 60 hn1 hAe
      have hB2:=setBad_blk (rd ats k) 60 hBe
      have hw2:=setBad_below (rd ats k) 60 (show w.heap.size≤w.heap.size+1 by omega) hwe
      generalize setBad _ (w.heap.size+1) (rd ats k) 60=wf at hA2 hB2 hw2 ⊢
      clear a0 a1 a2 a3 f0 f1 f2 f3 s0 s1 s2 s3 b0 b1 b2 b3 b4 b5 b6 b7 b8 b9 g0 g1 g2 g3 g4 g5 g6 g7 g8 g9
      obtain ⟨a0,a1,a2,a3,-⟩:=hA2.fourz
      obtain ⟨b0,b1,b2,b3,b4,b5,b6,b7,b8,b9⟩:=hB2.tenb
      exact bodyPost_ret (v:= .tuple #[.agg #[.int .u8 0,.int .u8 0,.int .u8 0,.int .u8 0],.agg #[.int .i64 1,.string hostS,.string ⟨#[]⟩,.string ⟨#[]⟩,.string ⟨#[]⟩,.int .i64 (rd ats k),.int .i64 0,.int .i64 0,.int .i64 0,.int .i64 60]]) (by simp [results,Tryz.results152,go_sem,a0,a1,a2,a3,b0,b1,b2,b3,b4,b5,b6,b7,b8,b9]) rfl ⟨hw2,by rw [HPE.out];rfl⟩
     ·rw [if_neg (by rintro (h|h);cases h;exact hbig h)] at HP2
      have hbig': ¬ n>255:=hbig
      go_wp2_with (go_at_call 67;refine (HW.out _).mono ?_;rintro e w2 ⟨rfl,hb2⟩;have hA2:=hAr.below hb2;have hB2:=hBr.below hb2;have hw2:=below_then hwr hwr.size hb2;have hK2:=HBK.out.below hb2;have hC2:=hcell1;have hD2:=pw_cell_below hb2 hcell1;have HB2:=Lib.hid (below_then HBR.out HBR.out.size hb2);have hcb:=hK2.cell k _ (accC_cell acc k hk3');have hfb:=hK2.free k;have HK2:=Lib.hid hK2;clear hK2)
      go_roundw
      case rel=>exact ⟨k+1,acc++[n],by omega,by omega,by go_num,Lib.hid (by rw [List.length_append,HAL.out];rfl),HP2,Lib.hid (by rw [← accC_put acc k HAL.out hk3'];exact HK2.out.set k _),Lib.hid (HB2.out.setCell (Nat.le_refl _) _)⟩
      case measure=>simp [intOf];omega
  ·have hkl:k=l.length:=by omega
   have hk1: ¬ (k:Int)<(l.length:Int):=by omega
   rw [List.drop_of_length_le (by omega)] at HP2
   unfold rpaLoop at HP2
   by_cases h4:k<4
   ·have HPE:Hid (rpaRes s= .inl ((s.size:Int),63)):=Lib.hid (by rw [HP2.out,if_pos h4])
    have hl4:(l.length:Int)<4:=by omega
    clear HP2 hkl
    go_wp2_with (go_at_call 149;refine (HF.out _ _ _ (StdW.below HS.out hwr)).mono ?_;rintro e w3 ⟨rfl,hb3⟩;have hAe:=hAr.below hb3;have hBe:=hBr.below hb3;have hwe:=below_then hwr hwr.size hb3;obtain ⟨a0,a1,a2,a3,f0,f1,f2,f3,s0,s1,s2,s3⟩:=hAe.fourz;obtain ⟨b0,b1,b2,b3,b4,b5,b6,b7,b8,b9,g0,g1,g2,g3,g4,g5,g6,g7,g8,g9⟩:=hBe.tenz;clear hb3)
    rw [setBad_eq]
    have hA2:=setBad_other (s.size) 63 hn1 hAe
    have hB2:=setBad_blk (s.size) 63 hBe
    have hw2:=setBad_below (s.size) 63 (show w.heap.size≤w.heap.size+1 by omega) hwe
    generalize setBad _ (w.heap.size+1) (s.size) 63=wf at hA2 hB2 hw2 ⊢
    clear a0 a1 a2 a3 f0 f1 f2 f3 s0 s1 s2 s3 b0 b1 b2 b3 b4 b5 b6 b7 b8 b9 g0 g1 g2 g3 g4 g5 g6 g7 g8 g9
    obtain ⟨a0,a1,a2,a3,-⟩:=hA2.fourz
    obtain ⟨b0,b1,b2,b3,b4,b5,b6,b7,b8,b9⟩:=hB2.tenb
    exact bodyPost_ret (v:= .tuple #[.agg #[.int .u8 0,.int .u8 0,.int .u8 0,.int .u8 0],.agg #[.int .i64 1,.string hostS,.string ⟨#[]⟩,.string ⟨#[]⟩,.string ⟨#[]⟩,.int .i64 (s.size),.int .i64 0,.int .i64 0,.int .i64 0,.int .i64 63]]) (by simp [results,Tryz.results152,go_sem,a0,a1,a2,a3,b0,b1,b2,b3,b4,b5,b6,b7,b8,b9]) rfl ⟨hw2,by rw [HPE.out];rfl⟩
   ·have HPE:Hid (rpaRes s= .inr acc):=Lib.hid (by rw [HP2.out,if_neg h4])
    have hl4: ¬ (l.length:Int)<4:=by omega
    clear HP2 hkl
    have d0:=HBK.out.cell 0 _ (accC_cell acc 0 (by decide))
    have d1:=HBK.out.cell 1 _ (accC_cell acc 1 (by decide))
    have d2:=HBK.out.cell 2 _ (accC_cell acc 2 (by decide))
    have d3:=HBK.out.cell 3 _ (accC_cell acc 3 (by decide))
    have f0:=hAr.free 0
    have f1:=hAr.free 1
    have f2:=hAr.free 2
    have f3:=hAr.free 3
    have a0:=hAr.cell 0 _ rfl
    have a1:=hAr.cell 1 _ rfl
    have a2:=hAr.cell 2 _ rfl
    have a3:=hAr.cell 3 _ rfl
    obtain ⟨b0,b1,b2,b3,b4,b5,b6,b7,b8,b9,g0,g1,g2,g3,g4,g5,g6,g7,g8,g9⟩:=hBr.tenz
    have HEND:Hid (∀ wx,Below w.heap.size w wx→RPPost (rpaRes s) w (.returned (.tuple #[.agg #[.int .u8 (acc.getD 0 0),.int .u8 (acc.getD 1 0),.int .u8 (acc.getD 2 0),.int .u8 (acc.getD 3 0)],.agg zB10])) wx):=Lib.hid (fun wx hb=>⟨hb,by rw [HPE.out]⟩)
    generalize acc.getD 0 0=x0 at d0 HEND
    generalize acc.getD 1 0=x1 at d1 HEND
    generalize acc.getD 2 0=x2 at d2 HEND
    generalize acc.getD 3 0=x3 at d3 HEND
    go_wp2
    rw [setOk_eq]
    have hA2:=setOk_a x0 x1 x2 x3 hn1 hAr
    have hB2:=setOk_b x0 x1 x2 x3 hn1 hBr
    have hw2:=setOk_below x0 x1 x2 x3 (Nat.le_refl _) (show w.heap.size≤w.heap.size+1 by omega) hwr
    generalize setOk wr w.heap.size (w.heap.size+1) x0 x1 x2 x3=wf at hA2 hB2 hw2 ⊢
    clear a0 a1 a2 a3 f0 f1 f2 f3 b0 b1 b2 b3 b4 b5 b6 b7 b8 b9 g0 g1 g2 g3 g4 g5 g6 g7 g8 g9
    have a0:=hA2.cell 0 _ rfl
    have a1:=hA2.cell 1 _ rfl
    have a2:=hA2.cell 2 _ rfl
    have a3:=hA2.cell 3 _ rfl
    obtain ⟨b0,b1,b2,b3,b4,b5,b6,b7,b8,b9,-⟩:=hB2.tenz
    exact bodyPost_ret (v:= .tuple #[.agg #[.int .u8 x0,.int .u8 x1,.int .u8 x2,.int .u8 x3],.agg #[.int .i64 0,.string ⟨#[]⟩,.string ⟨#[]⟩,.string ⟨#[]⟩,.string ⟨#[]⟩,.int .i64 0,.int .i64 0,.int .i64 0,.int .i64 0,.int .i64 0]]) (by simp [results,Tryz.results152,go_sem,a0,a1,a2,a3,b0,b1,b2,b3,b4,b5,b6,b7,b8,b9]) rfl (HEND.out _ hw2)
theorem rpa_any (s:ByteArray) (w:World) (hS:StdW w):Calls Tryz.prog 152 #[.string s] w (RPPost (rpaRes s) w):=by
 by_cases hs:253<s.size
 ·refine (rpa_long s hs w hS).mono fun e w' ⟨he,hb⟩=>?_
  have:rpaRes s= .inl (253,3):=by unfold rpaRes;rw [if_pos hs]
  rw [this]
  exact ⟨hb,he⟩
 ·exact rpa_short s (by omega) w hS
theorem num_whole (l:List UInt8) (d most:Nat) (hd1:1≤d) (hd:most<10^d) (hm:most<9223372036854775808):
  numOk l (most:Int)=((wholeV l d).2 && decide ((wholeV l d).1≤(most:Int)))∧(numOk l (most:Int)=true→atoiV l=(wholeV l d).1):=by
 have hb:=numOk_bounds l (most:Int)
 rw [numOk_canon l most hm] at hb ⊢
 unfold wholeV
 rw [Num.whole_canon]
 by_cases hc:Num.canon l=true
 ·by_cases hv:Num.val l≤most
  ·have hl:=Num.canon_len l d hd1 hc (by omega)
   rw [if_pos ⟨hc,hl⟩]
   rw [hc,decide_eq_true hv] at hb ⊢
   refine ⟨?_,fun h=>(hb h).2.2.2⟩
   dsimp only
   rw [decide_eq_true (by omega)]
  ·rw [hc,decide_eq_false hv]
   refine ⟨?_,fun h=>by cases h⟩
   split
   ·rename_i n hn
    split at hn
    ·cases hn
     rw [decide_eq_false (by omega)]
    ·cases hn
   ·rfl
 ·rw [if_neg (fun h=>hc h.1)]
  rw [Bool.not_eq_true] at hc
  rw [hc]
  exact ⟨rfl,fun h=>by cases h⟩
def startsOf:Int→List ByteArray→List Int
 |_,[]=>[]
 |a,p::r=>a::startsOf (a+p.size+1) r
def endOf:Int→List ByteArray→Int
 |a,[]=>a
 |a,p::r=>endOf (a+p.size+1) r
theorem startsOf_cutR: ∀ (l:List UInt8) (last:ByteArray) (i:Nat) (a:Int),a+(last.size:Int)=(i:Int)→a::starts i l=startsOf a (cutR l last)
 |[],last,i,a,h=>rfl
 |c::l,last,i,a,h=>by
  unfold starts cutR
  by_cases hc:c=46
  ·rw [if_pos hc,if_pos hc]
   unfold startsOf
   rw [startsOf_cutR l ⟨#[]⟩ (i+1) ((i+1:Nat):Int) (by show _+((0:Nat):Int)=_;omega),show a+(last.size:Int)+1=((i+1:Nat):Int) by omega]
  ·rw [if_neg hc,if_neg hc]
   exact startsOf_cutR l _ (i+1) a (by rw [ByteArray.size_append];show a+((last.size+1:Nat):Int)=_;omega)
theorem startsOf_len: ∀ (ps:List ByteArray) (a:Int),(startsOf a ps).length=ps.length
 |[],_=>rfl
 |p::r,a=>by unfold startsOf;rw [List.length_cons,List.length_cons,startsOf_len r]
theorem endOf_cutR: ∀ (l:List UInt8) (last:ByteArray) (a:Int),endOf a (cutR l last)=a+(last.size:Int)+(l.length:Int)+1
 |[],last,a=>by unfold cutR endOf endOf;simp
 |c::l,last,a=>by
  unfold cutR
  by_cases hc:c=46
  ·rw [if_pos hc]
   unfold endOf
   rw [endOf_cutR l ⟨#[]⟩,List.length_cons]
   show _+((0:Nat):Int)+_+1=_
   omega
  ·rw [if_neg hc,endOf_cutR l,ByteArray.size_append,List.length_cons]
   show a+((last.size+1:Nat):Int)+_+1=_
   omega
theorem endOf_ge: ∀ (ps:List ByteArray) (a:Int),a+(ps.length:Int)≤endOf a ps
 |[],a=>by unfold endOf;simp
 |p::r,a=>by
  have:=endOf_ge r (a+p.size+1)
  unfold endOf
  rw [List.length_cons];omega
theorem at_pre (pre:List Int) (a:Int) (p:ByteArray) (r:List ByteArray):(pre++startsOf a (p::r)).getD pre.length 0=a:=by
 rw [List.getD_eq_getElem?_getD,List.getElem?_append_right (Nat.le_refl _),Nat.sub_self];rfl
theorem loop_pa (sz:Int) (ats:List Int): ∀ (ps:List ByteArray) (pre:List Int) (k:Nat) (a:Int) (acc:List Int),k≤4→ats=pre++startsOf a ps→pre.length=k→endOf a ps=sz+1→(ps=[]→k=4)→rpaLoop sz ats k ps acc=paLoop sz k a ps acc
 |[],pre,k,a,acc,hk,h,hp,he,hn=>by
  unfold rpaLoop paLoop
  rw [if_neg (by have:=hn rfl;omega)]
 |p::r,pre,k,a,acc,hk,h,hp,he,hn=>by
  have ha:ats.getD k 0=a:=by rw [h,← hp];exact at_pre pre a p r
  unfold rpaLoop paLoop
  by_cases h4:k=4
  ·subst h4
   rw [if_pos rfl,if_pos (show ((4:Nat):Int)=4 from rfl),ha]
  ·rw [if_neg h4,if_neg (show ¬ (k:Int)=4 by omega)]
   obtain ⟨n1,n2⟩:=num_whole p.data.toList 3 255 (by decide) (by decide) (by decide)
   have n1:numOk p.data.toList 255=_:=n1
   have n2:numOk p.data.toList 255=true→_:=n2
   cases hb:numOk p.data.toList 255
   ·rw [hb] at n1
    rw [if_pos rfl,if_pos,ha]
    by_cases h1:(wholeV p.data.toList 3).2=false
    ·exact .inl h1
    ·rw [Bool.not_eq_false] at h1
     rw [h1,Bool.true_and] at n1
     have:=of_decide_eq_false n1.symm
     exact .inr (by omega)
   ·rw [hb] at n1
    have n1:=n1.symm
    rw [Bool.and_eq_true,decide_eq_true_eq] at n1
    rw [if_neg (show ¬ (true=false) by decide),if_neg (show ¬ ((wholeV p.data.toList 3).2=false∨255<(wholeV p.data.toList 3).1) by
     rintro (h1|h1)
     ·rw [n1.1] at h1;cases h1
     ·omega),n2 hb]
    cases r with
    |nil=>
     have hsz:sz<a+(p.size:Int)+1:=by unfold endOf endOf at he;omega
     by_cases h3:k=3
     ·subst h3
      rw [if_neg (by omega)]
      unfold rpaLoop paLoop
      rw [if_neg (by omega)]
     ·rw [if_pos ⟨hsz,by omega⟩]
      unfold rpaLoop
      rw [if_pos (by omega)]
    |cons q r=>
     have hg:=endOf_ge (q::r) (a+p.size+1)
     unfold endOf at he
     rw [he,List.length_cons] at hg
     rw [if_neg (show ¬ (sz<a+(p.size:Int)+1∧(k:Int)<3) by omega)]
     exact loop_pa sz ats (q::r) (pre++[a]) (k+1) (a+p.size+1) _ (by omega) (by rw [h];show _=_++_;rw [startsOf,List.append_assoc];rfl) (by rw [List.length_append,hp];rfl) he (fun e=>by cases e)
theorem map_data_inj: ∀ (l r:List ByteArray),l.map (·.data.toList)=r.map (·.data.toList)→l=r
 |[],[],_=>rfl
 |[],_::_,h=>by cases h
 |_::_,[],h=>by cases h
 |a::l,b::r,h=>by
  rw [List.map_cons,List.map_cons] at h
  injection h with h1 h2
  rw [map_data_inj l r h2]
  congr 1
  exact ByteArray.ext (Array.ext' h1)
theorem cutR_parts (s:ByteArray):cutR s.data.toList ⟨#[]⟩=parts s:=map_data_inj _ _ (by rw [cutR_zero,parts_data])
theorem cutR_ne (l:List UInt8) (last:ByteArray):cutR l last≠[]:=fun e=>by
 have:=starts_len l last 0
 rw [e] at this;simp at this
theorem rpa_pa (s:ByteArray):rpaRes s=paRes s:=by
 unfold rpaRes paRes
 split
 ·rfl
 ·rw [startsOf_cutR s.data.toList ⟨#[]⟩ 0 0 rfl,← cutR_parts]
  refine loop_pa _ _ _ [] 0 0 [] (by decide) rfl rfl ?_ (fun e=>absurd e (cutR_ne _ _))
  rw [endOf_cutR,len_size]
  show (0:Int)+((0:Nat):Int)+_+1=_
  omega
abbrev Bad10:Type:=Int×ByteArray×ByteArray×ByteArray×ByteArray×Int×Int×Int×Int×Int
def bT (a c:Int):Bad10:=(1,hostS,⟨#[]⟩,⟨#[]⟩,⟨#[]⟩,a,0,0,0,c)
def okT:Bad10:=(0,⟨#[]⟩,⟨#[]⟩,⟨#[]⟩,⟨#[]⟩,0,0,0,0,0)
theorem fault_x (a c:Int):sallyportref06_fault.f a c=some (bT a c):=rfl
theorem pn_x1 (low:ByteArray) (L:List ByteArray) (at_:List Int) (last:ByteArray) (h0:0<L.length) (h1:L.length≤1000) (hA:at_.length=L.length) (hs:last.size≤253): ∀ (m k i:Nat) (b:Bool),i+m=last.size→m<k→
  sallyportref06_ParseName.l1 k low L at_ last b (i:Int)=some (if (b && (last.data.toList.drop i).all digR)=true then ((⟨#[]⟩:ByteArray),bT (rd at_ ((L.length:Int) - 1)) 63) else (low,okT))
 |0,k+1,i,b,hi,hk=>by
  unfold sallyportref06_ParseName.l1
  have hw:wrap64 ((L.length:Int) - 1)=(L.length:Int) - 1:=wrap64_id _ (by omega) (by omega)
  rw [if_neg (by omega),List.drop_of_length_le (by rw [len_size];omega),hw]
  cases b
  ·rw [if_neg (by simp)];rfl
  ·rw [if_pos rfl,if_pos (by omega),if_pos (by omega),fault_x,Option.bind_some];rfl
 |m+1,k+1,i,b,hi,hk=>by
  have hlt:i<last.data.toList.length:=by rw [len_size];omega
  have hw:wrap64 ((i:Int)+1)=((i+1:Nat):Int):=by rw [wrap64_id _ (by omega) (by omega)];omega
  unfold sallyportref06_ParseName.l1
  rw [if_pos (by omega),hw]
  cases b
  ·rw [if_neg (by simp),pn_x1 low L at_ last h0 h1 hA hs m k (i+1) false (by omega) (by omega),Bool.false_and,Bool.false_and]
  ·rw [if_pos rfl,if_pos (by omega),bt_get last i hlt,digit_f,Option.bind_some,List.drop_eq_getElem_cons hlt,List.all_cons,pn_x1 low L at_ last h0 h1 hA hs m k (i+1) _ (by omega) (by omega),Bool.true_and]
def nmR (low:ByteArray) (at_:List Int) (la:Int) (dg:Bool):Nat→List ByteArray→ByteArray×Bad10
 |_,[]=>if dg=true then (⟨#[]⟩,bT la 63) else (low,okT)
 |j,p::r=>if labR p.data.toList=true then nmR low at_ la dg (j+1) r else (⟨#[]⟩,bT (rd at_ (j:Int)) 61)
theorem pn_x0 (low:ByteArray) (L:List ByteArray) (at_:List Int) (h0:0<L.length) (h1:L.length≤1000) (hA:at_.length=L.length) (hs: ∀ p ∈ L,p.size≤253): ∀ (m k j:Nat),j+m=L.length→m+300<k→
  sallyportref06_ParseName.l0 k low L at_ (j:Int)=some (nmR low at_ (rd at_ ((L.length:Int) - 1)) (digs (L.getLastD ⟨#[]⟩)) j (L.drop j))
 |0,k+1,j,hj,hk=>by
  unfold sallyportref06_ParseName.l0
  have hw:wrap64 ((L.length:Int) - 1)=((L.length - 1:Nat):Int):=by rw [wrap64_id _ (by omega) (by omega)];omega
  rw [if_neg (by omega),List.drop_of_length_le (by omega),hw,if_pos (by omega),if_pos (by omega),rdOf_at L _ (by omega)]
  have hl:L.getLastD ⟨#[]⟩=L[L.length - 1]:=by
   rw [List.getLastD_eq_getLast?,List.getLast?_eq_getElem?,List.getElem?_eq_getElem (by omega)];rfl
  rw [hl]
  have h:=pn_x1 low L at_ L[L.length - 1] h0 h1 hA (hs _ (List.getElem_mem _)) L[L.length - 1].size k 0 true (by omega) (by have:=hs _ (List.getElem_mem (show L.length - 1<L.length by omega));omega)
  rw [List.drop_zero,Bool.true_and] at h
  exact h
 |m+1,k+1,j,hj,hk=>by
  have hlt:j<L.length:=by omega
  have hw:wrap64 ((j:Int)+1)=((j+1:Nat):Int):=by rw [wrap64_id _ (by omega) (by omega)];omega
  have hp:=hs _ (List.getElem_mem hlt)
  unfold sallyportref06_ParseName.l0
  rw [if_pos (by omega),if_pos (by omega),rdOf_at L j hlt,List.drop_eq_getElem_cons hlt,label_f _ (by omega) k (by omega),Option.bind_some,hw]
  unfold nmR
  cases hb:labR L[j].data.toList
  ·rw [if_neg (by simp),if_pos (by omega),fault_x,Option.bind_some]
   rw [if_neg Bool.false_ne_true]
  ·rw [if_pos rfl,if_pos rfl]
   exact pn_x0 low L at_ h0 h1 hA hs m k (j+1) (by omega) (by omega)
def lowP (p:ByteArray):ByteArray:=⟨(p.data.toList.map Lib.lowerB).toArray⟩
theorem lowP_data (p:ByteArray):(lowP p).data.toList=p.data.toList.map Lib.lowerB:=rfl
theorem lowP_size (p:ByteArray):(lowP p).size=p.size:=by rw [← len_size,lowP_data,List.length_map,len_size]
theorem startsOf_low: ∀ (ps:List ByteArray) (a:Int),startsOf a (ps.map lowP)=startsOf a ps
 |[],_=>rfl
 |p::r,a=>by rw [List.map_cons];unfold startsOf;rw [lowP_size,startsOf_low r]
theorem nm_eq (low:ByteArray) (ats:List Int) (la:Int) (dg:Bool): ∀ (ps:List ByteArray) (pre:List Int) (k a:Nat),ats=pre++startsOf (a:Int) ps→pre.length=k→
  nmR low ats la dg k (ps.map lowP)=match badAt a ps with
   |some x=>(⟨#[]⟩,bT (x:Int) 61)
   |none=>if dg=true then (⟨#[]⟩,bT la 63) else (low,okT)
 |[],pre,k,a,h,hp=>rfl
 |p::r,pre,k,a,h,hp=>by
  have ha:rd ats (k:Int)=(a:Int):=by
   unfold rd
   rw [h,← hp]
   exact at_pre pre a p r
  rw [List.map_cons]
  unfold nmR badAt
  rw [lowP_data,labR_low]
  cases hb:lblOk p.data.toList
  ·rw [if_neg Bool.false_ne_true,if_neg Bool.false_ne_true,ha]
  ·rw [if_pos rfl,if_pos rfl]
   refine nm_eq low ats la dg r (pre++[(a:Int)]) (k+1) (a+p.size+1) ?_ (by rw [List.length_append,hp];rfl)
   rw [h,startsOf,List.append_assoc]
   rfl
theorem endOf_sumAt: ∀ (ps:List ByteArray) (a:Nat),endOf (a:Int) ps=(sumAt a ps:Int)
 |[],_=>rfl
 |p::r,a=>by
  have:=endOf_sumAt r (a+p.size+1)
  unfold endOf sumAt
  rw [← this];rfl
theorem startsOf_last: ∀ (ps:List ByteArray) (a:Int),ps≠[]→(startsOf a ps).getD (ps.length - 1) 0=endOf a ps - 1 - ((ps.getLastD ⟨#[]⟩).size:Int)
 |[],_,h=>absurd rfl h
 |[p],a,_=>by
  show a=a+p.size+1 - 1 - p.size
  omega
 |p::q::r,a,_=>by
  have ih:=startsOf_last (q::r) (a+p.size+1) (by simp)
  exact ih
def pnT:(Int×Int) ⊕ ByteArray→ByteArray×Bad10
 | .inl (a,c)=>(⟨#[]⟩,bT a c)
 | .inr n=>(n,okT)
theorem cutR_low (s low:ByteArray) (h:low.data.toList=s.data.toList.map Lib.lowerB):cutR low.data.toList ⟨#[]⟩=(parts s).map lowP:=by
 refine map_data_inj _ _ ?_
 rw [cutR_zero,h,cutOn_low,← parts_data,List.map_map,List.map_map]
 rfl
theorem refPN_f (n:ByteArray) (hn:n.size≤281474976710656):sallyportref06_ParseName.f 1000 n=some (pnT (pnRes n)):=by
 unfold sallyportref06_ParseName.f pnRes
 by_cases h253:253<n.size
 ·rw [if_pos (by omega),if_pos h253,fault_x,Option.bind_some];rfl
 ·rw [if_neg (by omega),if_neg h253]
  have hlow:E.Lower.f n=some ⟨(Lib.toLowerA n.data.toList).toArray⟩:=by unfold E.Lower.f;rw [if_pos hn]
  rw [hlow,Option.bind_some]
  have hls:=low_size n
  have hll:(⟨(Lib.toLowerA n.data.toList).toArray⟩:ByteArray).data.toList=n.data.toList.map Lib.lowerB:=by show (Lib.toLowerA _).toArray.toList=_;rw [Lib.toLowerA]
  generalize (⟨(Lib.toLowerA n.data.toList).toArray⟩:ByteArray)=low at hls hll
  rw [parts_f low (by omega) 1000 (by omega),Option.bind_some]
  dsimp only
  rw [startsOf_cutR low.data.toList ⟨#[]⟩ 0 0 rfl,cutR_low n low hll]
  have hpl:=parts_le n
  have hpp:=parts_pos n
  have hPn:parts n≠[]:=fun e=>by rw [e] at hpp;simp at hpp
  have hsz: ∀ p ∈ (parts n).map lowP,p.size≤253:=fun p hp=>by
   obtain ⟨q,hq,rfl⟩:=List.mem_map.1 hp
   have h2:=size_mem _ q hq
   rw [sumAt_parts] at h2
   rw [lowP_size];omega
  have h:=pn_x0 low ((parts n).map lowP) (startsOf 0 ((parts n).map lowP)) (by rw [List.length_map];omega) (by rw [List.length_map];omega) (startsOf_len _ _) hsz ((parts n).map lowP).length 1000 0 (by omega) (by rw [List.length_map];omega)
  have h:sallyportref06_ParseName.l0 1000 low ((parts n).map lowP) (startsOf 0 ((parts n).map lowP)) 0=_:=h
  rw [h,List.drop_zero,nm_eq low _ _ _ (parts n) [] 0 0 (by rw [startsOf_low];rfl) rfl]
  have hlast:digs (((parts n).map lowP).getLastD ⟨#[]⟩)=onlyZ [2] ((parts n).getLastD ⟨#[]⟩).data.toList:=by
   rw [getLastD_map lowP (parts n) ⟨#[]⟩ ⟨#[]⟩ hPn]
   unfold digs onlyZ
   rw [lowP_data,List.all_map]
   congr 1
   funext x
   exact digR_low x
  have hla:rd (startsOf 0 ((parts n).map lowP)) ((((parts n).map lowP).length:Int) - 1)=(sumAt 0 (parts n):Int) - 1 - ((parts n).getLastD ⟨#[]⟩).size:=by
   rw [startsOf_low,List.length_map]
   have:=startsOf_last (parts n) 0 hPn
   have e:=endOf_sumAt (parts n) 0
   have e:endOf 0 (parts n)=_:=e
   rw [e] at this
   unfold rd
   rw [show ((parts n).length:Int) - 1=(((parts n).length - 1:Nat):Int) by omega,Int.toNat_natCast]
   exact this
  rw [hlast,hla]
  cases hbad:badAt 0 (parts n) with
  |some x=>rfl
  |none=>
   dsimp only
   cases ho:onlyZ [2] ((parts n).getLastD ⟨#[]⟩).data.toList
   ·rw [if_neg Bool.false_ne_true,if_neg Bool.false_ne_true];rfl
   ·rw [if_pos rfl,if_pos rfl];rfl
def hC (a b c d:Int) (n:ByteArray):Array Value:= #[.int .u8 a,.int .u8 b,.int .u8 c,.int .u8 d,.string n]
theorem Blk.hids {w:World} {R:Nat} {T:TypeId} (h:Blk w R (hC 0 0 0 0 ⟨#[]⟩) T):
  w.cell? ⟨R,0,none⟩=some (.int .u8 0)∧w.cell? ⟨R,1,none⟩=some (.int .u8 0)∧w.cell? ⟨R,2,none⟩=some (.int .u8 0)∧w.cell? ⟨R,3,none⟩=some (.int .u8 0)∧w.cell? ⟨R,4,none⟩=some (.string ⟨#[]⟩)∧
  w.frozen? ⟨R,0,none⟩=false∧w.frozen? ⟨R,1,none⟩=false∧w.frozen? ⟨R,2,none⟩=false∧w.frozen? ⟨R,3,none⟩=false∧w.frozen? ⟨R,4,none⟩=false∧
  w.setCell ⟨R,0,none⟩ (.int .u8 0)=w∧w.setCell ⟨R,1,none⟩ (.int .u8 0)=w∧w.setCell ⟨R,2,none⟩ (.int .u8 0)=w∧w.setCell ⟨R,3,none⟩ (.int .u8 0)=w∧w.setCell ⟨R,4,none⟩ (.string ⟨#[]⟩)=w:=
 ⟨h.cell 0 _ rfl,h.cell 1 _ rfl,h.cell 2 _ rfl,h.cell 3 _ rfl,h.cell 4 _ rfl,h.free 0,h.free 1,h.free 2,h.free 3,h.free 4,
  setCell_id _ _ _ _ (h.cell 0 _ rfl),setCell_id _ _ _ _ (h.cell 1 _ rfl),setCell_id _ _ _ _ (h.cell 2 _ rfl),setCell_id _ _ _ _ (h.cell 3 _ rfl),setCell_id _ _ _ _ (h.cell 4 _ rfl)⟩
theorem Blk.five {w:World} {R:Nat} {T:TypeId} {a b c d:Int} {n:ByteArray} (h:Blk w R (hC a b c d n) T):
  w.cell? ⟨R,0,none⟩=some (.int .u8 a)∧w.cell? ⟨R,1,none⟩=some (.int .u8 b)∧w.cell? ⟨R,2,none⟩=some (.int .u8 c)∧w.cell? ⟨R,3,none⟩=some (.int .u8 d)∧w.cell? ⟨R,4,none⟩=some (.string n)∧
  w.frozen? ⟨R,0,none⟩=false∧w.frozen? ⟨R,1,none⟩=false∧w.frozen? ⟨R,2,none⟩=false∧w.frozen? ⟨R,3,none⟩=false∧w.frozen? ⟨R,4,none⟩=false:=
 ⟨h.cell 0 _ rfl,h.cell 1 _ rfl,h.cell 2 _ rfl,h.cell 3 _ rfl,h.cell 4 _ rfl,h.free 0,h.free 1,h.free 2,h.free 3,h.free 4⟩
theorem only2 (p:ByteArray) (hp:p.size≤281474976710656) (W:World) (b:Nat) (hb:W.heap.size=b):
  Calls Tryz.prog 138 #[.string p,.slice (some ⟨b,0,none⟩) 2 2] (W.alloc (.cells #[.int .i64 2,.int .i64 1] 3)) fun e w'=>e= .returned (.bool (onlyZ [2,1] p.data.toList))∧W.alloc (.cells #[.int .i64 2,.int .i64 1] 3)=w':=by
 subst hb
 exact only_any p [2,1] W.heap.size 2 _ hp (by decide) (fun j hj=>by
  rw [World.cell?_alloc_new]
  match j,hj with
  |0,_=>rfl
  |1,_=>rfl)
theorem pa_err (s:ByteArray) (a c:Int) (hs:s.size≤281474976710656) (hr:paRes s= .inl (a,c)) (w:World) (hS:StdW w):
  Calls Tryz.prog 139 #[.string s] w fun e w'=> ∃ v,e= .returned (.tuple #[.agg #[.int .u8 0,.int .u8 0,.int .u8 0,.int .u8 0],v])∧ErrIs w' v [(hostS,a)] c∧Below w.heap.size w w':=by
 have h:=parseAddr_any s hs w hS
 rw [hr] at h
 exact h.mono (fun e w' ⟨hb,v,he,h⟩=>⟨v,he,h,hb⟩)
theorem pa_ok (s:ByteArray) (l:List Int) (hs:s.size≤281474976710656) (hr:paRes s= .inr l) (w:World) (hS:StdW w):
  Calls Tryz.prog 139 #[.string s] w fun e w'=>e= .returned (.tuple #[.agg #[.int .u8 (l.getD 0 0),.int .u8 (l.getD 1 0),.int .u8 (l.getD 2 0),.int .u8 (l.getD 3 0)],.nilIface])∧Below w.heap.size w w':=by
 have h:=parseAddr_any s hs w hS
 rw [hr] at h
 exact h.mono (fun e w' ⟨hb,_,he⟩=>⟨he,hb⟩)
theorem pn_err (s:ByteArray) (a c:Int) (hs:s.size≤281474976710656) (hr:pnRes s= .inl (a,c)) (w:World) (hS:StdW w):
  Calls Tryz.prog 140 #[.string s] w fun e w'=> ∃ v,e= .returned (.tuple #[.string ⟨#[]⟩,v])∧ErrIs w' v [(hostS,a)] c∧Below w.heap.size w w':=by
 have h:=parseName_any s hs w hS
 rw [hr] at h
 exact h.mono (fun e w' ⟨hb,v,he,h⟩=>⟨v,he,h,hb⟩)
theorem pn_ok (s n:ByteArray) (hs:s.size≤281474976710656) (hr:pnRes s= .inr n) (w:World) (hS:StdW w):
  Calls Tryz.prog 140 #[.string s] w fun e w'=>e= .returned (.tuple #[.string n,.nilIface])∧Below w.heap.size w w':=by
 have h:=parseName_any s hs w hS
 rw [hr] at h
 exact h.mono (fun e w' ⟨hb,he⟩=>⟨he,hb⟩)
def hpRes (s:ByteArray):(Int×Int) ⊕ (List Int×ByteArray):=
 if 253<s.size then .inl (253,3) else if s.size=0 then .inl (0,63) else if onlyZ [2,1] s.data.toList then (match paRes s with
  | .inl x=> .inl x
  | .inr l=> .inr (l,⟨#[]⟩)) else (match pnRes s with
  | .inl x=> .inl x
  | .inr n=> .inr ([0,0,0,0],n))
def HPPost (r:(Int×Int) ⊕ (List Int×ByteArray)) (w:World) (e:Ending) (w':World):Prop:=
 Below w.heap.size w w'∧match r with
  | .inl (a,c)=> ∃ v,e= .returned (.tuple #[.agg #[.int .u8 0,.int .u8 0,.int .u8 0,.int .u8 0,.string ⟨#[]⟩],v])∧ErrIs w' v [(hostS,a)] c
  | .inr (l,n)=>e= .returned (.tuple #[.agg #[.int .u8 (l.getD 0 0),.int .u8 (l.getD 1 0),.int .u8 (l.getD 2 0),.int .u8 (l.getD 3 0),.string n],.nilIface])
set_option maxRecDepth 100000 in
set_option maxHeartbeats 4000000 in
theorem hparse_long (s:ByteArray) (hs:253<s.size) (hs2:s.size≤281474976710656) (w:World):
  Calls Tryz.prog 99 #[.string s] w fun e w'=> ∃ v,e= .returned (.tuple #[.agg #[.int .u8 0,.int .u8 0,.int .u8 0,.int .u8 0,.string ⟨#[]⟩],v])∧ErrIs w' v [(hostS,253)] 3∧Below w.heap.size w w':=by
 have HE: ∀ W,ErrIs W (.iface 30 (.int .i64 3)) [] 3:=fun W=>rfl
 have HW:=Lib.hid (fun W=>wrong_any 253 _ [] 3 W (HE W))
 clear HE
 have hs1:(253:Int)<(s.size:Int):=by omega
 go_enter Tryz.func99,Tryz.ntmps99
 go_wp2_with (first|(go_at_call 133;refine (HW.out _).mono ?_;rintro e w1 ⟨v,rfl,he,hb⟩;obtain ⟨c0,c1,c2,c3,c4,f0,f1,f2,f3,f4,s0,s1,s2,s3,s4⟩:=((Blk.new w (hC 0 0 0 0 ⟨#[]⟩) 39).below hb).hids))
 refine bodyPost_ret (v:= .tuple #[.agg #[.int .u8 0,.int .u8 0,.int .u8 0,.int .u8 0,.string ⟨#[]⟩],v]) (by simp [results,Tryz.results99,go_sem,c0,c1,c2,c3,c4]) rfl ⟨v,rfl,?_,?_⟩
 ·exact he
 ·exact below_then (below_alloc (Below.refl _ _) _) (below_alloc (Below.refl _ _) _).size hb
set_option maxRecDepth 100000 in
set_option maxHeartbeats 4000000 in
theorem hparse_empty (s:ByteArray) (hs:s.size=0) (w:World):
  Calls Tryz.prog 99 #[.string s] w fun e w'=> ∃ v,e= .returned (.tuple #[.agg #[.int .u8 0,.int .u8 0,.int .u8 0,.int .u8 0,.string ⟨#[]⟩],v])∧ErrIs w' v [(hostS,0)] 63∧Below w.heap.size w w':=by
 have HE: ∀ W,ErrIs W (.iface 30 (.int .i64 63)) [] 63:=fun W=>rfl
 have HW:=Lib.hid (fun W=>wrong_any 0 _ [] 63 W (HE W))
 clear HE
 have hs1:(s.size:Int)≤253:=by omega
 have h1:s.toList.isEmpty=true:=by rw [size_zero];simpa using hs
 go_enter Tryz.func99,Tryz.ntmps99
 go_wp2_with (first|(go_at_call 133;refine (HW.out _).mono ?_;rintro e w1 ⟨v,rfl,he,hb⟩;obtain ⟨c0,c1,c2,c3,c4,f0,f1,f2,f3,f4,s0,s1,s2,s3,s4⟩:=((Blk.new w (hC 0 0 0 0 ⟨#[]⟩) 39).below hb).hids))
 refine bodyPost_ret (v:= .tuple #[.agg #[.int .u8 0,.int .u8 0,.int .u8 0,.int .u8 0,.string ⟨#[]⟩],v]) (by simp [results,Tryz.results99,go_sem,c0,c1,c2,c3,c4]) rfl ⟨v,rfl,?_,?_⟩
 ·exact he
 ·exact below_then (below_alloc (Below.refl _ _) _) (below_alloc (Below.refl _ _) _).size hb
set_option maxRecDepth 100000 in
set_option maxHeartbeats 4000000 in
theorem hparse_addr_err (s:ByteArray) (a c:Int) (hs:s.size≤253) (hs0:s.size≠0) (ho:onlyZ [2,1] s.data.toList=true) (hr:paRes s= .inl (a,c)) (w:World) (hS:StdW w):
  Calls Tryz.prog 99 #[.string s] w fun e w'=> ∃ v,e= .returned (.tuple #[.agg #[.int .u8 0,.int .u8 0,.int .u8 0,.int .u8 0,.string ⟨#[]⟩],v])∧ErrIs w' v [(hostS,a)] c∧Below w.heap.size w w':=by
 have HPA:=Lib.hid (fun W h=>pa_err s a c (by omega) hr W h)
 have HO:=Lib.hid (only2 s (by omega))
 rw [ho] at HO
 have HS:=Lib.hid hS
 have hs1:(s.size:Int)≤253:=by omega
 have h1:s.toList.isEmpty=false:=by rw [size_zero];simpa using hs0
 clear hS hr ho
 go_enter Tryz.func99,Tryz.ntmps99
 go_wp2_with (first|(go_at_call 138;refine (HO.out _ _ (by simp)).mono ?_;rintro e w2 ⟨rfl,rfl⟩)|(go_at_call 139;refine (HPA.out _ (StdW.below HS.out (below_alloc (below_alloc (Below.refl _ _) _) _))).mono ?_;rintro e w1 ⟨v,rfl,he,hb⟩;have hz:=((Blk.new w (hC 0 0 0 0 ⟨#[]⟩) 39).old (.cells #[.int .i64 2,.int .i64 1] 3)).below hb;obtain ⟨c0,c1,c2,c3,c4,f0,f1,f2,f3,f4,s0,s1,s2,s3,s4⟩:=hz.hids;obtain ⟨d0,d1,d2,d3,d4,g0,g1,g2,g3,g4,t0,t1,t2,t3,t4⟩:=(hz.old (.cells #[.int .u8 0,.int .u8 0,.int .u8 0,.int .u8 0] 37)).hids;clear hz))
 refine bodyPost_ret (v:= .tuple #[.agg #[.int .u8 0,.int .u8 0,.int .u8 0,.int .u8 0,.string ⟨#[]⟩],v]) (by simp [results,Tryz.results99,go_sem,c0,c1,c2,c3,c4,d0,d1,d2,d3,d4]) rfl ⟨v,rfl,?_,?_⟩
 ·exact ErrIs.below (below_alloc (Below.refl _ _) _) he
 ·exact below_alloc (below_then (below_alloc (below_alloc (Below.refl _ _) _) _) (below_alloc (below_alloc (Below.refl _ _) _) _).size hb) _
set_option maxRecDepth 100000 in
set_option maxHeartbeats 4000000 in
theorem hparse_addr_ok (s : ByteArray) (l : List Int) (hs : s.size ≤ 253) (hs0 : s.size ≠ 0) (ho : onlyZ [2, 1] s.data.toList = true) (hr : paRes s = .inr l) (w : World) (hS : StdW w) :
    Calls Tryz.prog 99 #[.string s] w fun e w' => e = .returned (.tuple #[.agg #[.int .u8 (l.getD 0 0), .int .u8 (l.getD 1 0), .int .u8 (l.getD 2 0), .int .u8 (l.getD 3 0), .string ⟨#[]⟩], .nilIface]) ∧ Below w.heap.size w w' := by
  have HPA := Lib.hid (fun W h => pa_ok s l (by omega) hr W h)
  have HO := Lib.hid (only2 s (by omega))
  rw [ho] at HO
  have HS := Lib.hid hS
  have hs1 : (s.size : Int) ≤ 253 := by omega
  have h1 : s.toList.isEmpty = false := by rw [size_zero]; simpa using hs0
  clear hS hr ho
  generalize l.getD 0 0 = l0 at HPA ⊢
  generalize l.getD 1 0 = l1 at HPA ⊢
  generalize l.getD 2 0 = l2 at HPA ⊢
  generalize l.getD 3 0 = l3 at HPA ⊢
  go_enter Tryz.func99, Tryz.ntmps99
  go_wp2_with (first | (go_at_call 138; refine (HO.out _ _ (by simp)).mono ?_; rintro e w2 ⟨rfl, rfl⟩) | (go_at_call 139; refine (HPA.out _ (StdW.below HS.out (below_alloc (below_alloc (Below.refl _ _) _) _))).mono ?_; rintro e w1 ⟨rfl, hb⟩; have hz := ((Blk.new w (hC 0 0 0 0 ⟨#[]⟩) 39).old (.cells #[.int .i64 2, .int .i64 1] 3)).below hb; have HZ := Lib.hid hz; have hlt := hz.lt; obtain ⟨c0, c1, c2, c3, c4, f0, f1, f2, f3, f4⟩ := hz.five; clear hz))
  obtain ⟨e0, e1, e2, e3, e4, -⟩ := (show Blk _ _ (hC l0 l1 l2 l3 ⟨#[]⟩) _ from ((((((HZ.out.set 0 (.int .u8 l0)).set 1 (.int .u8 l1)).set 2 (.int .u8 l2)).set 3 (.int .u8 l3)).set 4 (.string ⟨#[]⟩)).old (.cells #[.int .u8 l0, .int .u8 l1, .int .u8 l2, .int .u8 l3] 37))).five
  refine bodyPost_ret (v := .tuple #[.agg #[.int .u8 l0, .int .u8 l1, .int .u8 l2, .int .u8 l3, .string ⟨#[]⟩], .nilIface]) (by simp [results, Tryz.results99, go_sem, e0, e1, e2, e3, e4]) rfl ⟨rfl, ?_⟩
  repeat (refine Below.setCell ?_ (by first | exact Nat.le_refl _ | exact Nat.le_of_lt hlt) _)
  first
    | exact below_alloc (below_then (below_alloc (below_alloc (Below.refl _ _) _) _) (below_alloc (below_alloc (Below.refl _ _) _) _).size hb) _
    | (refine below_alloc ?_ _
       repeat (refine Below.setCell ?_ (by first | exact Nat.le_refl _ | exact Nat.le_of_lt hlt) _)
       exact below_then (below_alloc (below_alloc (Below.refl _ _) _) _) (below_alloc (below_alloc (Below.refl _ _) _) _).size hb)
set_option maxRecDepth 100000 in
set_option maxHeartbeats 4000000 in
theorem hparse_name_err (s:ByteArray) (a c:Int) (hs:s.size≤253) (hs0:s.size≠0) (ho:onlyZ [2,1] s.data.toList=false) (hr:pnRes s= .inl (a,c)) (w:World) (hS:StdW w):
  Calls Tryz.prog 99 #[.string s] w fun e w'=> ∃ v,e= .returned (.tuple #[.agg #[.int .u8 0,.int .u8 0,.int .u8 0,.int .u8 0,.string ⟨#[]⟩],v])∧ErrIs w' v [(hostS,a)] c∧Below w.heap.size w w':=by
 have HPN:=Lib.hid (fun W h=>pn_err s a c (by omega) hr W h)
 have HO:=Lib.hid (only2 s (by omega))
 rw [ho] at HO
 have HS:=Lib.hid hS
 have hs1:(s.size:Int)≤253:=by omega
 have h1:s.toList.isEmpty=false:=by rw [size_zero];simpa using hs0
 clear hS hr ho
 go_enter Tryz.func99,Tryz.ntmps99
 go_wp2_with (first|(go_at_call 138;refine (HO.out _ _ (by simp)).mono ?_;rintro e w2 ⟨rfl,rfl⟩)|(go_at_call 140;refine (HPN.out _ (StdW.below HS.out (below_alloc (below_alloc (Below.refl _ _) _) _))).mono ?_;rintro e w1 ⟨v,rfl,he,hb⟩;have hz:=((Blk.new w (hC 0 0 0 0 ⟨#[]⟩) 39).old (.cells #[.int .i64 2,.int .i64 1] 3)).below hb;obtain ⟨c0,c1,c2,c3,c4,f0,f1,f2,f3,f4,s0,s1,s2,s3,s4⟩:=hz.hids;clear hz))
 refine bodyPost_ret (v:= .tuple #[.agg #[.int .u8 0,.int .u8 0,.int .u8 0,.int .u8 0,.string ⟨#[]⟩],v]) (by simp [results,Tryz.results99,go_sem,c0,c1,c2,c3,c4]) rfl ⟨v,rfl,?_,?_⟩
 ·exact he
 ·exact below_then (below_alloc (below_alloc (Below.refl _ _) _) _) (below_alloc (below_alloc (Below.refl _ _) _) _).size hb
set_option maxRecDepth 100000 in
set_option maxHeartbeats 4000000 in
theorem hparse_name_ok (s n:ByteArray) (hs:s.size≤253) (hs0:s.size≠0) (ho:onlyZ [2,1] s.data.toList=false) (hr:pnRes s= .inr n) (w:World) (hS:StdW w):
  Calls Tryz.prog 99 #[.string s] w fun e w'=>e= .returned (.tuple #[.agg #[.int .u8 0,.int .u8 0,.int .u8 0,.int .u8 0,.string n],.nilIface])∧Below w.heap.size w w':=by
 have HPN:=Lib.hid (fun W h=>pn_ok s n (by omega) hr W h)
 have HO:=Lib.hid (only2 s (by omega))
 rw [ho] at HO
 have HS:=Lib.hid hS
 have hs1:(s.size:Int)≤253:=by omega
 have h1:s.toList.isEmpty=false:=by rw [size_zero];simpa using hs0
 clear hS hr ho
 go_enter Tryz.func99,Tryz.ntmps99
 go_wp2_with (first|(go_at_call 138;refine (HO.out _ _ (by simp)).mono ?_;rintro e w2 ⟨rfl,rfl⟩)|(go_at_call 140;refine (HPN.out _ (StdW.below HS.out (below_alloc (below_alloc (Below.refl _ _) _) _))).mono ?_;rintro e w1 ⟨rfl,hb⟩;have hz:=((Blk.new w (hC 0 0 0 0 ⟨#[]⟩) 39).old (.cells #[.int .i64 2,.int .i64 1] 3)).below hb;have hlt:=hz.lt;obtain ⟨c0,c1,c2,c3,c4,f0,f1,f2,f3,f4,s0,s1,s2,s3,s4⟩:=hz.hids;clear hz s4))
 refine bodyPost_ret (v:= .tuple #[.agg #[.int .u8 0,.int .u8 0,.int .u8 0,.int .u8 0,.string n],.nilIface]) (by simp [results,Tryz.results99,go_sem,c0,c1,c2,c3,c4]) rfl ⟨rfl,?_⟩
 repeat (refine Below.setCell ?_ (by first|exact Nat.le_refl _|exact Nat.le_of_lt hlt) _)
 exact below_then (below_alloc (below_alloc (Below.refl _ _) _) _) (below_alloc (below_alloc (Below.refl _ _) _) _).size hb
theorem hparse_any (s:ByteArray) (hs:s.size≤281474976710656) (w:World) (hS:StdW w):Calls Tryz.prog 99 #[.string s] w (HPPost (hpRes s) w):=by
 unfold hpRes
 by_cases h1:253<s.size
 ·rw [if_pos h1]
  exact (hparse_long s h1 hs w).mono (fun e w' ⟨v,he,h,hb⟩=>⟨hb,v,he,h⟩)
 rw [if_neg h1]
 by_cases h2:s.size=0
 ·rw [if_pos h2]
  exact (hparse_empty s h2 w).mono (fun e w' ⟨v,he,h,hb⟩=>⟨hb,v,he,h⟩)
 rw [if_neg h2]
 cases ho:onlyZ [2,1] s.data.toList
 ·rw [if_neg (by simp)]
  cases hr:pnRes s with
  |inl x=>
   obtain ⟨a,c⟩:=x
   exact (hparse_name_err s a c (by omega) h2 ho hr w hS).mono (fun e w' ⟨v,he,h,hb⟩=>⟨hb,v,he,h⟩)
  |inr n=>exact (hparse_name_ok s n (by omega) h2 ho hr w hS).mono (fun e w' ⟨he,hb⟩=>⟨hb,he⟩)
 ·rw [if_pos rfl]
  cases hr:paRes s with
  |inl x=>
   obtain ⟨a,c⟩:=x
   exact (hparse_addr_err s a c (by omega) h2 ho hr w hS).mono (fun e w' ⟨v,he,h,hb⟩=>⟨hb,v,he,h⟩)
  |inr l=>exact (hparse_addr_ok s l (by omega) h2 ho hr w hS).mono (fun e w' ⟨he,hb⟩=>⟨hb,he⟩)
def ppoRes (s:ByteArray):Option Int:=if numOk s.data.toList 65535=true∧atoiV s.data.toList≠0 then some (atoiV s.data.toList) else none
def PPPost (r:Option Int) (w:World) (e:Ending) (w':World):Prop:=
 Below w.heap.size w w'∧match r with
  |none=> ∃ v,e= .returned (.tuple #[.int .i64 0,v])∧ErrIs w' v [(hostS,0)] 62
  |some n=>e= .returned (.tuple #[.int .i64 n,.nilIface])
set_option maxRecDepth 100000 in
set_option maxHeartbeats 4000000 in
theorem hport_any (s:ByteArray) (hs:s.size≤281474976710656) (w:World) (hS:StdW w):Calls Tryz.prog 135 #[.string s] w (PPPost (ppoRes s) w):=by
 have HN:=Lib.hid (fun W h=>hnumber_any s 65535 hs W h)
 have HS:=Lib.hid hS
 have HE: ∀ W,ErrIs W (.iface 30 (.int .i64 62)) [] 62:=fun W=>rfl
 have HW:=Lib.hid (fun W=>wrong_any 0 _ [] 62 W (HE W))
 clear HE hS
 unfold ppoRes
 generalize atoiV s.data.toList=v at HN
 cases hok:numOk s.data.toList 65535
 ·rw [hok] at HN
  clear hok
  rw [if_neg (by simp)]
  go_enter Tryz.func135,Tryz.ntmps135
  go_wp2_with (first|(go_at_call 179;refine (HN.out _ HS.out).mono ?_;rintro e w2 ⟨rfl,hb2⟩)|(go_at_call 133;refine (HW.out _).mono ?_;rintro e w3 ⟨u,rfl,he,hb3⟩))
  go_ret2
  exact ⟨below_then hb2 hb2.size hb3,u,rfl,he⟩
 ·rw [hok] at HN
  clear hok
  by_cases hv:v=0
  ·subst hv
   rw [if_neg (by simp)]
   go_enter Tryz.func135,Tryz.ntmps135
   go_wp2_with (first|(go_at_call 179;refine (HN.out _ HS.out).mono ?_;rintro e w2 ⟨rfl,hb2⟩)|(go_at_call 133;refine (HW.out _).mono ?_;rintro e w3 ⟨u,rfl,he,hb3⟩))
   go_ret2
   exact ⟨below_then hb2 hb2.size hb3,u,rfl,he⟩
  ·rw [if_pos ⟨rfl,hv⟩]
   have hv':(v==0)=false:=beq_eq_false_iff_ne.2 hv
   clear hv
   go_enter Tryz.func135,Tryz.ntmps135
   go_wp2_with (first|(go_at_call 179;refine (HN.out _ HS.out).mono ?_;rintro e w2 ⟨rfl,hb2⟩)|(go_at_call 133;refine (HW.out _).mono ?_;rintro e w3 ⟨u,rfl,he,hb3⟩))
   go_ret2
   exact ⟨hb2,rfl⟩
end Go.Proofs.YtgmpdjjoefkndaaGreatDoor.E
