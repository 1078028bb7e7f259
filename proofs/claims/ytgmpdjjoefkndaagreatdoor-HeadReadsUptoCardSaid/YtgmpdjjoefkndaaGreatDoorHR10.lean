/- What the cards of this seat rest on: the walks and plain laws, part 10. -/
import Derived.Test.YtgmpdjjoefkndaaGreatDoorHR7
import Derived.Test.YtgmpdjjoefkndaaGreatDoorHR9
import Derived.Lib.SlBytesConst
import Derived.Lib.IndexBytes
import Derived.Shelf.Bytes.SlSmallAll
import Derived.Shelf.Bytes.SlEqualAll
import Derived.Shelf.Bytes.SlIndexWhole
import Derived.OwnWalk
import Derived.Lib.TrimUEq
import Derived.Lib.IndexAny
import Derived.Lib.RuneCount
import Derived.Test.YtgmpdjjoefkndaaGreatDoorHR2
import Derived.BigQuiet
import Derived.WalkMore
import Derived.Lib.OthersKept
import Derived.Laws.RangeAny
import Derived.Shelf.Strings.IndexAnyAll
import Derived.Deep.WholeRow
import Derived.Deep.LoopGhost

namespace Go.Proofs.YtgmpdjjoefkndaaGreatDoor.E
open Go.RowKit Go.Proofs.YtgmpdjjoefkndaaGreatDoorW.PrintWords Go.Proofs.YtgmpdjjoefkndaaGreatDoorW.PrintLast
set_option linter.unusedVariables false
set_option linter.unusedSimpArgs false
theorem bytesIn_below {w w':World} {p:Option Addr} {n:Nat} {xs:List Int} (h:Lib.BytesIn w p n xs) (hb:Below w.heap.size w w'):Lib.BytesIn w' p n xs:=fun hn=>by
 obtain ⟨b,o,e,hc⟩:=h hn
 exact ⟨b,o,e,fun i hi=>(hb.cell (World.block_lt_of_cell? _ _ (hc i hi))).trans (hc i hi)⟩
theorem bytesIn_take {w:World} {p:Option Addr} {n:Nat} {xs:List Int} (h:Lib.BytesIn w p n xs) (hx:xs.length=n) (m:Nat) (hm:m≤n):Lib.BytesIn w p m (xs.take m):=fun hn=>by
 obtain ⟨b,o,e,hc⟩:=h (by omega)
 refine ⟨b,o,e,fun i hi=>?_⟩
 rw [hc i (by omega)]
 simp [List.getD,hi]
theorem bytesOf_take (xs:List Int) (m:Nat):Lib.bytesOf (xs.take m)=(Lib.bytesOf xs).take m:=by unfold Lib.bytesOf;rw [List.map_take]
theorem bytesOf_length (xs:List Int):(Lib.bytesOf xs).length=xs.length:=List.length_map ..
theorem index_cc (A:Option Addr) (m c:Nat) (ys:List Int) (p:Nat) (w:World) (hS:StdW w) (hy:ys.length=m) (hr: ∀ y ∈ ys,0≤y∧y<256) (h:Lib.BytesIn w A m ys) (hA:A=none→c=0) (hcap:m≤c) (hm:m<4294967281)
  (hc: ∀ i,i<4→w.cell? ⟨p,i,none⟩=some (.int .u8 (([13,10,13,10]:List Int).getD i 0))):
  Calls Tryz.prog 43 #[.slice A m c,.slice (some ⟨p,0,none⟩) 4 4] w fun e w'=>e= .returned (.int .i64 (Lib.index (Lib.bytesOf ys) [13,10,13,10]))∧Below w.heap.size w w':=by
 cases A with
 |none=>
  obtain rfl:=hA rfl
  obtain rfl:m=0:=by omega
  obtain rfl:ys=[]:=List.eq_nil_of_length_eq_zero hy
  refine (Tryz.bytes_Index_nil (some ⟨p,0,none⟩) 4 4 w (by decide) (fun h=>absurd h (by decide))).mono ?_
  rintro e w' ⟨rfl,rfl⟩
  exact ⟨rfl,Below.refl _ _⟩
 |some a=>
  obtain ⟨mx,hmx⟩:=hS.max
  have hc1: ∀ i,i<m→w.cell? (a.add i)=some (.int .u8 (ys.getD i 0)):=fun i hi=>by
   obtain ⟨b,o,e,hcc⟩:=h (by omega)
   cases e
   rw [addAt];exact hcc i hi
  refine (Tryz.bytes_Index_at a ⟨p,0,none⟩ m c 4 4 ys [13,10,13,10] mx w hy rfl hr (by decide) hc1 (fun i hi=>by rw [addAt,Nat.zero_add];exact hc i hi) hcap hm (by decide) hmx).mono ?_
  rintro e w' ⟨rfl,q,rfl⟩
  exact ⟨rfl,below_drewN w q⟩
theorem pre_crlf (A:Option Addr) (m c:Nat) (ys:List Int) (p:Nat) (w:World) (hy:ys.length=m) (h:Lib.BytesIn w A m ys) (hcap:m≤c)
  (hc: ∀ i,i<2→w.cell? ⟨p,i,none⟩=some (.int .u8 (([13,10]:List Int).getD i 0))):
  Calls Tryz.prog 44 #[.slice A m c,.slice (some ⟨p,0,none⟩) 2 2] w fun e w'=>e= .returned (.bool (Lib.hasPrefix (Lib.bytesOf ys) [13,10]))∧Below w.heap.size w w':=by
 refine (Tryz.bytes_HasPrefix_all A (some ⟨p,0,none⟩) m c 2 2 ys [13,10] w hy rfl hcap h (fun _=>⟨p,0,rfl,fun i hi=>by rw [Nat.zero_add];exact hc i hi⟩)).mono ?_
 rintro e w' ⟨rfl,hw⟩
 exact ⟨rfl,hw▸Below.refl _ _⟩
theorem cells4 (w:World) (t:TypeId) (x:Nat×Nat): ∀ i,i<4→(w.alloc (.cells #[.int .u8 13,.int .u8 10,.int .u8 13,.int .u8 10] t x)).cell? ⟨w.heap.size,i,none⟩=some (.int .u8 (([13,10,13,10]:List Int).getD i 0)):=fun i hi=>by
 rcases (show i=0∨i=1∨i=2∨i=3 by omega) with rfl|rfl|rfl|rfl<;>simp [World.cell?,World.alloc,-World.alloc_eq]
theorem cells2 (w:World) (t:TypeId) (x:Nat×Nat): ∀ i,i<2→(w.alloc (.cells #[.int .u8 13,.int .u8 10] t x)).cell? ⟨w.heap.size,i,none⟩=some (.int .u8 (([13,10]:List Int).getD i 0)):=fun i hi=>by
 rcases (show i=0∨i=1 by omega) with rfl|rfl<;>simp [World.cell?,World.alloc,-World.alloc_eq]
def EndPost (r:(Nat×Nat) ⊕ Nat) (w:World) (e:Ending) (w':World):Prop:=
 Below w.heap.size w w'∧match r with
  | .inl (a,c)=> ∃ v,e= .returned (.tuple #[.int .i64 0,v])∧ErrIs w' v [(headS,(a:Int))] (c:Int)
  | .inr n=>e= .returned (.tuple #[.int .i64 (n:Int),.nilIface])
set_option maxRecDepth 100000 in
set_option maxHeartbeats 8000000 in
theorem end_any (A:Option Addr) (n c:Nat) (xs:List Int) (w:World) (hS:StdW w) (hx:xs.length=n) (hr: ∀ x ∈ xs,0≤x∧x<256) (h:Lib.BytesIn w A n xs) (hA:A=none→c=0) (hcap:n≤c) (hc63:c≤9223372036854775807):
  Calls Tryz.prog 10 #[.slice A n c] w (EndPost (Hd.endR (Lib.bytesOf xs)) w):=by
 have kc:=fun (w:World) (C:Array Value) (n c:Nat)=>Lib.run_convert_bytes_const (P:=Tryz.prog) w 22 5 C n c Tryz.underlying22 Tryz.underlying5
 have HW:=Lib.hid hdwrong_no
 have HS:=Lib.hid hS
 have hml:min n 8192≤n:=Nat.min_le_left _ _
 have hm8:min n 8192≤8192:=Nat.min_le_right _ _
 have HI:=Lib.hid (fun (p:Nat) (W:World) (hW:StdW W) (hB:Below w.heap.size w W) hcl=>index_cc A (min n 8192) c (xs.take (min n 8192)) p W hW (by rw [List.length_take];omega) (fun y hy=>hr y (List.mem_of_mem_take hy)) (bytesIn_take (bytesIn_below h hB) hx _ hml) hA (by omega) (by omega) hcl)
 have HP:=Lib.hid (fun (p:Nat) (W:World) (hB:Below w.heap.size w W) hcl=>pre_crlf A (min n 8192) c (xs.take (min n 8192)) p W (by rw [List.length_take];omega) (bytesIn_take (bytesIn_below h hB) hx _ hml) (by omega) hcl)
 have HE:Hid (Hd.endR (Lib.bytesOf xs)=if Lib.hasPrefix (Lib.bytesOf (xs.take (min n 8192))) [13,10] then .inr 2 else if 0≤Lib.index (Lib.bytesOf (xs.take (min n 8192))) [13,10,13,10] then .inr ((Lib.index (Lib.bytesOf (xs.take (min n 8192))) [13,10,13,10]).toNat+4) else if 8192≤n then .inl (8192,3) else .inl (n,6)):=Lib.hid (by
  have e1:(Lib.bytesOf xs).take 8192=Lib.bytesOf (xs.take (min n 8192)):=by
   rw [bytesOf_take]
   have hl:=bytesOf_length xs
   rcases Nat.le_total n 8192 with h1|h1
   ·rw [Nat.min_eq_left h1,List.take_of_length_le (by omega),List.take_of_length_le (by omega)]
   ·rw [Nat.min_eq_right h1]
  unfold Hd.endR Hd.headN Hd.crlf Hd.cc
  rw [e1,bytesOf_length,hx]
  generalize Lib.hasPrefix (Lib.bytesOf (xs.take (min n 8192))) [13,10]=pf
  generalize Lib.index (Lib.bytesOf (xs.take (min n 8192))) [13,10,13,10]=k
  cases pf
  ·rw [if_neg Bool.false_ne_true,if_neg Bool.false_ne_true]
   by_cases hk:0≤k
   ·rw [if_pos hk,if_pos hk]
   ·rw [if_neg hk,if_neg hk]
  ·rw [if_pos rfl,if_pos rfl])
 have hkl:Lib.index (Lib.bytesOf (xs.take (min n 8192))) [13,10,13,10]≤8192∧ -1≤Lib.index (Lib.bytesOf (xs.take (min n 8192))) [13,10,13,10]:=by
  have hl:(Lib.bytesOf (xs.take (min n 8192))).length≤8192:=by rw [bytesOf_length,List.length_take];omega
  have h1:=Lib.index_ge (Lib.bytesOf (xs.take (min n 8192))) [13,10,13,10]
  have h2:=Lib.index_le (Lib.bytesOf (xs.take (min n 8192))) [13,10,13,10]
  omega
 have hmm:(if (n:Int)≤8192 then (n:Int) else 8192)=((min n 8192:Nat):Int):=by split<;>omega
 have hmi:min (n:Int) 8192=((min n 8192:Nat):Int):=by omega
 generalize Lib.bytesOf (xs.take (min n 8192))=s at HI HP HE hkl
 generalize Hd.endR (Lib.bytesOf xs)=R at HE ⊢
 generalize Lib.hasPrefix s [13,10]=pf at HP HE
 generalize hk:Lib.index s [13,10,13,10]=k at HI HE hkl
 clear hk
 cases pf
 ·rw [if_neg Bool.false_ne_true] at HE
  by_cases h0:0≤k
  ·rw [if_pos h0] at HE
   have hwk:wrap64 (k+4)=((k.toNat+4:Nat):Int):=by unfold wrap64;omega
   go_enter Tryz.func10,Tryz.ntmps10
   go_wp2_with (first|(go_at_call 43;(with_reducible refine (HI.out w.heap.size _ (StdW.below HS.out (below_alloc (Below.refl _ _) _)) (below_alloc (Below.refl _ _) _) (cells4 _ _ _)).mono ?_);rintro e w1 ⟨rfl,hb⟩;have HB1:Hid (Below w.heap.size w w1):=Lib.hid (below_then (below_alloc (Below.refl _ _) _) (below_alloc (Below.refl _ _) _).size hb);clear hb)|(go_at_call 44;(with_reducible refine (HP.out w1.heap.size _ (below_alloc HB1.out _) (cells2 _ _ _)).mono ?_);rintro e w2 ⟨rfl,hb⟩;have HB2:Hid (Below w.heap.size w w2):=Lib.hid (below_then (below_alloc HB1.out _) (below_alloc HB1.out _).size hb);clear hb)|(go_at_call 45;refine (HW.out _ _ _).mono ?_;rintro e w3 ⟨v,rfl,he,hb⟩;have HE3:=Lib.hid he;have HB3:Hid (Below w.heap.size w w3):=Lib.hid (below_then HB2.out HB2.out.size hb);clear he hb))
   go_ret2
   rw [HE.out]
   refine ⟨HB2.out,?_⟩
   show _=Ending.returned (.tuple #[.int .i64 ((k.toNat+4:Nat):Int),.nilIface])
   rw [show ((k.toNat+4:Nat):Int)=k+4 by omega]
   rfl
  ·rw [if_neg h0] at HE
   by_cases h1:8192≤n
   ·rw [if_pos h1] at HE
    have h1':(8192:Int)≤(n:Int):=by omega
    rw [Nat.min_eq_right h1] at HI HP hmi hmm
    go_enter Tryz.func10,Tryz.ntmps10
    go_wp2_with (first|(go_at_call 43;(with_reducible refine (HI.out w.heap.size _ (StdW.below HS.out (below_alloc (Below.refl _ _) _)) (below_alloc (Below.refl _ _) _) (cells4 _ _ _)).mono ?_);rintro e w1 ⟨rfl,hb⟩;have HB1:Hid (Below w.heap.size w w1):=Lib.hid (below_then (below_alloc (Below.refl _ _) _) (below_alloc (Below.refl _ _) _).size hb);clear hb)|(go_at_call 44;(with_reducible refine (HP.out w1.heap.size _ (below_alloc HB1.out _) (cells2 _ _ _)).mono ?_);rintro e w2 ⟨rfl,hb⟩;have HB2:Hid (Below w.heap.size w w2):=Lib.hid (below_then (below_alloc HB1.out _) (below_alloc HB1.out _).size hb);clear hb)|(go_at_call 45;refine (HW.out _ _ _).mono ?_;rintro e w3 ⟨v,rfl,he,hb⟩;have HE3:=Lib.hid he;have HB3:Hid (Below w.heap.size w w3):=Lib.hid (below_then HB2.out HB2.out.size hb);clear he hb))
    go_ret2
    rw [HE.out]
    exact ⟨HB3.out,v,rfl,HE3.out⟩
   ·rw [if_neg h1] at HE
    have h1': ¬ (8192:Int)≤(n:Int):=by omega
    go_enter Tryz.func10,Tryz.ntmps10
    go_wp2_with (first|(go_at_call 43;(with_reducible refine (HI.out w.heap.size _ (StdW.below HS.out (below_alloc (Below.refl _ _) _)) (below_alloc (Below.refl _ _) _) (cells4 _ _ _)).mono ?_);rintro e w1 ⟨rfl,hb⟩;have HB1:Hid (Below w.heap.size w w1):=Lib.hid (below_then (below_alloc (Below.refl _ _) _) (below_alloc (Below.refl _ _) _).size hb);clear hb)|(go_at_call 44;(with_reducible refine (HP.out w1.heap.size _ (below_alloc HB1.out _) (cells2 _ _ _)).mono ?_);rintro e w2 ⟨rfl,hb⟩;have HB2:Hid (Below w.heap.size w w2):=Lib.hid (below_then (below_alloc HB1.out _) (below_alloc HB1.out _).size hb);clear hb)|(go_at_call 45;refine (HW.out _ _ _).mono ?_;rintro e w3 ⟨v,rfl,he,hb⟩;have HE3:=Lib.hid he;have HB3:Hid (Below w.heap.size w w3):=Lib.hid (below_then HB2.out HB2.out.size hb);clear he hb))
    go_ret2
    rw [HE.out]
    exact ⟨HB3.out,v,rfl,HE3.out⟩
 ·rw [if_pos rfl] at HE
  go_enter Tryz.func10,Tryz.ntmps10
  go_wp2_with (first|(go_at_call 43;(with_reducible refine (HI.out w.heap.size _ (StdW.below HS.out (below_alloc (Below.refl _ _) _)) (below_alloc (Below.refl _ _) _) (cells4 _ _ _)).mono ?_);rintro e w1 ⟨rfl,hb⟩;have HB1:Hid (Below w.heap.size w w1):=Lib.hid (below_then (below_alloc (Below.refl _ _) _) (below_alloc (Below.refl _ _) _).size hb);clear hb)|(go_at_call 44;(with_reducible refine (HP.out w1.heap.size _ (below_alloc HB1.out _) (cells2 _ _ _)).mono ?_);rintro e w2 ⟨rfl,hb⟩;have HB2:Hid (Below w.heap.size w w2):=Lib.hid (below_then (below_alloc HB1.out _) (below_alloc HB1.out _).size hb);clear hb)|(go_at_call 45;refine (HW.out _ _ _).mono ?_;rintro e w3 ⟨v,rfl,he,hb⟩;have HE3:=Lib.hid he;have HB3:Hid (Below w.heap.size w w3):=Lib.hid (below_then HB2.out HB2.out.size hb);clear he hb))
  go_ret2
  rw [HE.out]
  exact ⟨HB2.out,rfl⟩
theorem strOf_take (xs:List Int) (m:Nat):strOfNums (xs.take m)=⟨((Lib.bytesOf xs).take m).toArray⟩:=by
 unfold strOfNums Lib.bytesOf
 rw [List.map_take]
def OpenPost (r:(Nat×Nat) ⊕ Nat) (bs:List UInt8) (w:World) (e:Ending) (w':World):Prop:=
 Below w.heap.size w w'∧match r with
  | .inl (a,c)=> ∃ v,e= .returned (.tuple #[.pointer none,.int .i64 0,v])∧ErrIs w' v [(headS,(a:Int))] (c:Int)
  | .inr m=> ∃ R,w.heap.size≤R∧e= .returned (.tuple #[.pointer (some ⟨R,0,none⟩),.int .i64 (m:Int),.nilIface])∧Blk w' R (rdC ⟨(bs.take m).toArray⟩ 0) 146
set_option maxRecDepth 100000 in
set_option maxHeartbeats 8000000 in
theorem opened_any (A:Option Addr) (n c:Nat) (xs:List Int) (w:World) (hS:StdW w) (hx:xs.length=n) (hr: ∀ x ∈ xs,0≤x∧x<256) (h:Lib.BytesIn w A n xs) (hA:A=none→c=0) (hcap:n≤c) (hc63:c≤9223372036854775807):
  Calls Tryz.prog 48 #[.slice A n c] w (OpenPost (Hd.endR (Lib.bytesOf xs)) (Lib.bytesOf xs) w):=by
 have HE:=Lib.hid (end_any A n c xs w hS hx hr h hA hcap hc63)
 have HX:=Lib.hid h
 have HL:=Lib.hid hx
 cases hR:Hd.endR (Lib.bytesOf xs) with
 |inl x=>
  obtain ⟨a,k⟩:=x
  rw [hR] at HE
  clear hx hr h hR HX HL
  go_enter Tryz.func48,Tryz.ntmps48
  go_wp2_with (go_at_call 10;(with_reducible refine HE.out.mono ?_);rintro e w1 ⟨hb,v,rfl,he⟩;obtain ⟨t,x,rfl⟩:=he.iface;have HB1:=Lib.hid hb;have HE1:=Lib.hid he;clear hb he)
  go_ret3
  exact ⟨HB1.out,_,rfl,HE1.out⟩
 |inr m=>
  have hle:=Hd.endR_le hR
  rw [bytesOf_length,hx] at hle
  rw [hR] at HE
  cases A with
  |none=>have:=hA rfl;omega
  |some a=>
   have hm0:(0:Int)≤(m:Int):=by omega
   have hm1:(m:Int)≤(c:Int):=by omega
   have KC:Hid (∀ W,Below w.heap.size w W→(convert 22 9 (.slice (some a) m c)).run Tryz.prog W= .ok (.string ⟨((Lib.bytesOf xs).take m).toArray⟩) W):=Lib.hid (fun W hB=>by
    rw [← strOf_take]
    exact Lib.BytesIn.convert (P:=Tryz.prog) (bytesIn_take (bytesIn_below h hB) hx m hle.2.1) (by rw [List.length_take];omega) c 22 5 9 Tryz.underlying22 Tryz.underlying5 Tryz.underlying9)
   clear hx hr h hR HX HL
   unfold OpenPost
   dsimp only
   generalize (⟨((Lib.bytesOf xs).take m).toArray⟩:ByteArray)=S at KC ⊢
   go_enter Tryz.func48,Tryz.ntmps48
   go_wp2_with (go_at_call 10;(with_reducible refine HE.out.mono ?_);rintro e w1 ⟨hb,rfl⟩;have HB1:=Lib.hid hb;have kc:=KC.out _ hb;clear hb)
   go_ret3
   exact ⟨below_alloc HB1.out _,_,HB1.out.size,rfl,Blk.new _ _ _⟩
end Go.Proofs.YtgmpdjjoefkndaaGreatDoor.E

namespace Go.Proofs.YtgmpdjjoefkndaaGreatDoor.Hd
open Go.Lib

theorem decodeN_big (n b0 b1 b2 b3:Nat) (hn:1≤n) (h0:128≤b0) (h0':b0<256):
  128≤(decodeN n b0 b1 b2 b3).1∧((decodeN n b0 b1 b2 b3).1=65533∨(decodeN n b0 b1 b2 b3).1<55296∨(57344≤(decodeN n b0 b1 b2 b3).1∧(decodeN n b0 b1 b2 b3).1≤1114111))∧
  1≤(decodeN n b0 b1 b2 b3).2∧(decodeN n b0 b1 b2 b3).2≤n∧(decodeN n b0 b1 b2 b3).2≤4∧(2≤(decodeN n b0 b1 b2 b3).2→128≤b1)∧(3≤(decodeN n b0 b1 b2 b3).2→128≤b2)∧(4≤(decodeN n b0 b1 b2 b3).2→128≤b3):=by
 unfold decodeN
 rw [if_neg (by omega)]
 repeat' split
 all_goals (dsimp only;omega)
theorem decode_big (s:ByteArray) (i:Nat) (hi:i<s.size) (hb:128≤(s.data.toList.getD i 0).toNat):
  128≤(Utf8.decode s i).1∧((Utf8.decode s i).1=65533∨(Utf8.decode s i).1<55296∨(57344≤(Utf8.decode s i).1∧(Utf8.decode s i).1≤1114111))∧
  1≤(Utf8.decode s i).2∧i+(Utf8.decode s i).2≤s.size∧ ∀ j,i≤j→j<i+(Utf8.decode s i).2→128≤(s.data.toList.getD j 0).toNat:=by
 have hl:s.data.toList.length=s.size:=Array.length_toList
 rw [decode_N]
 obtain ⟨h1,h2,h3,h4,h5,h6,h7,h8⟩:=decodeN_big (s.data.toList.length - i) (s.data.toList.getD i 0).toNat (s.data.toList.getD (i+1) 0).toNat (s.data.toList.getD (i+2) 0).toNat (s.data.toList.getD (i+3) 0).toNat (by omega) hb (UInt8.toNat_lt _)
 refine ⟨h1,h2,h3,by omega,fun j hj hj2=>?_⟩
 generalize (decodeN _ _ _ _ _)=d at*
 rcases (show j=i∨j=i+1∨j=i+2∨j=i+3 by omega) with rfl|rfl|rfl|rfl
 ·exact hb
 ·exact h6 (by omega)
 ·exact h7 (by omega)
 ·exact h8 (by omega)
theorem noAny_big {s:List UInt8} {i k:Nat} (h:NoAny s [13,10] i) (hk: ∀ j,i≤j→j<i+k→128≤(s.getD j 0).toNat):NoAny s [13,10] (i+k):=fun j b hj hb=>by
 by_cases hji:j<i
 ·exact h j b hji hb
 ·have:=hk j (by omega) hj
  rw [List.getD_eq_getElem?_getD,hb,Option.getD_some] at this
  have h1:b≠13:=fun e=>by rw [e] at this;revert this;decide
  have h2:b≠10:=fun e=>by rw [e] at this;revert this;decide
  simp [h1,h2]
theorem encode_two (r:Nat) (h0:128≤r) (h1:r<2048):Utf8.encode (r:Int)=⟨#[UInt8.ofNat (192+r / 64),UInt8.ofNat (128+r % 64)]⟩:=by
 have hv:Utf8.valid (r:Int)=true:=by
  unfold Utf8.valid
  simp only [Bool.or_eq_true,Bool.and_eq_true,decide_eq_true_eq];omega
 unfold Utf8.encode
 simp only [hv,if_true,Int.toNat_natCast]
 rw [if_neg (by omega),if_pos (by omega)]
theorem encode_more (r:Nat) (h0:2048≤r):3≤(Utf8.encode (r:Int)).size∧(Utf8.encode (r:Int)).size≤4:=by
 unfold Utf8.encode
 simp only [Int.toNat_natCast,Utf8.runeError]
 repeat' split
 all_goals first|(simp [ByteArray.size];done)|omega
end Go.Proofs.YtgmpdjjoefkndaaGreatDoor.Hd

namespace Go.Proofs.YtgmpdjjoefkndaaGreatDoor.E
open Go.RowKit Go.Proofs.YtgmpdjjoefkndaaGreatDoorW.PrintWords Go.Proofs.YtgmpdjjoefkndaaGreatDoorW.PrintLast
set_option linter.unusedVariables false
set_option linter.unusedSimpArgs false
theorem rune_low (b:UInt8) (hb:b.toNat<128) (w:World):Calls Tryz.prog 174 #[.string ⟨#[13,10]⟩,.int .i32 b.toNat] w fun e w'=>e= .returned (.int .i64 (Lib.indexByte [13,10] b))∧Below w.heap.size w w':=by
 refine (Tryz.strings_IndexRune_ascii ⟨#[13,10]⟩ b.toNat w (by omega) (by omega)).mono ?_
 rintro e w' ⟨rfl,hw⟩
 refine ⟨?_,hw▸Below.refl _ _⟩
 have:((b.toNat:Int)).toNat.toUInt8=b:=by simp
 rw [this]
theorem iter_below (w:World) (s:ByteArray) (p:Nat):Below w.heap.size w (w.iter s p):=Below.refl _ _|>.alloc (Nat.le_refl _) _
set_option maxRecDepth 100000 in
set_option maxHeartbeats 4000000 in
theorem rune_err (w:World):Calls Tryz.prog 174 #[.string ⟨#[13,10]⟩,.int .i32 65533] w fun e w'=>e= .returned (.int .i64 (-1))∧Below w.heap.size w w':=by
 go_enter Tryz.func174,Tryz.ntmps174
 go_wp2
 go_loopg [5,6] 2 (fun g _ _ wx=> ∃ i:Nat,i+g=2∧wx=w.iter ⟨#[13,10]⟩ i)
 case atStart=>exact ⟨0,rfl,rfl⟩
 case round=>
  obtain ⟨i,hig,rfl⟩:=hrel
  rcases (show (i=2∧gk=0)∨(i=1∧gk=1)∨(i=0∧gk=2) by omega) with ⟨rfl,rfl⟩|⟨rfl,rfl⟩|⟨rfl,rfl⟩
  ·have hnx:=fun ty=>run_next_end (P:=Tryz.prog) w ⟨#[13,10]⟩ 2 ty (by decide)
   go_wp2
   go_ret
   exact ⟨rfl,iter_below _ _ _⟩
  ·have hnx: ∀ ty,(Instr.next (.pointer (some ⟨w.heap.size,0,none⟩)) true ty).run Tryz.prog (w.iter ⟨#[13,10]⟩ 1)= .ok (.tuple #[.bool true,.int .i64 1,.int .i32 10]) (w.iter ⟨#[13,10]⟩ 2):=fun ty=>run_next_ascii (P:=Tryz.prog) w ⟨#[13,10]⟩ 1 ty (by decide) (by decide)
   go_wp2
   go_roundg 0
   case measure=>omega
   case rel=>exact ⟨2,rfl,rfl⟩
  ·have hnx: ∀ ty,(Instr.next (.pointer (some ⟨w.heap.size,0,none⟩)) true ty).run Tryz.prog (w.iter ⟨#[13,10]⟩ 0)= .ok (.tuple #[.bool true,.int .i64 0,.int .i32 13]) (w.iter ⟨#[13,10]⟩ 1):=fun ty=>run_next_ascii (P:=Tryz.prog) w ⟨#[13,10]⟩ 0 ty (by decide) (by decide)
   go_wp2
   go_roundg 1
   case measure=>omega
   case rel=>exact ⟨1,rfl,rfl⟩
set_option maxRecDepth 100000 in
set_option maxHeartbeats 4000000 in
theorem rune_walk (S R:ByteArray) (r:Nat) (hz:S.size=2) (hR:2≤R.size) (hR4:R.size≤4) (h0:128≤r) (h1:r≠65533) (henc:Utf8.encode (r:Int)=R) (hv:Lib.validRune (r:Int)=true)
  (hq:R.size=2→ ∀ p q,(((S[1]'p).toNat:Int) !=((R[1]'q).toNat:Int))=true) (hx: ∀ c,Lib.indexByte ByteArray.empty.data.toList c= -1) (w:World):Calls Tryz.prog 174 #[.string S,.int .i32 r] w fun e w'=>e= .returned (.int .i64 (-1))∧Below w.heap.size w w':=by
 have c1: ¬ ((r:Int)<128):=by omega
 have c2:((r:Int)==65533)=false:=beq_eq_false_iff_ne.2 (by omega)
 have c3:(0:Int)≤(r:Int):=by omega
 have kc: ∀ w,(convert 21 9 (.int .i32 (r:Int))).run Tryz.prog w= .ok (.string R) w:=fun w=>by simp [convert,run_underlying Tryz.underlying21,run_underlying Tryz.underlying9,Conv.intToString,henc]
 have hsl: ∀ w,(Instr.slice 9 (.string S) (some (.int .i64 2)) none none).run Tryz.prog w= .ok (.string (S.extract 2 2)) w:=fun w=>by simp [Instr.slice,run_underlying Tryz.underlying9,Instr.sliceBounds,run_sliceBound,hz]
 have hsl2: ∀ w,(Instr.sliceAt 9 (.string S) (some (.int .i64 2)) none none).run Tryz.prog w= .ok (.string (S.extract 2 2)) w:=fun w=>by rw [run_sliceAt_string (h:=Tryz.underlying9)];exact hsl w
 rcases (show R.size=2∨R.size=3∨R.size=4 by omega) with hm|hm|hm
 ·have hq2:=hq hm
  clear hq henc
  go_enter Tryz.func174,Tryz.ntmps174
  go_wp2_with (first|(go_at_call 206;refine (Tryz.utf8_ValidRune _ _).mono ?_;rintro e w' ⟨rfl,rfl⟩;rw [hv]))
  go_step3
  go_wp2
  try go_step3
  try go_wp2
  go_loopg [9] 1 (fun g i wx=>i= .int .i64 1∧wx=w')
  case atStart=>exact ⟨rfl,rfl⟩
  case round=>
   obtain ⟨rfl,rfl⟩:=hrel
   go_wp2
   go_step3
   go_wp2
   go_quiet (fail)
   go_wp2
   go_quiet (first|(go_at_call 132;exact (Tryz.strings_IndexByte _ _ _).mono fun e w1 h=>⟨h.1,_,h.2⟩))
   rw [hx]
   clear hx hq2 hsl hsl2 kc
   go_wp2
   rw [Exit.noGoto_ret]
   try go_wp2
   rw [Exit.noGoto_ret]
   go_ret
   exact ⟨rfl,below_drewN _ _⟩
 all_goals
  clear hq henc hx
  go_enter Tryz.func174,Tryz.ntmps174
  go_wp2_with (first|(go_at_call 206;refine (Tryz.utf8_ValidRune _ _).mono ?_;rintro e w' ⟨rfl,rfl⟩;rw [hv]))
  go_step3
  go_wp2
  try go_step3
  try go_wp2
  go_loopg [9] 1 (fun g i wx=>i= .int .i64 ((R.size:Int) - 1)∧wx=w')
  case atStart=>exact ⟨by rw [hm];rfl,rfl⟩
  case round=>
   obtain ⟨rfl,rfl⟩:=hrel
   go_wp2
   rw [Exit.noGoto_ret]
   go_ret
   exact ⟨rfl,Below.refl _ _⟩
theorem iter0 (w:World) (s:ByteArray):(w.iter s 0).heap[w.heap.size]? =some (.stringIter s 0):=World.iter_heap w s 0
theorem snd2 (a b:UInt8) (R:ByteArray) (h:R=⟨#[a,b]⟩) (q:1<R.size):R[1]'q=b:=by subst h;rfl
theorem low6 (r:Nat):(UInt8.ofNat (128+r % 64)).toNat=128+r % 64:=by rw [UInt8.toNat_ofNat'];omega
theorem ne10 (r:Nat):((10:Int) !=((128+r % 64:Nat):Int))=true:=bne_iff_ne.2 (by omega)
theorem vr (r:Nat) (h:r<55296∨(57344≤r∧r≤1114111)):Lib.validRune (r:Int)=true:=by
 unfold Lib.validRune
 simp only [Bool.or_eq_true,Bool.and_eq_true,decide_eq_true_eq]
 omega
set_option maxRecDepth 100000 in
theorem rune_any (r:Nat) (h0:128≤r) (hv:r=65533∨r<55296∨(57344≤r∧r≤1114111)) (w:World):Calls Tryz.prog 174 #[.string ⟨#[13,10]⟩,.int .i32 r] w fun e w'=>e= .returned (.int .i64 (-1))∧Below w.heap.size w w':=by
 by_cases he:r=65533
 ·subst he;exact rune_err w
 ·have hm:r<2048∨2048≤r:=by omega
  refine rune_walk ⟨#[13,10]⟩ (Utf8.encode (r:Int)) r rfl ?_ ?_ h0 he rfl ?_ ?_ (fun _=>rfl) w
  ·rcases hm with h|h
   ·rw [Hd.encode_two r h0 h];exact Nat.le_refl 2
   ·have:=(Hd.encode_more r h).1;omega
  ·rcases hm with h|h
   ·rw [Hd.encode_two r h0 h];exact (show 2≤4 by omega)
   ·exact (Hd.encode_more r h).2
  ·have:=vr r (by omega)
   exact this
  ·intro h2 p q
   rcases hm with h|h
   ·have e:=Hd.encode_two r h0 h
    rw [snd2 _ _ _ e q,low6]
    exact ne10 r
   ·have:=(Hd.encode_more r h).1;omega
set_option maxRecDepth 100000 in
set_option maxHeartbeats 4000000 in
theorem idx_short (s S:ByteArray) (hS:S.data.toList=[13,10]) (h8:s.size≤8) (w:World)
  (HL0: ∀ (b:UInt8),b.toNat<128→ ∀ W,Calls Tryz.prog 174 #[.string S,.int .i32 b.toNat] W fun e w'=>e= .returned (.int .i64 (Lib.indexByte [13,10] b))∧Below W.heap.size W w')
  (HH0: ∀ (r:Nat),128≤r→(r=65533∨r<55296∨(57344≤r∧r≤1114111))→ ∀ W,Calls Tryz.prog 174 #[.string S,.int .i32 r] W fun e w'=>e= .returned (.int .i64 (-1))∧Below W.heap.size W w'):
  Calls Tryz.prog 131 #[.string s,.string S] w fun e w'=>e= .returned (.int .i64 (Lib.indexAny s.data.toList [13,10]))∧Below w.heap.size w w':=by
 have HL:=Lib.hid HL0
 have HH:=Lib.hid HH0
 have hz:S.size=2:=by rw [Lib.size_eq,hS];rfl
 have hemp:S.toList.isEmpty=false:=by rw [ByteArray.toList_eq,hS];rfl
 have h8z:decide ((8:Int)<(s.size:Int))=false:=decide_eq_false (by omega)
 clear HL0 HH0 hS
 go_enter Tryz.func131,Tryz.ntmps131
 go_wp2_with (first|(go_at_call 175;refine (Tryz.strings_shouldUseASCIISet _ _).mono ?_;rintro e w' ⟨rfl,hw⟩;rw [hw,h8z]))
 go_loopg [9,10] s.size (fun g _ _ wx=> ∃ i:Nat,i+g=s.size∧wx.heap[w.heap.size]? =some (.stringIter s i)∧Hid (Below w.heap.size w wx)∧Hid (Lib.NoAny s.data.toList [13,10] i))
 case atStart=>exact ⟨0,by omega,iter0 _ _,Lib.hid (iter_below _ _ _),Lib.hid (Lib.NoAny.zero _ _)⟩
 case round=>
  obtain ⟨i,hig,hk,HB,HN⟩:=hrel
  by_cases hi:i<s.size
  ·have hxl:s.data.toList[i]? =some (s[i]'hi):=Lib.data_getElem? s i hi
   have HX:=Lib.hid hxl
   by_cases hx:(s[i]'hi).toNat<128
   ·have hnx:=fun ty=>Go.Lib.run_next_ascii_at (P:=Tryz.prog) wr w.heap.size s i ty hk hi hx
    have HLb:=Lib.hid (HL.out (s[i]'hi) hx)
    have hcon:=Lib.contains_iff_indexByte [13,10] (s[i]'hi)
    have HK:=Lib.hid (Go.Lib.iterAt_heap wr w.heap.size s i (i+1) hk)
    have HBi:=Lib.hid (Go.Lib.below_iterAt HB.out (Nat.le_refl _) s (i+1))
    generalize s[i]'hi=x at hnx HLb hcon HX
    clear hxl hx
    cases hin:([13,10]:List UInt8).contains x
    ·rw [hin] at hcon
     have hlt: ¬ ((0:Int)≤Lib.indexByte [13,10] x):=of_decide_eq_false hcon.symm
     generalize Lib.indexByte [13,10] x=y at HLb hlt
     clear hcon
     go_wp2_with (first|(go_at_call 174;(with_reducible refine (HLb.out _).mono ?_);rintro e w1 ⟨rfl,hb⟩;have HK1:Hid (w1.heap[w.heap.size]? =some (.stringIter s (i+1))):=Lib.hid ((hb.block _ (Array.getElem?_eq_some_iff.1 HK.out).1).trans HK.out);have HB1:Hid (Below w.heap.size w w1):=Lib.hid (below_then HBi.out HBi.out.size hb);clear hb))
     obtain ⟨g1,hg1⟩: ∃ g1,g1=gk - 1:=⟨_,rfl⟩
     go_roundg g1
     case measure=>omega
     case rel=>exact ⟨i+1,by omega,HK1.out,HB1,Lib.hid (HN.out.succ HX.out hin)⟩
    ·rw [hin] at hcon
     have hge:(0:Int)≤Lib.indexByte [13,10] x:=of_decide_eq_true hcon.symm
     have HI:=Lib.hid (Lib.indexAny_hit HN.out HX.out hin)
     generalize Lib.indexByte [13,10] x=y at HLb hge
     clear hcon
     go_wp2_with (first|(go_at_call 174;(with_reducible refine (HLb.out _).mono ?_);rintro e w1 ⟨rfl,hb⟩;have HB1:Hid (Below w.heap.size w w1):=Lib.hid (below_then HBi.out HBi.out.size hb);clear hb))
     go_ret
     exact ⟨by rw [HI.out];rfl,HB1.out⟩
   ·have hnx:=fun ty=>Go.Lib.run_next_any_at (P:=Tryz.prog) wr w.heap.size s i ty hk hi
    have hgd:s.data.toList.getD i 0=s[i]'hi:=by rw [List.getD_eq_getElem?_getD,hxl];rfl
    obtain ⟨d0,d1,d2,d3,d4⟩:=Hd.decode_big s i hi (by rw [hgd];omega)
    have HNB:=Lib.hid (Hd.noAny_big HN.out d4)
    have HRb:=Lib.hid (HH.out _ d0 (by omega))
    have HK:=Lib.hid (Go.Lib.iterAt_heap wr w.heap.size s i (i+(Utf8.decode s i).2) hk)
    have HBi:=Lib.hid (Go.Lib.below_iterAt HB.out (Nat.le_refl _) s (i+(Utf8.decode s i).2))
    clear d0 d1 d4 hgd hx hxl HX
    generalize (Utf8.decode s i).1=rr at hnx HRb
    generalize (Utf8.decode s i).2=q at*
    go_wp2_with (first|(go_at_call 174;(with_reducible refine (HRb.out _).mono ?_);rintro e w1 ⟨rfl,hb⟩;have HK1:Hid (w1.heap[w.heap.size]? =some (.stringIter s (i+q))):=Lib.hid ((hb.block _ (Array.getElem?_eq_some_iff.1 HK.out).1).trans HK.out);have HB1:Hid (Below w.heap.size w w1):=Lib.hid (below_then HBi.out HBi.out.size hb);clear hb))
    obtain ⟨g1,hg1⟩: ∃ g1,g1=gk - q:=⟨_,rfl⟩
    go_roundg g1
    case measure=>omega
    case rel=>exact ⟨i+q,by omega,HK1.out,HB1,HNB⟩
  ·obtain rfl:i=s.size:=by omega
   have hnx:=fun ty=>Go.Lib.run_next_end_at (P:=Tryz.prog) wr w.heap.size s s.size ty hk hi
   have HI:=Lib.hid (Lib.indexAny_none (by rw [← Lib.size_eq];exact HN.out))
   go_wp2
   go_ret
   exact ⟨by rw [HI.out];rfl,HB.out⟩
theorem hv177: ∀ w,(zeroValue 194).run Tryz.prog w= .ok (.agg (Array.replicate 256 (.bool false))) w:=(zero_of_info (P:=Tryz.prog) (by kernel_rfl:(Tryz.prog.info? 194).map (fun i=>(i.zero,i.size))=some (some (.agg (Array.replicate 256 (.bool false))),256))).1
theorem idx_any (s:ByteArray) (hs:s.size<4294967281) (w:World):Calls Tryz.prog 131 #[.string s,.string ⟨#[13,10]⟩] w fun e w'=>e= .returned (.int .i64 (Lib.indexAny s.data.toList [13,10]))∧Below w.heap.size w w':=by
 by_cases h8:s.size≤8
 ·exact idx_short s ⟨#[13,10]⟩ rfl h8 w (fun b hb W=>rune_low b hb W) (fun r h0 h1 W=>rune_any r h0 h1 W)
 ·refine (Tryz.strings_IndexAny_long (hv177) s ⟨#[13,10]⟩ w (by decide) (by omega) hs (by decide) (fun j b hb=>?_)).mono ?_
  ·have:b ∈ ([13,10]:List UInt8):=List.mem_of_getElem? hb
   simp only [List.mem_cons,List.not_mem_nil,or_false] at this
   rcases this with rfl|rfl<;>decide
  ·rintro e w' ⟨rfl,rfl⟩
   exact ⟨rfl,below_alloc (below_alloc (Below.refl _ _) _) _⟩
theorem broken_any (s:ByteArray) (hs:s.size<4294967281) (w:World):Calls Tryz.prog 51 #[.string s] w fun e w'=>e= .returned (.bool (Hd.broken s.data.toList))∧Below w.heap.size w w':=by
 have HI:=Lib.hid (fun W=>idx_any s hs W)
 have HC:Hid (∀ W,Calls Tryz.prog 93 #[.string s,.string ⟨#[13,10]⟩] W fun e w'=>e= .returned (.bool (Hd.broken s.data.toList))∧Below W.heap.size W w'):=Lib.hid (by
  intro W
  unfold Hd.broken Lib.containsAny
  generalize Lib.indexAny s.data.toList [13,10]=k at HI ⊢
  go_enter Tryz.func93,Tryz.ntmps93
  go_wp2_with (go_at_call 131;refine (HI.out _).mono ?_;rintro e w1 ⟨rfl,hb⟩)
  go_ret
  exact ⟨rfl,hb⟩)
 generalize Hd.broken s.data.toList=b at HC ⊢
 go_enter Tryz.func51,Tryz.ntmps51
 go_wp2_with (go_at_call 93;refine (HC.out _).mono ?_;rintro e w1 ⟨rfl,hb⟩)
 go_ret
 exact ⟨rfl,hb⟩
end Go.Proofs.YtgmpdjjoefkndaaGreatDoor.E

namespace Go.Proofs.YtgmpdjjoefkndaaGreatDoor.E
open Go.RowKit Go.Proofs.YtgmpdjjoefkndaaGreatDoorW.PrintWords Go.Proofs.YtgmpdjjoefkndaaGreatDoorW.PrintLast Go.Proofs.YtgmpdjjoefkndaaGreatDoor.XK Go.Proofs.YtgmpdjjoefkndaaGreatDoor.XA Go.Proofs.YtgmpdjjoefkndaaGreatDoor.XD
set_option linter.unusedVariables false
set_option linter.unusedSimpArgs false
theorem info_fld:(Tryz.prog.info? 71).map (fun i=>(i.zero,i.size,i.bytes))=some (some (.agg #[.string ⟨#[]⟩,.string ⟨#[]⟩]),2,32):=by kernel_rfl
abbrev RF (wb w0 w:World) (v:Value) (l:List S71):Prop:=Kd.R k71 71 w wb.heap.size (fun k=>w0.heap.size≤k) v l
theorem cut_both (s sep:List UInt8) (h:1≤sep.length):(Lib.cut s sep).1.length+(Lib.cut s sep).2.1.length≤s.length:=by
 unfold Lib.cut
 split
 ·simp only [List.length_take,List.length_drop];omega
 ·simp
theorem cutLR_size (s:ByteArray):(cutL s).size+(cutR2 s).size≤s.size:=by
 have h:=cut_both s.data.toList [13,10] (by decide)
 rw [← Lib.size_eq] at h
 exact h
def KeptR (R:Nat) (w0 w:World):Prop:=w0.heap.size≤w.heap.size∧ ∀ k,k<w0.heap.size→k≠R→w.heap[k]? =w0.heap[k]?
theorem KeptR.refl (R:Nat) (w:World):KeptR R w w:=⟨Nat.le_refl _,fun _ _ _=>rfl⟩
theorem KeptR.below {R:Nat} {w0 w w':World} (h:KeptR R w0 w) (hb:Below w.heap.size w w'):KeptR R w0 w':=
 ⟨Nat.le_trans h.1 hb.size,fun k hk hne=>(hb.block k (Nat.lt_of_lt_of_le hk h.1)).trans (h.2 k hk hne)⟩
theorem KeptR.setCell {R:Nat} {w0 w:World} (h:KeptR R w0 w) (j:Nat) (v:Value):KeptR R w0 (w.setCell ⟨R,j,none⟩ v):=
 ⟨by simp;exact h.1,fun k hk hne=>(Below.heap_setCell w ⟨R,j,none⟩ v k hne).trans (h.2 k hk hne)⟩
theorem KeptR.grown {R:Nat} {w0 w w':World} {row:Option Nat} (h:KeptR R w0 w) (hg:w.grownBy w' row) (hr: ∀ k,row=some k→w0.heap.size≤k):KeptR R w0 w':=
 ⟨Nat.le_trans h.1 hg.size,fun k hk hne=>(hg.block k (Nat.lt_of_lt_of_le hk h.1) (fun e=>by have:=hr k e.symm;omega)).trans (h.2 k hk hne)⟩
theorem Blk.keptR {R S:Nat} {w0 w:World} {C:Array Value} {T:TypeId} (h:Blk w0 S C T) (hk:KeptR R w0 w) (hne:S≠R):Blk w S C T:=(hk.2 S h.lt hne).trans h
theorem line_at (rest:ByteArray) (p R:Nat) (wb w0 w:World) (v:Value) (l:List S71) (hS:StdW w) (hz:rest.size≤8192) (hp:p≤1000000) (h:Blk w R (rdC rest (p:Int)) 146) (hR:RF wb w0 w v l) (hB:Below wb.heap.size wb w) (hK:KeptR R w0 w) (hlt:R<w0.heap.size) (hbR:wb.heap.size≤R):
  Calls Tryz.prog 49 #[.pointer (some ⟨R,0,none⟩)] w fun e w'=>e= .returned (.tuple #[.string (cutL rest),.int .i64 p])∧Blk w' R (rdC (cutR2 rest) ((p+(cutL rest).size+2:Nat):Int)) 146∧RF wb w0 w' v l∧Below wb.heap.size wb w'∧KeptR R w0 w':=by
 refine (line_any rest p R w hS (by omega) (by omega) h).mono ?_
 rintro e w' ⟨rfl,w1,hb,rfl⟩
 have hbw:wb.heap.size≤w.heap.size:=hB.size
 refine ⟨rfl,((h.below hb).set 0 (.string (cutR2 rest))).set 1 _,Kd.R_far (Kd.R_far (Kd.R_below hR hb) (fun k hk e=>by simp only at e;omega) _) (fun k hk e=>by simp only at e;omega) _,((below_then hB hB.size hb).setCell hbR _).setCell hbR _,((hK.below hb).setCell 0 _).setCell 1 _⟩
def ofF (f:Fd.F):S71:=⟨⟨f.1.toArray⟩,⟨f.2.toArray⟩⟩
def FldPost (r:(Nat×Nat) ⊕ List Fd.F) (R:Nat) (wb w:World) (e:Ending) (w':World):Prop:=
 Below wb.heap.size wb w'∧KeptR R w w'∧match r with
  | .inl (a,c)=> ∃ v,e= .returned (.tuple #[.slice none 0 0,v])∧ErrIs w' v [(headS,(a:Int))] (c:Int)
  | .inr l=> ∃ v,e= .returned (.tuple #[v,.nilIface])∧RF wb w w' v (l.map ofF)
theorem fieldR_eq (l nm v0:ByteArray) (co bk tk vl:Bool) (h1:nm=⟨(Lib.cut l.data.toList [58]).1.toArray⟩) (h2:v0=⟨(Lib.cut l.data.toList [58]).2.1.toArray⟩) (h3:co=(Lib.cut l.data.toList [58]).2.2) (h4:bk=Hd.broken l.data.toList) (h5:tk=Fd.token nm.data.toList) (h6:vl=Hd.value (Fd.trimB v0.data.toList)):
  Hd.fieldR l.data.toList=if !co||bk then .inl 80 else if !tk then .inl 81 else if !vl then .inl 83 else .inr (nm.data.toList,Fd.trimB v0.data.toList):=by
 subst h1 h2 h3 h4 h5 h6
 rfl
set_option maxRecDepth 100000 in
set_option maxHeartbeats 40000000 in
theorem fields_any (rest0:ByteArray) (p0 R:Nat) (wb w:World) (hSb:StdW wb) (hB0:Below wb.heap.size wb w) (hbR:wb.heap.size≤R) (h:Blk w R (rdC rest0 (p0:Int)) 146) (hz0:rest0.size≤8192) (hp0:p0≤10000):
  Calls Tryz.prog 55 #[.pointer (some ⟨R,0,none⟩)] w (FldPost (Hd.fieldsR 66 rest0.data.toList p0 []) R wb w):=by
 have hlt:=h.lt
 have HSX:=Lib.hid (fun W (hb:Below wb.heap.size wb W)=>StdW.below hSb hb)
 have HK0:=Lib.hid h
 have HB0:=Lib.hid hB0
 have HW:=Lib.hid hdwrong_no
 generalize hRES:Hd.fieldsR 66 rest0.data.toList p0 []=RES
 have HR0:=Lib.hid hRES
 clear hSb h hB0 hRES
 go_enter Tryz.func55,Tryz.ntmps55
 go_wp2
 go_step3
 go_wp2
 go_step3
 go_wp2
 go_loopg [4] 66 (fun g v wr=> ∃ (rest:ByteArray) (p:Nat) (out:List Fd.F),g+out.length=66∧out.length≤64∧rest.size≤8192∧p+rest.size≤20000+2*out.length∧Hid (Blk wr R (rdC rest (p:Int)) 146)∧Hid (RF wb w wr v (out.map ofF))∧Hid (Below wb.heap.size wb wr)∧Hid (KeptR R w wr)∧Hid (Hd.fieldsR g rest.data.toList p out=RES))
 case atStart=>exact ⟨rest0,p0,[],rfl,by simp,hz0,by show p0+rest0.size≤20000+2*0;omega,HK0,Lib.hid (Kd.R_nil _ _ _ _ _),HB0,Lib.hid (KeptR.refl R w),HR0⟩
 case round=>
  obtain ⟨rest,p,out,hg,ho64,hz,hpz,HK,HRR,HB,HKP,HF⟩:=hrel
  clear HK0 HB0 HR0 hz0 hp0
  cases gk with
  |zero=>omega
  |succ k=>
   obtain ⟨A,c,rfl,hlc,hC⟩:=Kd.R_reads HRR.out
   clear hC
   rw [List.length_map] at HRR hlc
   have HL:=Lib.hid (line_at rest p R wb w _ _ _ (HSX.out _ HB.out) hz (by omega) HK.out HRR.out HB.out HKP.out hlt hbR)
   have hLR:=cutLR_size rest
   have HFF:Hid (RES=if (cutL rest).data.toList=[] then .inr out else if out.length=64 then .inl (p,3) else match Hd.fieldR (cutL rest).data.toList with
    | .inl c=> .inl (p,c)
    | .inr f=>Hd.fieldsR k (cutR2 rest).data.toList (p+(cutL rest).size+2) (out++[f])):=Lib.hid (by
     rw [← HF.out,show (cutL rest).size=(Lib.cut rest.data.toList Hd.crlf).1.length from Lib.size_eq _]
     conv=>lhs;unfold Hd.fieldsR
     rfl)
   clear HF
   generalize cutL rest=l at HL HFF hLR
   generalize cutR2 rest=r at HL HFF hLR
   obtain ⟨nm,hnm⟩: ∃ nm,nm=(⟨(Lib.cut l.data.toList [58]).1.toArray⟩:ByteArray):=⟨_,rfl⟩
   obtain ⟨v0,hv0⟩: ∃ nm,nm=(⟨(Lib.cut l.data.toList [58]).2.1.toArray⟩:ByteArray):=⟨_,rfl⟩
   obtain ⟨co,hco⟩: ∃ co,co=(Lib.cut l.data.toList [58]).2.2:=⟨_,rfl⟩
   obtain ⟨bk,hbk⟩: ∃ bk,bk=Hd.broken l.data.toList:=⟨_,rfl⟩
   obtain ⟨tk,htk⟩: ∃ tk,tk=Fd.token nm.data.toList:=⟨_,rfl⟩
   obtain ⟨vl,hvl⟩: ∃ vl,vl=Hd.value (Fd.trimB v0.data.toList):=⟨_,rfl⟩
   have HFR:=Lib.hid (fieldR_eq l nm v0 co bk tk vl hnm hv0 hco hbk htk hvl)
   have hnz:nm.size≤8192:=by
    have:=cut_both l.data.toList [58] (by decide)
    rw [← Lib.size_eq] at this
    rw [hnm];show (Lib.cut l.data.toList [58]).1.length≤_;omega
   have hvz:v0.size≤8192:=by
    have:=cut_both l.data.toList [58] (by decide)
    rw [← Lib.size_eq] at this
    rw [hv0];show (Lib.cut l.data.toList [58]).2.1.length≤_;omega
   have HC:=Lib.hid (fun W h=>Cut.calls l ⟨#[58]⟩ nm v0 co W h (by unfold Cut.f;rw [if_pos (by omega),hnm,hv0,hco]))
   have HTM:=Lib.hid (fun W h=>Trim.calls v0 ⟨#[32,9]⟩ ⟨(Fd.trimB v0.data.toList).toArray⟩ W h (by unfold Trim.f;rw [if_pos ⟨by omega,rfl⟩]))
   have HBK:=Lib.hid (fun W=>broken_any l (by omega) W)
   have HTK:=Lib.hid (fun W h=>token_any nm (by omega) W h)
   have htz:=Fd.trimB_len v0.data.toList
   rw [← Lib.size_eq] at htz
   have HVL:=Lib.hid (fun W h=>value_any ⟨(Fd.trimB v0.data.toList).toArray⟩ (by show (Fd.trimB v0.data.toList).length<_;omega) W h)
   rw [← hbk] at HBK
   rw [show tokB nm=tk from htk.symm] at HTK
   rw [show valB ⟨(Fd.trimB v0.data.toList).toArray⟩=vl from hvl.symm] at HVL
   clear hnm hv0 hco hbk htk hvl
   have hvt:(⟨(Fd.trimB v0.data.toList).toArray⟩:ByteArray).data.toList=Fd.trimB v0.data.toList:=rfl
   rw [← hvt] at HFR
   clear hvt
   generalize (⟨(Fd.trimB v0.data.toList).toArray⟩:ByteArray)=va at HTM HVL HFR htz
   by_cases hl0:l.data.toList=[]
   ·have h1:l.toList.isEmpty=true:=by rw [ByteArray.toList_eq,hl0];rfl
    have HE:Hid (RES= .inr out):=Lib.hid (by rw [HFF.out,if_pos hl0])
    clear HFF HFR
    go_wp2_with (first|(go_at_call 49;(with_reducible refine HL.out.mono ?_);rintro e wn ⟨rfl,hk,hr,hb,ho⟩;have HK:=Lib.hid hk;have HRR:=Lib.hid hr;have HB:=Lib.hid hb;have HKP:=Lib.hid ho;clear hk hr hb ho)|(go_at_call 91;(with_reducible refine (HC.out _ (HSX.out _ HB.out)).mono ?_);rintro e wn ⟨rfl,hb⟩;have HK:=Lib.hid (HK.out.below hb);have HRR:=Lib.hid (Kd.R_below HRR.out hb);have HKP:=Lib.hid (KeptR.below HKP.out hb);have HB:=Lib.hid (below_then HB.out HB.out.size hb);clear hb)|(go_at_call 100;(with_reducible refine (HTM.out _ (HSX.out _ HB.out)).mono ?_);rintro e wn ⟨rfl,hb⟩;have HK:=Lib.hid (HK.out.below hb);have HRR:=Lib.hid (Kd.R_below HRR.out hb);have HKP:=Lib.hid (KeptR.below HKP.out hb);have HB:=Lib.hid (below_then HB.out HB.out.size hb);clear hb)|(go_at_call 51;(with_reducible refine (HBK.out _).mono ?_);rintro e wn ⟨rfl,hb⟩;have HK:=Lib.hid (HK.out.below hb);have HRR:=Lib.hid (Kd.R_below HRR.out hb);have HKP:=Lib.hid (KeptR.below HKP.out hb);have HB:=Lib.hid (below_then HB.out HB.out.size hb);clear hb)|(go_at_call 53;(with_reducible refine (HTK.out _ (HSX.out _ HB.out)).mono ?_);rintro e wn ⟨rfl,hb⟩;have HK:=Lib.hid (HK.out.below hb);have HRR:=Lib.hid (Kd.R_below HRR.out hb);have HKP:=Lib.hid (KeptR.below HKP.out hb);have HB:=Lib.hid (below_then HB.out HB.out.size hb);clear hb)|(go_at_call 101;(with_reducible refine (HVL.out _ (HSX.out _ HB.out)).mono ?_);rintro e wn ⟨rfl,hb⟩;have HK:=Lib.hid (HK.out.below hb);have HRR:=Lib.hid (Kd.R_below HRR.out hb);have HKP:=Lib.hid (KeptR.below HKP.out hb);have HB:=Lib.hid (below_then HB.out HB.out.size hb);clear hb)|(go_at_call 45;(with_reducible refine (HW.out _ _ _).mono ?_);rintro e wn ⟨ve,rfl,he,hb⟩;have HK:=Lib.hid (HK.out.below hb);have HRR:=Lib.hid (Kd.R_below HRR.out hb);have HKP:=Lib.hid (KeptR.below HKP.out hb);have HB:=Lib.hid (below_then HB.out HB.out.size hb);clear hb))
    try rw [Exit.noGoto_ret]
    go_ret2
    rw [HE.out]
    exact ⟨HB.out,HKP.out,_,rfl,HRR.out⟩
   have h1:l.toList.isEmpty=false:=by rw [ByteArray.toList_eq];cases hh:l.data.toList with|nil=>exact absurd hh hl0|cons _ _=>rfl
   by_cases h64:out.length=64
   ·have hn:((out.length:Int)==64)=true:=by rw [h64];rfl
    have HE:Hid (RES= .inl (p,3)):=Lib.hid (by rw [HFF.out,if_neg hl0,if_pos h64])
    clear HFF HFR
    go_wp2_with (first|(go_at_call 49;(with_reducible refine HL.out.mono ?_);rintro e wn ⟨rfl,hk,hr,hb,ho⟩;have HK:=Lib.hid hk;have HRR:=Lib.hid hr;have HB:=Lib.hid hb;have HKP:=Lib.hid ho;clear hk hr hb ho)|(go_at_call 91;(with_reducible refine (HC.out _ (HSX.out _ HB.out)).mono ?_);rintro e wn ⟨rfl,hb⟩;have HK:=Lib.hid (HK.out.below hb);have HRR:=Lib.hid (Kd.R_below HRR.out hb);have HKP:=Lib.hid (KeptR.below HKP.out hb);have HB:=Lib.hid (below_then HB.out HB.out.size hb);clear hb)|(go_at_call 100;(with_reducible refine (HTM.out _ (HSX.out _ HB.out)).mono ?_);rintro e wn ⟨rfl,hb⟩;have HK:=Lib.hid (HK.out.below hb);have HRR:=Lib.hid (Kd.R_below HRR.out hb);have HKP:=Lib.hid (KeptR.below HKP.out hb);have HB:=Lib.hid (below_then HB.out HB.out.size hb);clear hb)|(go_at_call 51;(with_reducible refine (HBK.out _).mono ?_);rintro e wn ⟨rfl,hb⟩;have HK:=Lib.hid (HK.out.below hb);have HRR:=Lib.hid (Kd.R_below HRR.out hb);have HKP:=Lib.hid (KeptR.below HKP.out hb);have HB:=Lib.hid (below_then HB.out HB.out.size hb);clear hb)|(go_at_call 53;(with_reducible refine (HTK.out _ (HSX.out _ HB.out)).mono ?_);rintro e wn ⟨rfl,hb⟩;have HK:=Lib.hid (HK.out.below hb);have HRR:=Lib.hid (Kd.R_below HRR.out hb);have HKP:=Lib.hid (KeptR.below HKP.out hb);have HB:=Lib.hid (below_then HB.out HB.out.size hb);clear hb)|(go_at_call 101;(with_reducible refine (HVL.out _ (HSX.out _ HB.out)).mono ?_);rintro e wn ⟨rfl,hb⟩;have HK:=Lib.hid (HK.out.below hb);have HRR:=Lib.hid (Kd.R_below HRR.out hb);have HKP:=Lib.hid (KeptR.below HKP.out hb);have HB:=Lib.hid (below_then HB.out HB.out.size hb);clear hb)|(go_at_call 45;(with_reducible refine (HW.out _ _ _).mono ?_);rintro e wn ⟨ve,rfl,he,hb⟩;have HK:=Lib.hid (HK.out.below hb);have HRR:=Lib.hid (Kd.R_below HRR.out hb);have HKP:=Lib.hid (KeptR.below HKP.out hb);have HB:=Lib.hid (below_then HB.out HB.out.size hb);clear hb))
    try rw [Exit.noGoto_ret]
    go_ret2
    rw [HE.out]
    exact ⟨HB.out,HKP.out,ve,rfl,he⟩
   have hn:((out.length:Int)==64)=false:=by rw [beq_eq_false_iff_ne];omega
   have HFG:Hid (RES=match (if !co||bk then .inl 80 else if !tk then .inl 81 else if !vl then .inl 83 else .inr (nm.data.toList,va.data.toList):Nat ⊕ Fd.F) with
    | .inl c=> .inl (p,c)
    | .inr f=>Hd.fieldsR k r.data.toList (p+l.size+2) (out++[f])):=Lib.hid (by rw [HFF.out,if_neg hl0,if_neg h64,HFR.out])
   have h63:out.length≤63:=by omega
   clear HFF HFR hl0 h64
   cases co
   ·have HE:Hid (RES= .inl (p,80)):=Lib.hid HFG.out
    clear HFG
    go_wp2_with (first|(go_at_call 49;(with_reducible refine HL.out.mono ?_);rintro e wn ⟨rfl,hk,hr,hb,ho⟩;have HK:=Lib.hid hk;have HRR:=Lib.hid hr;have HB:=Lib.hid hb;have HKP:=Lib.hid ho;clear hk hr hb ho)|(go_at_call 91;(with_reducible refine (HC.out _ (HSX.out _ HB.out)).mono ?_);rintro e wn ⟨rfl,hb⟩;have HK:=Lib.hid (HK.out.below hb);have HRR:=Lib.hid (Kd.R_below HRR.out hb);have HKP:=Lib.hid (KeptR.below HKP.out hb);have HB:=Lib.hid (below_then HB.out HB.out.size hb);clear hb)|(go_at_call 100;(with_reducible refine (HTM.out _ (HSX.out _ HB.out)).mono ?_);rintro e wn ⟨rfl,hb⟩;have HK:=Lib.hid (HK.out.below hb);have HRR:=Lib.hid (Kd.R_below HRR.out hb);have HKP:=Lib.hid (KeptR.below HKP.out hb);have HB:=Lib.hid (below_then HB.out HB.out.size hb);clear hb)|(go_at_call 51;(with_reducible refine (HBK.out _).mono ?_);rintro e wn ⟨rfl,hb⟩;have HK:=Lib.hid (HK.out.below hb);have HRR:=Lib.hid (Kd.R_below HRR.out hb);have HKP:=Lib.hid (KeptR.below HKP.out hb);have HB:=Lib.hid (below_then HB.out HB.out.size hb);clear hb)|(go_at_call 53;(with_reducible refine (HTK.out _ (HSX.out _ HB.out)).mono ?_);rintro e wn ⟨rfl,hb⟩;have HK:=Lib.hid (HK.out.below hb);have HRR:=Lib.hid (Kd.R_below HRR.out hb);have HKP:=Lib.hid (KeptR.below HKP.out hb);have HB:=Lib.hid (below_then HB.out HB.out.size hb);clear hb)|(go_at_call 101;(with_reducible refine (HVL.out _ (HSX.out _ HB.out)).mono ?_);rintro e wn ⟨rfl,hb⟩;have HK:=Lib.hid (HK.out.below hb);have HRR:=Lib.hid (Kd.R_below HRR.out hb);have HKP:=Lib.hid (KeptR.below HKP.out hb);have HB:=Lib.hid (below_then HB.out HB.out.size hb);clear hb)|(go_at_call 45;(with_reducible refine (HW.out _ _ _).mono ?_);rintro e wn ⟨ve,rfl,he,hb⟩;have HK:=Lib.hid (HK.out.below hb);have HRR:=Lib.hid (Kd.R_below HRR.out hb);have HKP:=Lib.hid (KeptR.below HKP.out hb);have HB:=Lib.hid (below_then HB.out HB.out.size hb);clear hb))
    try rw [Exit.noGoto_ret]
    go_ret2
    rw [HE.out]
    exact ⟨HB.out,HKP.out,ve,rfl,he⟩
   cases bk
   rotate_left
   ·have HE:Hid (RES= .inl (p,80)):=Lib.hid HFG.out
    clear HFG
    go_wp2_with (first|(go_at_call 49;(with_reducible refine HL.out.mono ?_);rintro e wn ⟨rfl,hk,hr,hb,ho⟩;have HK:=Lib.hid hk;have HRR:=Lib.hid hr;have HB:=Lib.hid hb;have HKP:=Lib.hid ho;clear hk hr hb ho)|(go_at_call 91;(with_reducible refine (HC.out _ (HSX.out _ HB.out)).mono ?_);rintro e wn ⟨rfl,hb⟩;have HK:=Lib.hid (HK.out.below hb);have HRR:=Lib.hid (Kd.R_below HRR.out hb);have HKP:=Lib.hid (KeptR.below HKP.out hb);have HB:=Lib.hid (below_then HB.out HB.out.size hb);clear hb)|(go_at_call 100;(with_reducible refine (HTM.out _ (HSX.out _ HB.out)).mono ?_);rintro e wn ⟨rfl,hb⟩;have HK:=Lib.hid (HK.out.below hb);have HRR:=Lib.hid (Kd.R_below HRR.out hb);have HKP:=Lib.hid (KeptR.below HKP.out hb);have HB:=Lib.hid (below_then HB.out HB.out.size hb);clear hb)|(go_at_call 51;(with_reducible refine (HBK.out _).mono ?_);rintro e wn ⟨rfl,hb⟩;have HK:=Lib.hid (HK.out.below hb);have HRR:=Lib.hid (Kd.R_below HRR.out hb);have HKP:=Lib.hid (KeptR.below HKP.out hb);have HB:=Lib.hid (below_then HB.out HB.out.size hb);clear hb)|(go_at_call 53;(with_reducible refine (HTK.out _ (HSX.out _ HB.out)).mono ?_);rintro e wn ⟨rfl,hb⟩;have HK:=Lib.hid (HK.out.below hb);have HRR:=Lib.hid (Kd.R_below HRR.out hb);have HKP:=Lib.hid (KeptR.below HKP.out hb);have HB:=Lib.hid (below_then HB.out HB.out.size hb);clear hb)|(go_at_call 101;(with_reducible refine (HVL.out _ (HSX.out _ HB.out)).mono ?_);rintro e wn ⟨rfl,hb⟩;have HK:=Lib.hid (HK.out.below hb);have HRR:=Lib.hid (Kd.R_below HRR.out hb);have HKP:=Lib.hid (KeptR.below HKP.out hb);have HB:=Lib.hid (below_then HB.out HB.out.size hb);clear hb)|(go_at_call 45;(with_reducible refine (HW.out _ _ _).mono ?_);rintro e wn ⟨ve,rfl,he,hb⟩;have HK:=Lib.hid (HK.out.below hb);have HRR:=Lib.hid (Kd.R_below HRR.out hb);have HKP:=Lib.hid (KeptR.below HKP.out hb);have HB:=Lib.hid (below_then HB.out HB.out.size hb);clear hb))
    try rw [Exit.noGoto_ret]
    go_ret2
    rw [HE.out]
    exact ⟨HB.out,HKP.out,ve,rfl,he⟩
   cases tk
   ·have HE:Hid (RES= .inl (p,81)):=Lib.hid HFG.out
    clear HFG
    go_wp2_with (first|(go_at_call 49;(with_reducible refine HL.out.mono ?_);rintro e wn ⟨rfl,hk,hr,hb,ho⟩;have HK:=Lib.hid hk;have HRR:=Lib.hid hr;have HB:=Lib.hid hb;have HKP:=Lib.hid ho;clear hk hr hb ho)|(go_at_call 91;(with_reducible refine (HC.out _ (HSX.out _ HB.out)).mono ?_);rintro e wn ⟨rfl,hb⟩;have HK:=Lib.hid (HK.out.below hb);have HRR:=Lib.hid (Kd.R_below HRR.out hb);have HKP:=Lib.hid (KeptR.below HKP.out hb);have HB:=Lib.hid (below_then HB.out HB.out.size hb);clear hb)|(go_at_call 100;(with_reducible refine (HTM.out _ (HSX.out _ HB.out)).mono ?_);rintro e wn ⟨rfl,hb⟩;have HK:=Lib.hid (HK.out.below hb);have HRR:=Lib.hid (Kd.R_below HRR.out hb);have HKP:=Lib.hid (KeptR.below HKP.out hb);have HB:=Lib.hid (below_then HB.out HB.out.size hb);clear hb)|(go_at_call 51;(with_reducible refine (HBK.out _).mono ?_);rintro e wn ⟨rfl,hb⟩;have HK:=Lib.hid (HK.out.below hb);have HRR:=Lib.hid (Kd.R_below HRR.out hb);have HKP:=Lib.hid (KeptR.below HKP.out hb);have HB:=Lib.hid (below_then HB.out HB.out.size hb);clear hb)|(go_at_call 53;(with_reducible refine (HTK.out _ (HSX.out _ HB.out)).mono ?_);rintro e wn ⟨rfl,hb⟩;have HK:=Lib.hid (HK.out.below hb);have HRR:=Lib.hid (Kd.R_below HRR.out hb);have HKP:=Lib.hid (KeptR.below HKP.out hb);have HB:=Lib.hid (below_then HB.out HB.out.size hb);clear hb)|(go_at_call 101;(with_reducible refine (HVL.out _ (HSX.out _ HB.out)).mono ?_);rintro e wn ⟨rfl,hb⟩;have HK:=Lib.hid (HK.out.below hb);have HRR:=Lib.hid (Kd.R_below HRR.out hb);have HKP:=Lib.hid (KeptR.below HKP.out hb);have HB:=Lib.hid (below_then HB.out HB.out.size hb);clear hb)|(go_at_call 45;(with_reducible refine (HW.out _ _ _).mono ?_);rintro e wn ⟨ve,rfl,he,hb⟩;have HK:=Lib.hid (HK.out.below hb);have HRR:=Lib.hid (Kd.R_below HRR.out hb);have HKP:=Lib.hid (KeptR.below HKP.out hb);have HB:=Lib.hid (below_then HB.out HB.out.size hb);clear hb))
    try rw [Exit.noGoto_ret]
    go_ret2
    rw [HE.out]
    exact ⟨HB.out,HKP.out,ve,rfl,he⟩
   cases vl
   ·have HE:Hid (RES= .inl (p,83)):=Lib.hid HFG.out
    clear HFG
    go_wp2_with (first|(go_at_call 49;(with_reducible refine HL.out.mono ?_);rintro e wn ⟨rfl,hk,hr,hb,ho⟩;have HK:=Lib.hid hk;have HRR:=Lib.hid hr;have HB:=Lib.hid hb;have HKP:=Lib.hid ho;clear hk hr hb ho)|(go_at_call 91;(with_reducible refine (HC.out _ (HSX.out _ HB.out)).mono ?_);rintro e wn ⟨rfl,hb⟩;have HK:=Lib.hid (HK.out.below hb);have HRR:=Lib.hid (Kd.R_below HRR.out hb);have HKP:=Lib.hid (KeptR.below HKP.out hb);have HB:=Lib.hid (below_then HB.out HB.out.size hb);clear hb)|(go_at_call 100;(with_reducible refine (HTM.out _ (HSX.out _ HB.out)).mono ?_);rintro e wn ⟨rfl,hb⟩;have HK:=Lib.hid (HK.out.below hb);have HRR:=Lib.hid (Kd.R_below HRR.out hb);have HKP:=Lib.hid (KeptR.below HKP.out hb);have HB:=Lib.hid (below_then HB.out HB.out.size hb);clear hb)|(go_at_call 51;(with_reducible refine (HBK.out _).mono ?_);rintro e wn ⟨rfl,hb⟩;have HK:=Lib.hid (HK.out.below hb);have HRR:=Lib.hid (Kd.R_below HRR.out hb);have HKP:=Lib.hid (KeptR.below HKP.out hb);have HB:=Lib.hid (below_then HB.out HB.out.size hb);clear hb)|(go_at_call 53;(with_reducible refine (HTK.out _ (HSX.out _ HB.out)).mono ?_);rintro e wn ⟨rfl,hb⟩;have HK:=Lib.hid (HK.out.below hb);have HRR:=Lib.hid (Kd.R_below HRR.out hb);have HKP:=Lib.hid (KeptR.below HKP.out hb);have HB:=Lib.hid (below_then HB.out HB.out.size hb);clear hb)|(go_at_call 101;(with_reducible refine (HVL.out _ (HSX.out _ HB.out)).mono ?_);rintro e wn ⟨rfl,hb⟩;have HK:=Lib.hid (HK.out.below hb);have HRR:=Lib.hid (Kd.R_below HRR.out hb);have HKP:=Lib.hid (KeptR.below HKP.out hb);have HB:=Lib.hid (below_then HB.out HB.out.size hb);clear hb)|(go_at_call 45;(with_reducible refine (HW.out _ _ _).mono ?_);rintro e wn ⟨ve,rfl,he,hb⟩;have HK:=Lib.hid (HK.out.below hb);have HRR:=Lib.hid (Kd.R_below HRR.out hb);have HKP:=Lib.hid (KeptR.below HKP.out hb);have HB:=Lib.hid (below_then HB.out HB.out.size hb);clear hb))
    try rw [Exit.noGoto_ret]
    go_ret2
    rw [HE.out]
    exact ⟨HB.out,HKP.out,ve,rfl,he⟩
   have HE:Hid (Hd.fieldsR k r.data.toList (p+l.size+2) (out++[(nm.data.toList,va.data.toList)])=RES):=Lib.hid HFG.out.symm
   clear HFG
   have u5:=Tryz.underlying71
   go_wp2_with (first|(first|(go_at_call 49;(with_reducible refine HL.out.mono ?_);rintro e wn ⟨rfl,hk,hr,hb,ho⟩;have HK:=Lib.hid hk;have HRR:=Lib.hid hr;have HB:=Lib.hid hb;have HKP:=Lib.hid ho;clear hk hr hb ho)|(go_at_call 91;(with_reducible refine (HC.out _ (HSX.out _ HB.out)).mono ?_);rintro e wn ⟨rfl,hb⟩;have HK:=Lib.hid (HK.out.below hb);have HRR:=Lib.hid (Kd.R_below HRR.out hb);have HKP:=Lib.hid (KeptR.below HKP.out hb);have HB:=Lib.hid (below_then HB.out HB.out.size hb);clear hb)|(go_at_call 100;(with_reducible refine (HTM.out _ (HSX.out _ HB.out)).mono ?_);rintro e wn ⟨rfl,hb⟩;have HK:=Lib.hid (HK.out.below hb);have HRR:=Lib.hid (Kd.R_below HRR.out hb);have HKP:=Lib.hid (KeptR.below HKP.out hb);have HB:=Lib.hid (below_then HB.out HB.out.size hb);clear hb)|(go_at_call 51;(with_reducible refine (HBK.out _).mono ?_);rintro e wn ⟨rfl,hb⟩;have HK:=Lib.hid (HK.out.below hb);have HRR:=Lib.hid (Kd.R_below HRR.out hb);have HKP:=Lib.hid (KeptR.below HKP.out hb);have HB:=Lib.hid (below_then HB.out HB.out.size hb);clear hb)|(go_at_call 53;(with_reducible refine (HTK.out _ (HSX.out _ HB.out)).mono ?_);rintro e wn ⟨rfl,hb⟩;have HK:=Lib.hid (HK.out.below hb);have HRR:=Lib.hid (Kd.R_below HRR.out hb);have HKP:=Lib.hid (KeptR.below HKP.out hb);have HB:=Lib.hid (below_then HB.out HB.out.size hb);clear hb)|(go_at_call 101;(with_reducible refine (HVL.out _ (HSX.out _ HB.out)).mono ?_);rintro e wn ⟨rfl,hb⟩;have HK:=Lib.hid (HK.out.below hb);have HRR:=Lib.hid (Kd.R_below HRR.out hb);have HKP:=Lib.hid (KeptR.below HKP.out hb);have HB:=Lib.hid (below_then HB.out HB.out.size hb);clear hb)|(go_at_call 45;(with_reducible refine (HW.out _ _ _).mono ?_);rintro e wn ⟨ve,rfl,he,hb⟩;have HK:=Lib.hid (HK.out.below hb);have HRR:=Lib.hid (Kd.R_below HRR.out hb);have HKP:=Lib.hid (KeptR.below HKP.out hb);have HB:=Lib.hid (below_then HB.out HB.out.size hb);clear hb))|(at_builtin;refine Kd.R_append k71 (w0:=wb) wb.heap.size rfl (.tmp 57) (.tmp 61) 42 71 (.agg #[.string ⟨#[]⟩,.string ⟨#[]⟩]) 32 rfl Tryz.underlying42 info_fld rfl (by decide) (by omega) _ (out.map ofF) (⟨nm,va⟩:S71) [.string nm,.string va] (fun k=>w.heap.size≤k) (fun _=>False) rfl rfl (k71_mkM _ _ _ _) (fun _ hk=>hk.elim) (fun k hk=>Nat.le_trans HKP.out.1 hk) HRR.out HB.out HB.out.size (by rw [List.length_map];omega) ?_;intro v3 w3 ho hb3 hg3 hat3))
   go_roundg k
   case measure=>omega
   case rel=>exact ⟨r,p+l.size+2,out++[(nm.data.toList,va.data.toList)],by simp;omega,by simp;omega,by omega,by simp;omega,Lib.hid ((hg3.block R HK.out.lt (fun e=>by have:=HRR.out.1 R e.symm;omega)).trans HK.out),Lib.hid (by rw [List.map_append];exact ho),Lib.hid hb3,Lib.hid (KeptR.grown HKP.out hg3 (fun k e=>HRR.out.1 k e)),HE⟩
end Go.Proofs.YtgmpdjjoefkndaaGreatDoor.E
