/- What the cards of this seat rest on: the walks and plain laws, part 4. -/
import Derived.Test.YtgmpdjjoefkndaaGreatDoorHR2
import Derived.Test.YtgmpdjjoefkndaaGreatDoorHR3
import Derived.Test.YtgmpdjjoefkndaaGreatDoorProg
import Derived.Below
import Derived.Deep.Draws
import Derived.Deep.AppendLies
import Derived.Maps.AppendAt
import Derived.OwnWalk
import Derived.Laws.BytesArg
import Derived.Laws.MakeOwn
import Derived.Laws.OwnMore
import Derived.Deep.OwnRows
import Derived.Tactics
import Derived.Lib.ConvBytes
import Derived.Laws.Slices
import Derived.WalkKit
import Derived.KernelRfl
import Derived.RowKit3
import Derived.Deep.LoopGhost
import Derived.Deep.QuietTactic
import Derived.BigQuiet
import Derived.WideLaws
import Derived.Deep.DeepCutAuto
import Derived.Deep.CutBlock
import Derived.Deep.RegionHeld3
import Derived.Laws.Rows
import Derived.Lib.AppendStr
import Derived.ArgAppend
import Derived.Laws.IdiomCopy
import Derived.OrdersHeld
import Derived.Laws.BitsLemmas
import Derived.RowKit
import Derived.Test.YtgmpdjjoefkndaaGreatDoorHR1
import Derived.Laws.IdiomStrings

namespace Go.Proofs.YtgmpdjjoefkndaaGreatDoor.XRf
open Go.Proofs.YtgmpdjjoefkndaaGreatDoor.XZ Go.RowKit Go.Proofs.YtgmpdjjoefkndaaGreatDoorW.PrintWords Go.Proofs.YtgmpdjjoefkndaaGreatDoorW.PrintLast Go.Proofs.YtgmpdjjoefkndaaGreatDoorW.PrintMore
attribute [local go_sem] max2_int min2_int max_two min_two max_three min_three max_four min_four
set_option linter.unusedVariables false
set_option linter.unusedSimpArgs false
def sallyportref08_cut.l0:Nat→ByteArray→Int→List ByteArray→Int→Option (List ByteArray)
 |0,_,_,_,_=>none
 |k+1,x0,x1,x5,x6=>if x6<(x0.size:Int) then (if 0≤x6 then (if (bt x0 x6)=32 then (if (x5.length:Int)<x1 then (if x5.length<8796093022208 then (sallyportref08_cut.l0 k x0 x1 (x5++[(⟨#[]⟩:ByteArray)]) (wrap64 (x6+1))) else (none)) else (if 0≤(wrap64 ((x5.length:Int) - 1)) then (if (wrap64 ((x5.length:Int) - 1))<(x5.length:Int) then (if x6≤(wrap64 (x6+1)) then (if (wrap64 (x6+1))≤(x0.size:Int) then (if (rdOf ByteArray.empty x5 (wrap64 ((x5.length:Int) - 1))).size+(x0.extract (x6:Int).toNat ((wrap64 (x6+1)):Int).toNat).size≤9223372036854775807 then (sallyportref08_cut.l0 k x0 x1 (x5.set ((wrap64 ((x5.length:Int) - 1)):Int).toNat ((rdOf ByteArray.empty x5 (wrap64 ((x5.length:Int) - 1)))++(x0.extract (x6:Int).toNat ((wrap64 (x6+1)):Int).toNat))) (wrap64 (x6+1))) else (none)) else (none)) else (none)) else (none)) else (none))) else (if 0≤(wrap64 ((x5.length:Int) - 1)) then (if (wrap64 ((x5.length:Int) - 1))<(x5.length:Int) then (if x6≤(wrap64 (x6+1)) then (if (wrap64 (x6+1))≤(x0.size:Int) then (if (rdOf ByteArray.empty x5 (wrap64 ((x5.length:Int) - 1))).size+(x0.extract (x6:Int).toNat ((wrap64 (x6+1)):Int).toNat).size≤9223372036854775807 then (sallyportref08_cut.l0 k x0 x1 (x5.set ((wrap64 ((x5.length:Int) - 1)):Int).toNat ((rdOf ByteArray.empty x5 (wrap64 ((x5.length:Int) - 1)))++(x0.extract (x6:Int).toNat ((wrap64 (x6+1)):Int).toNat))) (wrap64 (x6+1))) else (none)) else (none)) else (none)) else (none)) else (none))) else (none)) else (some x5)
def sallyportref08_cut.f (k:Nat) (a0:ByteArray) (a1:Int):Option (List ByteArray):=sallyportref08_cut.l0 k a0 a1 (([(⟨#[]⟩:ByteArray)]:List ByteArray)) 0
def sallyportref08_cut.T7:Bool×List (List Nat×List Nat):=(true,[([],[]),([],[]),([1],[1]),([2],[2]),([0,3],[0,3]),([4],[4]),([],[]),([],[]),([],[]),([8],[8]),([6,7,9],[6,7,9]),([5,10],[5,10]),([0,3,0,1,2,3,4,5,6,7,8,9,10,11],[0,3]),([12,11,0,1,2,3,4,5,6,7,8,9,10,11],[11,12])])
def sallyportref08_cut.B7:List Nat:=[0,0,2,6,15,31,0,0,0,256,960,2047,4095,8191]
theorem sallyportref08_cut.tab7:rtab .any (opsOf Tryz.f57 7)=sallyportref08_cut.T7:=by kernel_rfl
theorem sallyportref08_cut.bits7:waitsOk sallyportref08_cut.T7.2 sallyportref08_cut.B7=true:=by kernel_rfl
set_option maxHeartbeats 8000000 in
set_option maxRecDepth 100000 in
theorem sallyportref08_cut.calls (k:Nat) (a0:ByteArray) (a1:Int) (r:List ByteArray) (w:World) (h:sallyportref08_cut.f k a0 a1=some r):
  Calls Tryz.prog 57 #[.string a0,.int .i64 a1] w fun e w'=> ∃ v0_:Value,e= .returned (v0_)∧Kd.R Kd.string 9 w' w.heap.size (fun _=>True) v0_ r∧Below w.heap.size w w':=by
 have HB:=Aside0.mk (Below.refl w.heap.size w)
 have H:(sallyportref08_cut.l0 k a0 a1 (([(⟨#[]⟩:ByteArray)]:List ByteArray)) 0)=some r:=h
 clear h
 obtain ⟨y137,hy137⟩: ∃ y_:List ByteArray,y_=(([(⟨#[]⟩:ByteArray)]:List ByteArray)):=⟨_,rfl⟩
 replace H:(sallyportref08_cut.l0 k a0 a1 y137 0)=some r:=by first|(rw [hy137];with_reducible exact H)|(have H2_:=(Option.bind_some _ _).symm.trans H;rw [hy137];with_reducible exact H2_)|(have H2_:=(Option.bind_some _ _).symm.trans H;with_reducible exact H2_)|with_reducible exact H|(rw [hy137];exact H)|exact H
 have Ny137:=Aside0.mk hy137
 clear hy137
 have H':=Aside0.mk H
 clear H
 go_enter Tryz.func57,Tryz.ntmps57
 go_wp2_with (first|((with_reducible refine gate_dst (N:=7) rfl ?_);(try (refine gate_guard (by rfl) ?_;dsimp only));refine Kd.R_lit Kd.string _ 9 ?hg (N:=7) ?hd (xs:=([(⟨#[]⟩:ByteArray)]:List ByteArray)) (inner:=[.string (⟨#[]⟩:ByteArray)]) (ok:=fun _=>True) (okp:=fun _=>True) ?hr ?hp (fun _ hk=>hk) trivial (Below.refl _ _) (Nat.le_refl _) (by simp) ?_;(case hd=>rfl);(case hg=>rfl);(case hr=>first|(go_simp;done)|(go_simp;rfl));(case hp=>exact (Reps.one (show Kd.M Kd.string _ _ _ (⟨#[]⟩:ByteArray) [.string (⟨#[]⟩:ByteArray)] from rfl) (Reps.none _ _)));intro v138 w3 ho4 hb hg_ hnew_;clear hg_ hnew_;(first|rw [← Ny137.out] at ho4|(simp only [Int.reduceToNat] at ho4;rw [← Ny137.out] at ho4));have HO139:=Aside0.mk (Kd.R_lower ho4 (below_size HB.out));replace HB:=Aside0.mk (below_step HB.out hb);clear hb ho4))
 go_loopg [5,6] k (fun kq v5 v6 w'=> ∃ (x5_1:List ByteArray) (x6_1:Int),v6= .int .i64 x6_1∧Aside0 (sallyportref08_cut.l0 kq a0 a1 x5_1 x6_1=some r)∧Aside0 (kq≤k)∧Aside0 (Kd.R Kd.string 9 w' w.heap.size (fun _=>True) v5 x5_1)∧Aside0 (Below w.heap.size w w'))
 case atStart=>exact ⟨(y137),(0),rfl,H',⟨Nat.le_refl _⟩,⟨by (with_reducible repeat (first|apply Kd.R_alloc|apply Kd.R_drewN|apply Kd.R_drew));exact HO139.out⟩,⟨HB.out⟩⟩
 case round=>
  clear H'
  try clear p2
  obtain ⟨x5_1,x6_1,rfl,HA,HK1,HO_5,HB⟩:=hrel
  cases gk with
  |zero=>exact absurd HA.out (by simp [sallyportref08_cut.l0])
  |succ k1=>
   have H:=HA.out
   clear HA
   simp only [sallyportref08_cut.l0] at H
   by_cases c5:x6_1<(a0.size:Int)
   ·rw [if_pos c5] at H
    have c5b0:=decide_eq_true c5
    clear c5
    by_cases c6:0≤x6_1
    ·rw [if_pos c6] at H
     have c6b0:=decide_eq_true c6
     clear c6
     by_cases c8:(bt a0 x6_1)=32
     ·rw [if_pos c8] at H
      have c8b0:=beq_iff_eq.mpr c8
      have c8b1:=bne_eq_false_iff_eq.mpr c8
      clear c8
      by_cases c9:(x5_1.length:Int)<a1
      ·rw [if_pos c9] at H
       have c9b0:=decide_eq_true c9
       clear c9
       by_cases c10:x5_1.length<8796093022208
       ·rw [if_pos c10] at H
        have LMc10:=Aside0.mk c10
        clear c10
        obtain ⟨y140,hy140⟩: ∃ y_:List ByteArray,y_=(x5_1++[(⟨#[]⟩:ByteArray)]):=⟨_,rfl⟩
        replace H:(sallyportref08_cut.l0 k1 a0 a1 y140 (wrap64 (x6_1+1)))=some r:=by first|(rw [hy140];with_reducible exact H)|(have H2_:=(Option.bind_some _ _).symm.trans H;rw [hy140];with_reducible exact H2_)|(have H2_:=(Option.bind_some _ _).symm.trans H;with_reducible exact H2_)|with_reducible exact H|(rw [hy140];exact H)|exact H
        have Ny140:=Aside0.mk hy140
        clear hy140
        have H':=Aside0.mk H
        clear H
        have p7:0≤(x6_1:Int):=of_decide_eq_true (by first|(with_reducible assumption)|assumption)
        have q7:x6_1<(a0.size:Int):=of_decide_eq_true (by first|(with_reducible assumption)|assumption)
        have hx7:=bt_at a0 x6_1
        replace p7:=eq_true p7
        replace q7:=eq_true q7
        obtain ⟨Ao11,co11,eo11⟩:=Kd.R_slice HO_5.out
        subst eo11
        go_wp2_with (first|((with_reducible refine gate_builtin (b:= .append) (xs:= #[.tmp 24,.tmp 25]) rfl ?_);(try (refine gate_guard (by rfl) ?_;dsimp only));at_builtin;refine Kd.R_append Kd.string (w0:=w) w.heap.size rfl (.tmp 24) (.tmp 25) 104 9 (.string ⟨#[]⟩) 16 rfl Tryz.underlying104 info9 rfl (by decide) (by omega) (.slice Ao11 x5_1.length co11) x5_1 (⟨#[]⟩:ByteArray) [.string (⟨#[]⟩:ByteArray)] (fun _=>True) (fun _=>False) rfl rfl ?aP (fun _ hk=>hk.elim) ?aF ?aO ?aB ?aS ?aL ?_;(case aP=>exact rfl);(case aB=>exact (by repeat (first|(with_reducible first|exact HB.out|apply below_alloc|apply pw_below_drewN|apply below_drew1)|exact HB.out)));(case aF=>exact (fun _ _=>trivial));(case aO=>exact (by (with_reducible repeat (first|apply Kd.R_alloc|apply Kd.R_drewN|apply Kd.R_drew));exact HO_5.out));(case aS=>exact (below_size (by repeat (first|(with_reducible first|exact HB.out|apply below_alloc|apply pw_below_drewN|apply below_drew1)|exact HB.out))));(case aL=>have:=LMc10.out;omega);intro v141 w12 ho hb hg hat;rw [← Ny140.out] at ho;have n0_:=Aside0.mk (hb);have n1_:=Aside0.mk (ho);clear HB;clear HO_5;have HB:=n0_;have HO142:=n1_;clear n0_ n1_;clear ho hb hg hat))
        go_roundg k1
        case measure=>have:=HK1.out;omega
        case rel=>exact ⟨(y140),(wrap64 (x6_1+1)),(by first|rfl|(simp;done)|(simp [*];done)),H',⟨by have:=HK1.out;omega⟩,⟨by (with_reducible repeat (first|apply Kd.R_alloc|apply Kd.R_drewN|apply Kd.R_drew));exact HO142.out⟩,⟨by repeat (first|(with_reducible first|exact HB.out|apply below_alloc|apply pw_below_drewN|apply below_drew1)|exact HB.out)⟩⟩
       ·rw [if_neg c10] at H
        exact absurd H (by simp)
      ·rw [if_neg c9] at H
       have c9b0:decide ((x5_1.length:Int)<a1)=false:=decide_eq_false c9
       clear c9
       obtain ⟨ji13,hji13⟩: ∃ j_:Int,(wrap64 ((x5_1.length:Int) - 1))=j_:=⟨_,rfl⟩
       replace H:(if 0≤(ji13) then (if (ji13)<(x5_1.length:Int) then (if x6_1≤(wrap64 (x6_1+1)) then (if (wrap64 (x6_1+1))≤(a0.size:Int) then (if (rdOf ByteArray.empty x5_1 (ji13)).size+(a0.extract (x6_1:Int).toNat ((wrap64 (x6_1+1)):Int).toNat).size≤9223372036854775807 then (sallyportref08_cut.l0 k1 a0 a1 (x5_1.set ((ji13):Int).toNat ((rdOf ByteArray.empty x5_1 (ji13))++(a0.extract (x6_1:Int).toNat ((wrap64 (x6_1+1)):Int).toNat))) (wrap64 (x6_1+1))) else (none)) else (none)) else (none)) else (none)) else (none))=some r:=by first|(rw [hji13] at H;exact H)|(simp only [hji13] at H ⊢;exact H)
       have hji13w:(IntKind.i64.wrap ((x5_1.length:Int) - 1))=ji13:=(i64_w _).trans hji13
       by_cases c14:0≤(ji13)
       ·rw [if_pos c14] at H
        have c14b0:decide (0≤(ji13))=true:=decide_eq_true c14
        clear c14
        by_cases c15:(ji13)<(x5_1.length:Int)
        ·rw [if_pos c15] at H
         have c15b0:decide ((ji13)<(x5_1.length:Int))=true:=decide_eq_true c15
         clear c15
         have c16b0:=eq_true (of_decide_eq_true (by first|(with_reducible assumption)|assumption):0≤x6_1)
         by_cases c17:x6_1≤(wrap64 (x6_1+1))
         ·rw [if_pos c17] at H
          have c17b0:=eq_true c17
          have c17b1:decide (x6_1≤(wrap64 (x6_1+1)))=true:=decide_eq_true c17
          by_cases c18:(wrap64 (x6_1+1))≤(a0.size:Int)
          ·rw [if_pos c18] at H
           have c18b0:=eq_true c18
           have c18b1:decide ((wrap64 (x6_1+1))≤(a0.size:Int))=true:=decide_eq_true c18
           by_cases c19:(rdOf ByteArray.empty x5_1 (ji13)).size+(a0.extract (x6_1:Int).toNat ((wrap64 (x6_1+1)):Int).toNat).size≤9223372036854775807
           ·rw [if_pos c19] at H
            have c19b0:=eq_true c19
            have c19b1:decide ((rdOf ByteArray.empty x5_1 (ji13)).size+(a0.extract (x6_1:Int).toNat ((wrap64 (x6_1+1)):Int).toNat).size≤9223372036854775807)=true:=decide_eq_true c19
            try have c19b2:(9223372036854775807<(rdOf ByteArray.empty x5_1 (ji13)).size+(a0.extract (x6_1:Int).toNat ((wrap64 (x6_1+1)):Int).toNat).size)=False:=eq_false (Nat.not_lt.2 c19)
            try have c19b3:(9223372036854775807<(rdOf ByteArray.empty x5_1 (ji13)).size+(((wrap64 (x6_1+1)):Int).toNat - (x6_1:Int).toNat))=False:=eq_false (Nat.not_lt.2 (Nat.le_trans (Nat.add_le_add_left (by have h_:=of_decide_eq_true (p:=(wrap64 (x6_1+1))≤(a0.size:Int)) (by assumption);rw [ByteArray.size_extract];omega) _) c19))
            obtain ⟨y144,hy144⟩: ∃ y_:List ByteArray,y_=(x5_1.set ((ji13):Int).toNat ((rdOf ByteArray.empty x5_1 (ji13))++(a0.extract (x6_1:Int).toNat ((wrap64 (x6_1+1)):Int).toNat))):=⟨_,rfl⟩
            replace H:(sallyportref08_cut.l0 k1 a0 a1 y144 (wrap64 (x6_1+1)))=some r:=by first|(rw [hy144];with_reducible exact H)|(have H2_:=(Option.bind_some _ _).symm.trans H;rw [hy144];with_reducible exact H2_)|(have H2_:=(Option.bind_some _ _).symm.trans H;with_reducible exact H2_)|with_reducible exact H|(rw [hy144];exact H)|exact H
            have Ny144:=Aside0.mk hy144
            clear hy144
            have H':=Aside0.mk H
            clear H
            have p7:0≤(x6_1:Int):=of_decide_eq_true (by first|(with_reducible assumption)|assumption)
            have q7:x6_1<(a0.size:Int):=of_decide_eq_true (by first|(with_reducible assumption)|assumption)
            have hx7:=bt_at a0 x6_1
            replace p7:=eq_true p7
            replace q7:=eq_true q7
            obtain ⟨Ao21,co21,eo21⟩:=Kd.R_slice HO_5.out
            subst eo21
            try go_wp2
            have n0_:=Aside0.mk (Kd.R_drew HO_5.out)
            have n1_:=Aside0.mk (below_drew1 HB.out)
            clear HO_5
            clear HB
            have HO_5:=n0_
            have HB:=n1_
            clear n0_ n1_
            have p143:0≤((ji13):Int):=of_decide_eq_true (by first|(with_reducible assumption)|assumption)
            have q143:(ji13)<(x5_1.length:Int):=of_decide_eq_true (by first|(with_reducible assumption)|assumption)
            obtain ⟨ad143,e143,hx143_0⟩:=Kd.at_string (Kd.R_reads' HO_5.out).2.2 (ji13) p143 q143
            cases e143
            replace p143:=eq_true p143
            replace q143:=eq_true q143
            have p20:0≤((ji13):Int):=of_decide_eq_true (by first|(with_reducible assumption)|assumption)
            have q20:((ji13):Int)<((x5_1.length:Int):Int):=of_decide_eq_true (by first|(with_reducible assumption)|assumption)
            obtain ⟨go20,co20,eo20,gb20,gl20,cl20,HG20⟩:=Kd.R_form HO_5.out (by omega)
            (first|cases eo20|(injection eo20 with ea_ en_ ec_;(first|subst ea_|(injection ea_ with ea_;subst ea_));subst ec_;clear en_))
            have GB20:=Aside0.mk gb20
            have GG20:=Aside0.mk HG20
            clear gb20 gl20 HG20
            (first|simp only [add_plain] at hx143_0|skip)
            obtain ⟨hx20_0,hf20_0⟩:=Kd.R_celln (⟨#[]⟩:ByteArray) HO_5.out ((ji13):Int) p20 q20
            replace p20:=eq_true p20
            replace q20:=eq_true q20
            have HP23:=Kd.R_putn HO_5.out ((ji13):Int) ((rdOf ByteArray.empty x5_1 (ji13))++(a0.extract (x6_1:Int).toNat ((wrap64 (x6_1+1)):Int).toNat))
            rw [← Ny144.out] at HP23
            have HQ23:=Aside0.mk HP23
            clear HP23
            refine start_ (n:=14) (S:=fun w'=>w'.cell? ⟨go20,((ji13)).toNat,none⟩=some (.string (rdOf ByteArray.empty x5_1 (ji13)))) (ds:=[13]) #[false,false,false,false,false,false,false,false,false,false,false,false,false,false] (by kernel_rfl) rfl rfl (hx143_0) (fun hHeld=>?_);refine with_tabW sallyportref08_cut.tab7 sallyportref08_cut.bits7 (fun HT_ HW_=>?_)
            generalize wr.drew=w22 at HO_5 HB GG20 HQ23 hf20_0 hx143_0 hx20_0 hHeld ⊢
            refine pure_ (i:=0) (N:=some 27) (v:=?_) (a':=?_) #[true,false,false,false,false,false,false,false,false,false,false,false,false,false] rfl rfl (any_of HT_.out (by kernel_rfl)) (fun _ _ _ h=>h) (Or.inl ⟨by rfl,?_⟩) ?_ ?_
            rotate_left
            ·intro w'
             go_simp
             with_reducible rfl
            rotate_left
            ·simp only [Act.put,List.setIfInBounds_toArray,List.set_cons_zero,List.set_cons_succ,i64_w,i32_w]
             rfl
            refine pure_ (i:=1) (N:=some 28) (v:=?_) (a':=?_) #[true,true,false,false,false,false,false,false,false,false,false,false,false,false] rfl rfl (any_of HT_.out (by kernel_rfl)) (fun _ _ _ h=>h) (Or.inl ⟨by rfl,?_⟩) ?_ ?_
            rotate_left
            ·intro w'
             go_simp
             with_reducible rfl
            rotate_left
            ·simp only [Act.put,List.setIfInBounds_toArray,List.set_cons_zero,List.set_cons_succ,i64_w,i32_w]
             rfl
            refine pure_ (i:=2) (N:=some 29) (v:=?_) (a':=?_) #[true,true,true,false,false,false,false,false,false,false,false,false,false,false] rfl rfl (any_of HT_.out (by kernel_rfl)) (fun _ _ _ h=>h) (Or.inl ⟨by rfl,?_⟩) ?_ ?_
            rotate_left
            ·intro w'
             go_simp
             with_reducible rfl
            rotate_left
            ·simp only [Act.put,List.setIfInBounds_toArray,List.set_cons_zero,List.set_cons_succ,i64_w,i32_w]
             rfl
            refine pure_ (i:=3) (N:=some 30) (v:=?_) (a':=?_) #[true,true,true,true,false,false,false,false,false,false,false,false,false,false] rfl rfl (any_of HT_.out (by kernel_rfl)) (fun _ _ _ h=>h) (Or.inl ⟨by rfl,?_⟩) ?_ ?_
            rotate_left
            ·intro w'
             go_simp
             with_reducible rfl
            rotate_left
            ·simp only [Act.put,List.setIfInBounds_toArray,List.set_cons_zero,List.set_cons_succ,i64_w,i32_w]
             rfl
            refine pure_ (i:=4) (N:=some 31) (v:=?_) (a':=?_) #[true,true,true,true,true,false,false,false,false,false,false,false,false,false] rfl rfl (any_of HT_.out (by kernel_rfl)) (fun _ _ _ h=>h) (Or.inl ⟨by rfl,?_⟩) ?_ ?_
            rotate_left
            ·intro w'
             go_simp
             with_reducible rfl
            rotate_left
            ·simp only [Act.put,List.setIfInBounds_toArray,List.set_cons_zero,List.set_cons_succ,i64_w,i32_w]
             rfl
            refine pure_ (i:=6) (N:=some 33) (v:=?_) (a':=?_) #[true,true,true,true,true,false,true,false,false,false,false,false,false,false] rfl rfl (any_of HT_.out (by kernel_rfl)) (fun _ _ _ h=>h) (Or.inl ⟨by rfl,?_⟩) ?_ ?_
            rotate_left
            ·intro w'
             go_simp
             with_reducible rfl
            rotate_left
            ·simp only [Act.put,List.setIfInBounds_toArray,List.set_cons_zero,List.set_cons_succ,i64_w,i32_w]
             rfl
            refine pure_ (i:=7) (N:=some 34) (v:=?_) (a':=?_) #[true,true,true,true,true,false,true,true,false,false,false,false,false,false] rfl rfl (any_of HT_.out (by kernel_rfl)) (fun _ _ _ h=>h) (Or.inl ⟨by rfl,?_⟩) ?_ ?_
            rotate_left
            ·intro w'
             go_simp
             with_reducible rfl
            rotate_left
            ·simp only [Act.put,List.setIfInBounds_toArray,List.set_cons_zero,List.set_cons_succ,i64_w,i32_w]
             rfl
            refine pure_ (i:=8) (N:=some 35) (v:=?_) (a':=?_) #[true,true,true,true,true,false,true,true,true,false,false,false,false,false] rfl rfl (any_of HT_.out (by kernel_rfl)) (fun _ _ _ h=>h) (Or.inl ⟨by rfl,?_⟩) ?_ ?_
            rotate_left
            ·intro w'
             go_simp
             with_reducible rfl
            rotate_left
            ·simp only [Act.put,List.setIfInBounds_toArray,List.set_cons_zero,List.set_cons_succ,i64_w,i32_w]
             rfl
            refine pure_ (i:=9) (N:=some 36) (v:=?_) (a':=?_) #[true,true,true,true,true,false,true,true,true,true,false,false,false,false] rfl rfl (any_of HT_.out (by kernel_rfl)) (fun _ _ _ h=>h) (Or.inl ⟨by rfl,?_⟩) ?_ ?_
            rotate_left
            ·intro w'
             go_simp
             with_reducible rfl
            rotate_left
            ·simp only [Act.put,List.setIfInBounds_toArray,List.set_cons_zero,List.set_cons_succ,i64_w,i32_w]
             rfl
            refine pure_ (i:=10) (N:=some 37) (v:=?_) (a':=?_) #[true,true,true,true,true,false,true,true,true,true,true,false,false,false] rfl rfl (any_of HT_.out (by kernel_rfl)) (fun _ _ _ h=>h) (Or.inl ⟨by rfl,?_⟩) ?_ ?_
            rotate_left
            ·intro w'
             go_simp
             with_reducible rfl
            rotate_left
            ·simp only [Act.put,List.setIfInBounds_toArray,List.set_cons_zero,List.set_cons_succ,i64_w,i32_w]
             rfl
            refine take_ (i:=5) (N:=some 32) (v:=?_) (a':=?_) #[true,true,true,true,true,true,true,true,true,true,true,false,false,false] rfl rfl (take_ofW HT_.out HW_.out (by kernel_rfl)) (fun _ _ _ h=>h) (Or.inl ⟨by rfl,?_⟩) hHeld ?_ ?_
            rotate_left
            ·intro w' s0
             go_simp
             with_reducible rfl
            rotate_left
            ·simp only [Act.put,List.setIfInBounds_toArray,List.set_cons_zero,List.set_cons_succ,i64_w,i32_w]
             rfl
            refine pure_ (i:=11) (N:=some 38) (v:=?_) (a':=?_) #[true,true,true,true,true,true,true,true,true,true,true,true,false,false] rfl rfl (any_of HT_.out (by kernel_rfl)) (fun _ _ _ h=>h) (Or.inl ⟨by rfl,?_⟩) ?_ ?_
            rotate_left
            ·intro w'
             go_simp
             with_reducible rfl
            rotate_left
            ·simp only [Act.put,List.setIfInBounds_toArray,List.set_cons_zero,List.set_cons_succ,i64_w,i32_w]
             rfl
            refine pure_ (i:=12) (N:=some 39) (v:=?_) (a':=?_) #[true,true,true,true,true,true,true,true,true,true,true,true,true,false] rfl rfl (any_of HT_.out (by kernel_rfl)) (fun _ _ _ h=>h) (Or.inl ⟨by rfl,?_⟩) ?_ ?_
            rotate_left
            ·intro w'
             go_simp
             with_reducible rfl
            rotate_left
            ·simp only [Act.put,List.setIfInBounds_toArray,List.set_cons_zero,List.set_cons_succ,i64_w,i32_w]
             rfl
            refine last_ (i:=13) (N:=none) #[true,true,true,true,true,true,true,true,true,true,true,true,true,true] rfl rfl (one_of HT_.out (by kernel_rfl)) (by decide) (fun K hK=>?_)
            refine skip_ (w1:=?_) (by rfl) rfl ?_ ?_
            rotate_left
            ·go_simp
             rfl
            refine hK.out _ _ ?_
            clear hK K
            refine done_ (done_of HT_.out (by kernel_rfl)) ?_
            try go_wp2
            go_roundg k1
            case measure=>have:=HK1.out;omega
            case rel=>exact ⟨(y144),(wrap64 (x6_1+1)),rfl,H',⟨by have:=HK1.out;omega⟩,⟨by (with_reducible repeat (first|apply Kd.R_alloc|apply Kd.R_drewN|apply Kd.R_drew));exact HQ23.out⟩,⟨by repeat (with_reducible first|exact HB.out|apply below_alloc|apply pw_below_drewN|apply below_drew1|refine below_set ?_ GB20.out)⟩⟩
           ·rw [if_neg c19] at H
            exact absurd H (by simp)
          ·rw [if_neg c18] at H
           exact absurd H (by simp)
         ·rw [if_neg c17] at H
          exact absurd H (by simp)
        ·rw [if_neg c15] at H
         exact absurd H (by simp)
       ·rw [if_neg c14] at H
        exact absurd H (by simp)
     ·rw [if_neg c8] at H
      have c8b0:=beq_eq_false_iff_ne.mpr c8
      have c8b1:=bne_iff_ne.mpr c8
      obtain ⟨ji24,hji24⟩: ∃ j_:Int,(wrap64 ((x5_1.length:Int) - 1))=j_:=⟨_,rfl⟩
      replace H:(if 0≤(ji24) then (if (ji24)<(x5_1.length:Int) then (if x6_1≤(wrap64 (x6_1+1)) then (if (wrap64 (x6_1+1))≤(a0.size:Int) then (if (rdOf ByteArray.empty x5_1 (ji24)).size+(a0.extract (x6_1:Int).toNat ((wrap64 (x6_1+1)):Int).toNat).size≤9223372036854775807 then (sallyportref08_cut.l0 k1 a0 a1 (x5_1.set ((ji24):Int).toNat ((rdOf ByteArray.empty x5_1 (ji24))++(a0.extract (x6_1:Int).toNat ((wrap64 (x6_1+1)):Int).toNat))) (wrap64 (x6_1+1))) else (none)) else (none)) else (none)) else (none)) else (none))=some r:=by first|(rw [hji24] at H;exact H)|(simp only [hji24] at H ⊢;exact H)
      have hji24w:(IntKind.i64.wrap ((x5_1.length:Int) - 1))=ji24:=(i64_w _).trans hji24
      by_cases c25:0≤(ji24)
      ·rw [if_pos c25] at H
       have c25b0:=decide_eq_true c25
       clear c25
       by_cases c26:(ji24)<(x5_1.length:Int)
       ·rw [if_pos c26] at H
        have c26b0:=decide_eq_true c26
        clear c26
        have c27b0:=eq_true (of_decide_eq_true (by assumption):0≤x6_1)
        by_cases c28:x6_1≤(wrap64 (x6_1+1))
        ·rw [if_pos c28] at H
         have c28b0:=eq_true c28
         have c28b1:=decide_eq_true c28
         by_cases c29:(wrap64 (x6_1+1))≤(a0.size:Int)
         ·rw [if_pos c29] at H
          have c29b0:=eq_true c29
          have c29b1:=decide_eq_true c29
          by_cases c30:(rdOf ByteArray.empty x5_1 (ji24)).size+(a0.extract (x6_1:Int).toNat ((wrap64 (x6_1+1)):Int).toNat).size≤9223372036854775807
          ·rw [if_pos c30] at H
           have c30b0:=eq_true c30
           have c30b1:=decide_eq_true c30
           try have c30b2:(9223372036854775807<(rdOf ByteArray.empty x5_1 (ji24)).size+(a0.extract (x6_1:Int).toNat ((wrap64 (x6_1+1)):Int).toNat).size)=False:=eq_false (Nat.not_lt.2 c30)
           try have c30b3:(9223372036854775807<(rdOf ByteArray.empty x5_1 (ji24)).size+(((wrap64 (x6_1+1)):Int).toNat - (x6_1:Int).toNat))=False:=eq_false (Nat.not_lt.2 (Nat.le_trans (Nat.add_le_add_left (by have h_:=of_decide_eq_true (p:=(wrap64 (x6_1+1))≤(a0.size:Int)) (by assumption);rw [ByteArray.size_extract];omega) _) c30))
           obtain ⟨y146,hy146⟩: ∃ y_:List ByteArray,y_=(x5_1.set ((ji24):Int).toNat ((rdOf ByteArray.empty x5_1 (ji24))++(a0.extract (x6_1:Int).toNat ((wrap64 (x6_1+1)):Int).toNat))):=⟨_,rfl⟩
           replace H:(sallyportref08_cut.l0 k1 a0 a1 y146 (wrap64 (x6_1+1)))=some r:=by first|(rw [hy146];with_reducible exact H)|(have H2_:=(Option.bind_some _ _).symm.trans H;rw [hy146];with_reducible exact H2_)|(have H2_:=(Option.bind_some _ _).symm.trans H;with_reducible exact H2_)|with_reducible exact H|(rw [hy146];exact H)|exact H
           have Ny146:=Aside0.mk hy146
           clear hy146
           have H':=Aside0.mk H
           clear H
           have p7:0≤(x6_1:Int):=of_decide_eq_true (by assumption)
           have q7:x6_1<(a0.size:Int):=of_decide_eq_true (by assumption)
           have hx7:=bt_at a0 x6_1
           replace p7:=eq_true p7
           replace q7:=eq_true q7
           try go_wp2
           have n0_:=Aside0.mk (Kd.R_drew HO_5.out)
           have n1_:=Aside0.mk (below_drew1 HB.out)
           clear HO_5
           clear HB
           have HO_5:=n0_
           have HB:=n1_
           clear n0_ n1_
           obtain ⟨Ao33,co33,eo33⟩:=Kd.R_slice HO_5.out
           (first|subst eo33|(injection eo33 with f1_ f2_ f3_;have f4_:=f1_.symm;have f5_:=f3_.symm;clear f1_ f2_ f3_;subst f4_;subst f5_))
           have p145:0≤((ji24):Int):=of_decide_eq_true (by assumption)
           have q145:(ji24)<(x5_1.length:Int):=of_decide_eq_true (by assumption)
           obtain ⟨ad145,e145,hx145_0⟩:=Kd.at_string (Kd.R_reads' HO_5.out).2.2 (ji24) p145 q145
           cases e145
           replace p145:=eq_true p145
           replace q145:=eq_true q145
           have p31:0≤((ji24):Int):=of_decide_eq_true (by assumption)
           have q31:((ji24):Int)<((x5_1.length:Int):Int):=of_decide_eq_true (by assumption)
           obtain ⟨go31,co31,eo31,gb31,gl31,cl31,HG31⟩:=Kd.R_form HO_5.out (by omega)
           (first|cases eo31|(injection eo31 with ea_ en_ ec_;(first|subst ea_|(injection ea_ with ea_;subst ea_));subst ec_;clear en_))
           have GB31:=Aside0.mk gb31
           have GG31:=Aside0.mk HG31
           clear gb31 gl31 HG31
           (first|simp only [add_plain] at hx145_0|skip)
           obtain ⟨hx31_0,hf31_0⟩:=Kd.R_celln (⟨#[]⟩:ByteArray) HO_5.out ((ji24):Int) p31 q31
           replace p31:=eq_true p31
           replace q31:=eq_true q31
           have HP34:=Kd.R_putn HO_5.out ((ji24):Int) ((rdOf ByteArray.empty x5_1 (ji24))++(a0.extract (x6_1:Int).toNat ((wrap64 (x6_1+1)):Int).toNat))
           rw [← Ny146.out] at HP34
           have HQ34:=Aside0.mk HP34
           clear HP34
           refine start_ (n:=14) (S:=fun w'=>w'.cell? ⟨go31,((ji24)).toNat,none⟩=some (.string (rdOf ByteArray.empty x5_1 (ji24)))) (ds:=[13]) #[false,false,false,false,false,false,false,false,false,false,false,false,false,false] (by kernel_rfl) rfl rfl (hx145_0) (fun hHeld=>?_);refine with_tabW sallyportref08_cut.tab7 sallyportref08_cut.bits7 (fun HT_ HW_=>?_)
           generalize wr.drew=w32 at HO_5 HB GG31 HQ34 hf31_0 hx145_0 hx31_0 hHeld ⊢
           refine pure_ (i:=0) (N:=some 27) (v:=?_) (a':=?_) #[true,false,false,false,false,false,false,false,false,false,false,false,false,false] rfl rfl (any_of HT_.out (by kernel_rfl)) (fun _ _ _ h=>h) (Or.inl ⟨by rfl,?_⟩) ?_ ?_
           rotate_left
           ·intro w'
            go_simp
            with_reducible rfl
           rotate_left
           ·simp only [Act.put,List.setIfInBounds_toArray,List.set_cons_zero,List.set_cons_succ,i64_w,i32_w]
            rfl
           refine pure_ (i:=1) (N:=some 28) (v:=?_) (a':=?_) #[true,true,false,false,false,false,false,false,false,false,false,false,false,false] rfl rfl (any_of HT_.out (by kernel_rfl)) (fun _ _ _ h=>h) (Or.inl ⟨by rfl,?_⟩) ?_ ?_
           rotate_left
           ·intro w'
            go_simp
            with_reducible rfl
           rotate_left
           ·simp only [Act.put,List.setIfInBounds_toArray,List.set_cons_zero,List.set_cons_succ,i64_w,i32_w]
            rfl
           refine pure_ (i:=2) (N:=some 29) (v:=?_) (a':=?_) #[true,true,true,false,false,false,false,false,false,false,false,false,false,false] rfl rfl (any_of HT_.out (by kernel_rfl)) (fun _ _ _ h=>h) (Or.inl ⟨by rfl,?_⟩) ?_ ?_
           rotate_left
           ·intro w'
            go_simp
            with_reducible rfl
           rotate_left
           ·simp only [Act.put,List.setIfInBounds_toArray,List.set_cons_zero,List.set_cons_succ,i64_w,i32_w]
            rfl
           refine pure_ (i:=3) (N:=some 30) (v:=?_) (a':=?_) #[true,true,true,true,false,false,false,false,false,false,false,false,false,false] rfl rfl (any_of HT_.out (by kernel_rfl)) (fun _ _ _ h=>h) (Or.inl ⟨by rfl,?_⟩) ?_ ?_
           rotate_left
           ·intro w'
            go_simp
            with_reducible rfl
           rotate_left
           ·simp only [Act.put,List.setIfInBounds_toArray,List.set_cons_zero,List.set_cons_succ,i64_w,i32_w]
            rfl
           refine pure_ (i:=4) (N:=some 31) (v:=?_) (a':=?_) #[true,true,true,true,true,false,false,false,false,false,false,false,false,false] rfl rfl (any_of HT_.out (by kernel_rfl)) (fun _ _ _ h=>h) (Or.inl ⟨by rfl,?_⟩) ?_ ?_
           rotate_left
           ·intro w'
            go_simp
            with_reducible rfl
           rotate_left
           ·simp only [Act.put,List.setIfInBounds_toArray,List.set_cons_zero,List.set_cons_succ,i64_w,i32_w]
            rfl
           refine pure_ (i:=6) (N:=some 33) (v:=?_) (a':=?_) #[true,true,true,true,true,false,true,false,false,false,false,false,false,false] rfl rfl (any_of HT_.out (by kernel_rfl)) (fun _ _ _ h=>h) (Or.inl ⟨by rfl,?_⟩) ?_ ?_
           rotate_left
           ·intro w'
            go_simp
            with_reducible rfl
           rotate_left
           ·simp only [Act.put,List.setIfInBounds_toArray,List.set_cons_zero,List.set_cons_succ,i64_w,i32_w]
            rfl
           refine pure_ (i:=7) (N:=some 34) (v:=?_) (a':=?_) #[true,true,true,true,true,false,true,true,false,false,false,false,false,false] rfl rfl (any_of HT_.out (by kernel_rfl)) (fun _ _ _ h=>h) (Or.inl ⟨by rfl,?_⟩) ?_ ?_
           rotate_left
           ·intro w'
            go_simp
            with_reducible rfl
           rotate_left
           ·simp only [Act.put,List.setIfInBounds_toArray,List.set_cons_zero,List.set_cons_succ,i64_w,i32_w]
            rfl
           refine pure_ (i:=8) (N:=some 35) (v:=?_) (a':=?_) #[true,true,true,true,true,false,true,true,true,false,false,false,false,false] rfl rfl (any_of HT_.out (by kernel_rfl)) (fun _ _ _ h=>h) (Or.inl ⟨by rfl,?_⟩) ?_ ?_
           rotate_left
           ·intro w'
            go_simp
            with_reducible rfl
           rotate_left
           ·simp only [Act.put,List.setIfInBounds_toArray,List.set_cons_zero,List.set_cons_succ,i64_w,i32_w]
            rfl
           refine pure_ (i:=9) (N:=some 36) (v:=?_) (a':=?_) #[true,true,true,true,true,false,true,true,true,true,false,false,false,false] rfl rfl (any_of HT_.out (by kernel_rfl)) (fun _ _ _ h=>h) (Or.inl ⟨by rfl,?_⟩) ?_ ?_
           rotate_left
           ·intro w'
            go_simp
            with_reducible rfl
           rotate_left
           ·simp only [Act.put,List.setIfInBounds_toArray,List.set_cons_zero,List.set_cons_succ,i64_w,i32_w]
            rfl
           refine pure_ (i:=10) (N:=some 37) (v:=?_) (a':=?_) #[true,true,true,true,true,false,true,true,true,true,true,false,false,false] rfl rfl (any_of HT_.out (by kernel_rfl)) (fun _ _ _ h=>h) (Or.inl ⟨by rfl,?_⟩) ?_ ?_
           rotate_left
           ·intro w'
            go_simp
            with_reducible rfl
           rotate_left
           ·simp only [Act.put,List.setIfInBounds_toArray,List.set_cons_zero,List.set_cons_succ,i64_w,i32_w]
            rfl
           refine take_ (i:=5) (N:=some 32) (v:=?_) (a':=?_) #[true,true,true,true,true,true,true,true,true,true,true,false,false,false] rfl rfl (take_ofW HT_.out HW_.out (by kernel_rfl)) (fun _ _ _ h=>h) (Or.inl ⟨by rfl,?_⟩) hHeld ?_ ?_
           rotate_left
           ·intro w' s0
            go_simp
            with_reducible rfl
           rotate_left
           ·simp only [Act.put,List.setIfInBounds_toArray,List.set_cons_zero,List.set_cons_succ,i64_w,i32_w]
            rfl
           refine pure_ (i:=11) (N:=some 38) (v:=?_) (a':=?_) #[true,true,true,true,true,true,true,true,true,true,true,true,false,false] rfl rfl (any_of HT_.out (by kernel_rfl)) (fun _ _ _ h=>h) (Or.inl ⟨by rfl,?_⟩) ?_ ?_
           rotate_left
           ·intro w'
            go_simp
            with_reducible rfl
           rotate_left
           ·simp only [Act.put,List.setIfInBounds_toArray,List.set_cons_zero,List.set_cons_succ,i64_w,i32_w]
            rfl
           refine pure_ (i:=12) (N:=some 39) (v:=?_) (a':=?_) #[true,true,true,true,true,true,true,true,true,true,true,true,true,false] rfl rfl (any_of HT_.out (by kernel_rfl)) (fun _ _ _ h=>h) (Or.inl ⟨by rfl,?_⟩) ?_ ?_
           rotate_left
           ·intro w'
            go_simp
            with_reducible rfl
           rotate_left
           ·simp only [Act.put,List.setIfInBounds_toArray,List.set_cons_zero,List.set_cons_succ,i64_w,i32_w]
            rfl
           refine last_ (i:=13) (N:=none) #[true,true,true,true,true,true,true,true,true,true,true,true,true,true] rfl rfl (one_of HT_.out (by kernel_rfl)) (by decide) (fun K hK=>?_)
           refine skip_ (w1:=?_) (by rfl) rfl ?_ ?_
           rotate_left
           ·go_simp
            rfl
           refine hK.out _ _ ?_
           clear hK K
           refine done_ (done_of HT_.out (by kernel_rfl)) ?_
           try go_wp2
           go_roundg k1
           case measure=>have:=HK1.out;omega
           case rel=>exact ⟨(y146),(wrap64 (x6_1+1)),rfl,H',⟨by have:=HK1.out;omega⟩,⟨by (with_reducible repeat (first|apply Kd.R_alloc|apply Kd.R_drewN|apply Kd.R_drew));exact HQ34.out⟩,⟨by repeat (with_reducible first|exact HB.out|apply below_alloc|apply pw_below_drewN|apply below_drew1|refine below_set ?_ GB31.out)⟩⟩
          ·rw [if_neg c30] at H
           exact absurd H (by simp)
         ·rw [if_neg c29] at H
          exact absurd H (by simp)
        ·rw [if_neg c28] at H
         exact absurd H (by simp)
       ·rw [if_neg c26] at H
        exact absurd H (by simp)
      ·rw [if_neg c25] at H
       exact absurd H (by simp)
    ·rw [if_neg c6] at H
     exact absurd H (by simp)
   ·rw [if_neg c5] at H
    have c5b0:=decide_eq_false c5
    clear c5
    obtain rfl:=Option.some.inj H
    go_wp2
    go_ret
    exact ⟨_,rfl,by (with_reducible repeat (first|apply Kd.R_alloc|apply Kd.R_drewN|apply Kd.R_drew));exact HO_5.out,HB.out⟩
def sallyportref08_lines.l0:Nat→ByteArray→List ByteArray→List Int→Int→Int→Option (List ByteArray×List Int)
 |0,_,_,_,_,_=>none
 |k+1,x0,x4,x5,x6,x7=>if (wrap64 (x7+1))<(x0.size:Int) then (if 0≤x7 then (if x7<(x0.size:Int) then (if (bt x0 x7)=13 then (if 0≤(wrap64 (x7+1)) then (if (bt x0 (wrap64 (x7+1)))=10 then (if x7≥x6 then (if 0≤x6 then (if x6≤x7 then (if x7≤(x0.size:Int) then (if x4.length<8796093022208 then (if x5.length<17592186044416 then (sallyportref08_lines.l0 k x0 (x4++[x0.extract (x6:Int).toNat (x7:Int).toNat]) (x5++[x6]) (wrap64 (x7+2)) (wrap64 (x7+1))) else (none)) else (none)) else (none)) else (none)) else (none)) else (sallyportref08_lines.l0 k x0 x4 x5 x6 (wrap64 (x7+1)))) else (sallyportref08_lines.l0 k x0 x4 x5 x6 (wrap64 (x7+1)))) else (none)) else (sallyportref08_lines.l0 k x0 x4 x5 x6 (wrap64 (x7+1)))) else (none)) else (none)) else (if 0≤(wrap64 ((x4.length:Int) - 1)) then (if (wrap64 ((x4.length:Int) - 1))≤(x4.length:Int) then (if 0≤(wrap64 ((x5.length:Int) - 1)) then (if (wrap64 ((x5.length:Int) - 1))≤(x5.length:Int) then (some ((x4.take ((wrap64 ((x4.length:Int) - 1)):Int).toNat),(x5.take ((wrap64 ((x5.length:Int) - 1)):Int).toNat))) else (none)) else (none)) else (none)) else (none))
def sallyportref08_lines.f (k:Nat) (a0:ByteArray):Option (List ByteArray×List Int):=sallyportref08_lines.l0 k a0 (([]:List ByteArray)) (([]:List Int)) 0 0
set_option maxHeartbeats 8000000 in
set_option maxRecDepth 100000 in
theorem sallyportref08_lines.calls (k:Nat) (a0:ByteArray) (r1:List ByteArray) (r2:List Int) (w:World) (h:sallyportref08_lines.f k a0=some (r1,r2)):
  Calls Tryz.prog 56 #[.string a0] w fun e w'=> ∃ v0_ v1_:Value,e= .returned (.tuple #[v0_,v1_])∧Kd.R Kd.string 9 w' w.heap.size (fun _=>True) v0_ r1∧Kd.R (Kd.int .i64) 3 w' w.heap.size (fun _=>True) v1_ r2∧Below w.heap.size w w':=by
 have HB:=Aside0.mk (Below.refl w.heap.size w)
 have H:(sallyportref08_lines.l0 k a0 (([]:List ByteArray)) (([]:List Int)) 0 0)=some (r1,r2):=h
 clear h
 obtain ⟨y147,hy147⟩: ∃ y_:List ByteArray,y_=(([]:List ByteArray)):=⟨_,rfl⟩
 replace H:(sallyportref08_lines.l0 k a0 y147 (([]:List Int)) 0 0)=some (r1,r2):=by first|(rw [hy147];with_reducible exact H)|(have H2_:=(Option.bind_some _ _).symm.trans H;rw [hy147];with_reducible exact H2_)|(have H2_:=(Option.bind_some _ _).symm.trans H;with_reducible exact H2_)|with_reducible exact H|(rw [hy147];exact H)|exact H
 have Ny147:=Aside0.mk hy147
 clear hy147
 obtain ⟨y150,hy150⟩: ∃ y_:List Int,y_=(([]:List Int)):=⟨_,rfl⟩
 replace H:(sallyportref08_lines.l0 k a0 y147 y150 0 0)=some (r1,r2):=by first|(rw [hy150];with_reducible exact H)|(have H2_:=(Option.bind_some _ _).symm.trans H;rw [hy150];with_reducible exact H2_)|(have H2_:=(Option.bind_some _ _).symm.trans H;with_reducible exact H2_)|with_reducible exact H|(rw [hy150];exact H)|exact H
 have Ny150:=Aside0.mk hy150
 clear hy150
 have H':=Aside0.mk H
 clear H
 go_enter Tryz.func56,Tryz.ntmps56
 go_wp2_with (first|((with_reducible refine gate_dst (N:=8) rfl ?_);refine Kd.R_lit Kd.string _ 9 ?hg (N:=8) ?hd (xs:=([]:List ByteArray)) (inner:=[]) (ok:=fun _=>True) (okp:=fun _=>True) ?hr ?hp (fun _ hk=>hk) trivial (Below.refl _ _) (Nat.le_refl _) (by simp) ?_;(case hd=>rfl);(case hg=>rfl);(case hr=>first|(go_simp;done)|(go_simp;rfl));(case hp=>exact (Reps.none _ _));intro v148 w2 ho3 hb hg_ hnew_;clear hg_ hnew_;(first|rw [← Ny147.out] at ho3|(simp only [Int.reduceToNat] at ho3;rw [← Ny147.out] at ho3));have HO149:=Aside0.mk (Kd.R_lower ho3 (below_size HB.out));replace HB:=Aside0.mk (below_step HB.out hb);clear hb ho3)|((with_reducible refine gate_dst (N:=9) rfl ?_);refine Kd.R_lit (Kd.int .i64) _ 3 ?hg (N:=9) ?hd (xs:=([]:List Int)) (inner:=[]) (ok:=fun _=>True) (okp:=fun _=>True) ?hr ?hp (fun _ hk=>hk) trivial (Below.refl _ _) (Nat.le_refl _) (by simp) ?_;(case hd=>rfl);(case hg=>rfl);(case hr=>first|(go_simp;done)|(go_simp;rfl));(case hp=>exact (Reps.none _ _));intro v151 w4 ho5 hb hg_ hnew_;clear hg_ hnew_;(first|rw [← Ny150.out] at ho5|(simp only [Int.reduceToNat] at ho5;rw [← Ny150.out] at ho5));have HO152:=Aside0.mk (Kd.R_lower ho5 (below_size HB.out));replace HO149:=Aside0.mk (Kd.R_below (by (with_reducible repeat (first|apply Kd.R_alloc|apply Kd.R_drewN|apply Kd.R_drew));exact HO149.out) hb);replace HB:=Aside0.mk (below_step HB.out hb);clear hb ho5))
 repeat (go_quiet (first|((with_reducible refine gate_dst (N:=8) rfl ?_);refine Kd.R_lit Kd.string _ 9 ?hg (N:=8) ?hd (xs:=([]:List ByteArray)) (inner:=[]) (ok:=fun _=>True) (okp:=fun _=>True) ?hr ?hp (fun _ hk=>hk) trivial (Below.refl _ _) (Nat.le_refl _) (by simp) ?_;(case hd=>rfl);(case hg=>rfl);(case hr=>first|(go_simp;done)|(go_simp;rfl));(case hp=>exact (Reps.none _ _));intro v148 w2 ho3 hb hg_ hnew_;clear hg_ hnew_;(first|rw [← Ny147.out] at ho3|(simp only [Int.reduceToNat] at ho3;rw [← Ny147.out] at ho3));have HO149:=Aside0.mk (Kd.R_lower ho3 (below_size HB.out));replace HB:=Aside0.mk (below_step HB.out hb);clear hb ho3)|((with_reducible refine gate_dst (N:=9) rfl ?_);refine Kd.R_lit (Kd.int .i64) _ 3 ?hg (N:=9) ?hd (xs:=([]:List Int)) (inner:=[]) (ok:=fun _=>True) (okp:=fun _=>True) ?hr ?hp (fun _ hk=>hk) trivial (Below.refl _ _) (Nat.le_refl _) (by simp) ?_;(case hd=>rfl);(case hg=>rfl);(case hr=>first|(go_simp;done)|(go_simp;rfl));(case hp=>exact (Reps.none _ _));intro v151 w4 ho5 hb hg_ hnew_;clear hg_ hnew_;(first|rw [← Ny150.out] at ho5|(simp only [Int.reduceToNat] at ho5;rw [← Ny150.out] at ho5));have HO152:=Aside0.mk (Kd.R_lower ho5 (below_size HB.out));replace HO149:=Aside0.mk (Kd.R_below (by (with_reducible repeat (first|apply Kd.R_alloc|apply Kd.R_drewN|apply Kd.R_drew));exact HO149.out) hb);replace HB:=Aside0.mk (below_step HB.out hb);clear hb ho5));try go_wp2_with (first|((with_reducible refine gate_dst (N:=8) rfl ?_);refine Kd.R_lit Kd.string _ 9 ?hg (N:=8) ?hd (xs:=([]:List ByteArray)) (inner:=[]) (ok:=fun _=>True) (okp:=fun _=>True) ?hr ?hp (fun _ hk=>hk) trivial (Below.refl _ _) (Nat.le_refl _) (by simp) ?_;(case hd=>rfl);(case hg=>rfl);(case hr=>first|(go_simp;done)|(go_simp;rfl));(case hp=>exact (Reps.none _ _));intro v148 w2 ho3 hb hg_ hnew_;clear hg_ hnew_;(first|rw [← Ny147.out] at ho3|(simp only [Int.reduceToNat] at ho3;rw [← Ny147.out] at ho3));have HO149:=Aside0.mk (Kd.R_lower ho3 (below_size HB.out));replace HB:=Aside0.mk (below_step HB.out hb);clear hb ho3)|((with_reducible refine gate_dst (N:=9) rfl ?_);refine Kd.R_lit (Kd.int .i64) _ 3 ?hg (N:=9) ?hd (xs:=([]:List Int)) (inner:=[]) (ok:=fun _=>True) (okp:=fun _=>True) ?hr ?hp (fun _ hk=>hk) trivial (Below.refl _ _) (Nat.le_refl _) (by simp) ?_;(case hd=>rfl);(case hg=>rfl);(case hr=>first|(go_simp;done)|(go_simp;rfl));(case hp=>exact (Reps.none _ _));intro v151 w4 ho5 hb hg_ hnew_;clear hg_ hnew_;(first|rw [← Ny150.out] at ho5|(simp only [Int.reduceToNat] at ho5;rw [← Ny150.out] at ho5));have HO152:=Aside0.mk (Kd.R_lower ho5 (below_size HB.out));replace HO149:=Aside0.mk (Kd.R_below (by (with_reducible repeat (first|apply Kd.R_alloc|apply Kd.R_drewN|apply Kd.R_drew));exact HO149.out) hb);replace HB:=Aside0.mk (below_step HB.out hb);clear hb ho5)))
 go_loopg [4,5,6,7] k (fun kq v4 v5 v6 v7 w'=> ∃ (x4_1:List ByteArray) (x5_1:List Int) (x6_1:Int) (x7_1:Int),v6= .int .i64 x6_1∧v7= .int .i64 x7_1∧Aside0 (sallyportref08_lines.l0 kq a0 x4_1 x5_1 x6_1 x7_1=some (r1,r2))∧Aside0 (kq≤k)∧Aside0 (Kd.R Kd.string 9 w' w.heap.size (fun _=>True) v4 x4_1)∧Aside0 (Kd.R (Kd.int .i64) 3 w' w.heap.size (fun _=>True) v5 x5_1)∧Aside0 (Below w.heap.size w w'))
 case atStart=>exact ⟨(y147),(y150),(0),(0),rfl,rfl,H',⟨Nat.le_refl _⟩,⟨by (with_reducible repeat (first|apply Kd.R_alloc|apply Kd.R_drewN|apply Kd.R_drew));exact HO149.out⟩,⟨by (with_reducible repeat (first|apply Kd.R_alloc|apply Kd.R_drewN|apply Kd.R_drew));exact HO152.out⟩,⟨HB.out⟩⟩
 case round=>
  clear H'
  try clear p2
  try clear c5
  obtain ⟨x4_1,x5_1,x6_1,x7_1,rfl,rfl,HA,HK1,HO_4,HO_5,HB⟩:=hrel
  cases gk with
  |zero=>exact absurd HA.out (by simp [sallyportref08_lines.l0])
  |succ k1=>
   have H:=HA.out
   clear HA
   simp only [sallyportref08_lines.l0] at H
   by_cases c6:(wrap64 (x7_1+1))<(a0.size:Int)
   ·rw [if_pos c6] at H
    have c6b0:=decide_eq_true c6
    clear c6
    by_cases c7:0≤x7_1
    ·rw [if_pos c7] at H
     have c7b0:=decide_eq_true c7
     clear c7
     by_cases c8:x7_1<(a0.size:Int)
     ·rw [if_pos c8] at H
      have c8b0:=decide_eq_true c8
      clear c8
      by_cases c10:(bt a0 x7_1)=13
      ·rw [if_pos c10] at H
       have c10b0:=beq_iff_eq.mpr c10
       have c10b1:=bne_eq_false_iff_eq.mpr c10
       clear c10
       obtain ⟨ji11,hji11⟩: ∃ j_:Int,(wrap64 (x7_1+1))=j_:=⟨_,rfl⟩
       replace H:(if 0≤(ji11) then (if (bt a0 (ji11))=10 then (if x7_1≥x6_1 then (if 0≤x6_1 then (if x6_1≤x7_1 then (if x7_1≤(a0.size:Int) then (if x4_1.length<8796093022208 then (if x5_1.length<17592186044416 then (sallyportref08_lines.l0 k1 a0 (x4_1++[a0.extract (x6_1:Int).toNat (x7_1:Int).toNat]) (x5_1++[x6_1]) (wrap64 (x7_1+2)) ji11) else (none)) else (none)) else (none)) else (none)) else (none)) else (sallyportref08_lines.l0 k1 a0 x4_1 x5_1 x6_1 ji11)) else (sallyportref08_lines.l0 k1 a0 x4_1 x5_1 x6_1 ji11)) else (none))=some (r1,r2):=by first|(rw [hji11] at H;exact H)|(simp only [hji11] at H ⊢;exact H)
       (try rw [hji11] at c6b0)
       have hji11w:(IntKind.i64.wrap (x7_1+1))=ji11:=(i64_w _).trans hji11
       by_cases c12:0≤(ji11)
       ·rw [if_pos c12] at H
        have c12b0:=decide_eq_true c12
        clear c12
        by_cases c14:(bt a0 (ji11))=10
        ·rw [if_pos c14] at H
         have c14b0:=beq_iff_eq.mpr c14
         have c14b1:=bne_eq_false_iff_eq.mpr c14
         clear c14
         by_cases c15:x7_1≥x6_1
         ·rw [if_pos c15] at H
          have c15b0:=decide_eq_true c15
          clear c15
          by_cases c16:0≤x6_1
          ·rw [if_pos c16] at H
           have c16b0:=eq_true c16
           have c16b1:=decide_eq_true c16
           clear c16
           by_cases c17:x6_1≤x7_1
           ·rw [if_pos c17] at H
            have c17b0:=eq_true c17
            have c17b1:=decide_eq_true c17
            clear c17
            by_cases c18:x7_1≤(a0.size:Int)
            ·rw [if_pos c18] at H
             have c18b0:=eq_true c18
             have c18b1:=decide_eq_true c18
             clear c18
             by_cases c19:x4_1.length<8796093022208
             ·rw [if_pos c19] at H
              have LMc19:=Aside0.mk c19
              clear c19
              obtain ⟨y153,hy153⟩: ∃ y_:List ByteArray,y_=(x4_1++[a0.extract (x6_1:Int).toNat (x7_1:Int).toNat]):=⟨_,rfl⟩
              replace H:(if x5_1.length<17592186044416 then (sallyportref08_lines.l0 k1 a0 y153 (x5_1++[x6_1]) (wrap64 (x7_1+2)) ji11) else (none))=some (r1,r2):=by first|(rw [hy153];with_reducible exact H)|(have H2_:=(Option.bind_some _ _).symm.trans H;rw [hy153];with_reducible exact H2_)|(have H2_:=(Option.bind_some _ _).symm.trans H;with_reducible exact H2_)|with_reducible exact H|(rw [hy153];exact H)|exact H
              have Ny153:=Aside0.mk hy153
              clear hy153
              by_cases c20:x5_1.length<17592186044416
              ·rw [if_pos c20] at H
               have LMc20:=Aside0.mk c20
               clear c20
               obtain ⟨y156,hy156⟩: ∃ y_:List Int,y_=(x5_1++[x6_1]):=⟨_,rfl⟩
               replace H:(sallyportref08_lines.l0 k1 a0 y153 y156 (wrap64 (x7_1+2)) ji11)=some (r1,r2):=by first|(rw [hy156];with_reducible exact H)|(have H2_:=(Option.bind_some _ _).symm.trans H;rw [hy156];with_reducible exact H2_)|(have H2_:=(Option.bind_some _ _).symm.trans H;with_reducible exact H2_)|with_reducible exact H|(rw [hy156];exact H)|exact H
               have Ny156:=Aside0.mk hy156
               clear hy156
               have H':=Aside0.mk H
               clear H
               have p9:0≤(x7_1:Int):=of_decide_eq_true (by assumption)
               have q9:x7_1<(a0.size:Int):=of_decide_eq_true (by assumption)
               have hx9:=bt_at a0 x7_1
               replace p9:=eq_true p9
               replace q9:=eq_true q9
               have p13:0≤((ji11):Int):=of_decide_eq_true (by assumption)
               have q13:(ji11)<(a0.size:Int):=of_decide_eq_true (by assumption)
               have hx13:=bt_at a0 (ji11)
               replace p13:=eq_true p13
               replace q13:=eq_true q13
               go_wp2_with (first|((with_reducible refine gate_builtin (b:= .append) (xs:= #[.tmp 33,.tmp 38]) rfl ?_);at_builtin;refine Kd.R_append Kd.string (w0:=w) w.heap.size rfl (.tmp 33) (.tmp 38) 104 9 (.string ⟨#[]⟩) 16 rfl Tryz.underlying104 info9 rfl (by decide) (by omega) u4 x4_1 (a0.extract (x6_1:Int).toNat (x7_1:Int).toNat) [.string (a0.extract (x6_1:Int).toNat (x7_1:Int).toNat)] (fun _=>True) (fun _=>False) rfl rfl ?aP (fun _ hk=>hk.elim) ?aF ?aO ?aB ?aS ?aL ?_;(case aP=>exact rfl);(case aB=>exact HB.out);(case aF=>exact (fun _ _=>trivial));(case aO=>exact (by (with_reducible repeat (first|apply Kd.R_alloc|apply Kd.R_drewN|apply Kd.R_drew));exact HO_4.out));(case aS=>exact (below_size HB.out));(case aL=>have:=LMc19.out;omega);intro v154 w21 ho hb hg hat;rw [← Ny153.out] at ho;have n0_:=Aside0.mk (Kd.R_over' (by (with_reducible repeat (first|apply Kd.R_alloc|apply Kd.R_drewN|apply Kd.R_drew));exact HO_5.out) (Kd.R_typed (by (with_reducible repeat (first|apply Kd.R_alloc|apply Kd.R_drewN|apply Kd.R_drew));exact HO_4.out)) (by decide) hg);have n1_:=Aside0.mk (hb);have n2_:=Aside0.mk (ho);clear HO_5;clear HB;clear HO_4;have HO_5:=n0_;have HB:=n1_;have HO155:=n2_;clear n0_ n1_ n2_;clear ho hb hg hat)|((with_reducible refine gate_builtin (b:= .append) (xs:= #[.tmp 40,.tmp 42]) rfl ?_);at_builtin;refine Kd.R_append (Kd.int .i64) (w0:=w) w.heap.size rfl (.tmp 40) (.tmp 42) 74 3 (.int .i64 0) 8 rfl Tryz.underlying74 info3 rfl (by decide) (by omega) u5 x5_1 x6_1 [.int .i64 x6_1] (fun _=>True) (fun _=>False) rfl rfl ?aP (fun _ hk=>hk.elim) ?aF ?aO ?aB ?aS ?aL ?_;(case aP=>exact rfl);(case aB=>exact HB.out);(case aF=>exact (fun _ _=>trivial));(case aO=>exact (by (with_reducible repeat (first|apply Kd.R_alloc|apply Kd.R_drewN|apply Kd.R_drew));exact HO_5.out));(case aS=>exact (below_size HB.out));(case aL=>have:=LMc20.out;omega);intro v157 w22 ho hb hg hat;rw [← Ny156.out] at ho;have n0_:=Aside0.mk (Kd.R_over' (by (with_reducible repeat (first|apply Kd.R_alloc|apply Kd.R_drewN|apply Kd.R_drew));exact HO155.out) (Kd.R_typed (by (with_reducible repeat (first|apply Kd.R_alloc|apply Kd.R_drewN|apply Kd.R_drew));exact HO_5.out)) (by decide) hg);have n1_:=Aside0.mk (hb);have n2_:=Aside0.mk (ho);clear HO155;clear HB;clear HO_5;have HO155:=n0_;have HB:=n1_;have HO158:=n2_;clear n0_ n1_ n2_;clear ho hb hg hat))
               repeat (go_quiet (first|((with_reducible refine gate_builtin (b:= .append) (xs:= #[.tmp 33,.tmp 38]) rfl ?_);at_builtin;refine Kd.R_append Kd.string (w0:=w) w.heap.size rfl (.tmp 33) (.tmp 38) 104 9 (.string ⟨#[]⟩) 16 rfl Tryz.underlying104 info9 rfl (by decide) (by omega) u4 x4_1 (a0.extract (x6_1:Int).toNat (x7_1:Int).toNat) [.string (a0.extract (x6_1:Int).toNat (x7_1:Int).toNat)] (fun _=>True) (fun _=>False) rfl rfl ?aP (fun _ hk=>hk.elim) ?aF ?aO ?aB ?aS ?aL ?_;(case aP=>exact rfl);(case aB=>exact HB.out);(case aF=>exact (fun _ _=>trivial));(case aO=>exact (by (with_reducible repeat (first|apply Kd.R_alloc|apply Kd.R_drewN|apply Kd.R_drew));exact HO_4.out));(case aS=>exact (below_size HB.out));(case aL=>have:=LMc19.out;omega);intro v154 w21 ho hb hg hat;rw [← Ny153.out] at ho;have n0_:=Aside0.mk (Kd.R_over' (by (with_reducible repeat (first|apply Kd.R_alloc|apply Kd.R_drewN|apply Kd.R_drew));exact HO_5.out) (Kd.R_typed (by (with_reducible repeat (first|apply Kd.R_alloc|apply Kd.R_drewN|apply Kd.R_drew));exact HO_4.out)) (by decide) hg);have n1_:=Aside0.mk (hb);have n2_:=Aside0.mk (ho);clear HO_5;clear HB;clear HO_4;have HO_5:=n0_;have HB:=n1_;have HO155:=n2_;clear n0_ n1_ n2_;clear ho hb hg hat)|((with_reducible refine gate_builtin (b:= .append) (xs:= #[.tmp 40,.tmp 42]) rfl ?_);at_builtin;refine Kd.R_append (Kd.int .i64) (w0:=w) w.heap.size rfl (.tmp 40) (.tmp 42) 74 3 (.int .i64 0) 8 rfl Tryz.underlying74 info3 rfl (by decide) (by omega) u5 x5_1 x6_1 [.int .i64 x6_1] (fun _=>True) (fun _=>False) rfl rfl ?aP (fun _ hk=>hk.elim) ?aF ?aO ?aB ?aS ?aL ?_;(case aP=>exact rfl);(case aB=>exact HB.out);(case aF=>exact (fun _ _=>trivial));(case aO=>exact (by (with_reducible repeat (first|apply Kd.R_alloc|apply Kd.R_drewN|apply Kd.R_drew));exact HO_5.out));(case aS=>exact (below_size HB.out));(case aL=>have:=LMc20.out;omega);intro v157 w22 ho hb hg hat;rw [← Ny156.out] at ho;have n0_:=Aside0.mk (Kd.R_over' (by (with_reducible repeat (first|apply Kd.R_alloc|apply Kd.R_drewN|apply Kd.R_drew));exact HO155.out) (Kd.R_typed (by (with_reducible repeat (first|apply Kd.R_alloc|apply Kd.R_drewN|apply Kd.R_drew));exact HO_5.out)) (by decide) hg);have n1_:=Aside0.mk (hb);have n2_:=Aside0.mk (ho);clear HO155;clear HB;clear HO_5;have HO155:=n0_;have HB:=n1_;have HO158:=n2_;clear n0_ n1_ n2_;clear ho hb hg hat));try go_wp2_with (first|((with_reducible refine gate_builtin (b:= .append) (xs:= #[.tmp 33,.tmp 38]) rfl ?_);at_builtin;refine Kd.R_append Kd.string (w0:=w) w.heap.size rfl (.tmp 33) (.tmp 38) 104 9 (.string ⟨#[]⟩) 16 rfl Tryz.underlying104 info9 rfl (by decide) (by omega) u4 x4_1 (a0.extract (x6_1:Int).toNat (x7_1:Int).toNat) [.string (a0.extract (x6_1:Int).toNat (x7_1:Int).toNat)] (fun _=>True) (fun _=>False) rfl rfl ?aP (fun _ hk=>hk.elim) ?aF ?aO ?aB ?aS ?aL ?_;(case aP=>exact rfl);(case aB=>exact HB.out);(case aF=>exact (fun _ _=>trivial));(case aO=>exact (by (with_reducible repeat (first|apply Kd.R_alloc|apply Kd.R_drewN|apply Kd.R_drew));exact HO_4.out));(case aS=>exact (below_size HB.out));(case aL=>have:=LMc19.out;omega);intro v154 w21 ho hb hg hat;rw [← Ny153.out] at ho;have n0_:=Aside0.mk (Kd.R_over' (by (with_reducible repeat (first|apply Kd.R_alloc|apply Kd.R_drewN|apply Kd.R_drew));exact HO_5.out) (Kd.R_typed (by (with_reducible repeat (first|apply Kd.R_alloc|apply Kd.R_drewN|apply Kd.R_drew));exact HO_4.out)) (by decide) hg);have n1_:=Aside0.mk (hb);have n2_:=Aside0.mk (ho);clear HO_5;clear HB;clear HO_4;have HO_5:=n0_;have HB:=n1_;have HO155:=n2_;clear n0_ n1_ n2_;clear ho hb hg hat)|((with_reducible refine gate_builtin (b:= .append) (xs:= #[.tmp 40,.tmp 42]) rfl ?_);at_builtin;refine Kd.R_append (Kd.int .i64) (w0:=w) w.heap.size rfl (.tmp 40) (.tmp 42) 74 3 (.int .i64 0) 8 rfl Tryz.underlying74 info3 rfl (by decide) (by omega) u5 x5_1 x6_1 [.int .i64 x6_1] (fun _=>True) (fun _=>False) rfl rfl ?aP (fun _ hk=>hk.elim) ?aF ?aO ?aB ?aS ?aL ?_;(case aP=>exact rfl);(case aB=>exact HB.out);(case aF=>exact (fun _ _=>trivial));(case aO=>exact (by (with_reducible repeat (first|apply Kd.R_alloc|apply Kd.R_drewN|apply Kd.R_drew));exact HO_5.out));(case aS=>exact (below_size HB.out));(case aL=>have:=LMc20.out;omega);intro v157 w22 ho hb hg hat;rw [← Ny156.out] at ho;have n0_:=Aside0.mk (Kd.R_over' (by (with_reducible repeat (first|apply Kd.R_alloc|apply Kd.R_drewN|apply Kd.R_drew));exact HO155.out) (Kd.R_typed (by (with_reducible repeat (first|apply Kd.R_alloc|apply Kd.R_drewN|apply Kd.R_drew));exact HO_5.out)) (by decide) hg);have n1_:=Aside0.mk (hb);have n2_:=Aside0.mk (ho);clear HO155;clear HB;clear HO_5;have HO155:=n0_;have HB:=n1_;have HO158:=n2_;clear n0_ n1_ n2_;clear ho hb hg hat)))
               go_roundg k1
               case measure=>have:=HK1.out;omega
               case rel=>exact ⟨(y153),(y156),(wrap64 (x7_1+2)),(ji11),rfl,(by first|rfl|(simp;done)|(simp only [← hji11]<;>(first|rfl|simp))|(simp [*];done)),H',⟨by have:=HK1.out;omega⟩,⟨by (with_reducible repeat (first|apply Kd.R_alloc|apply Kd.R_drewN|apply Kd.R_drew));exact HO155.out⟩,⟨by (with_reducible repeat (first|apply Kd.R_alloc|apply Kd.R_drewN|apply Kd.R_drew));exact HO158.out⟩,⟨HB.out⟩⟩
              ·rw [if_neg c20] at H
               exact absurd H (by simp)
             ·rw [if_neg c19] at H
              exact absurd H (by simp)
            ·rw [if_neg c18] at H
             exact absurd H (by simp)
           ·rw [if_neg c17] at H
            exact absurd H (by simp)
          ·rw [if_neg c16] at H
           exact absurd H (by simp)
         ·rw [if_neg c15] at H
          have c15b0:=decide_eq_false c15
          clear c15
          have H':=Aside0.mk H
          clear H
          have p9:0≤(x7_1:Int):=of_decide_eq_true (by assumption)
          have q9:x7_1<(a0.size:Int):=of_decide_eq_true (by assumption)
          have hx9:=bt_at a0 x7_1
          replace p9:=eq_true p9
          replace q9:=eq_true q9
          have p13:0≤((ji11):Int):=of_decide_eq_true (by assumption)
          have q13:(ji11)<(a0.size:Int):=of_decide_eq_true (by assumption)
          have hx13:=bt_at a0 (ji11)
          replace p13:=eq_true p13
          replace q13:=eq_true q13
          go_wp2
          repeat (go_quiet (fail);try go_wp2)
          go_roundg k1
          case measure=>have:=HK1.out;omega
          case rel=>exact ⟨(x4_1),(x5_1),(x6_1),(ji11),rfl,(by first|rfl|(simp;done)|(simp only [← hji11]<;>(first|rfl|simp))|(simp [*];done)),H',⟨by have:=HK1.out;omega⟩,⟨by (with_reducible repeat (first|apply Kd.R_alloc|apply Kd.R_drewN|apply Kd.R_drew));exact HO_4.out⟩,⟨by (with_reducible repeat (first|apply Kd.R_alloc|apply Kd.R_drewN|apply Kd.R_drew));exact HO_5.out⟩,⟨HB.out⟩⟩
        ·rw [if_neg c14] at H
         have c14b0:=beq_eq_false_iff_ne.mpr c14
         have c14b1:=bne_iff_ne.mpr c14
         have H':=Aside0.mk H
         clear H
         have p9:0≤(x7_1:Int):=of_decide_eq_true (by assumption)
         have q9:x7_1<(a0.size:Int):=of_decide_eq_true (by assumption)
         have hx9:=bt_at a0 x7_1
         replace p9:=eq_true p9
         replace q9:=eq_true q9
         have p13:0≤((ji11):Int):=of_decide_eq_true (by assumption)
         have q13:(ji11)<(a0.size:Int):=of_decide_eq_true (by assumption)
         have hx13:=bt_at a0 (ji11)
         replace p13:=eq_true p13
         replace q13:=eq_true q13
         go_wp2
         repeat (go_quiet (fail);try go_wp2)
         go_roundg k1
         case measure=>have:=HK1.out;omega
         case rel=>exact ⟨(x4_1),(x5_1),(x6_1),(ji11),rfl,(by first|rfl|(simp;done)|(simp only [← hji11]<;>(first|rfl|simp))|(simp [*];done)),H',⟨by have:=HK1.out;omega⟩,⟨by (with_reducible repeat (first|apply Kd.R_alloc|apply Kd.R_drewN|apply Kd.R_drew));exact HO_4.out⟩,⟨by (with_reducible repeat (first|apply Kd.R_alloc|apply Kd.R_drewN|apply Kd.R_drew));exact HO_5.out⟩,⟨HB.out⟩⟩
       ·rw [if_neg c12] at H
        exact absurd H (by simp)
      ·rw [if_neg c10] at H
       have c10b0:=beq_eq_false_iff_ne.mpr c10
       have c10b1:=bne_iff_ne.mpr c10
       have H':=Aside0.mk H
       clear H
       have p9:0≤(x7_1:Int):=of_decide_eq_true (by assumption)
       have q9:x7_1<(a0.size:Int):=of_decide_eq_true (by assumption)
       have hx9:=bt_at a0 x7_1
       replace p9:=eq_true p9
       replace q9:=eq_true q9
       go_wp2
       repeat (go_quiet (fail);try go_wp2)
       go_roundg k1
       case measure=>have:=HK1.out;omega
       case rel=>exact ⟨(x4_1),(x5_1),(x6_1),(wrap64 (x7_1+1)),rfl,rfl,H',⟨by have:=HK1.out;omega⟩,⟨by (with_reducible repeat (first|apply Kd.R_alloc|apply Kd.R_drewN|apply Kd.R_drew));exact HO_4.out⟩,⟨by (with_reducible repeat (first|apply Kd.R_alloc|apply Kd.R_drewN|apply Kd.R_drew));exact HO_5.out⟩,⟨HB.out⟩⟩
     ·rw [if_neg c8] at H
      exact absurd H (by simp)
    ·rw [if_neg c7] at H
     exact absurd H (by simp)
   ·rw [if_neg c6] at H
    have c6b0:=decide_eq_false c6
    clear c6
    obtain ⟨ji23,hji23⟩: ∃ j_:Int,(wrap64 ((x4_1.length:Int) - 1))=j_:=⟨_,rfl⟩
    replace H:(if 0≤(ji23) then (if (ji23)≤(x4_1.length:Int) then (if 0≤(wrap64 ((x5_1.length:Int) - 1)) then (if (wrap64 ((x5_1.length:Int) - 1))≤(x5_1.length:Int) then (some ((x4_1.take ((ji23):Int).toNat),(x5_1.take ((wrap64 ((x5_1.length:Int) - 1)):Int).toNat))) else (none)) else (none)) else (none)) else (none))=some (r1,r2):=by first|(rw [hji23] at H;exact H)|(simp only [hji23] at H ⊢;exact H)
    have hji23w:(IntKind.i64.wrap ((x4_1.length:Int) - 1))=ji23:=(i64_w _).trans hji23
    by_cases c24:0≤(ji23)
    ·rw [if_pos c24] at H
     have c24b0:=eq_true c24
     have c24b1:=decide_eq_true c24
     clear c24
     by_cases c25:(ji23)≤(x4_1.length:Int)
     ·rw [if_pos c25] at H
      have c25b0:=eq_true c25
      have c25b1:=decide_eq_true c25
      clear c25
      obtain ⟨y159,hy159⟩: ∃ y_:List ByteArray,y_=(x4_1.take ((ji23):Int).toNat):=⟨_,rfl⟩
      replace H:(if 0≤(wrap64 ((x5_1.length:Int) - 1)) then (if (wrap64 ((x5_1.length:Int) - 1))≤(x5_1.length:Int) then (some (y159,(x5_1.take ((wrap64 ((x5_1.length:Int) - 1)):Int).toNat))) else (none)) else (none))=some (r1,r2):=by first|(rw [hy159];with_reducible exact H)|(have H2_:=(Option.bind_some _ _).symm.trans H;rw [hy159];with_reducible exact H2_)|(have H2_:=(Option.bind_some _ _).symm.trans H;with_reducible exact H2_)|with_reducible exact H|(rw [hy159];exact H)|exact H
      have Ny159:=Aside0.mk hy159
      clear hy159
      obtain ⟨ji26,hji26⟩: ∃ j_:Int,(wrap64 ((x5_1.length:Int) - 1))=j_:=⟨_,rfl⟩
      replace H:(if 0≤(ji26) then (if (ji26)≤(x5_1.length:Int) then (some (y159,(x5_1.take ((ji26):Int).toNat))) else (none)) else (none))=some (r1,r2):=by first|(rw [hji26] at H;exact H)|(simp only [hji26] at H ⊢;exact H)
      have hji26w:(IntKind.i64.wrap ((x5_1.length:Int) - 1))=ji26:=(i64_w _).trans hji26
      by_cases c27:0≤(ji26)
      ·rw [if_pos c27] at H
       have c27b0:=eq_true c27
       have c27b1:=decide_eq_true c27
       clear c27
       by_cases c28:(ji26)≤(x5_1.length:Int)
       ·rw [if_pos c28] at H
        have c28b0:=eq_true c28
        have c28b1:=decide_eq_true c28
        clear c28
        obtain ⟨y162,hy162⟩: ∃ y_:List Int,y_=(x5_1.take ((ji26):Int).toNat):=⟨_,rfl⟩
        replace H:(some (y159,y162))=some (r1,r2):=by first|(rw [hy162];with_reducible exact H)|(have H2_:=(Option.bind_some _ _).symm.trans H;rw [hy162];with_reducible exact H2_)|(have H2_:=(Option.bind_some _ _).symm.trans H;with_reducible exact H2_)|with_reducible exact H|(rw [hy162];exact H)|exact H
        have Ny162:=Aside0.mk hy162
        clear hy162
        simp only [Option.some.injEq,Prod.mk.injEq] at H
        obtain ⟨rfl,rfl⟩:=H
        obtain ⟨Ao29,co29,eo29⟩:=Kd.R_slice HO_4.out
        subst eo29
        have q30:((ji23):Int)≤((x4_1.length:Int):Int):=of_decide_eq_true (by assumption)
        obtain ⟨i030,hi030,_,hsz30,_⟩:=info_parts info9
        have hcut30:=cut_to (P:=Tryz.prog) 104 9 .i64 Tryz.underlying104 hi030 Ao29 x4_1.length co29 (ji23) (of_decide_eq_true (by assumption)) q30 (Kd.R_reads' HO_4.out).2.1
        have hr30:=Kd.R_take (m:=((ji23):Int).toNat) HO_4.out (by omega)
        have hy30:y159.length=((ji23):Int).toNat:=(by rw [Ny159.out,List.length_take];omega)
        rw [← Ny159.out] at hr30
        rw [← hy30] at hr30 hcut30
        clear hy30 hi030 hsz30 HO_4
        have HO161:=Aside0.mk hr30
        clear hr30
        replace q30:=eq_true q30
        obtain ⟨Ao31,co31,eo31⟩:=Kd.R_slice HO_5.out
        subst eo31
        have q32:((ji26):Int)≤((x5_1.length:Int):Int):=of_decide_eq_true (by assumption)
        obtain ⟨i032,hi032,_,hsz32,_⟩:=info_parts info3
        have hcut32:=cut_to (P:=Tryz.prog) 74 3 .i64 Tryz.underlying74 hi032 Ao31 x5_1.length co31 (ji26) (of_decide_eq_true (by assumption)) q32 (Kd.R_reads' HO_5.out).2.1
        have hr32:=Kd.R_take (m:=((ji26):Int).toNat) HO_5.out (by omega)
        have hy32:y162.length=((ji26):Int).toNat:=(by rw [Ny162.out,List.length_take];omega)
        rw [← Ny162.out] at hr32
        rw [← hy32] at hr32 hcut32
        clear hy32 hi032 hsz32 HO_5
        have HO164:=Aside0.mk hr32
        clear hr32
        replace q32:=eq_true q32
        go_wp2
        repeat (go_quiet (fail);try go_wp2)
        go_ret2
        exact ⟨_,_,by first|rfl|(simp [errW_none,errW_some]<;>rfl)|(simp only [← hji23,← hji26];first|rfl|(simp [errW_none,errW_some]<;>rfl))|(simp [*,errW_none,errW_some]<;>rfl),by (with_reducible repeat (first|apply Kd.R_alloc|apply Kd.R_drewN|apply Kd.R_drew));exact HO161.out,by (with_reducible repeat (first|apply Kd.R_alloc|apply Kd.R_drewN|apply Kd.R_drew));exact HO164.out,by repeat (with_reducible first|exact HB.out|apply below_alloc|apply pw_below_drewN|apply below_drew1)⟩
       ·rw [if_neg c28] at H
        exact absurd H (by simp)
      ·rw [if_neg c27] at H
       exact absurd H (by simp)
     ·rw [if_neg c25] at H
      exact absurd H (by simp)
    ·rw [if_neg c24] at H
     exact absurd H (by simp)
end Go.Proofs.YtgmpdjjoefkndaaGreatDoor.XRf

namespace Go.Proofs.YtgmpdjjoefkndaaGreatDoor.XRf
open Go.Proofs.YtgmpdjjoefkndaaGreatDoor.XZ
open Go.RowKit Go.Proofs.YtgmpdjjoefkndaaGreatDoorW.PrintWords Go.Proofs.YtgmpdjjoefkndaaGreatDoorW.PrintLast Go.Proofs.YtgmpdjjoefkndaaGreatDoorW.PrintMore
attribute [local go_sem] max2_int min2_int max_two min_two max_three min_three max_four min_four
set_option linter.unusedVariables false
set_option linter.unusedSimpArgs false
end Go.Proofs.YtgmpdjjoefkndaaGreatDoor.XRf

namespace Go.Proofs.YtgmpdjjoefkndaaGreatDoor.XV
open Go.RowKit Go.Proofs.YtgmpdjjoefkndaaGreatDoorW.PrintWords Go.Proofs.YtgmpdjjoefkndaaGreatDoorW.PrintLast Go.Proofs.YtgmpdjjoefkndaaGreatDoorW.PrintMore
attribute [local go_sem] max2_int min2_int max_two min_two max_three min_three max_four min_four
set_option linter.unusedVariables false
set_option linter.unusedSimpArgs false
def errW:Option Int→Value
 |none=> .nilIface
 |some c=> .iface 0 (.int .i64 c)
theorem errW_none:errW none= .nilIface:=rfl
theorem errW_some (c:Int):errW (some c)= .iface 0 (.int .i64 c):=rfl
mutual
def sallyportbase_Whole.j0:Nat→ByteArray→Bool→Option (Int×Bool)
 |0,_,_=>none
 |k+1,x0,x29=>if x29=true then (some (0,false)) else (sallyportbase_Whole.l0 k x0 0 0)
def sallyportbase_Whole.l0:Nat→ByteArray→Int→Int→Option (Int×Bool)
 |0,_,_,_=>none
 |k+1,x0,x6,x7=>if x7<(x0.size:Int) then (if 0≤x7 then (if (bt x0 x7)<48 then (some (0,false)) else (if (bt x0 x7)>57 then (some (0,false)) else (sallyportbase_Whole.l0 k x0 (wrap64 ((wrap64 (x6*10))+(((bt x0 x7) - 48) % 256))) (wrap64 (x7+1))))) else (none)) else (some (x6,true))
end
def sallyportbase_Whole.f (k:Nat) (a0:ByteArray) (a1:Int):Option (Int×Bool):=if a0.toList=([]:List UInt8) then (sallyportbase_Whole.j0 k a0 true) else (if (a0.size:Int)>a1 then (sallyportbase_Whole.j0 k a0 true) else (if a1>18 then (sallyportbase_Whole.j0 k a0 true) else (if (a0.size:Int)>1 then (if 0<(a0.size:Int) then (sallyportbase_Whole.j0 k a0 ((bt a0 0)==48)) else (none)) else (sallyportbase_Whole.j0 k a0 false))))
set_option maxHeartbeats 8000000 in
set_option maxRecDepth 100000 in
theorem sallyportbase_Whole.calls (k:Nat) (a0:ByteArray) (a1:Int) (r1:Int) (r2:Bool) (w:World) (h:sallyportbase_Whole.f k a0 a1=some (r1,r2)):
  Calls Tryz.prog 67 #[.string a0,.int .i64 a1] w fun e w'=>e= .returned (.tuple #[.int .i64 r1,.bool r2])∧Drawn0 w w':=by
 have H:(if a0.toList=([]:List UInt8) then (sallyportbase_Whole.j0 k a0 true) else (if (a0.size:Int)>a1 then (sallyportbase_Whole.j0 k a0 true) else (if a1>18 then (sallyportbase_Whole.j0 k a0 true) else (if (a0.size:Int)>1 then (if 0<(a0.size:Int) then (sallyportbase_Whole.j0 k a0 ((bt a0 0)==48)) else (none)) else (sallyportbase_Whole.j0 k a0 false)))))=some (r1,r2):=h
 clear h
 have HC3:=Aside0.mk H
 clear H
 go_enter Tryz.func67,Tryz.ntmps67
 go_upto_region 1 with (fail)
 go_cut [29] (fun v29 wc=> ∃ (kq:Nat) (x29_2:Bool),v29= .bool x29_2∧Aside0 (sallyportbase_Whole.j0 kq a0 x29_2=some (r1,r2))∧Aside0 (kq≤k)∧Drawn0 w wc)
 case first=>
  have H:=HC3.out
  clear HC3
  by_cases c4:a0.toList=([]:List UInt8)
  ·rw [if_pos c4] at H
   have c4b0:=beq_iff_eq.mpr c4
   have c4b6:a0.toList.isEmpty=true:=by rw [List.isEmpty_iff];exact c4
   have c4b1:=bne_eq_false_iff_eq.mpr c4
   clear c4
   (first|rw [c4b0]|rw [c4b6]|(simp only [i64_w,i32_w];rw [c4b0])|skip)
   have H':=Aside0.mk H
   clear H
   go_wp2
   go_meet
   case rel=>exact ⟨_,(true),rfl,H',⟨by first|omega|exact Nat.le_refl _⟩,by repeat (first|exact Drawn0.refl _|apply Drawn0.step)⟩
  ·rw [if_neg c4] at H
   have c4b0:=beq_eq_false_iff_ne.mpr c4
   have c4b6:a0.toList.isEmpty=false:=by rw [← Bool.not_eq_true,List.isEmpty_iff];exact c4
   have c4b1:=bne_iff_ne.mpr c4
   (first|rw [c4b0]|rw [c4b6]|(simp only [i64_w,i32_w];rw [c4b0])|skip)
   by_cases c5:(a0.size:Int)>a1
   ·rw [if_pos c5] at H
    have c5b0:=decide_eq_true c5
    clear c5
    have H':=Aside0.mk H
    clear H
    go_wp2
    go_meet
    case rel=>exact ⟨_,(true),rfl,H',⟨by first|omega|exact Nat.le_refl _⟩,by repeat (first|exact Drawn0.refl _|apply Drawn0.step)⟩
   ·rw [if_neg c5] at H
    have c5b0:=decide_eq_false c5
    clear c5
    by_cases c6:a1>18
    ·rw [if_pos c6] at H
     have c6b0:=decide_eq_true c6
     clear c6
     have H':=Aside0.mk H
     clear H
     go_wp2
     go_meet
     case rel=>exact ⟨_,(true),rfl,H',⟨by first|omega|exact Nat.le_refl _⟩,by repeat (first|exact Drawn0.refl _|apply Drawn0.step)⟩
    ·rw [if_neg c6] at H
     have c6b0:=decide_eq_false c6
     clear c6
     by_cases c7:(a0.size:Int)>1
     ·rw [if_pos c7] at H
      have c7b0:=decide_eq_true c7
      have c7b1:decide (1<a0.size)=true:=decide_eq_true (by omega)
      clear c7
      by_cases c8:0<(a0.size:Int)
      ·rw [if_pos c8] at H
       have c8b0:=decide_eq_true c8
       have c8b1:decide (0<a0.size)=true:=decide_eq_true (by omega)
       clear c8
       have H':=Aside0.mk H
       clear H
       have p9:0≤(0:Int):=(by omega)
       have q9:0<a0.size:=(by have:(0:Int)<(a0.size:Int):=of_decide_eq_true (by assumption);omega)
       have hx9: ∀ h:0<a0.size,((a0[0]'h).toNat:Int)=bt a0 0:=bt_at a0 0
       clear p9
       have qi9:(0<(a0.size:Int))=True:=eq_true (of_decide_eq_true (by assumption))
       replace q9:=eq_true q9
       go_wp2
       go_meet
       case rel=>exact ⟨_,(((bt a0 0)==48)),rfl,H',⟨by first|omega|exact Nat.le_refl _⟩,by repeat (first|exact Drawn0.refl _|apply Drawn0.step)⟩
      ·rw [if_neg c8] at H
       exact absurd H (by simp)
     ·rw [if_neg c7] at H
      have c7b0:=decide_eq_false c7
      have c7b1:decide (1<a0.size)=false:=decide_eq_false (by omega)
      clear c7
      have H':=Aside0.mk H
      clear H
      go_wp2
      go_meet
      case rel=>exact ⟨_,(false),rfl,H',⟨by first|omega|exact Nat.le_refl _⟩,by repeat (first|exact Drawn0.refl _|apply Drawn0.step)⟩
 case rest=>
  clear HC3
  try clear p2
  try clear c4
  try clear c4b0
  try clear c4b1
  try clear c5
  try clear c5b0
  try clear c6
  try clear c6b0
  try clear c7
  try clear c7b0
  try clear c7b1
  try clear c8
  try clear c8b0
  try clear c8b1
  try clear p9
  try clear q9
  try clear hx9
  try clear qi9
  try clear p9
  try clear q9
  obtain ⟨kq,x29_2,rfl,HA,HJ2,⟨mc2,rfl⟩⟩:=hcut
  cases kq with
  |zero=>exact absurd HA.out (by simp [sallyportbase_Whole.j0])
  |succ kj2=>
   have H:=HA.out
   clear HA
   simp only [sallyportbase_Whole.j0] at H
   by_cases c10:x29_2=true
   ·subst c10
    have H1:(some (0,false))=some (r1,r2):=by rw [if_pos rfl] at H;exact H
    clear H
    have H:=H1
    clear H1
    simp only [Option.some.injEq,Prod.mk.injEq] at H
    obtain ⟨rfl,rfl⟩:=H
    go_wp2
    go_ret2
    exact ⟨by first|rfl|(simp;done)|(simp [*];done),by repeat (first|exact Drawn0.refl _|apply Drawn0.step)⟩
   ·replace c10:=Bool.eq_false_iff.mpr c10
    subst c10
    have H1:(sallyportbase_Whole.l0 kj2 a0 0 0)=some (r1,r2):=by rw [if_neg (show ¬ (false=true) by decide)] at H;exact H
    clear H
    have H:=H1
    clear H1
    have H':=Aside0.mk H
    clear H
    go_wp2
    go_loopg [6,7] kj2 (fun kq v6 v7 w'=> ∃ (x6_2:Int) (x7_2:Int),v6= .int .i64 x6_2∧v7= .int .i64 x7_2∧Aside0 (sallyportbase_Whole.l0 kq a0 x6_2 x7_2=some (r1,r2))∧Aside0 (kq≤kj2)∧Drawn0 w w')
    case atStart=>exact ⟨(0),(0),rfl,rfl,H',⟨Nat.le_refl _⟩,by repeat (first|exact Drawn0.refl _|apply Drawn0.step)⟩
    case round=>
     clear H'
     try clear c1
     try clear c2
     try clear p2
     try clear c4
     try clear c4b0
     try clear c4b1
     try clear c5
     try clear c5b0
     try clear c6
     try clear c6b0
     try clear c7
     try clear c7b0
     try clear c7b1
     try clear c8
     try clear c8b0
     try clear c8b1
     try clear p9
     try clear q9
     try clear hx9
     try clear qi9
     try clear c10
     try clear p2
     try clear p9
     try clear q9
     obtain ⟨x6_2,x7_2,rfl,rfl,HA,HK2,⟨m2,rfl⟩⟩:=hrel
     cases gk with
     |zero=>exact absurd HA.out (by simp [sallyportbase_Whole.l0])
     |succ k2=>
      have H:=HA.out
      clear HA
      simp only [sallyportbase_Whole.l0] at H
      by_cases c11:x7_2<(a0.size:Int)
      ·rw [if_pos c11] at H
       have c11b0:=decide_eq_true c11
       clear c11
       by_cases c12:0≤x7_2
       ·rw [if_pos c12] at H
        have c12b0:=decide_eq_true c12
        clear c12
        by_cases c14:(bt a0 x7_2)<48
        ·rw [if_pos c14] at H
         have c14b0:=decide_eq_true c14
         clear c14
         simp only [Option.some.injEq,Prod.mk.injEq] at H
         obtain ⟨rfl,rfl⟩:=H
         have p13:0≤(x7_2:Int):=of_decide_eq_true (by assumption)
         have q13:x7_2<(a0.size:Int):=of_decide_eq_true (by assumption)
         have hx13:=bt_at a0 x7_2
         replace p13:=eq_true p13
         replace q13:=eq_true q13
         go_wp2
         go_ret2
         exact ⟨by first|rfl|(simp;done)|(simp [*];done),by repeat (first|exact Drawn0.refl _|apply Drawn0.step)⟩
        ·rw [if_neg c14] at H
         have c14b0:=decide_eq_false c14
         clear c14
         by_cases c16:(bt a0 x7_2)>57
         ·rw [if_pos c16] at H
          have c16b0:=decide_eq_true c16
          clear c16
          simp only [Option.some.injEq,Prod.mk.injEq] at H
          obtain ⟨rfl,rfl⟩:=H
          have p13:0≤(x7_2:Int):=of_decide_eq_true (by assumption)
          have q13:x7_2<(a0.size:Int):=of_decide_eq_true (by assumption)
          have hx13:=bt_at a0 x7_2
          replace p13:=eq_true p13
          replace q13:=eq_true q13
          have p15:0≤(x7_2:Int):=of_decide_eq_true (by assumption)
          have q15:x7_2<(a0.size:Int):=of_decide_eq_true (by assumption)
          have hx15:=bt_at a0 x7_2
          replace p15:=eq_true p15
          replace q15:=eq_true q15
          go_wp2
          go_ret2
          exact ⟨by first|rfl|(simp;done)|(simp [*];done),by repeat (first|exact Drawn0.refl _|apply Drawn0.step)⟩
         ·rw [if_neg c16] at H
          have c16b0:=decide_eq_false c16
          clear c16
          have H':=Aside0.mk H
          clear H
          have p13:0≤(x7_2:Int):=of_decide_eq_true (by assumption)
          have q13:x7_2<(a0.size:Int):=of_decide_eq_true (by assumption)
          have hx13:=bt_at a0 x7_2
          replace p13:=eq_true p13
          replace q13:=eq_true q13
          have p15:0≤(x7_2:Int):=of_decide_eq_true (by assumption)
          have q15:x7_2<(a0.size:Int):=of_decide_eq_true (by assumption)
          have hx15:=bt_at a0 x7_2
          replace p15:=eq_true p15
          replace q15:=eq_true q15
          have p17:0≤(x7_2:Int):=of_decide_eq_true (by assumption)
          have q17:x7_2<(a0.size:Int):=of_decide_eq_true (by assumption)
          have hx17:=bt_at a0 x7_2
          replace p17:=eq_true p17
          replace q17:=eq_true q17
          go_wp2
          go_roundg k2
          case measure=>have:=HJ2.out;have:=HK2.out;omega
          case rel=>exact ⟨(wrap64 ((wrap64 (x6_2*10))+(((bt a0 x7_2) - 48) % 256))),(wrap64 (x7_2+1)),rfl,rfl,H',⟨by have:=HJ2.out;have:=HK2.out;omega⟩,by repeat (first|exact Drawn0.refl _|apply Drawn0.step)⟩
       ·rw [if_neg c12] at H
        exact absurd H (by simp)
      ·rw [if_neg c11] at H
       have c11b0:=decide_eq_false c11
       clear c11
       simp only [Option.some.injEq,Prod.mk.injEq] at H
       obtain ⟨rfl,rfl⟩:=H
       go_wp2
       go_ret2
       exact ⟨by first|rfl|(simp;done)|(simp [*];done),by repeat (first|exact Drawn0.refl _|apply Drawn0.step)⟩
end Go.Proofs.YtgmpdjjoefkndaaGreatDoor.XV

namespace Go.Proofs.YtgmpdjjoefkndaaGreatDoor.XV
open Go.RowKit Go.Proofs.YtgmpdjjoefkndaaGreatDoorW.PrintWords Go.Proofs.YtgmpdjjoefkndaaGreatDoorW.PrintLast Go.Proofs.YtgmpdjjoefkndaaGreatDoorW.PrintMore
attribute [local go_sem] max2_int min2_int max_two min_two max_three min_three max_four min_four
set_option linter.unusedVariables false
set_option linter.unusedSimpArgs false
end Go.Proofs.YtgmpdjjoefkndaaGreatDoor.XV

namespace Go.Proofs.YtgmpdjjoefkndaaGreatDoor.XR
open Go.Proofs.YtgmpdjjoefkndaaGreatDoor.XV Go.RowKit Go.Proofs.YtgmpdjjoefkndaaGreatDoorW.PrintWords Go.Proofs.YtgmpdjjoefkndaaGreatDoorW.PrintLast Go.Proofs.YtgmpdjjoefkndaaGreatDoorW.PrintMore
attribute [local go_sem] max2_int min2_int max_two min_two max_three min_three max_four min_four
set_option linter.unusedVariables false
set_option linter.unusedSimpArgs false
theorem info3:(Tryz.prog.info? 3).map (fun i=>(i.zero,i.size,i.bytes))=some (some (.int .i64 0),1,8):=by kernel_rfl
theorem info9:(Tryz.prog.info? 9).map (fun i=>(i.zero,i.size,i.bytes))=some (some (.string ⟨#[]⟩),1,16):=by kernel_rfl
def sallyportref06_fault.f (a0:Int) (a1:Int):Option (Int×ByteArray×ByteArray×ByteArray×ByteArray×Int×Int×Int×Int×Int):=(E.Fail.f (⟨#[104,111,115,116]⟩:ByteArray) a0 a1).bind fun bt102=>(some (bt102.1,bt102.2.1,bt102.2.2.1,bt102.2.2.2.1,bt102.2.2.2.2.1,bt102.2.2.2.2.2.1,bt102.2.2.2.2.2.2.1,bt102.2.2.2.2.2.2.2.1,bt102.2.2.2.2.2.2.2.2.1,bt102.2.2.2.2.2.2.2.2.2))
set_option maxHeartbeats 8000000 in
set_option maxRecDepth 100000 in
theorem sallyportref06_fault.calls (a0:Int) (a1:Int) (r1:Int) (r2:ByteArray) (r3:ByteArray) (r4:ByteArray) (r5:ByteArray) (r6:Int) (r7:Int) (r8:Int) (r9:Int) (r10:Int) (w:World) (hS_:StdW w) (h:sallyportref06_fault.f a0 a1=some (r1,r2,r3,r4,r5,r6,r7,r8,r9,r10)):
  Calls Tryz.prog 149 #[.int .i64 a0,.int .i64 a1] w fun e w'=>e= .returned (.agg #[.int .i64 r1,.string r2,.string r3,.string r4,.string r5,.int .i64 r6,.int .i64 r7,.int .i64 r8,.int .i64 r9,.int .i64 r10])∧Below w.heap.size w w':=by
 have hu32:=Tryz.underlying32
 have HS_:=Aside0.mk hS_
 clear hS_
 have HB:=Aside0.mk (Below.refl w.heap.size w)
 have H:((E.Fail.f (⟨#[104,111,115,116]⟩:ByteArray) a0 a1).bind fun bt102=>(some (bt102.1,bt102.2.1,bt102.2.2.1,bt102.2.2.2.1,bt102.2.2.2.2.1,bt102.2.2.2.2.2.1,bt102.2.2.2.2.2.2.1,bt102.2.2.2.2.2.2.2.1,bt102.2.2.2.2.2.2.2.2.1,bt102.2.2.2.2.2.2.2.2.2)))=some (r1,r2,r3,r4,r5,r6,r7,r8,r9,r10):=h
 clear h
 replace H:=Option.bind_eq_some_iff.mp H
 obtain ⟨⟨t102,t103,t104,t105,t106,t107,t108,t109,t110,t111⟩,A30,H⟩:=H
 replace H:(some (t102,t103,t104,t105,t106,t107,t108,t109,t110,t111))=some (r1,r2,r3,r4,r5,r6,r7,r8,r9,r10):=H
 have A3:=Aside0.mk A30
 clear A30
 simp only [Option.some.injEq,Prod.mk.injEq] at H
 obtain ⟨rfl,rfl,rfl,rfl,rfl,rfl,rfl,rfl,rfl,rfl⟩:=H
 go_enter Tryz.func149,Tryz.ntmps149
 go_wp2_with (first|((with_reducible refine gate_dst (N:=4) rfl ?_);refine box_event ?hg (N:=4) ?hd (cs:= #[.int .i64 0,.string (⟨#[]⟩:ByteArray),.string (⟨#[]⟩:ByteArray),.string (⟨#[]⟩:ByteArray),.string (⟨#[]⟩:ByteArray),.int .i64 0,.int .i64 0,.int .i64 0,.int .i64 0,.int .i64 0]) (t:=32) ?hr ?_;(case hd=>rfl);(case hg=>rfl);(case hr=>first|(go_simp;done)|(go_simp;rfl));intro gb101 hg w4 hbox hb;have n0_:=Aside0.mk (below_step (by repeat (first|(with_reducible first|exact HB.out|apply below_alloc|apply pw_below_drewN|apply below_drew1)|exact HB.out)) hb);have n1_:=Aside0.mk (hbox);have n2_:=Aside0.mk ((by rw [hg];exact (below_size (by repeat (first|(with_reducible first|exact HB.out|apply below_alloc|apply pw_below_drewN|apply below_drew1)|exact HB.out))):w.heap.size≤gb101));have n3_:=Aside0.mk ((by rw [hg];exact (below_size (by repeat (first|(with_reducible first|exact HB.out|apply below_alloc|apply pw_below_drewN|apply below_drew1)|exact HB.out))):w.heap.size≤gb101));clear HB;have HB:=n0_;have BK101:=n1_;have GW101:=n2_;have GE101:=n3_;clear n0_ n1_ n2_ n3_;clear hb hbox hg)|((with_reducible refine gate_callee (f:=68) rfl ?_);refine goesL_ (some 7) rfl rfl Tryz.func68 (by kernel_rfl) rfl #[.string (⟨#[104,111,115,116]⟩:ByteArray),.int .i64 a0,.int .i64 a1] rfl (by (try simp only [List.map_toArray,List.map_cons,List.map_nil]);first|done|rfl|(simp only [List.length_drop,List.length_take];rfl)) ?_;(with_reducible refine (E.Fail.calls (⟨#[104,111,115,116]⟩:ByteArray) a0 a1 t102 t103 t104 t105 t106 t107 t108 t109 t110 t111 _ ?side1 A3.out).mono ?_);(case side1=>exact StdW.below HS_.out (by repeat (first|(with_reducible first|exact HB.out|apply below_alloc|apply pw_below_drewN|apply below_drew1|refine below_set ?_ GE101.out)|exact HB.out)));rintro e w5 ⟨rfl,hb⟩;refine ⟨_,rfl,?_⟩;have n0_:=Aside0.mk (blk_below (g:=gb101) (o:= .cells #[.int .i64 0,.string (⟨#[]⟩:ByteArray),.string (⟨#[]⟩:ByteArray),.string (⟨#[]⟩:ByteArray),.string (⟨#[]⟩:ByteArray),.int .i64 0,.int .i64 0,.int .i64 0,.int .i64 0,.int .i64 0] 32 (0,0)) (by (with_reducible repeat (first|refine blk_drewN ?_ _|refine blk_drew ?_|refine blk_alloc ?_ _));exact BK101.out) hb);have n1_:=Aside0.mk (below_step (by repeat (first|(with_reducible first|exact HB.out|apply below_alloc|apply pw_below_drewN|apply below_drew1|refine below_set ?_ GE101.out)|exact HB.out)) hb);clear BK101;clear HB;have BK101:=n0_;have HB:=n1_;clear n0_ n1_;(try clear hb);(try clear hb2);(try clear hk);(try clear hi);have hcz6_0:w5.cell? ⟨gb101,0,none⟩=some (.int .i64 0):=(blk_cell BK101.out 0).trans rfl;have hcz6_1:w5.cell? ⟨gb101,1,none⟩=some (.string (⟨#[]⟩:ByteArray)):=(blk_cell BK101.out 1).trans rfl;have hcz6_2:w5.cell? ⟨gb101,2,none⟩=some (.string (⟨#[]⟩:ByteArray)):=(blk_cell BK101.out 2).trans rfl;have hcz6_3:w5.cell? ⟨gb101,3,none⟩=some (.string (⟨#[]⟩:ByteArray)):=(blk_cell BK101.out 3).trans rfl;have hcz6_4:w5.cell? ⟨gb101,4,none⟩=some (.string (⟨#[]⟩:ByteArray)):=(blk_cell BK101.out 4).trans rfl;have hcz6_5:w5.cell? ⟨gb101,5,none⟩=some (.int .i64 0):=(blk_cell BK101.out 5).trans rfl;have hcz6_6:w5.cell? ⟨gb101,6,none⟩=some (.int .i64 0):=(blk_cell BK101.out 6).trans rfl;have hcz6_7:w5.cell? ⟨gb101,7,none⟩=some (.int .i64 0):=(blk_cell BK101.out 7).trans rfl;have hcz6_8:w5.cell? ⟨gb101,8,none⟩=some (.int .i64 0):=(blk_cell BK101.out 8).trans rfl;have hcz6_9:w5.cell? ⟨gb101,9,none⟩=some (.int .i64 0):=(blk_cell BK101.out 9).trans rfl;have hfz6_0:=blk_frozen BK101.out 0;have hfz6_1:=blk_frozen BK101.out 1;have hfz6_2:=blk_frozen BK101.out 2;have hfz6_3:=blk_frozen BK101.out 3;have hfz6_4:=blk_frozen BK101.out 4;have hfz6_5:=blk_frozen BK101.out 5;have hfz6_6:=blk_frozen BK101.out 6;have hfz6_7:=blk_frozen BK101.out 7;have hfz6_8:=blk_frozen BK101.out 8;have hfz6_9:=blk_frozen BK101.out 9))
 refine bodyPost_ret (results_cell_row rfl _ _ gb101 32 #[.int .i64 t102,.string t103,.string t104,.string t105,.string t106,.int .i64 t107,.int .i64 t108,.int .i64 t109,.int .i64 t110,.int .i64 t111] (0,0) _ rfl (by (with_reducible repeat (first|refine blk_drewN ?_ _|refine blk_drew ?_|refine blk_alloc ?_ _));refine blk_put (cs:= #[.int .i64 t102,.string t103,.string t104,.string t105,.string t106,.int .i64 t107,.int .i64 t108,.int .i64 t109,.int .i64 t110,.int .i64 0]) ?_ 9 _ rfl;(with_reducible repeat (first|refine blk_drewN ?_ _|refine blk_drew ?_|refine blk_alloc ?_ _));refine blk_put (cs:= #[.int .i64 t102,.string t103,.string t104,.string t105,.string t106,.int .i64 t107,.int .i64 t108,.int .i64 t109,.int .i64 0,.int .i64 0]) ?_ 8 _ rfl;(with_reducible repeat (first|refine blk_drewN ?_ _|refine blk_drew ?_|refine blk_alloc ?_ _));refine blk_put (cs:= #[.int .i64 t102,.string t103,.string t104,.string t105,.string t106,.int .i64 t107,.int .i64 t108,.int .i64 0,.int .i64 0,.int .i64 0]) ?_ 7 _ rfl;(with_reducible repeat (first|refine blk_drewN ?_ _|refine blk_drew ?_|refine blk_alloc ?_ _));refine blk_put (cs:= #[.int .i64 t102,.string t103,.string t104,.string t105,.string t106,.int .i64 t107,.int .i64 0,.int .i64 0,.int .i64 0,.int .i64 0]) ?_ 6 _ rfl;(with_reducible repeat (first|refine blk_drewN ?_ _|refine blk_drew ?_|refine blk_alloc ?_ _));refine blk_put (cs:= #[.int .i64 t102,.string t103,.string t104,.string t105,.string t106,.int .i64 0,.int .i64 0,.int .i64 0,.int .i64 0,.int .i64 0]) ?_ 5 _ rfl;(with_reducible repeat (first|refine blk_drewN ?_ _|refine blk_drew ?_|refine blk_alloc ?_ _));refine blk_put (cs:= #[.int .i64 t102,.string t103,.string t104,.string t105,.string (⟨#[]⟩:ByteArray),.int .i64 0,.int .i64 0,.int .i64 0,.int .i64 0,.int .i64 0]) ?_ 4 _ rfl;(with_reducible repeat (first|refine blk_drewN ?_ _|refine blk_drew ?_|refine blk_alloc ?_ _));refine blk_put (cs:= #[.int .i64 t102,.string t103,.string t104,.string (⟨#[]⟩:ByteArray),.string (⟨#[]⟩:ByteArray),.int .i64 0,.int .i64 0,.int .i64 0,.int .i64 0,.int .i64 0]) ?_ 3 _ rfl;(with_reducible repeat (first|refine blk_drewN ?_ _|refine blk_drew ?_|refine blk_alloc ?_ _));refine blk_put (cs:= #[.int .i64 t102,.string t103,.string (⟨#[]⟩:ByteArray),.string (⟨#[]⟩:ByteArray),.string (⟨#[]⟩:ByteArray),.int .i64 0,.int .i64 0,.int .i64 0,.int .i64 0,.int .i64 0]) ?_ 2 _ rfl;(with_reducible repeat (first|refine blk_drewN ?_ _|refine blk_drew ?_|refine blk_alloc ?_ _));refine blk_put (cs:= #[.int .i64 t102,.string (⟨#[]⟩:ByteArray),.string (⟨#[]⟩:ByteArray),.string (⟨#[]⟩:ByteArray),.string (⟨#[]⟩:ByteArray),.int .i64 0,.int .i64 0,.int .i64 0,.int .i64 0,.int .i64 0]) ?_ 1 _ rfl;(with_reducible repeat (first|refine blk_drewN ?_ _|refine blk_drew ?_|refine blk_alloc ?_ _));refine blk_put (cs:= #[.int .i64 0,.string (⟨#[]⟩:ByteArray),.string (⟨#[]⟩:ByteArray),.string (⟨#[]⟩:ByteArray),.string (⟨#[]⟩:ByteArray),.int .i64 0,.int .i64 0,.int .i64 0,.int .i64 0,.int .i64 0]) ?_ 0 _ rfl;(with_reducible repeat (first|refine blk_drewN ?_ _|refine blk_drew ?_|refine blk_alloc ?_ _));exact BK101.out) Tryz.underlying32 rfl (by kernel_rfl)) rfl ?_
 exact ⟨by first|rfl|(simp [errW_none,errW_some]<;>rfl)|(simp [*,errW_none,errW_some]<;>rfl),by repeat (first|(with_reducible first|exact HB.out|apply below_alloc|apply pw_below_drewN|apply below_drew1|refine below_set ?_ GE101.out)|exact HB.out)⟩
def sallyportref06_digit.f (a0:Int):Option (Bool):=if a0≥48 then (some (decide (a0≤57))) else (some false)
set_option maxHeartbeats 8000000 in
set_option maxRecDepth 100000 in
theorem sallyportref06_digit.calls (a0:Int) (r:Bool) (w:World) (h:sallyportref06_digit.f a0=some r):
  Calls Tryz.prog 151 #[.int .u8 a0] w fun e w'=>e= .returned (.bool r)∧Drawn0 w w':=by
 have H:(if a0≥48 then (some (decide (a0≤57))) else (some false))=some r:=h
 clear h
 by_cases c2:a0≥48
 ·rw [if_pos c2] at H
  have c2b0:decide (48≤a0)=true:=decide_eq_true c2
  clear c2
  obtain rfl:=Option.some.inj H
  go_enter Tryz.func151,Tryz.ntmps151
  go_wp2
  go_ret
  exact ⟨by first|rfl|(simp;done)|(simp [*];done),by repeat (first|exact Drawn0.refl _|apply Drawn0.step)⟩
 ·rw [if_neg c2] at H
  have c2b0:decide (48≤a0)=false:=decide_eq_false c2
  clear c2
  obtain rfl:=Option.some.inj H
  go_enter Tryz.func151,Tryz.ntmps151
  go_wp2
  go_ret
  exact ⟨by first|rfl|(simp;done)|(simp [*];done),by repeat (first|exact Drawn0.refl _|apply Drawn0.step)⟩
def sallyportref06_parts.l0:Nat→ByteArray→List ByteArray→List Int→Int→Option (List ByteArray×List Int)
 |0,_,_,_,_=>none
 |k+1,x0,x4,x5,x6=>if x6<(x0.size:Int) then (if 0≤x6 then (if (bt x0 x6)=46 then (if x4.length<8796093022208 then (if x5.length<17592186044416 then (sallyportref06_parts.l0 k x0 (x4++[(⟨#[]⟩:ByteArray)]) (x5++[wrap64 (x6+1)]) (wrap64 (x6+1))) else (none)) else (none)) else (if 0≤(wrap64 ((x4.length:Int) - 1)) then (if (wrap64 ((x4.length:Int) - 1))<(x4.length:Int) then (if x6≤(wrap64 (x6+1)) then (if (wrap64 (x6+1))≤(x0.size:Int) then (if (rdOf ByteArray.empty x4 (wrap64 ((x4.length:Int) - 1))).size+(x0.extract (x6:Int).toNat ((wrap64 (x6+1)):Int).toNat).size≤9223372036854775807 then (sallyportref06_parts.l0 k x0 (x4.set ((wrap64 ((x4.length:Int) - 1)):Int).toNat ((rdOf ByteArray.empty x4 (wrap64 ((x4.length:Int) - 1)))++(x0.extract (x6:Int).toNat ((wrap64 (x6+1)):Int).toNat))) x5 (wrap64 (x6+1))) else (none)) else (none)) else (none)) else (none)) else (none))) else (none)) else (some (x4,x5))
def sallyportref06_parts.f (k:Nat) (a0:ByteArray):Option (List ByteArray×List Int):=sallyportref06_parts.l0 k a0 (([(⟨#[]⟩:ByteArray)]:List ByteArray)) (([0]:List Int)) 0
def sallyportref06_parts.T8:Bool×List (List Nat×List Nat):=(true,[([],[]),([],[]),([1],[1]),([2],[2]),([0,3],[0,3]),([4],[4]),([],[]),([],[]),([],[]),([8],[8]),([6,7,9],[6,7,9]),([5,10],[5,10]),([0,3,0,1,2,3,4,5,6,7,8,9,10,11],[0,3]),([12,11,0,1,2,3,4,5,6,7,8,9,10,11],[11,12])])
def sallyportref06_parts.B8:List Nat:=[0,0,2,6,15,31,0,0,0,256,960,2047,4095,8191]
theorem sallyportref06_parts.tab8:rtab .any (opsOf Tryz.f190 8)=sallyportref06_parts.T8:=by kernel_rfl
theorem sallyportref06_parts.bits8:waitsOk sallyportref06_parts.T8.2 sallyportref06_parts.B8=true:=by kernel_rfl
set_option maxHeartbeats 8000000 in
set_option maxRecDepth 100000 in
theorem sallyportref06_parts.calls (k:Nat) (a0:ByteArray) (r1:List ByteArray) (r2:List Int) (w:World) (h:sallyportref06_parts.f k a0=some (r1,r2)):
  Calls Tryz.prog 190 #[.string a0] w fun e w'=> ∃ v0_ v1_:Value,e= .returned (.tuple #[v0_,v1_])∧Kd.R Kd.string 9 w' w.heap.size (fun _=>True) v0_ r1∧Kd.R (Kd.int .i64) 3 w' w.heap.size (fun _=>True) v1_ r2∧Below w.heap.size w w':=by
 have HB:=Aside0.mk (Below.refl w.heap.size w)
 have H:(sallyportref06_parts.l0 k a0 (([(⟨#[]⟩:ByteArray)]:List ByteArray)) (([0]:List Int)) 0)=some (r1,r2):=h
 clear h
 obtain ⟨y112,hy112⟩: ∃ y_:List ByteArray,y_=(([(⟨#[]⟩:ByteArray)]:List ByteArray)):=⟨_,rfl⟩
 replace H:(sallyportref06_parts.l0 k a0 y112 (([0]:List Int)) 0)=some (r1,r2):=by first|(rw [hy112];with_reducible exact H)|(have H2_:=(Option.bind_some _ _).symm.trans H;rw [hy112];with_reducible exact H2_)|(have H2_:=(Option.bind_some _ _).symm.trans H;with_reducible exact H2_)|with_reducible exact H|(rw [hy112];exact H)|exact H
 have Ny112:=Aside0.mk hy112
 clear hy112
 obtain ⟨y115,hy115⟩: ∃ y_:List Int,y_=(([0]:List Int)):=⟨_,rfl⟩
 replace H:(sallyportref06_parts.l0 k a0 y112 y115 0)=some (r1,r2):=by first|(rw [hy115];with_reducible exact H)|(have H2_:=(Option.bind_some _ _).symm.trans H;rw [hy115];with_reducible exact H2_)|(have H2_:=(Option.bind_some _ _).symm.trans H;with_reducible exact H2_)|with_reducible exact H|(rw [hy115];exact H)|exact H
 have Ny115:=Aside0.mk hy115
 clear hy115
 have H':=Aside0.mk H
 clear H
 go_enter Tryz.func190,Tryz.ntmps190
 go_wp2_with (first|((with_reducible refine gate_dst (N:=7) rfl ?_);refine Kd.R_lit Kd.string _ 9 ?hg (N:=7) ?hd (xs:=([(⟨#[]⟩:ByteArray)]:List ByteArray)) (inner:=[.string (⟨#[]⟩:ByteArray)]) (ok:=fun _=>True) (okp:=fun _=>True) ?hr ?hp (fun _ hk=>hk) trivial (Below.refl _ _) (Nat.le_refl _) (by simp) ?_;(case hd=>rfl);(case hg=>rfl);(case hr=>first|(go_simp;done)|(go_simp;rfl));(case hp=>exact (Reps.one (show Kd.M Kd.string _ _ _ (⟨#[]⟩:ByteArray) [.string (⟨#[]⟩:ByteArray)] from rfl) (Reps.none _ _)));intro v113 w2 ho3 hb hg_ hnew_;clear hg_ hnew_;(first|rw [← Ny112.out] at ho3|(simp only [Int.reduceToNat] at ho3;rw [← Ny112.out] at ho3));have n0_:=Aside0.mk (Kd.R_lower ho3 (below_size (by repeat (first|(with_reducible first|exact HB.out|apply below_alloc|apply pw_below_drewN|apply below_drew1)|exact HB.out))));have n1_:=Aside0.mk (below_step (by repeat (first|(with_reducible first|exact HB.out|apply below_alloc|apply pw_below_drewN|apply below_drew1)|exact HB.out)) hb);clear HB;have HO114:=n0_;have HB:=n1_;clear n0_ n1_;clear hb ho3)|((with_reducible refine gate_dst (N:=8) rfl ?_);refine Kd.R_lit (Kd.int .i64) _ 3 ?hg (N:=8) ?hd (xs:=([0]:List Int)) (inner:=[.int .i64 0]) (ok:=fun _=>True) (okp:=fun _=>True) ?hr ?hp (fun _ hk=>hk) trivial (Below.refl _ _) (Nat.le_refl _) (by simp) ?_;(case hd=>rfl);(case hg=>rfl);(case hr=>first|(go_simp;done)|(go_simp;rfl));(case hp=>exact (Reps.one (show Kd.M (Kd.int .i64) _ _ _ 0 [.int .i64 0] from rfl) (Reps.none _ _)));intro v116 w4 ho5 hb hg_ hnew_;clear hg_ hnew_;(first|rw [← Ny115.out] at ho5|(simp only [Int.reduceToNat] at ho5;rw [← Ny115.out] at ho5));have n0_:=Aside0.mk (Kd.R_below (by (with_reducible repeat (first|apply Kd.R_alloc|apply Kd.R_drewN|apply Kd.R_drew));exact HO114.out) hb);have n1_:=Aside0.mk (Kd.R_lower ho5 (below_size (by repeat (first|(with_reducible first|exact HB.out|apply below_alloc|apply pw_below_drewN|apply below_drew1)|exact HB.out))));have n2_:=Aside0.mk (below_step (by repeat (first|(with_reducible first|exact HB.out|apply below_alloc|apply pw_below_drewN|apply below_drew1)|exact HB.out)) hb);clear HO114;clear HB;have HO114:=n0_;have HO117:=n1_;have HB:=n2_;clear n0_ n1_ n2_;clear hb ho5))
 go_loopg [4,5,6] k (fun kq v4 v5 v6 w'=> ∃ (x4_1:List ByteArray) (x5_1:List Int) (x6_1:Int),v6= .int .i64 x6_1∧Aside0 (sallyportref06_parts.l0 kq a0 x4_1 x5_1 x6_1=some (r1,r2))∧Aside0 (kq≤k)∧Aside0 (Kd.R Kd.string 9 w' w.heap.size (fun _=>True) v4 x4_1)∧Aside0 (Kd.R (Kd.int .i64) 3 w' w.heap.size (fun _=>True) v5 x5_1)∧Aside0 (Below w.heap.size w w'))
 case atStart=>exact ⟨(y112),(y115),(0),(by first|rfl|(simp;done)|(simp [*];done)),H',⟨Nat.le_refl _⟩,⟨by (with_reducible repeat (first|apply Kd.R_alloc|apply Kd.R_drewN|apply Kd.R_drew));exact HO114.out⟩,⟨by (with_reducible repeat (first|apply Kd.R_alloc|apply Kd.R_drewN|apply Kd.R_drew));exact HO117.out⟩,⟨by repeat (first|(with_reducible first|exact HB.out|apply below_alloc|apply pw_below_drewN|apply below_drew1)|exact HB.out)⟩⟩
 case round=>
  clear H'
  try clear c1
  try clear p2
  obtain ⟨x4_1,x5_1,x6_1,rfl,HA,HK1,HO_4,HO_5,HB⟩:=hrel
  cases gk with
  |zero=>exact absurd HA.out (by simp [sallyportref06_parts.l0])
  |succ k1=>
   have H:=HA.out
   clear HA
   simp only [sallyportref06_parts.l0] at H
   by_cases c6:x6_1<(a0.size:Int)
   ·rw [if_pos c6] at H
    have c6b0:decide (x6_1<(a0.size:Int))=true:=decide_eq_true c6
    clear c6
    by_cases c7:0≤x6_1
    ·rw [if_pos c7] at H
     have c7b0:decide (0≤x6_1)=true:=decide_eq_true c7
     clear c7
     by_cases c9:(bt a0 x6_1)=46
     ·rw [if_pos c9] at H
      have c9b0:((bt a0 x6_1)==46)=true:=beq_iff_eq.mpr c9
      have c9b1:((bt a0 x6_1) !=46)=false:=bne_eq_false_iff_eq.mpr c9
      clear c9
      by_cases c10:x4_1.length<8796093022208
      ·rw [if_pos c10] at H
       have LMc10:=Aside0.mk c10
       clear c10
       obtain ⟨y118,hy118⟩: ∃ y_:List ByteArray,y_=(x4_1++[(⟨#[]⟩:ByteArray)]):=⟨_,rfl⟩
       replace H:(if x5_1.length<17592186044416 then (sallyportref06_parts.l0 k1 a0 y118 (x5_1++[wrap64 (x6_1+1)]) (wrap64 (x6_1+1))) else (none))=some (r1,r2):=by first|(rw [hy118];with_reducible exact H)|(have H2_:=(Option.bind_some _ _).symm.trans H;rw [hy118];with_reducible exact H2_)|(have H2_:=(Option.bind_some _ _).symm.trans H;with_reducible exact H2_)|with_reducible exact H|(rw [hy118];exact H)|exact H
       have Ny118:=Aside0.mk hy118
       clear hy118
       by_cases c11:x5_1.length<17592186044416
       ·rw [if_pos c11] at H
        have LMc11:=Aside0.mk c11
        clear c11
        obtain ⟨y121,hy121⟩: ∃ y_:List Int,y_=(x5_1++[wrap64 (x6_1+1)]):=⟨_,rfl⟩
        replace H:(sallyportref06_parts.l0 k1 a0 y118 y121 (wrap64 (x6_1+1)))=some (r1,r2):=by first|(rw [hy121];with_reducible exact H)|(have H2_:=(Option.bind_some _ _).symm.trans H;rw [hy121];with_reducible exact H2_)|(have H2_:=(Option.bind_some _ _).symm.trans H;with_reducible exact H2_)|with_reducible exact H|(rw [hy121];exact H)|exact H
        have Ny121:=Aside0.mk hy121
        clear hy121
        have H':=Aside0.mk H
        clear H
        have p8:0≤(x6_1:Int):=of_decide_eq_true (by first|(with_reducible assumption)|assumption)
        have q8:x6_1<(a0.size:Int):=of_decide_eq_true (by first|(with_reducible assumption)|assumption)
        have hx8:=bt_at a0 x6_1
        replace p8:=eq_true p8
        replace q8:=eq_true q8
        go_wp2_with (first|((with_reducible refine gate_builtin (b:= .append) (xs:= #[.tmp 19,.tmp 20]) rfl ?_);at_builtin;refine Kd.R_append Kd.string (w0:=w) w.heap.size rfl (.tmp 19) (.tmp 20) 104 9 (.string ⟨#[]⟩) 16 rfl Tryz.underlying104 info9 rfl (by decide) (by omega) u4 x4_1 (⟨#[]⟩:ByteArray) [.string (⟨#[]⟩:ByteArray)] (fun _=>True) (fun _=>False) rfl rfl ?aP (fun _ hk=>hk.elim) ?aF ?aO ?aB ?aS ?aL ?_;(case aP=>exact rfl);(case aB=>exact (by repeat (first|(with_reducible first|exact HB.out|apply below_alloc|apply pw_below_drewN|apply below_drew1)|exact HB.out)));(case aF=>exact (fun _ _=>trivial));(case aO=>exact (by (with_reducible repeat (first|apply Kd.R_alloc|apply Kd.R_drewN|apply Kd.R_drew));exact HO_4.out));(case aS=>exact (below_size (by repeat (first|(with_reducible first|exact HB.out|apply below_alloc|apply pw_below_drewN|apply below_drew1)|exact HB.out))));(case aL=>have:=LMc10.out;omega);intro v119 w12 ho hb hg hat;rw [← Ny118.out] at ho;have n0_:=Aside0.mk (Kd.R_over' (by (with_reducible repeat (first|apply Kd.R_alloc|apply Kd.R_drewN|apply Kd.R_drew));exact HO_5.out) (Kd.R_typed (by (with_reducible repeat (first|apply Kd.R_alloc|apply Kd.R_drewN|apply Kd.R_drew));exact HO_4.out)) (by decide) hg);have n1_:=Aside0.mk (hb);have n2_:=Aside0.mk (ho);clear HO_5;clear HB;clear HO_4;have HO_5:=n0_;have HB:=n1_;have HO120:=n2_;clear n0_ n1_ n2_;clear ho hb hg hat)|((with_reducible refine gate_builtin (b:= .append) (xs:= #[.tmp 22,.tmp 25]) rfl ?_);at_builtin;refine Kd.R_append (Kd.int .i64) (w0:=w) w.heap.size rfl (.tmp 22) (.tmp 25) 74 3 (.int .i64 0) 8 rfl Tryz.underlying74 info3 rfl (by decide) (by omega) u5 x5_1 (wrap64 (x6_1+1)) [.int .i64 (wrap64 (x6_1+1))] (fun _=>True) (fun _=>False) rfl rfl ?aP (fun _ hk=>hk.elim) ?aF ?aO ?aB ?aS ?aL ?_;(case aP=>exact rfl);(case aB=>exact (by repeat (first|(with_reducible first|exact HB.out|apply below_alloc|apply pw_below_drewN|apply below_drew1)|exact HB.out)));(case aF=>exact (fun _ _=>trivial));(case aO=>exact (by (with_reducible repeat (first|apply Kd.R_alloc|apply Kd.R_drewN|apply Kd.R_drew));exact HO_5.out));(case aS=>exact (below_size (by repeat (first|(with_reducible first|exact HB.out|apply below_alloc|apply pw_below_drewN|apply below_drew1)|exact HB.out))));(case aL=>have:=LMc11.out;omega);intro v122 w13 ho hb hg hat;rw [← Ny121.out] at ho;have n0_:=Aside0.mk (Kd.R_over' (by (with_reducible repeat (first|apply Kd.R_alloc|apply Kd.R_drewN|apply Kd.R_drew));exact HO120.out) (Kd.R_typed (by (with_reducible repeat (first|apply Kd.R_alloc|apply Kd.R_drewN|apply Kd.R_drew));exact HO_5.out)) (by decide) hg);have n1_:=Aside0.mk (hb);have n2_:=Aside0.mk (ho);clear HO120;clear HB;clear HO_5;have HO120:=n0_;have HB:=n1_;have HO123:=n2_;clear n0_ n1_ n2_;clear ho hb hg hat))
        go_roundg k1
        case measure=>have:=HK1.out;omega
        case rel=>exact ⟨(y118),(y121),(wrap64 (x6_1+1)),(by first|rfl|(simp;done)|(simp [*];done)),H',⟨by have:=HK1.out;omega⟩,⟨by (with_reducible repeat (first|apply Kd.R_alloc|apply Kd.R_drewN|apply Kd.R_drew));exact HO120.out⟩,⟨by (with_reducible repeat (first|apply Kd.R_alloc|apply Kd.R_drewN|apply Kd.R_drew));exact HO123.out⟩,⟨by repeat (first|(with_reducible first|exact HB.out|apply below_alloc|apply pw_below_drewN|apply below_drew1)|exact HB.out)⟩⟩
       ·rw [if_neg c11] at H
        exact absurd H (by simp)
      ·rw [if_neg c10] at H
       exact absurd H (by simp)
     ·rw [if_neg c9] at H
      have c9b0:((bt a0 x6_1)==46)=false:=beq_eq_false_iff_ne.mpr c9
      have c9b1:((bt a0 x6_1) !=46)=true:=bne_iff_ne.mpr c9
      obtain ⟨ji14,hji14⟩: ∃ j_:Int,(wrap64 ((x4_1.length:Int) - 1))=j_:=⟨_,rfl⟩
      replace H:(if 0≤(ji14) then (if (ji14)<(x4_1.length:Int) then (if x6_1≤(wrap64 (x6_1+1)) then (if (wrap64 (x6_1+1))≤(a0.size:Int) then (if (rdOf ByteArray.empty x4_1 (ji14)).size+(a0.extract (x6_1:Int).toNat ((wrap64 (x6_1+1)):Int).toNat).size≤9223372036854775807 then (sallyportref06_parts.l0 k1 a0 (x4_1.set ((ji14):Int).toNat ((rdOf ByteArray.empty x4_1 (ji14))++(a0.extract (x6_1:Int).toNat ((wrap64 (x6_1+1)):Int).toNat))) x5_1 (wrap64 (x6_1+1))) else (none)) else (none)) else (none)) else (none)) else (none))=some (r1,r2):=by first|(rw [hji14] at H;exact H)|(simp only [hji14] at H ⊢;exact H)
      have hji14w:(IntKind.i64.wrap ((x4_1.length:Int) - 1))=ji14:=(i64_w _).trans hji14
      by_cases c15:0≤(ji14)
      ·rw [if_pos c15] at H
       have c15b0:decide (0≤(ji14))=true:=decide_eq_true c15
       clear c15
       by_cases c16:(ji14)<(x4_1.length:Int)
       ·rw [if_pos c16] at H
        have c16b0:decide ((ji14)<(x4_1.length:Int))=true:=decide_eq_true c16
        clear c16
        have c17b0:=eq_true (of_decide_eq_true (by first|(with_reducible assumption)|assumption):0≤x6_1)
        by_cases c18:x6_1≤(wrap64 (x6_1+1))
        ·rw [if_pos c18] at H
         have c18b0:=eq_true c18
         have c18b1:decide (x6_1≤(wrap64 (x6_1+1)))=true:=decide_eq_true c18
         by_cases c19:(wrap64 (x6_1+1))≤(a0.size:Int)
         ·rw [if_pos c19] at H
          have c19b0:=eq_true c19
          have c19b1:decide ((wrap64 (x6_1+1))≤(a0.size:Int))=true:=decide_eq_true c19
          by_cases c20:(rdOf ByteArray.empty x4_1 (ji14)).size+(a0.extract (x6_1:Int).toNat ((wrap64 (x6_1+1)):Int).toNat).size≤9223372036854775807
          ·rw [if_pos c20] at H
           have c20b0:=eq_true c20
           have c20b1:decide ((rdOf ByteArray.empty x4_1 (ji14)).size+(a0.extract (x6_1:Int).toNat ((wrap64 (x6_1+1)):Int).toNat).size≤9223372036854775807)=true:=decide_eq_true c20
           try have c20b2:(9223372036854775807<(rdOf ByteArray.empty x4_1 (ji14)).size+(a0.extract (x6_1:Int).toNat ((wrap64 (x6_1+1)):Int).toNat).size)=False:=eq_false (Nat.not_lt.2 c20)
           try have c20b3:(9223372036854775807<(rdOf ByteArray.empty x4_1 (ji14)).size+(((wrap64 (x6_1+1)):Int).toNat - (x6_1:Int).toNat))=False:=eq_false (Nat.not_lt.2 (Nat.le_trans (Nat.add_le_add_left (by have h_:=of_decide_eq_true (p:=(wrap64 (x6_1+1))≤(a0.size:Int)) (by assumption);rw [ByteArray.size_extract];omega) _) c20))
           obtain ⟨y125,hy125⟩: ∃ y_:List ByteArray,y_=(x4_1.set ((ji14):Int).toNat ((rdOf ByteArray.empty x4_1 (ji14))++(a0.extract (x6_1:Int).toNat ((wrap64 (x6_1+1)):Int).toNat))):=⟨_,rfl⟩
           replace H:(sallyportref06_parts.l0 k1 a0 y125 x5_1 (wrap64 (x6_1+1)))=some (r1,r2):=by first|(rw [hy125];with_reducible exact H)|(have H2_:=(Option.bind_some _ _).symm.trans H;rw [hy125];with_reducible exact H2_)|(have H2_:=(Option.bind_some _ _).symm.trans H;with_reducible exact H2_)|with_reducible exact H|(rw [hy125];exact H)|exact H
           have Ny125:=Aside0.mk hy125
           clear hy125
           have H':=Aside0.mk H
           clear H
           have p8:0≤(x6_1:Int):=of_decide_eq_true (by first|(with_reducible assumption)|assumption)
           have q8:x6_1<(a0.size:Int):=of_decide_eq_true (by first|(with_reducible assumption)|assumption)
           have hx8:=bt_at a0 x6_1
           replace p8:=eq_true p8
           replace q8:=eq_true q8
           try go_wp2
           have n0_:=Aside0.mk (Kd.R_drew HO_4.out)
           have n1_:=Aside0.mk (Kd.R_drew HO_5.out)
           have n2_:=Aside0.mk (below_drew1 HB.out)
           clear HO_4
           clear HO_5
           clear HB
           have HO_4:=n0_
           have HO_5:=n1_
           have HB:=n2_
           clear n0_ n1_ n2_
           obtain ⟨Ao23,co23,eo23⟩:=Kd.R_slice HO_4.out
           (first|subst eo23|(injection eo23 with f1_ f2_ f3_;have f4_:=f1_.symm;have f5_:=f3_.symm;clear f1_ f2_ f3_;subst f4_;subst f5_))
           have p124:0≤((ji14):Int):=of_decide_eq_true (by first|(with_reducible assumption)|assumption)
           have q124:(ji14)<(x4_1.length:Int):=of_decide_eq_true (by first|(with_reducible assumption)|assumption)
           obtain ⟨ad124,e124,hx124_0⟩:=Kd.at_string (Kd.R_reads' HO_4.out).2.2 (ji14) p124 q124
           cases e124
           replace p124:=eq_true p124
           replace q124:=eq_true q124
           have p21:0≤((ji14):Int):=of_decide_eq_true (by first|(with_reducible assumption)|assumption)
           have q21:((ji14):Int)<((x4_1.length:Int):Int):=of_decide_eq_true (by first|(with_reducible assumption)|assumption)
           obtain ⟨go21,co21,eo21,gb21,gl21,cl21,HG21⟩:=Kd.R_form HO_4.out (by omega)
           (first|cases eo21|(injection eo21 with ea_ en_ ec_;(first|subst ea_|(injection ea_ with ea_;subst ea_));subst ec_;clear en_))
           have GB21:=Aside0.mk gb21
           have GG21:=Aside0.mk HG21
           clear gb21 gl21 HG21
           (first|simp only [add_plain] at hx124_0|skip)
           obtain ⟨hx21_0,hf21_0⟩:=Kd.R_celln (⟨#[]⟩:ByteArray) HO_4.out ((ji14):Int) p21 q21
           replace p21:=eq_true p21
           replace q21:=eq_true q21
           have HP24:=Kd.R_putn HO_4.out ((ji14):Int) ((rdOf ByteArray.empty x4_1 (ji14))++(a0.extract (x6_1:Int).toNat ((wrap64 (x6_1+1)):Int).toNat))
           rw [← Ny125.out] at HP24
           have HQ24:=Aside0.mk HP24
           clear HP24
           refine start_ (n:=14) (S:=fun w'=>w'.cell? ⟨go21,((ji14)).toNat,none⟩=some (.string (rdOf ByteArray.empty x4_1 (ji14)))) (ds:=[13]) #[false,false,false,false,false,false,false,false,false,false,false,false,false,false] (by kernel_rfl) rfl rfl (hx124_0) (fun hHeld=>?_);refine with_tabW sallyportref06_parts.tab8 sallyportref06_parts.bits8 (fun HT_ HW_=>?_)
           generalize wr.drew=w22 at HO_4 HO_5 HB GG21 HQ24 hf21_0 hx124_0 hx21_0 hHeld ⊢
           refine pure_ (i:=0) (N:=some 27) (v:=?_) (a':=?_) #[true,false,false,false,false,false,false,false,false,false,false,false,false,false] rfl rfl (any_of HT_.out (by kernel_rfl)) (fun _ _ _ h=>h) (Or.inl ⟨by rfl,?_⟩) ?_ ?_
           rotate_left
           ·intro w'
            go_simp
            with_reducible rfl
           rotate_left
           ·simp only [Act.put,List.setIfInBounds_toArray,List.set_cons_zero,List.set_cons_succ,i64_w,i32_w]
            rfl
           refine pure_ (i:=1) (N:=some 28) (v:=?_) (a':=?_) #[true,true,false,false,false,false,false,false,false,false,false,false,false,false] rfl rfl (any_of HT_.out (by kernel_rfl)) (fun _ _ _ h=>h) (Or.inl ⟨by rfl,?_⟩) ?_ ?_
           rotate_left
           ·intro w'
            go_simp
            with_reducible rfl
           rotate_left
           ·simp only [Act.put,List.setIfInBounds_toArray,List.set_cons_zero,List.set_cons_succ,i64_w,i32_w]
            rfl
           refine pure_ (i:=2) (N:=some 29) (v:=?_) (a':=?_) #[true,true,true,false,false,false,false,false,false,false,false,false,false,false] rfl rfl (any_of HT_.out (by kernel_rfl)) (fun _ _ _ h=>h) (Or.inl ⟨by rfl,?_⟩) ?_ ?_
           rotate_left
           ·intro w'
            go_simp
            with_reducible rfl
           rotate_left
           ·simp only [Act.put,List.setIfInBounds_toArray,List.set_cons_zero,List.set_cons_succ,i64_w,i32_w]
            rfl
           refine pure_ (i:=3) (N:=some 30) (v:=?_) (a':=?_) #[true,true,true,true,false,false,false,false,false,false,false,false,false,false] rfl rfl (any_of HT_.out (by kernel_rfl)) (fun _ _ _ h=>h) (Or.inl ⟨by rfl,?_⟩) ?_ ?_
           rotate_left
           ·intro w'
            go_simp
            with_reducible rfl
           rotate_left
           ·simp only [Act.put,List.setIfInBounds_toArray,List.set_cons_zero,List.set_cons_succ,i64_w,i32_w]
            rfl
           refine pure_ (i:=4) (N:=some 31) (v:=?_) (a':=?_) #[true,true,true,true,true,false,false,false,false,false,false,false,false,false] rfl rfl (any_of HT_.out (by kernel_rfl)) (fun _ _ _ h=>h) (Or.inl ⟨by rfl,?_⟩) ?_ ?_
           rotate_left
           ·intro w'
            go_simp
            with_reducible rfl
           rotate_left
           ·simp only [Act.put,List.setIfInBounds_toArray,List.set_cons_zero,List.set_cons_succ,i64_w,i32_w]
            rfl
           refine pure_ (i:=6) (N:=some 33) (v:=?_) (a':=?_) #[true,true,true,true,true,false,true,false,false,false,false,false,false,false] rfl rfl (any_of HT_.out (by kernel_rfl)) (fun _ _ _ h=>h) (Or.inl ⟨by rfl,?_⟩) ?_ ?_
           rotate_left
           ·intro w'
            go_simp
            with_reducible rfl
           rotate_left
           ·simp only [Act.put,List.setIfInBounds_toArray,List.set_cons_zero,List.set_cons_succ,i64_w,i32_w]
            rfl
           refine pure_ (i:=7) (N:=some 34) (v:=?_) (a':=?_) #[true,true,true,true,true,false,true,true,false,false,false,false,false,false] rfl rfl (any_of HT_.out (by kernel_rfl)) (fun _ _ _ h=>h) (Or.inl ⟨by rfl,?_⟩) ?_ ?_
           rotate_left
           ·intro w'
            go_simp
            with_reducible rfl
           rotate_left
           ·simp only [Act.put,List.setIfInBounds_toArray,List.set_cons_zero,List.set_cons_succ,i64_w,i32_w]
            rfl
           refine pure_ (i:=8) (N:=some 35) (v:=?_) (a':=?_) #[true,true,true,true,true,false,true,true,true,false,false,false,false,false] rfl rfl (any_of HT_.out (by kernel_rfl)) (fun _ _ _ h=>h) (Or.inl ⟨by rfl,?_⟩) ?_ ?_
           rotate_left
           ·intro w'
            go_simp
            with_reducible rfl
           rotate_left
           ·simp only [Act.put,List.setIfInBounds_toArray,List.set_cons_zero,List.set_cons_succ,i64_w,i32_w]
            rfl
           refine pure_ (i:=9) (N:=some 36) (v:=?_) (a':=?_) #[true,true,true,true,true,false,true,true,true,true,false,false,false,false] rfl rfl (any_of HT_.out (by kernel_rfl)) (fun _ _ _ h=>h) (Or.inl ⟨by rfl,?_⟩) ?_ ?_
           rotate_left
           ·intro w'
            go_simp
            with_reducible rfl
           rotate_left
           ·simp only [Act.put,List.setIfInBounds_toArray,List.set_cons_zero,List.set_cons_succ,i64_w,i32_w]
            rfl
           refine pure_ (i:=10) (N:=some 37) (v:=?_) (a':=?_) #[true,true,true,true,true,false,true,true,true,true,true,false,false,false] rfl rfl (any_of HT_.out (by kernel_rfl)) (fun _ _ _ h=>h) (Or.inl ⟨by rfl,?_⟩) ?_ ?_
           rotate_left
           ·intro w'
            go_simp
            with_reducible rfl
           rotate_left
           ·simp only [Act.put,List.setIfInBounds_toArray,List.set_cons_zero,List.set_cons_succ,i64_w,i32_w]
            rfl
           refine take_ (i:=5) (N:=some 32) (v:=?_) (a':=?_) #[true,true,true,true,true,true,true,true,true,true,true,false,false,false] rfl rfl (take_ofW HT_.out HW_.out (by kernel_rfl)) (fun _ _ _ h=>h) (Or.inl ⟨by rfl,?_⟩) hHeld ?_ ?_
           rotate_left
           ·intro w' s0
            go_simp
            with_reducible rfl
           rotate_left
           ·simp only [Act.put,List.setIfInBounds_toArray,List.set_cons_zero,List.set_cons_succ,i64_w,i32_w]
            rfl
           refine pure_ (i:=11) (N:=some 38) (v:=?_) (a':=?_) #[true,true,true,true,true,true,true,true,true,true,true,true,false,false] rfl rfl (any_of HT_.out (by kernel_rfl)) (fun _ _ _ h=>h) (Or.inl ⟨by rfl,?_⟩) ?_ ?_
           rotate_left
           ·intro w'
            go_simp
            with_reducible rfl
           rotate_left
           ·simp only [Act.put,List.setIfInBounds_toArray,List.set_cons_zero,List.set_cons_succ,i64_w,i32_w]
            rfl
           refine pure_ (i:=12) (N:=some 39) (v:=?_) (a':=?_) #[true,true,true,true,true,true,true,true,true,true,true,true,true,false] rfl rfl (any_of HT_.out (by kernel_rfl)) (fun _ _ _ h=>h) (Or.inl ⟨by rfl,?_⟩) ?_ ?_
           rotate_left
           ·intro w'
            go_simp
            with_reducible rfl
           rotate_left
           ·simp only [Act.put,List.setIfInBounds_toArray,List.set_cons_zero,List.set_cons_succ,i64_w,i32_w]
            rfl
           refine last_ (i:=13) (N:=none) #[true,true,true,true,true,true,true,true,true,true,true,true,true,true] rfl rfl (one_of HT_.out (by kernel_rfl)) (by decide) (fun K hK=>?_)
           refine skip_ (w1:=?_) (by rfl) rfl ?_ ?_
           rotate_left
           ·go_simp
            rfl
           refine hK.out _ _ ?_
           clear hK K
           refine done_ (done_of HT_.out (by kernel_rfl)) ?_
           try go_wp2
           go_roundg k1
           case measure=>have:=HK1.out;omega
           case rel=>exact ⟨(y125),(x5_1),(wrap64 (x6_1+1)),(by first|rfl|(simp;done)|(simp [*];done)),H',⟨by have:=HK1.out;omega⟩,⟨by (with_reducible repeat (first|apply Kd.R_alloc|apply Kd.R_drewN|apply Kd.R_drew));exact HQ24.out⟩,⟨by (with_reducible repeat (first|apply Kd.R_alloc|apply Kd.R_drewN|apply Kd.R_drew));exact Kd.R_mono (Kd.R_far (p:=⟨go21,((ji14):Int).toNat,none⟩) (Kd.R_types HO_5.out GG21.out (by decide)) (fun _ hk=>hk.2) (.string ((rdOf ByteArray.empty x4_1 (ji14))++(a0.extract (x6_1:Int).toNat ((wrap64 (x6_1+1)):Int).toNat)))) (fun _ hk=>trivial)⟩,⟨by repeat (first|(with_reducible first|exact HB.out|apply below_alloc|apply pw_below_drewN|apply below_drew1|refine below_set ?_ GB21.out)|exact HB.out)⟩⟩
          ·rw [if_neg c20] at H
           exact absurd H (by simp)
         ·rw [if_neg c19] at H
          exact absurd H (by simp)
        ·rw [if_neg c18] at H
         exact absurd H (by simp)
       ·rw [if_neg c16] at H
        exact absurd H (by simp)
      ·rw [if_neg c15] at H
       exact absurd H (by simp)
    ·rw [if_neg c7] at H
     exact absurd H (by simp)
   ·rw [if_neg c6] at H
    have c6b0:decide (x6_1<(a0.size:Int))=false:=decide_eq_false c6
    clear c6
    simp only [Option.some.injEq,Prod.mk.injEq] at H
    obtain ⟨rfl,rfl⟩:=H
    go_wp2
    go_ret2
    exact ⟨_,_,by first|rfl|(simp [errW_none,errW_some]<;>rfl)|(simp [*,errW_none,errW_some]<;>rfl),by (with_reducible repeat (first|apply Kd.R_alloc|apply Kd.R_drewN|apply Kd.R_drew));exact HO_4.out,by (with_reducible repeat (first|apply Kd.R_alloc|apply Kd.R_drewN|apply Kd.R_drew));exact HO_5.out,by repeat (first|(with_reducible first|exact HB.out|apply below_alloc|apply pw_below_drewN|apply below_drew1)|exact HB.out)⟩
mutual
def sallyportref06_label.j0:Nat→ByteArray→Bool→Option (Bool)
 |0,_,_=>none
 |k+1,x0,x23=>if x23=true then (some false) else (sallyportref06_label.l0 k x0 0)
def sallyportref06_label.l0:Nat→ByteArray→Int→Option (Bool)
 |0,_,_=>none
 |k+1,x0,x3=>if x3<(x0.size:Int) then (if 0≤x3 then (if (bt x0 x3)=45 then (sallyportref06_label.l0 k x0 (wrap64 (x3+1))) else ((sallyportref06_digit.f (bt x0 x3)).bind fun t126=>(if t126=true then (sallyportref06_label.l0 k x0 (wrap64 (x3+1))) else (if (bt x0 x3)<97 then (some false) else (if (bt x0 x3)>122 then (some false) else (sallyportref06_label.l0 k x0 (wrap64 (x3+1)))))))) else (none)) else (some true)
end
def sallyportref06_label.f (k:Nat) (a0:ByteArray):Option (Bool):=if a0.toList=([]:List UInt8) then (sallyportref06_label.j0 k a0 true) else (if (a0.size:Int)>63 then (sallyportref06_label.j0 k a0 true) else (if 0<(a0.size:Int) then (if (bt a0 0)=45 then (sallyportref06_label.j0 k a0 true) else (if 0≤(wrap64 ((a0.size:Int) - 1)) then (if (wrap64 ((a0.size:Int) - 1))<(a0.size:Int) then (sallyportref06_label.j0 k a0 ((bt a0 (wrap64 ((a0.size:Int) - 1)))==45)) else (none)) else (none))) else (none)))
set_option maxHeartbeats 8000000 in
set_option maxRecDepth 100000 in
theorem sallyportref06_label.calls (k:Nat) (a0:ByteArray) (r:Bool) (w:World) (h:sallyportref06_label.f k a0=some r):
  Calls Tryz.prog 191 #[.string a0] w fun e w'=>e= .returned (.bool r)∧Drawn0 w w':=by
 have H:(if a0.toList=([]:List UInt8) then (sallyportref06_label.j0 k a0 true) else (if (a0.size:Int)>63 then (sallyportref06_label.j0 k a0 true) else (if 0<(a0.size:Int) then (if (bt a0 0)=45 then (sallyportref06_label.j0 k a0 true) else (if 0≤(wrap64 ((a0.size:Int) - 1)) then (if (wrap64 ((a0.size:Int) - 1))<(a0.size:Int) then (sallyportref06_label.j0 k a0 ((bt a0 (wrap64 ((a0.size:Int) - 1)))==45)) else (none)) else (none))) else (none))))=some r:=h
 clear h
 have HC2:=Aside0.mk H
 clear H
 go_enter Tryz.func191,Tryz.ntmps191
 go_upto_region 1 with (fail)
 go_cut [23] (fun v23 wc=> ∃ (kq:Nat) (x23_1:Bool),v23= .bool x23_1∧Aside0 (sallyportref06_label.j0 kq a0 x23_1=some r)∧Aside0 (kq≤k)∧Drawn0 w wc)
 case first=>
  have H:=HC2.out
  clear HC2
  by_cases c3:a0.toList=([]:List UInt8)
  ·rw [if_pos c3] at H
   have c3b0:(a0.toList==([]:List UInt8))=true:=beq_iff_eq.mpr c3
   have c3b6:a0.toList.isEmpty=true:=by rw [List.isEmpty_iff];exact c3
   have c3b1:(a0.toList !=([]:List UInt8))=false:=bne_eq_false_iff_eq.mpr c3
   clear c3
   (first|rw [c3b0]|rw [c3b6]|(simp only [i64_w,i32_w];rw [c3b0])|skip)
   have H':=Aside0.mk H
   clear H
   go_wp2
   go_meet
   case rel=>exact ⟨_,(true),(by first|rfl|(simp;done)|(simp [*];done)),H',⟨by first|omega|exact Nat.le_refl _⟩,by repeat (first|exact Drawn0.refl _|apply Drawn0.step)⟩
  ·rw [if_neg c3] at H
   have c3b0:(a0.toList==([]:List UInt8))=false:=beq_eq_false_iff_ne.mpr c3
   have c3b6:a0.toList.isEmpty=false:=by rw [← Bool.not_eq_true,List.isEmpty_iff];exact c3
   have c3b1:(a0.toList !=([]:List UInt8))=true:=bne_iff_ne.mpr c3
   (first|rw [c3b0]|rw [c3b6]|(simp only [i64_w,i32_w];rw [c3b0])|skip)
   by_cases c4:(a0.size:Int)>63
   ·rw [if_pos c4] at H
    have c4b0:decide (63<(a0.size:Int))=true:=decide_eq_true c4
    have c4b1:decide (63<a0.size)=true:=decide_eq_true (by omega)
    clear c4
    have H':=Aside0.mk H
    clear H
    go_wp2
    go_meet
    case rel=>exact ⟨_,(true),(by first|rfl|(simp;done)|(simp [*];done)),H',⟨by first|omega|exact Nat.le_refl _⟩,by repeat (first|exact Drawn0.refl _|apply Drawn0.step)⟩
   ·rw [if_neg c4] at H
    have c4b0:decide (63<(a0.size:Int))=false:=decide_eq_false c4
    have c4b1:decide (63<a0.size)=false:=decide_eq_false (by omega)
    clear c4
    by_cases c5:0<(a0.size:Int)
    ·rw [if_pos c5] at H
     have c5b0:decide (0<(a0.size:Int))=true:=decide_eq_true c5
     have c5b1:decide (0<a0.size)=true:=decide_eq_true (by omega)
     clear c5
     by_cases c7:(bt a0 0)=45
     ·rw [if_pos c7] at H
      have c7b0:((bt a0 0)==45)=true:=beq_iff_eq.mpr c7
      have c7b1:((bt a0 0) !=45)=false:=bne_eq_false_iff_eq.mpr c7
      clear c7
      have H':=Aside0.mk H
      clear H
      have p6:0≤(0:Int):=(by omega)
      have q6:0<a0.size:=(by have:(0:Int)<(a0.size:Int):=of_decide_eq_true (by first|(with_reducible assumption)|assumption);omega)
      have hx6: ∀ h:0<a0.size,((a0[0]'h).toNat:Int)=bt a0 0:=bt_at a0 0
      clear p6
      have qi6:(0<(a0.size:Int))=True:=eq_true (of_decide_eq_true (by first|(with_reducible assumption)|assumption))
      replace q6:=eq_true q6
      go_wp2
      go_meet
      case rel=>exact ⟨_,(true),(by first|rfl|(simp;done)|(simp [*];done)),H',⟨by first|omega|exact Nat.le_refl _⟩,by repeat (first|exact Drawn0.refl _|apply Drawn0.step)⟩
     ·rw [if_neg c7] at H
      have c7b0:((bt a0 0)==45)=false:=beq_eq_false_iff_ne.mpr c7
      have c7b1:((bt a0 0) !=45)=true:=bne_iff_ne.mpr c7
      obtain ⟨ji8,hji8⟩: ∃ j_:Int,(wrap64 ((a0.size:Int) - 1))=j_:=⟨_,rfl⟩
      replace H:(if 0≤(ji8) then (if (ji8)<(a0.size:Int) then (sallyportref06_label.j0 k a0 ((bt a0 (ji8))==45)) else (none)) else (none))=some r:=by first|(rw [hji8] at H;exact H)|(simp only [hji8] at H ⊢;exact H)
      have hji8w:(IntKind.i64.wrap ((a0.size:Int) - 1))=ji8:=(i64_w _).trans hji8
      by_cases c9:0≤(ji8)
      ·rw [if_pos c9] at H
       have c9b0:decide (0≤(ji8))=true:=decide_eq_true c9
       clear c9
       by_cases c10:(ji8)<(a0.size:Int)
       ·rw [if_pos c10] at H
        have c10b0:decide ((ji8)<(a0.size:Int))=true:=decide_eq_true c10
        clear c10
        have H':=Aside0.mk H
        clear H
        have p6:0≤(0:Int):=(by omega)
        have q6:0<a0.size:=(by have:(0:Int)<(a0.size:Int):=of_decide_eq_true (by first|(with_reducible assumption)|assumption);omega)
        have hx6: ∀ h:0<a0.size,((a0[0]'h).toNat:Int)=bt a0 0:=bt_at a0 0
        clear p6
        have qi6:(0<(a0.size:Int))=True:=eq_true (of_decide_eq_true (by first|(with_reducible assumption)|assumption))
        replace q6:=eq_true q6
        have p11:0≤((ji8):Int):=of_decide_eq_true (by first|(with_reducible assumption)|assumption)
        have q11:(ji8)<(a0.size:Int):=of_decide_eq_true (by first|(with_reducible assumption)|assumption)
        have hx11:=bt_at a0 (ji8)
        replace p11:=eq_true p11
        replace q11:=eq_true q11
        go_wp2
        go_meet
        case rel=>exact ⟨_,(((bt a0 (ji8))==45)),(by first|rfl|(simp;done)|(simp only [← hji8]<;>(first|rfl|simp))|(simp [*];done)),H',⟨by first|omega|exact Nat.le_refl _⟩,by repeat (first|exact Drawn0.refl _|apply Drawn0.step)⟩
       ·rw [if_neg c10] at H
        exact absurd H (by simp)
      ·rw [if_neg c9] at H
       exact absurd H (by simp)
    ·rw [if_neg c5] at H
     exact absurd H (by simp)
 case rest=>
  clear HC2
  try clear c1
  try clear p1
  try clear q1
  try clear hx1
  try clear p2
  try clear c3
  try clear c3b0
  try clear c3b1
  try clear c4
  try clear c4b0
  try clear c4b1
  try clear c5
  try clear c5b0
  try clear c5b1
  try clear p6
  try clear q6
  try clear hx6
  try clear qi6
  try clear c7
  try clear c7b0
  try clear c7b1
  try clear c9
  try clear c9b0
  try clear c10
  try clear c10b0
  try clear p11
  try clear q11
  try clear hx11
  try clear p11
  try clear p6
  try clear q11
  try clear q6
  obtain ⟨kq,x23_1,rfl,HA,HJ1,⟨mc1,rfl⟩⟩:=hcut
  cases kq with
  |zero=>exact absurd HA.out (by simp [sallyportref06_label.j0])
  |succ kj1=>
   have H:=HA.out
   clear HA
   simp only [sallyportref06_label.j0] at H
   by_cases c12:x23_1=true
   ·subst c12
    have H1:(some false)=some r:=by rw [if_pos rfl] at H;exact H
    clear H
    have H:=H1
    clear H1
    obtain rfl:=Option.some.inj H
    go_wp2
    go_ret
    exact ⟨by first|rfl|(simp;done)|(simp [*];done),by repeat (first|exact Drawn0.refl _|apply Drawn0.step)⟩
   ·replace c12:=Bool.eq_false_iff.mpr c12
    subst c12
    have H1:(sallyportref06_label.l0 kj1 a0 0)=some r:=by rw [if_neg (show ¬ (false=true) by decide)] at H;exact H
    clear H
    have H:=H1
    clear H1
    have H':=Aside0.mk H
    clear H
    go_wp2
    go_loopg [3] kj1 (fun kq v3 w'=> ∃ (x3_2:Int),v3= .int .i64 x3_2∧Aside0 (sallyportref06_label.l0 kq a0 x3_2=some r)∧Aside0 (kq≤kj1)∧Drawn0 w w')
    case atStart=>exact ⟨(0),(by first|rfl|(simp;done)|(simp [*];done)),H',⟨Nat.le_refl _⟩,by repeat (first|exact Drawn0.refl _|apply Drawn0.step)⟩
    case round=>
     clear H'
     try clear c1
     try clear p1
     try clear q1
     try clear hx1
     try clear p2
     try clear c3
     try clear c3b0
     try clear c3b1
     try clear c4
     try clear c4b0
     try clear c4b1
     try clear c5
     try clear c5b0
     try clear c5b1
     try clear p6
     try clear q6
     try clear hx6
     try clear qi6
     try clear c7
     try clear c7b0
     try clear c7b1
     try clear c9
     try clear c9b0
     try clear c10
     try clear c10b0
     try clear p11
     try clear q11
     try clear hx11
     try clear c12
     try clear p1
     try clear p11
     try clear p2
     try clear p6
     try clear q1
     try clear q11
     try clear q6
     obtain ⟨x3_2,rfl,HA,HK2,⟨m2,rfl⟩⟩:=hrel
     cases gk with
     |zero=>exact absurd HA.out (by simp [sallyportref06_label.l0])
     |succ k2=>
      have H:=HA.out
      clear HA
      simp only [sallyportref06_label.l0] at H
      by_cases c13:x3_2<(a0.size:Int)
      ·rw [if_pos c13] at H
       have c13b0:decide (x3_2<(a0.size:Int))=true:=decide_eq_true c13
       clear c13
       by_cases c14:0≤x3_2
       ·rw [if_pos c14] at H
        have c14b0:decide (0≤x3_2)=true:=decide_eq_true c14
        clear c14
        by_cases c16:(bt a0 x3_2)=45
        ·rw [if_pos c16] at H
         have c16b0:((bt a0 x3_2)==45)=true:=beq_iff_eq.mpr c16
         have c16b1:((bt a0 x3_2) !=45)=false:=bne_eq_false_iff_eq.mpr c16
         clear c16
         have H':=Aside0.mk H
         clear H
         have p15:0≤(x3_2:Int):=of_decide_eq_true (by first|(with_reducible assumption)|assumption)
         have q15:x3_2<(a0.size:Int):=of_decide_eq_true (by first|(with_reducible assumption)|assumption)
         have hx15:=bt_at a0 x3_2
         replace p15:=eq_true p15
         replace q15:=eq_true q15
         go_wp2
         go_roundg k2
         case measure=>have:=HJ1.out;have:=HK2.out;omega
         case rel=>exact ⟨(wrap64 (x3_2+1)),(by first|rfl|(simp;done)|(simp [*];done)),H',⟨by have:=HJ1.out;have:=HK2.out;omega⟩,by repeat (first|exact Drawn0.refl _|apply Drawn0.step)⟩
        ·rw [if_neg c16] at H
         have c16b0:((bt a0 x3_2)==45)=false:=beq_eq_false_iff_ne.mpr c16
         have c16b1:((bt a0 x3_2) !=45)=true:=bne_iff_ne.mpr c16
         replace H:=Option.bind_eq_some_iff.mp H
         obtain ⟨t126,A180,H⟩:=H
         replace H:(if t126=true then (sallyportref06_label.l0 k2 a0 (wrap64 (x3_2+1))) else (if (bt a0 x3_2)<97 then (some false) else (if (bt a0 x3_2)>122 then (some false) else (sallyportref06_label.l0 k2 a0 (wrap64 (x3_2+1))))))=some r:=H
         have A18:=Aside0.mk A180
         clear A180
         by_cases c19:t126=true
         ·subst c19
          have H1:(sallyportref06_label.l0 k2 a0 (wrap64 (x3_2+1)))=some r:=by rw [if_pos rfl] at H;exact H
          clear H
          have H:=H1
          clear H1
          have H':=Aside0.mk H
          clear H
          have p15:0≤(x3_2:Int):=of_decide_eq_true (by first|(with_reducible assumption)|assumption)
          have q15:x3_2<(a0.size:Int):=of_decide_eq_true (by first|(with_reducible assumption)|assumption)
          have hx15:=bt_at a0 x3_2
          replace p15:=eq_true p15
          replace q15:=eq_true q15
          have p17:0≤(x3_2:Int):=of_decide_eq_true (by first|(with_reducible assumption)|assumption)
          have q17:x3_2<(a0.size:Int):=of_decide_eq_true (by first|(with_reducible assumption)|assumption)
          have hx17:=bt_at a0 x3_2
          replace p17:=eq_true p17
          replace q17:=eq_true q17
          go_wp2_with (first|(go_at_call 151;(with_reducible refine (sallyportref06_digit.calls (bt a0 x3_2) true _ A18.out).mono ?_);rintro e w' ⟨rfl,⟨nd,rfl⟩⟩))
          go_roundg k2
          case measure=>have:=HJ1.out;have:=HK2.out;omega
          case rel=>exact ⟨(wrap64 (x3_2+1)),(by first|rfl|(simp;done)|(simp [*];done)),H',⟨by have:=HJ1.out;have:=HK2.out;omega⟩,by repeat (first|exact Drawn0.refl _|apply Drawn0.step)⟩
         ·replace c19:=Bool.eq_false_iff.mpr c19
          subst c19
          have H1:(if (bt a0 x3_2)<97 then (some false) else (if (bt a0 x3_2)>122 then (some false) else (sallyportref06_label.l0 k2 a0 (wrap64 (x3_2+1)))))=some r:=by rw [if_neg (show ¬ (false=true) by decide)] at H;exact H
          clear H
          have H:=H1
          clear H1
          by_cases c21:(bt a0 x3_2)<97
          ·rw [if_pos c21] at H
           have c21b0:decide ((bt a0 x3_2)<97)=true:=decide_eq_true c21
           clear c21
           obtain rfl:=Option.some.inj H
           have p15:0≤(x3_2:Int):=of_decide_eq_true (by first|(with_reducible assumption)|assumption)
           have q15:x3_2<(a0.size:Int):=of_decide_eq_true (by first|(with_reducible assumption)|assumption)
           have hx15:=bt_at a0 x3_2
           replace p15:=eq_true p15
           replace q15:=eq_true q15
           have p17:0≤(x3_2:Int):=of_decide_eq_true (by first|(with_reducible assumption)|assumption)
           have q17:x3_2<(a0.size:Int):=of_decide_eq_true (by first|(with_reducible assumption)|assumption)
           have hx17:=bt_at a0 x3_2
           replace p17:=eq_true p17
           replace q17:=eq_true q17
           go_wp2_with (first|(go_at_call 151;(with_reducible refine (sallyportref06_digit.calls (bt a0 x3_2) false _ A18.out).mono ?_);rintro e w' ⟨rfl,⟨nd,rfl⟩⟩;have p20:0≤(x3_2:Int):=of_decide_eq_true (by first|(with_reducible assumption)|assumption);have q20:x3_2<(a0.size:Int):=of_decide_eq_true (by first|(with_reducible assumption)|assumption);have hx20:=bt_at a0 x3_2;replace p20:=eq_true p20;replace q20:=eq_true q20))
           go_ret
           exact ⟨by first|rfl|(simp;done)|(simp [*];done),by repeat (first|exact Drawn0.refl _|apply Drawn0.step)⟩
          ·rw [if_neg c21] at H
           have c21b0:decide ((bt a0 x3_2)<97)=false:=decide_eq_false c21
           clear c21
           by_cases c23:(bt a0 x3_2)>122
           ·rw [if_pos c23] at H
            have c23b0:decide (122<(bt a0 x3_2))=true:=decide_eq_true c23
            clear c23
            obtain rfl:=Option.some.inj H
            have p15:0≤(x3_2:Int):=of_decide_eq_true (by first|(with_reducible assumption)|assumption)
            have q15:x3_2<(a0.size:Int):=of_decide_eq_true (by first|(with_reducible assumption)|assumption)
            have hx15:=bt_at a0 x3_2
            replace p15:=eq_true p15
            replace q15:=eq_true q15
            have p17:0≤(x3_2:Int):=of_decide_eq_true (by first|(with_reducible assumption)|assumption)
            have q17:x3_2<(a0.size:Int):=of_decide_eq_true (by first|(with_reducible assumption)|assumption)
            have hx17:=bt_at a0 x3_2
            replace p17:=eq_true p17
            replace q17:=eq_true q17
            go_wp2_with (first|(go_at_call 151;(with_reducible refine (sallyportref06_digit.calls (bt a0 x3_2) false _ A18.out).mono ?_);rintro e w' ⟨rfl,⟨nd,rfl⟩⟩;have p20:0≤(x3_2:Int):=of_decide_eq_true (by first|(with_reducible assumption)|assumption);have q20:x3_2<(a0.size:Int):=of_decide_eq_true (by first|(with_reducible assumption)|assumption);have hx20:=bt_at a0 x3_2;replace p20:=eq_true p20;replace q20:=eq_true q20;have p22:0≤(x3_2:Int):=of_decide_eq_true (by first|(with_reducible assumption)|assumption);have q22:x3_2<(a0.size:Int):=of_decide_eq_true (by first|(with_reducible assumption)|assumption);have hx22:=bt_at a0 x3_2;replace p22:=eq_true p22;replace q22:=eq_true q22))
            go_ret
            exact ⟨by first|rfl|(simp;done)|(simp [*];done),by repeat (first|exact Drawn0.refl _|apply Drawn0.step)⟩
           ·rw [if_neg c23] at H
            have c23b0:decide (122<(bt a0 x3_2))=false:=decide_eq_false c23
            clear c23
            have H':=Aside0.mk H
            clear H
            have p15:0≤(x3_2:Int):=of_decide_eq_true (by first|(with_reducible assumption)|assumption)
            have q15:x3_2<(a0.size:Int):=of_decide_eq_true (by first|(with_reducible assumption)|assumption)
            have hx15:=bt_at a0 x3_2
            replace p15:=eq_true p15
            replace q15:=eq_true q15
            have p17:0≤(x3_2:Int):=of_decide_eq_true (by first|(with_reducible assumption)|assumption)
            have q17:x3_2<(a0.size:Int):=of_decide_eq_true (by first|(with_reducible assumption)|assumption)
            have hx17:=bt_at a0 x3_2
            replace p17:=eq_true p17
            replace q17:=eq_true q17
            go_wp2_with (first|(go_at_call 151;(with_reducible refine (sallyportref06_digit.calls (bt a0 x3_2) false _ A18.out).mono ?_);rintro e w' ⟨rfl,⟨nd,rfl⟩⟩;have p20:0≤(x3_2:Int):=of_decide_eq_true (by first|(with_reducible assumption)|assumption);have q20:x3_2<(a0.size:Int):=of_decide_eq_true (by first|(with_reducible assumption)|assumption);have hx20:=bt_at a0 x3_2;replace p20:=eq_true p20;replace q20:=eq_true q20;have p22:0≤(x3_2:Int):=of_decide_eq_true (by first|(with_reducible assumption)|assumption);have q22:x3_2<(a0.size:Int):=of_decide_eq_true (by first|(with_reducible assumption)|assumption);have hx22:=bt_at a0 x3_2;replace p22:=eq_true p22;replace q22:=eq_true q22))
            go_roundg k2
            case measure=>have:=HJ1.out;have:=HK2.out;omega
            case rel=>exact ⟨(wrap64 (x3_2+1)),(by first|rfl|(simp;done)|(simp [*];done)),H',⟨by have:=HJ1.out;have:=HK2.out;omega⟩,by repeat (first|exact Drawn0.refl _|apply Drawn0.step)⟩
       ·rw [if_neg c14] at H
        exact absurd H (by simp)
      ·rw [if_neg c13] at H
       have c13b0:decide (x3_2<(a0.size:Int))=false:=decide_eq_false c13
       clear c13
       obtain rfl:=Option.some.inj H
       go_wp2
       go_ret
       exact ⟨by first|rfl|(simp;done)|(simp [*];done),by repeat (first|exact Drawn0.refl _|apply Drawn0.step)⟩
end Go.Proofs.YtgmpdjjoefkndaaGreatDoor.XR
