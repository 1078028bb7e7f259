/- HeadReads, second form: within a machine's memory any bytes are read as a request's and as a reply's head by the program, or refused where they are wrong, as the reference says; the world's tables are laid as the row lists them. -/
import Derived.Test.YtgmpdjjoefkndaaGreatDoorHR22
import Derived.Test.YtgmpdjjoefkndaaGreatDoorCards
import Derived.Test.YtgmpdjjoefkndaaGreatDoorTie
import Derived.WalkKit
import Derived.ProofKit
import Derived.OpenShut
import Derived.ShutString
import Derived.MakeChecks
import Derived.Carry
import Derived.Deep.DeepHandedRow

namespace Go.Proofs.YtgmpdjjoefkndaaGreatDoor.headReads
open Go.ChangeShapes Go.WideShapes Go.ChangeAt Go.RowKit Go.Proofs.YtgmpdjjoefkndaaGreatDoor.E Go.Proofs.YtgmpdjjoefkndaaGreatDoor.XK
open Go.ChangeMaps (open_string shut_string)
set_option linter.unusedVariables false
theorem own:ownKnob Tryz.prog.godebug=none:=by kernel_rfl
theorem laidOut:laidOutB Tryz.prog=true:=by kernel_rfl
theorem reads (os:Os) {H:Type} (enc:TypeId×Value→H):DataW.whole enc Tryz.prog ((hostWorld os).forCall (fun _ _=>0) ⟨#[],#[.slice none 0 0],[]⟩).memory Tryz.f3.params.toList Rows.headReadsSpec.vars false (#[Value.slice none 0 0]:Array Value).toList 8=some ([.nil],[],[]):=by kernel_rfl
theorem shaped (os:Os):((hostWorld os).forCall (fun _ _=>0) ⟨#[],#[.slice none 0 0],[]⟩).Shaped Tryz.prog:=World.shaped_of_ZipB (by kernel_rfl) (by kernel_rfl)
theorem laidMet0 (os:Os):laidMetH Tryz.prog Rows.headReadsRow.laid ((hostWorld os).forCall (fun _ _=>0) ⟨#[],#[.slice none 0 0],[]⟩).memory:=by
 exact hostLaid os _
set_option maxRecDepth 100000 in
theorem contract (H:Type) (enc:TypeId×Value→H) (W:World) (base:Nat) (args:Array Value) (ds gs:List (DataW H)) (before:List MemPlace)
  (hval0: ∀ (j:Nat) t v,Tryz.f3.params[j]? =some t→args[j]? =some v→Value.okWide Tryz.prog W .any base t v)
  (hW:DataW.Whole enc Tryz.prog Tryz.f3.params.toList Rows.headReadsSpec.vars false W args.toList ds gs before)
  (hsz0:(DataW.weightsEach Tryz.prog (Tryz.f3.params.toList++Rows.headReadsSpec.plain.varTypes Tryz.prog) (ds++gs)).all (· ≤reachBytes)=true)
  (hco:Rows.uptoSmall H (ds++gs)=true)
  (hL:laidMetH Tryz.prog Rows.headReadsRow.laid W) (hsh:W.ShapedOpen Tryz.prog):
  Calls Tryz.prog 3 args W fun e W'=> ∃ v,e= .returned v∧Rows.headReadsSpec.post enc Tryz.prog Tryz.f3 false true false false W args v W':=by
 have hval: ∀ (j:Nat) t v,Tryz.f3.params[j]? =some t→args[j]? =some v→Value.okWide Tryz.prog W .any base t v:=hval0
 have hsz:=hsz0
 have hW':=hW
 obtain ⟨p,q,hA0,hV,rfl,hfz,hnd⟩:=hW
 have hA:DataW.TrodAll enc Tryz.prog W 0 (fun _=>true) true Tryz.f3.params.toList args.toList ds p:=hA0
 rw [Tryz.params3] at hA hval hsz
 obtain ⟨v0,vs0,d0,ds0,p0,q0,hargs,rfl,rfl,h0,r0⟩:=trodAll_cons hA
 obtain ⟨rfl,rfl,rfl⟩:=trodAll_nil r0
 obtain rfl:args= #[v0]:=by cases args;simp_all
 obtain ⟨rfl,rfl⟩:=trodVars_none hV
 have k0:=h0
 have lt0: ∀ x ∈ p0,x.block<W.heap.size:=by obtain ⟨m,hm⟩:=k0;exact DataW.trod_lt m _ _ _ hm
 obtain ⟨fuel0,hf0⟩:=h0
 obtain ⟨a0,len0,cap0,rfl⟩:=okWide_slice Tryz.underlying22 (hval 0 22 v0 rfl rfl)
 obtain ⟨A0,c0,l0,e0,hc0,hr0,hb0,hm0⟩:=open_bytes Tryz.underlying22 hf0
 simp only [Value.cells,List.cons.injEq,Value.slice.injEq,and_true] at e0
 obtain ⟨rfl,rfl,rfl⟩:=e0
 try dsimp only at hm0
 have hbk:=of_decide_eq_true hco
 simp only [List.append_nil,Rows.uptoBulkAll] at hbk
 have hbk0:Rows.uptoBulk d0≤1048576:=by omega
 have hS:StdE W:=stdE_of hL hsh
 clear hA0 hval0 hval hsz0
 refine (Go.Proofs.YtgmpdjjoefkndaaGreatDoor.E.pReads.calls a0 cap0 l0 true W hr0 hc0 hS (headReads_law l0 ⟨hb0,by omega⟩)).mono fun e W' ⟨he,bel⟩=>?_
 subst he
 exact ⟨_,rfl,_,_,_,[],_,[],hW',trodAll_mk1 (shut_bool Tryz.underlying4 _),(trodAll_cons_mk (Below.trod laidOut (by kernel_rfl) (of_decide_eq_true (by kernel_rfl)) k0 bel lt0) trodAll_mk0),rfl,bel.frame _,fun h=>by cases h⟩
set_option maxRecDepth 100000 in
theorem liftedUpto (os:Os) (started:os.Started) (H:Type) (enc:TypeId×Value→H) (F:Stop.Interp):
  ReturnsInHanded {} Tryz.checked os 3 .any ((Rows.OpenSpec.upto Rows.headReadsSpec).preRow enc Tryz.prog Tryz.f3 Rows.headReadsUptoRow.domain false Rows.headReadsUptoRow.laid) (((Rows.OpenSpec.upto Rows.headReadsSpec).at F).post enc Tryz.prog Tryz.f3 false true false false):=by
 refine returnsInHanded_of_row (C:=Tryz.checked) (s:=Rows.OpenSpec.upto Rows.headReadsSpec) own started (by kernel_rfl) Tryz.func3
  (witness_zip (enc:=enc) (C:=Tryz.checked) (hostWorld os) #[.slice none 0 0] (hostWorld_os os) (shaped os) (by kernel_rfl)
   (OpenSpec.preRow_of_cond 8 (reads os enc) (by kernel_rfl) (fun k hk=>by cases hk;kernel_rfl) (by kernel_rfl) (laidMet0 os))) ?_
 intro W base args ds gs before hval hW _ hco hsz hL hsh _
 exact contract H enc W base args ds gs before hval hW hsz (hco _ rfl) hL hsh
theorem ku_a1:(Rows.headReadsUptoRow.wf (OpenSpec.ofChange (Rows.OpenSpec.upto Rows.headReadsSpec).bare) && laidOutB Tryz.pinned.checked.prog && mapsRowed Tryz.pinned.checked.prog && Tryz.f3.params.all (Tryz.pinned.checked.prog.readableRec ·) && namedTie Tryz.pinned.checked.prog Rows.headReadsUptoRow.named (Rows.OpenSpec.upto Rows.headReadsSpec).bare.vars && (Rows.headReadsUptoRow.stops==[]) && (Tryz.pinned.checked.prog.stops==[]) && (Rows.headReadsUptoRow.knobs==[]) && (Tryz.pinned.checked.prog.stopKnobs==[]))=true:=by kernel_rfl
theorem ku_a2:(Rows.headReadsUptoRow.inPlace==Tryz.pinned.checked.prog.inPlace 3)=true:=by kernel_rfl
theorem ku_a3:(Rows.headReadsUptoRow.unfollowed==Tryz.pinned.checked.prog.unfollowed 3)=true:=by kernel_rfl
theorem ku_a4:(Rows.headReadsUptoRow.recurses==Tryz.pinned.checked.prog.recurses 3)=true:=by kernel_rfl
theorem ku_a5:(Rows.headReadsUptoRow.named==Tryz.pinned.checked.prog.varsNamed 3)=true:=by kernel_rfl
theorem ku_a6:((Rows.headReadsUptoRow.maps==(Tryz.f3.params.toList++(Rows.OpenSpec.upto Rows.headReadsSpec).bare.plain.varTypes Tryz.pinned.checked.prog).any (Tryz.pinned.checked.prog.mapsRec ·)) && (Rows.headReadsUptoRow.ifaces==(Tryz.f3.params.toList++(Rows.OpenSpec.upto Rows.headReadsSpec).bare.plain.varTypes Tryz.pinned.checked.prog).any (Tryz.pinned.checked.prog.ifacesRec ·)) && (Rows.headReadsUptoRow.mapsOut==Tryz.pinned.checked.prog.mapsAmong Tryz.f3.resultTypes.toList) && (Rows.headReadsUptoRow.loops==(Tryz.f3.params.toList++(Rows.OpenSpec.upto Rows.headReadsSpec).bare.plain.varTypes Tryz.pinned.checked.prog).any (Tryz.pinned.checked.prog.loopsFrom ·)) && (Rows.headReadsUptoRow.wideKeys==(Tryz.f3.params.toList++(Rows.OpenSpec.upto Rows.headReadsSpec).bare.plain.varTypes Tryz.pinned.checked.prog++Tryz.f3.resultTypes.toList).any (Tryz.pinned.checked.prog.wideKeysFrom ·)))=true:=by kernel_rfl
theorem ku_a7:((Rows.OpenSpec.upto Rows.headReadsSpec).bare.vars.all (Tryz.pinned.checked.prog.varReadable ·) && Tryz.f3.resultTypes.all (fun t=>Tryz.pinned.checked.prog.readableRec t && decide (t<Tryz.pinned.checked.prog.types.size)) && (Rows.headReadsUptoRow.ifacesOut==Tryz.f3.resultTypes.toList.any (Tryz.pinned.checked.prog.ifacesRec ·)) && (Rows.headReadsUptoRow.loopsOut==Tryz.f3.resultTypes.toList.any (Tryz.pinned.checked.prog.loopsFrom ·)))=true:=by kernel_rfl
theorem ku_a8:(Rows.headReadsUptoRow.plainKeys==Tryz.pinned.checked.prog.plainKeys)=true:=by kernel_rfl
theorem ku_a9:(Rows.headReadsUptoRow.shortTexts.isNone && Tryz.pinned.checked.prog.stopsHeard)=true:=by kernel_rfl
theorem ku_a10:Tryz.pinned.checked.prog.mayEnter=true:=by kernel_rfl
theorem ku_a11:(Rows.headReadsUptoRow.lifted==Tryz.pinned.checked.prog.liftsFinal)=true:=by kernel_rfl
theorem ku_a12:(Tryz.pinned.checked.prog.make==some Rows.headReadsUptoRow.make)=true:=by kernel_rfl
theorem ku_a13:((Rows.headReadsUptoRow.kinds==(if Rows.headReadsUptoRow.domain.isEmpty then [] else Tryz.f3.params.toList.map fun t=>match Tryz.pinned.checked.prog.underlying t with|some (.int k)=>some k|_=>none)) && (Rows.headReadsUptoRow.pinned==Rows.headReadsUptoRow.pinnedBy))=true:=by kernel_rfl
theorem ku_a14:((Rows.headReadsUptoRow.veiled==(Tryz.f3.params.toList++(Rows.OpenSpec.upto Rows.headReadsSpec).bare.plain.varTypes Tryz.pinned.checked.prog++Tryz.f3.resultTypes.toList).any (Tryz.pinned.checked.prog.veiledRec ·)) && Rows.headReadsUptoRow.veiledFits Tryz.pinned.checked.prog Tryz.f3.params.toList (Tryz.f3.params.toList++(Rows.OpenSpec.upto Rows.headReadsSpec).bare.plain.varTypes Tryz.pinned.checked.prog++Tryz.f3.resultTypes.toList))=true:=by kernel_rfl
set_option maxRecDepth 100000 in
theorem kuall:joinedFacts Tryz.pinned.checked.prog 3 Tryz.f3 (Rows.OpenSpec.upto Rows.headReadsSpec).bare Rows.headReadsUptoRow=true:=(jf_of ku_a1 ku_a2 ku_a3 ku_a4 ku_a5 ku_a6 ku_a7 ku_a8 ku_a9 ku_a10 ku_a11 ku_a12 ku_a13 ku_a14)
set_option maxRecDepth 100000 in
theorem saidUpto:Rows.HeadReadsUptoSaid:=
 OpenClaim.holds_of_cond 3 Tryz.f3 rfl rfl rfl rfl rfl rfl rfl ⟨rfl,rfl,rfl,rfl,rfl⟩ rfl rfl rfl rfl rfl (by kernel_rfl) Tryz.func3 kuall
  (of_decide_eq_true (by kernel_rfl)) (by unfold Func.isWrapper;first|(rw [if_pos (by decide+kernel)];kernel_rfl)|(rw [if_neg (by decide+kernel)];exact ⟨rfl,rfl⟩))
  (fun os started H enc _ F=>by rw [OpenClaim.pre_eq_preRow];exact liftedUpto os started H enc F)
theorem plain (f:FuncId) (fn:Func) (hf:Tryz.pinned.checked.prog.funcNamed "sallyport/sallyportlaw08.HeadReads" =some f) (hfn:Tryz.pinned.checked.prog.funcs[f]? =some fn):
  true=Tryz.pinned.checked.prog.looks []∧ ∀ (j:Nat) t,fn.params[j]? =some t→Tryz.pinned.checked.prog.wantsStandIn t=false:=by
 obtain rfl:f=3:=Option.some.inj ((show Tryz.prog.funcNamed "sallyport/sallyportlaw08.HeadReads" =some 3 by kernel_rfl).symm.trans hf)|>.symm
 obtain rfl:fn=Tryz.f3:=(Option.some.inj (Tryz.func3.symm.trans hfn)).symm
 refine ⟨by kernel_rfl,fun j t ht=>?_⟩
 rw [Tryz.params3] at ht
 have hm:=Array.mem_of_getElem? ht
 simp only [List.mem_toArray,List.mem_cons,List.not_mem_nil,or_false] at hm
 rcases hm with rfl
 ·exact (show Tryz.prog.wantsStandIn 22=false by kernel_rfl)
theorem cardUpto:Rows.HeadReadsUptoCardSaid:=
 Claim7.holds_tied_plain_at .later [] _ _ _ _ saidUpto (fun _ h=>by cases h) (by kernel_rfl) (fun _ h=>by cases h) headReadsUpto_row_tie rfl ⟨rfl,rfl⟩ (by kernel_rfl) rfl plain (by kernel_rfl)
end Go.Proofs.YtgmpdjjoefkndaaGreatDoor.headReads
namespace Go.Proofs.YtgmpdjjoefkndaaGreatDoor
theorem headReads_cardUpto:Rows.HeadReadsUptoCardSaid:=headReads.cardUpto
end Go.Proofs.YtgmpdjjoefkndaaGreatDoor

