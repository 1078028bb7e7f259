/- The law HeadWords at every text, fields and name whose reading is of bulk at most 1048576: tokens, values, and fields by their names are as the document says. -/
import Derived.Test.YtocklkaddiomhaaGreatDoorHW10
import Derived.Test.YtocklkaddiomhaaGreatDoorCards
import Derived.Test.YtocklkaddiomhaaGreatDoorTie
import Derived.WalkKit
import Derived.ProofKit
import Derived.OpenShut
import Derived.ShutString
import Derived.MakeChecks
import Derived.Carry
import Derived.Deep.DeepHandedRow


namespace Go.Proofs.YtocklkaddiomhaaGreatDoor.headWords
open Go.ChangeShapes Go.WideShapes Go.ChangeAt Go.RowKit Go.Proofs.YtocklkaddiomhaaGreatDoor.E Go.Proofs.YtocklkaddiomhaaGreatDoor.XK
open Go.ChangeMaps (open_string shut_string)
set_option linter.unusedVariables false
theorem own : ownKnob Tryz.prog.godebug = none := by kernel_rfl
theorem laidOut : laidOutB Tryz.prog = true := by kernel_rfl
theorem reads (os : Os) {H : Type} (enc : TypeId × Value → H) : DataW.whole enc Tryz.prog ((hostWorld os).forCall (fun _ _ => 0) ⟨#[], #[.string ByteArray.empty, .slice none 0 0, .string ByteArray.empty], []⟩).memory Tryz.f4.params.toList Rows.headWordsSpec.vars false (#[Value.string ByteArray.empty, Value.slice none 0 0, Value.string ByteArray.empty] : Array Value).toList 8 = some ([.lit (.string []), .nil, .lit (.string [])], [], []) := by kernel_rfl
theorem shaped (os : Os) : ((hostWorld os).forCall (fun _ _ => 0) ⟨#[], #[.string ByteArray.empty, .slice none 0 0, .string ByteArray.empty], []⟩).Shaped Tryz.prog := World.shaped_of_ZipB (by kernel_rfl) (by kernel_rfl)
theorem laidMet0 (os : Os) : laidMetH Tryz.prog Rows.headWordsRow.laid ((hostWorld os).forCall (fun _ _ => 0) ⟨#[], #[.string ByteArray.empty, .slice none 0 0, .string ByteArray.empty], []⟩).memory := by
  exact hostLaid os _
set_option maxRecDepth 100000 in
theorem contract (H : Type) (enc : TypeId × Value → H) (W : World) (base : Nat) (args : Array Value) (ds gs : List (DataW H)) (before : List MemPlace)
    (hval0 : ∀ (j : Nat) t v, Tryz.f4.params[j]? = some t → args[j]? = some v → Value.okWide Tryz.prog W .any base t v)
    (hW : DataW.Whole enc Tryz.prog Tryz.f4.params.toList Rows.headWordsSpec.vars false W args.toList ds gs before)
    (hsz0 : (DataW.weightsEach Tryz.prog (Tryz.f4.params.toList ++ Rows.headWordsSpec.plain.varTypes Tryz.prog) (ds ++ gs)).all (· ≤ reachBytes) = true)
    (hco : Rows.uptoSmall H (ds ++ gs) = true)
    (hL : laidMetH Tryz.prog Rows.headWordsRow.laid W) (hsh : W.ShapedOpen Tryz.prog) :
    Calls Tryz.prog 4 args W fun e W' => ∃ v, e = .returned v ∧ Rows.headWordsSpec.post enc Tryz.prog Tryz.f4 false true false false W args v W' := by
  have hval : ∀ (j : Nat) t v, Tryz.f4.params[j]? = some t → args[j]? = some v → Value.okWide Tryz.prog W .any base t v := hval0
  have hsz := hsz0
  have hW' := hW
  obtain ⟨p, q, hA0, hV, rfl, hfz, hnd⟩ := hW
  have hA : DataW.TrodAll enc Tryz.prog W 0 (fun _ => true) true Tryz.f4.params.toList args.toList ds p := hA0
  rw [Tryz.params4] at hA hval hsz
  obtain ⟨v0, vs0, d0, ds0, p0, q0, hargs, rfl, rfl, h0, r0⟩ := trodAll_cons hA
  obtain ⟨v1, vs1, d1, ds1, p1, q1, rfl, rfl, rfl, h1, r1⟩ := trodAll_cons r0
  obtain ⟨v2, vs2, d2, ds2, p2, q2, rfl, rfl, rfl, h2, r2⟩ := trodAll_cons r1
  obtain ⟨rfl, rfl, rfl⟩ := trodAll_nil r2
  obtain rfl : args = #[v0, v1, v2] := by cases args; simp_all
  obtain ⟨rfl, rfl⟩ := trodVars_none hV
  obtain ⟨s0, rfl, rfl, rfl, y0⟩ := open_string Tryz.underlying9 (hval 0 9 v0 rfl rfl) h0
  have z0 : s0.size ≤ 281474976710656 := by
    have z := sized_string hsz (j := 0) (t := 9) rfl rfl
    rw [Array.length_toList] at z
    exact Nat.le_trans z (by decide)
  have u0 : s0.size < 4294967281 := by
    have h := of_decide_eq_true hco
    simp only [List.append_nil, Rows.uptoBulkAll, Rows.uptoBulk] at h
    rw [Lib.size_eq]
    omega
  have k1 := h1
  have lt1 : ∀ x ∈ p1, x.block < W.heap.size := by obtain ⟨m, hm⟩ := k1; exact DataW.trod_lt m _ _ _ hm
  obtain ⟨fuel1, hf1⟩ := h1
  obtain ⟨a1, len1, cap1, rfl⟩ := okWide_slice Tryz.underlying34 (hval 1 34 v1 rfl rfl)
  obtain ⟨A1, c1, l1, e1, hc1, hr1, hn1, hm1⟩ := open_fields Tryz.underlying34 hf1
  simp only [Value.cells, List.cons.injEq, Value.slice.injEq, and_true] at e1
  obtain ⟨rfl, rfl, rfl⟩ := e1
  try dsimp only at hn1 hm1
  obtain ⟨s2, rfl, rfl, rfl, y2⟩ := open_string Tryz.underlying9 (hval 2 9 v2 rfl rfl) h2
  have z2 : s2.size ≤ 281474976710656 := by
    have z := sized_string hsz (j := 2) (t := 9) rfl rfl
    rw [Array.length_toList] at z
    exact Nat.le_trans z (by decide)
  have u2 : s2.size < 4294967281 := by
    have h := of_decide_eq_true hco
    simp only [List.append_nil, Rows.uptoBulkAll, Rows.uptoBulk] at h
    rw [Lib.size_eq]
    omega
  have u0 : s0.size < 4294967281 := by
    have h := of_decide_eq_true hco
    simp only [List.append_nil, Rows.uptoBulkAll, Rows.uptoBulk] at h
    rw [Lib.size_eq]
    omega
  have hbk := of_decide_eq_true hco
  simp only [List.append_nil, Rows.uptoBulkAll] at hbk
  have hbk0 : Rows.uptoBulk d1 ≤ 1048576 := by omega
  have hS : StdE W := stdE_of hL hsh
  clear hA0 hval0 hval hsz0
  refine (Go.Proofs.YtocklkaddiomhaaGreatDoor.E.pWords.calls s0 a1 cap1 l1 s2 true W hr1 hc1 hS (headWords_law s0 z0 u0 l1 ⟨by omega, fun r hr => by have := hm1 r hr; omega⟩ (by omega) s2 z2 u2)).mono fun e W' ⟨he, bel⟩ => ?_
  subst he
  exact ⟨_, rfl, _, _, _, [], _, [], hW', trodAll_mk1 (shut_bool Tryz.underlying4 _), (trodAll_cons_mk (shut_string Tryz.underlying9 y0) (trodAll_cons_mk (Below.trod laidOut (by kernel_rfl) (of_decide_eq_true (by kernel_rfl)) k1 bel lt1) (trodAll_cons_mk (shut_string Tryz.underlying9 y2) trodAll_mk0))), rfl, bel.frame _, fun h => by cases h⟩
set_option maxRecDepth 100000 in
theorem liftedUpto (os : Os) (started : os.Started) (H : Type) (enc : TypeId × Value → H) (F : Stop.Interp) :
    ReturnsInHanded {} Tryz.checked os 4 .any ((Rows.OpenSpec.upto Rows.headWordsSpec).preRow enc Tryz.prog Tryz.f4 Rows.headWordsUptoRow.domain false Rows.headWordsUptoRow.laid) (((Rows.OpenSpec.upto Rows.headWordsSpec).at F).post enc Tryz.prog Tryz.f4 false true false false) := by
  refine returnsInHanded_of_row (C := Tryz.checked) (s := Rows.OpenSpec.upto Rows.headWordsSpec) own started (by kernel_rfl) Tryz.func4
    (witness_zip (enc := enc) (C := Tryz.checked) (hostWorld os) #[.string ByteArray.empty, .slice none 0 0, .string ByteArray.empty] (hostWorld_os os) (shaped os) (by kernel_rfl)
      (OpenSpec.preRow_of_cond 8 (reads os enc) (by kernel_rfl) (fun k hk => by cases hk; kernel_rfl) (by kernel_rfl) (laidMet0 os))) ?_
  intro W base args ds gs before hval hW _ hco hsz hL hsh _
  exact contract H enc W base args ds gs before hval hW hsz (hco _ rfl) hL hsh
theorem ku_a1 : (Rows.headWordsUptoRow.wf (OpenSpec.ofChange (Rows.OpenSpec.upto Rows.headWordsSpec).bare) && laidOutB Tryz.pinned.checked.prog && mapsRowed Tryz.pinned.checked.prog && Tryz.f4.params.all (Tryz.pinned.checked.prog.readableRec ·) && namedTie Tryz.pinned.checked.prog Rows.headWordsUptoRow.named (Rows.OpenSpec.upto Rows.headWordsSpec).bare.vars && (Rows.headWordsUptoRow.stops == []) && (Tryz.pinned.checked.prog.stops == []) && (Rows.headWordsUptoRow.knobs == []) && (Tryz.pinned.checked.prog.stopKnobs == [])) = true := by kernel_rfl
theorem ku_a2 : (Rows.headWordsUptoRow.inPlace == Tryz.pinned.checked.prog.inPlace 4) = true := by kernel_rfl
theorem ku_a3 : (Rows.headWordsUptoRow.unfollowed == Tryz.pinned.checked.prog.unfollowed 4) = true := by kernel_rfl
theorem ku_a4 : (Rows.headWordsUptoRow.recurses == Tryz.pinned.checked.prog.recurses 4) = true := by kernel_rfl
theorem ku_a5 : (Rows.headWordsUptoRow.named == Tryz.pinned.checked.prog.varsNamed 4) = true := by kernel_rfl
theorem ku_a6 : ((Rows.headWordsUptoRow.maps == (Tryz.f4.params.toList ++ (Rows.OpenSpec.upto Rows.headWordsSpec).bare.plain.varTypes Tryz.pinned.checked.prog).any (Tryz.pinned.checked.prog.mapsRec ·)) && (Rows.headWordsUptoRow.ifaces == (Tryz.f4.params.toList ++ (Rows.OpenSpec.upto Rows.headWordsSpec).bare.plain.varTypes Tryz.pinned.checked.prog).any (Tryz.pinned.checked.prog.ifacesRec ·)) && (Rows.headWordsUptoRow.mapsOut == Tryz.pinned.checked.prog.mapsAmong Tryz.f4.resultTypes.toList) && (Rows.headWordsUptoRow.loops == (Tryz.f4.params.toList ++ (Rows.OpenSpec.upto Rows.headWordsSpec).bare.plain.varTypes Tryz.pinned.checked.prog).any (Tryz.pinned.checked.prog.loopsFrom ·)) && (Rows.headWordsUptoRow.wideKeys == (Tryz.f4.params.toList ++ (Rows.OpenSpec.upto Rows.headWordsSpec).bare.plain.varTypes Tryz.pinned.checked.prog ++ Tryz.f4.resultTypes.toList).any (Tryz.pinned.checked.prog.wideKeysFrom ·))) = true := by kernel_rfl
theorem ku_a7 : ((Rows.OpenSpec.upto Rows.headWordsSpec).bare.vars.all (Tryz.pinned.checked.prog.varReadable ·) && Tryz.f4.resultTypes.all (fun t => Tryz.pinned.checked.prog.readableRec t && decide (t < Tryz.pinned.checked.prog.types.size)) && (Rows.headWordsUptoRow.ifacesOut == Tryz.f4.resultTypes.toList.any (Tryz.pinned.checked.prog.ifacesRec ·)) && (Rows.headWordsUptoRow.loopsOut == Tryz.f4.resultTypes.toList.any (Tryz.pinned.checked.prog.loopsFrom ·))) = true := by kernel_rfl
theorem ku_a8 : (Rows.headWordsUptoRow.plainKeys == Tryz.pinned.checked.prog.plainKeys) = true := by kernel_rfl
theorem ku_a9 : (Rows.headWordsUptoRow.shortTexts.isNone && Tryz.pinned.checked.prog.stopsHeard) = true := by kernel_rfl
theorem ku_a10 : Tryz.pinned.checked.prog.mayEnter = true := by kernel_rfl
theorem ku_a11 : (Rows.headWordsUptoRow.lifted == Tryz.pinned.checked.prog.liftsFinal) = true := by kernel_rfl
theorem ku_a12 : (Tryz.pinned.checked.prog.make == some Rows.headWordsUptoRow.make) = true := by kernel_rfl
theorem ku_a13 : ((Rows.headWordsUptoRow.kinds == (if Rows.headWordsUptoRow.domain.isEmpty then [] else Tryz.f4.params.toList.map fun t => match Tryz.pinned.checked.prog.underlying t with | some (.int k) => some k | _ => none)) && (Rows.headWordsUptoRow.pinned == Rows.headWordsUptoRow.pinnedBy)) = true := by kernel_rfl
theorem ku_a14 : ((Rows.headWordsUptoRow.veiled == (Tryz.f4.params.toList ++ (Rows.OpenSpec.upto Rows.headWordsSpec).bare.plain.varTypes Tryz.pinned.checked.prog ++ Tryz.f4.resultTypes.toList).any (Tryz.pinned.checked.prog.veiledRec ·)) && Rows.headWordsUptoRow.veiledFits Tryz.pinned.checked.prog Tryz.f4.params.toList (Tryz.f4.params.toList ++ (Rows.OpenSpec.upto Rows.headWordsSpec).bare.plain.varTypes Tryz.pinned.checked.prog ++ Tryz.f4.resultTypes.toList)) = true := by kernel_rfl
set_option maxRecDepth 100000 in
theorem kuall : joinedFacts Tryz.pinned.checked.prog 4 Tryz.f4 (Rows.OpenSpec.upto Rows.headWordsSpec).bare Rows.headWordsUptoRow = true := (jf_of ku_a1 ku_a2 ku_a3 ku_a4 ku_a5 ku_a6 ku_a7 ku_a8 ku_a9 ku_a10 ku_a11 ku_a12 ku_a13 ku_a14)
set_option maxRecDepth 100000 in
theorem saidUpto : Rows.HeadWordsUptoSaid :=
  OpenClaim.holds_of_cond 4 Tryz.f4 rfl rfl rfl rfl rfl rfl rfl ⟨rfl, rfl, rfl, rfl, rfl⟩ rfl rfl rfl rfl rfl (by kernel_rfl) Tryz.func4 kuall
    (of_decide_eq_true (by kernel_rfl)) (by unfold Func.isWrapper; first | (rw [if_pos (by decide +kernel)]; kernel_rfl) | (rw [if_neg (by decide +kernel)]; exact ⟨rfl, rfl⟩))
    (fun os started H enc _ F => by rw [OpenClaim.pre_eq_preRow]; exact liftedUpto os started H enc F)
theorem plain (f : FuncId) (fn : Func) (hf : Tryz.pinned.checked.prog.funcNamed "sallyport/sallyportlaw08.HeadWords" = some f) (hfn : Tryz.pinned.checked.prog.funcs[f]? = some fn) :
    true = Tryz.pinned.checked.prog.looks [] ∧ ∀ (j : Nat) t, fn.params[j]? = some t → Tryz.pinned.checked.prog.wantsStandIn t = false := by
  obtain rfl : f = 4 := Option.some.inj ((show Tryz.prog.funcNamed "sallyport/sallyportlaw08.HeadWords" = some 4 by kernel_rfl).symm.trans hf) |>.symm
  obtain rfl : fn = Tryz.f4 := (Option.some.inj (Tryz.func4.symm.trans hfn)).symm
  refine ⟨by kernel_rfl, fun j t ht => ?_⟩
  rw [Tryz.params4] at ht
  have hm := Array.mem_of_getElem? ht
  simp only [List.mem_toArray, List.mem_cons, List.not_mem_nil, or_false] at hm
  rcases hm with rfl | rfl | rfl
  · exact (show Tryz.prog.wantsStandIn 9 = false by kernel_rfl)
  · exact (show Tryz.prog.wantsStandIn 34 = false by kernel_rfl)
  · exact (show Tryz.prog.wantsStandIn 9 = false by kernel_rfl)
theorem cardUpto : Rows.HeadWordsUptoCardSaid :=
  Claim7.holds_tied_plain_at .later [] _ _ _ _ saidUpto (fun _ h => by cases h) (by kernel_rfl) (fun _ h => by cases h) headWordsUpto_row_tie rfl ⟨rfl, rfl⟩ (by kernel_rfl) rfl plain (by kernel_rfl)
end Go.Proofs.YtocklkaddiomhaaGreatDoor.headWords
namespace Go.Proofs.YtocklkaddiomhaaGreatDoor
theorem headWords_cardUpto : Rows.HeadWordsUptoCardSaid := headWords.cardUpto
end Go.Proofs.YtocklkaddiomhaaGreatDoor
