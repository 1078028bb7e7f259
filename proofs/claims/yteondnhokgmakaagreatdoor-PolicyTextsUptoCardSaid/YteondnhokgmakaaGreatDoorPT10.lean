/- What the cards of this seat rest on: the walks and plain laws, part 10. -/
import Derived.Test.YteondnhokgmakaaGreatDoorPT3
import Derived.Test.YteondnhokgmakaaGreatDoorPT4
import Derived.Test.YteondnhokgmakaaGreatDoorPT5
import Derived.Test.YteondnhokgmakaaGreatDoorPT6
import Derived.Test.YteondnhokgmakaaGreatDoorPT7
import Derived.Test.YteondnhokgmakaaGreatDoorPT8
import Derived.Test.YteondnhokgmakaaGreatDoorPT9
import Derived.Test.YteondnhokgmakaaGreatDoorProg
import Derived.Below
import Derived.Deep.Draws
import Derived.Deep.AppendLies
import Derived.Maps.AppendAt
import Derived.OwnWalk
import Derived.Laws.BytesArg
import Derived.Laws.MakeOwn
import Derived.Laws.OwnMore
import Derived.Deep.OwnRows
import Derived.Tactics
import Derived.Lib.ConvBytes
import Derived.Laws.Slices
import Derived.WalkKit
import Derived.KernelRfl
import Derived.RowKit3
import Derived.Deep.LoopGhost
import Derived.Deep.QuietTactic
import Derived.BigQuiet
import Derived.WideLaws
import Derived.Deep.DeepCutAuto
import Derived.Deep.CutBlock
import Derived.Deep.RegionHeld3
import Derived.Laws.Rows
import Derived.Lib.AppendStr
import Derived.ArgAppend
import Derived.Laws.IdiomCopy
import Derived.OrdersHeld
import Derived.Laws.BitsLemmas
import Derived.RowKit
import Derived.Test.YteondnhokgmakaaGreatDoorPT1
import Derived.Test.YteondnhokgmakaaGreatDoorPT2
import Derived.Lib.SlBytesRow


namespace Go.Proofs.YteondnhokgmakaaGreatDoor.E
open Go.RowKit Go.Proofs.YteondnhokgmakaaGreatDoorW.PrintWords Go.Proofs.YteondnhokgmakaaGreatDoorW.PrintLast Go.Proofs.YteondnhokgmakaaGreatDoor.XC
set_option linter.unusedVariables false
set_option linter.unusedSimpArgs false
theorem cut_of {s sep a b : ByteArray} {f : Bool} (h : Cut.f s sep = some (a, b, f)) : ∀ W, StdW W → Calls Tryz.prog 46 #[.string s, .string sep] W fun e w' => e = .returned (.tuple #[.string a, .string b, .bool f]) ∧ Below W.heap.size W w' := fun W hS => Cut.calls s sep a b f W hS h
theorem num_of {s : ByteArray} {v : Int} {f : Bool} (h : pnumber.f s = some (v, f)) : ∀ W, StdW W → Calls Tryz.prog 47 #[.string s] W fun e w' => e = .returned (.tuple #[.int .i64 v, .bool f]) ∧ Below W.heap.size W w' := fun W hS => pnumber.calls s v f W hS h
theorem right_of {al : Bool} {a b c d bi : Int} {su : ByteArray} {lo hi : Int} {r : Bool} (h : policy_right.f 1 al a b c d bi su lo hi = some r) : ∀ W, StdW W → Calls Tryz.prog 38 #[.agg (rc al a b c d bi su lo hi)] W fun e w' => e = .returned (.bool r) ∧ Below W.heap.size W w' := fun W hS => policy_right.calls 1 al a b c d bi su lo hi r W hS h
end Go.Proofs.YteondnhokgmakaaGreatDoor.E


namespace Go.Proofs.YteondnhokgmakaaGreatDoor.E
open Go.RowKit Go.Proofs.YteondnhokgmakaaGreatDoorW.PrintWords Go.Proofs.YteondnhokgmakaaGreatDoorW.PrintLast Go.Proofs.YteondnhokgmakaaGreatDoor.XC
set_option linter.unusedVariables false
set_option linter.unusedSimpArgs false
theorem cut_len1 (s sep : List UInt8) : (Lib.cut s sep).1.length ≤ s.length := by
  unfold Lib.cut
  split
  · simp only [List.length_take]; omega
  · exact Nat.le_refl _
theorem cut_len2 (s sep : List UInt8) : (Lib.cut s sep).2.1.length ≤ s.length := by
  unfold Lib.cut
  split
  · simp only [List.length_drop]; omega
  · exact Nat.zero_le _
theorem words_data (s : ByteArray) : (wordsS s).map (·.data.toList) = Pt.cutOn 32 s.data.toList := by
  unfold wordsS
  rw [Lib.splitB_data, ← Pt.splitK_cutOn]
  first | done | rfl
theorem words_size (s : ByteArray) (p : ByteArray) (h : p ∈ wordsS s) : p.size ≤ s.size := by
  have h1 := size_mem _ _ h
  rw [sumAt_eq, words_data, Pt.tot_cutOn] at h1
  have := Lib.size_eq s
  omega
def ruleC (al : Bool) (c2 c1 : List UInt8 × List UInt8 × Bool) (w1 : ByteArray) : Option S37 :=
  if c1.2.2 then match paRes ⟨c1.1.toArray⟩ with
    | .inl _ => none
    | .inr l => if numOkP c1.2.1 then some ⟨al, ⟨l.getD 0 0, l.getD 1 0, l.getD 2 0, l.getD 3 0⟩, atoiV c1.2.1, ⟨#[]⟩, atoiV c2.1, if c2.2.2 then atoiV c2.2.1 else atoiV c2.1⟩ else none
  else if w1.size = 0 then none else some ⟨al, ⟨0, 0, 0, 0⟩, 0, w1, atoiV c2.1, if c2.2.2 then atoiV c2.2.1 else atoiV c2.1⟩
def ruleOf (al : Bool) (w1 w2 : ByteArray) : Option S37 :=
  (ruleC al (Lib.cut w2.data.toList [45]) (Lib.cut w1.data.toList [47]) w1).filter fun r => numOkP (Lib.cut w2.data.toList [45]).1 && ((if (Lib.cut w2.data.toList [45]).2.2 then numOkP (Lib.cut w2.data.toList [45]).2.1 && (r.f5 != r.f4) else true) && rightB r)
def ppR (s : ByteArray) : Option S37 :=
  if 285 < s.size then none else match wordsS s with
    | [w0, w1, w2] => if w0.toList == [97, 108, 108, 111, 119] then ruleOf true w1 w2 else if w0.toList == [100, 101, 110, 121] then ruleOf false w1 w2 else none
    | _ => none
def ppVal : Option S37 → Value
  | none => zeroRule
  | some r => .tuple #[.agg (rc r.f0 r.f1.f0 r.f1.f1 r.f1.f2 r.f1.f3 r.f2 r.f3 r.f4 r.f5), .int .i64 0]
theorem ppVal_eq (fin : Bool) (r q : S37) (p : S37 → Bool) (hq : q = r) (h : p r = fin) : ppOut fin r.f0 r.f1.f0 r.f1.f1 r.f1.f2 r.f1.f3 r.f2 r.f3 r.f4 r.f5 = ppVal ((some q).filter p) := by
  subst hq
  rw [Option.filter_some, h]
  unfold ppOut
  cases fin <;> rfl
theorem paErr (s : ByteArray) (x : Int × Int) (hs : s.size ≤ 281474976710656) (hr : paRes s = .inl x) : ∀ W, StdW W →
    Calls Tryz.prog 48 #[.string s] W fun e w' => (∃ b, e = .returned (.tuple #[.agg #[.int .u8 0, .int .u8 0, .int .u8 0, .int .u8 0], .iface 102 (.pointer (some ⟨b, 0, none⟩))])) ∧ Below W.heap.size W w' := fun W hS => by
  obtain ⟨a, c⟩ := x
  have h := parseAddr_any s hs W hS
  rw [hr] at h
  exact h.mono (fun e w' ⟨hb, v, he, h⟩ => by
    obtain ⟨b, u, hv, -⟩ := h
    exact ⟨⟨b, by rw [he, hv]⟩, hb⟩)
theorem paOk (s : ByteArray) (l : List Int) (hs : s.size ≤ 281474976710656) (hr : paRes s = .inr l) : ∀ W, StdW W →
    Calls Tryz.prog 48 #[.string s] W fun e w' => e = .returned (.tuple #[.agg #[.int .u8 (l.getD 0 0), .int .u8 (l.getD 1 0), .int .u8 (l.getD 2 0), .int .u8 (l.getD 3 0)], .nilIface]) ∧ Below W.heap.size W w' := fun W hS => by
  have h := parseAddr_any s hs W hS
  rw [hr] at h
  exact h.mono (fun e w' ⟨hb, _, he⟩ => ⟨he, hb⟩)
theorem numOf (l : List UInt8) (hl : l.length ≤ 285) : ∀ W, StdW W → Calls Tryz.prog 47 #[.string ⟨l.toArray⟩] W fun e w' => e = .returned (.tuple #[.int .i64 (atoiV l), .bool (numOkP l)]) ∧ Below W.heap.size W w' :=
  num_of (by unfold pnumber.f; rw [if_pos (by show l.length ≤ _; omega)])
theorem cutOf (s : ByteArray) (c : UInt8) (x : List UInt8 × List UInt8 × Bool) (hx : Lib.cut s.data.toList [c] = x) (hs : s.size ≤ 285) : ∀ W, StdW W → Calls Tryz.prog 46 #[.string s, .string ⟨#[c]⟩] W fun e w' => e = .returned (.tuple #[.string ⟨x.1.toArray⟩, .string ⟨x.2.1.toArray⟩, .bool x.2.2]) ∧ Below W.heap.size W w' :=
  cut_of (by unfold Cut.f; rw [if_pos (by omega)]; subst hx; rfl)
theorem rightOf (r : S37) (hs : r.f3.size ≤ 285) : ∀ W, StdW W → Calls Tryz.prog 38 #[.agg (rc r.f0 r.f1.f0 r.f1.f1 r.f1.f2 r.f1.f3 r.f2 r.f3 r.f4 r.f5)] W fun e w' => e = .returned (.bool (rightB r)) ∧ Below W.heap.size W w' :=
  right_of (rightB_some 0 r (by omega))
theorem parse3w (s w0 w1 w2 : ByteArray) (al : Bool) (hs : s.size ≤ 285) (hw : wordsS s = [w0, w1, w2]) (hal : (w0.toList == [97, 108, 108, 111, 119]) = al) (hde : al = false → (w0.toList == [100, 101, 110, 121]) = true) (w : World) (hS : StdW w) :
    Calls Tryz.prog 21 #[.string s] w fun e w' => e = .returned (ppVal (ruleOf al w1 w2)) ∧ Below w.heap.size w w' := by
  have HSP := split_blanks s (by omega)
  have z1 : w1.size ≤ 285 := Nat.le_trans (words_size s w1 (by rw [hw]; simp)) hs
  have z2 : w2.size ≤ 285 := Nat.le_trans (words_size s w2 (by rw [hw]; simp)) hs
  rw [hw] at HSP
  obtain ⟨⟨low, high, two⟩, hc2⟩ : ∃ x, Lib.cut w2.data.toList [45] = x := ⟨_, rfl⟩
  obtain ⟨⟨net, nn, slash⟩, hc1⟩ : ∃ x, Lib.cut w1.data.toList [47] = x := ⟨_, rfl⟩
  have HC2 := cutOf w2 45 _ hc2 z2
  have HC1 := cutOf w1 47 _ hc1 z1
  have l1 : low.length ≤ 285 := by have := cut_len1 w2.data.toList [45]; rw [hc2, ← Lib.size_eq] at this; exact Nat.le_trans this z2
  have l2 : high.length ≤ 285 := by have := cut_len2 w2.data.toList [45]; rw [hc2, ← Lib.size_eq] at this; exact Nat.le_trans this z2
  have l3 : net.length ≤ 285 := by have := cut_len1 w1.data.toList [47]; rw [hc1, ← Lib.size_eq] at this; exact Nat.le_trans this z1
  have l4 : nn.length ≤ 285 := by have := cut_len2 w1.data.toList [47]; rw [hc1, ← Lib.size_eq] at this; exact Nat.le_trans this z1
  have HN1 := numOf low l1
  have HN2 := numOf high l2
  have HN3 := numOf nn l4
  have hw1e : w1.toList.isEmpty = !decide (w1.size ≠ 0) := by
    rw [size_zero]; by_cases h : w1.size = 0 <;> simp [h]
  unfold ruleOf ruleC
  rw [hc2, hc1]
  cases two <;> cases slash
  · by_cases h0 : w1.size = 0
    · have := pp_001 s w0 w1 w2 ⟨low.toArray⟩ ⟨high.toArray⟩ ⟨net.toArray⟩ ⟨nn.toArray⟩ al (numOkP low) _ (atoiV low) _ _ hs (by omega) HSP rfl rfl rfl rfl hal hde HC2 HN1 HC1 hw1e (rightOf ⟨al, ⟨0, 0, 0, 0⟩, 0, w1, atoiV low, atoiV low⟩ z1) w hS
      refine this.mono fun e w' ⟨he, hb⟩ => ⟨he.trans ?_, hb⟩
      simp [h0, ppOut, ppVal]
    · have := pp_001 s w0 w1 w2 ⟨low.toArray⟩ ⟨high.toArray⟩ ⟨net.toArray⟩ ⟨nn.toArray⟩ al (numOkP low) _ (atoiV low) _ _ hs (by omega) HSP rfl rfl rfl rfl hal hde HC2 HN1 HC1 hw1e (rightOf ⟨al, ⟨0, 0, 0, 0⟩, 0, w1, atoiV low, atoiV low⟩ z1) w hS
      refine this.mono fun e w' ⟨he, hb⟩ => ⟨he.trans (congrArg Ending.returned ?_), hb⟩
      rw [if_neg (by simp), if_neg h0]
      refine ppVal_eq _ ⟨al, ⟨0, 0, 0, 0⟩, 0, w1, atoiV low, atoiV low⟩ _ _ rfl ?_
      simp [h0]
  · rcases hr : paRes ⟨net.toArray⟩ with x | l
    · have := pp_010 s w0 w1 w2 ⟨low.toArray⟩ ⟨high.toArray⟩ ⟨net.toArray⟩ ⟨nn.toArray⟩ al (numOkP low) _ (atoiV low) (atoiV nn) (numOkP nn) _ hs (by omega) HSP rfl rfl rfl rfl hal hde HC2 HN1 HC1 HN3 (paErr _ x (by show net.length ≤ _; omega) hr) (rightOf ⟨al, ⟨0, 0, 0, 0⟩, atoiV nn, ⟨#[]⟩, atoiV low, atoiV low⟩ (show (0 : Nat) ≤ 285 by decide)) w hS
      refine this.mono fun e w' ⟨he, hb⟩ => ⟨he.trans ?_, hb⟩
      simp [ppOut, ppVal, hr]
    · have := pp_011 s w0 w1 w2 ⟨low.toArray⟩ ⟨high.toArray⟩ ⟨net.toArray⟩ ⟨nn.toArray⟩ al (numOkP low) _ (atoiV low) (atoiV nn) (numOkP nn) _ _ _ _ _ hs (by omega) HSP rfl rfl rfl rfl hal hde HC2 HN1 HC1 HN3 (paOk _ l (by show net.length ≤ _; omega) hr) (rightOf ⟨al, ⟨l.getD 0 0, l.getD 1 0, l.getD 2 0, l.getD 3 0⟩, atoiV nn, ⟨#[]⟩, atoiV low, atoiV low⟩ (show (0 : Nat) ≤ 285 by decide)) w hS
      refine this.mono fun e w' ⟨he, hb⟩ => ⟨he.trans (congrArg Ending.returned ?_), hb⟩
      cases hn : numOkP nn
      · simp [ppOut, ppVal]
      · rw [if_pos (by simp)]
        simp only [if_true]
        refine ppVal_eq _ ⟨al, ⟨l.getD 0 0, l.getD 1 0, l.getD 2 0, l.getD 3 0⟩, atoiV nn, ⟨#[]⟩, atoiV low, atoiV low⟩ _ _ rfl ?_
        simp
  · by_cases h0 : w1.size = 0
    · have := pp_101 s w0 w1 w2 ⟨low.toArray⟩ ⟨high.toArray⟩ ⟨net.toArray⟩ ⟨nn.toArray⟩ al (numOkP low) _ (atoiV low) (atoiV high) (numOkP high) _ _ _ hs (by omega) HSP rfl rfl rfl rfl hal hde HC2 HN1 HC1 HN2 rfl hw1e (rightOf ⟨al, ⟨0, 0, 0, 0⟩, 0, w1, atoiV low, atoiV high⟩ z1) w hS
      refine this.mono fun e w' ⟨he, hb⟩ => ⟨he.trans ?_, hb⟩
      simp [h0, ppOut, ppVal]
    · have := pp_101 s w0 w1 w2 ⟨low.toArray⟩ ⟨high.toArray⟩ ⟨net.toArray⟩ ⟨nn.toArray⟩ al (numOkP low) _ (atoiV low) (atoiV high) (numOkP high) _ _ _ hs (by omega) HSP rfl rfl rfl rfl hal hde HC2 HN1 HC1 HN2 rfl hw1e (rightOf ⟨al, ⟨0, 0, 0, 0⟩, 0, w1, atoiV low, atoiV high⟩ z1) w hS
      refine this.mono fun e w' ⟨he, hb⟩ => ⟨he.trans (congrArg Ending.returned ?_), hb⟩
      rw [if_neg (by simp), if_neg h0]
      refine ppVal_eq _ ⟨al, ⟨0, 0, 0, 0⟩, 0, w1, atoiV low, atoiV high⟩ _ _ rfl ?_
      simp [h0]
  · rcases hr : paRes ⟨net.toArray⟩ with x | l
    · have := pp_110 s w0 w1 w2 ⟨low.toArray⟩ ⟨high.toArray⟩ ⟨net.toArray⟩ ⟨nn.toArray⟩ al (numOkP low) _ (atoiV low) (atoiV high) (numOkP high) _ (atoiV nn) (numOkP nn) _ hs (by omega) HSP rfl rfl rfl rfl hal hde HC2 HN1 HC1 HN2 rfl HN3 (paErr _ x (by show net.length ≤ _; omega) hr) (rightOf ⟨al, ⟨0, 0, 0, 0⟩, atoiV nn, ⟨#[]⟩, atoiV low, atoiV high⟩ (show (0 : Nat) ≤ 285 by decide)) w hS
      refine this.mono fun e w' ⟨he, hb⟩ => ⟨he.trans ?_, hb⟩
      simp [ppOut, ppVal, hr]
    · have := pp_111 s w0 w1 w2 ⟨low.toArray⟩ ⟨high.toArray⟩ ⟨net.toArray⟩ ⟨nn.toArray⟩ al (numOkP low) _ (atoiV low) (atoiV high) (numOkP high) _ (atoiV nn) (numOkP nn) _ _ _ _ _ hs (by omega) HSP rfl rfl rfl rfl hal hde HC2 HN1 HC1 HN2 rfl HN3 (paOk _ l (by show net.length ≤ _; omega) hr) (rightOf ⟨al, ⟨l.getD 0 0, l.getD 1 0, l.getD 2 0, l.getD 3 0⟩, atoiV nn, ⟨#[]⟩, atoiV low, atoiV high⟩ (show (0 : Nat) ≤ 285 by decide)) w hS
      refine this.mono fun e w' ⟨he, hb⟩ => ⟨he.trans (congrArg Ending.returned ?_), hb⟩
      cases hn : numOkP nn
      · simp [ppOut, ppVal]
      · rw [if_pos (by simp)]
        simp only [if_true]
        refine ppVal_eq _ ⟨al, ⟨l.getD 0 0, l.getD 1 0, l.getD 2 0, l.getD 3 0⟩, atoiV nn, ⟨#[]⟩, atoiV low, atoiV high⟩ _ _ rfl ?_
        simp
theorem pparse_any (s : ByteArray) (hs : s.size < 4294967281) (w : World) (hS : StdW w) :
    Calls Tryz.prog 21 #[.string s] w fun e w' => e = .returned (ppVal (ppR s)) ∧ Below w.heap.size w w' := by
  unfold ppR
  by_cases h1 : 285 < s.size
  · rw [if_pos h1]
    exact pp_head s hs (.inl h1) w hS
  · rw [if_neg h1]
    split
    · rename_i w0 w1 w2 hw
      split
      · rename_i ha
        exact parse3w s w0 w1 w2 true (by omega) hw ha (fun h => by cases h) w hS
      · rename_i ha
        have ha' : (w0.toList == [97, 108, 108, 111, 119]) = false := by simpa using ha
        split
        · rename_i hd
          exact parse3w s w0 w1 w2 false (by omega) hw ha' (fun _ => hd) w hS
        · rename_i hd
          have hd' : (w0.toList == [100, 101, 110, 121]) = false := by simpa using hd
          exact pp_head s hs (.inr (.inr ⟨by rw [hw]; exact Nat.succ_pos 2, by simp only [hw, List.getElem_cons_zero]; exact ⟨ha', hd'⟩⟩)) w hS
    · rename_i hw
      refine pp_head s hs (.inr (.inl fun h3 => ?_)) w hS
      match hl : wordsS s, h3 with
      | [a, b, c], _ => exact hw _ _ _ hl
def pParse.f (s : ByteArray) : Option (Bool × Int × Int × Int × Int × Int × ByteArray × Int × Int × Int) :=
  if s.size < 4294967281 then some (match ppR s with
    | none => (false, 0, 0, 0, 0, 0, ⟨#[]⟩, 0, 0, 120)
    | some r => (r.f0, r.f1.f0, r.f1.f1, r.f1.f2, r.f1.f3, r.f2, r.f3, r.f4, r.f5, 0)) else none
theorem pParse.calls (s : ByteArray) (r1 : Bool) (r2 r3 r4 r5 r6 : Int) (r7 : ByteArray) (r8 r9 r10 : Int) (w : World) (hS_ : StdW w) (h : pParse.f s = some (r1, r2, r3, r4, r5, r6, r7, r8, r9, r10)) :
    Calls Tryz.prog 21 #[.string s] w fun e w' => e = .returned (.tuple #[.agg #[.bool r1, .int .u8 r2, .int .u8 r3, .int .u8 r4, .int .u8 r5, .int .i64 r6, .string r7, .int .i64 r8, .int .i64 r9], .int .i64 r10]) ∧ Below w.heap.size w w' := by
  unfold pParse.f at h
  split at h
  · rename_i hs
    have h := Option.some.inj h
    refine (pparse_any s hs w hS_).mono fun e w' ⟨he, hb⟩ => ⟨he.trans (congrArg Ending.returned ?_), hb⟩
    split at h
    · rename_i hr; rw [hr]; cases h; rfl
    · rename_i r hr; rw [hr]; cases h; rfl
  · cases h
end Go.Proofs.YteondnhokgmakaaGreatDoor.E


namespace Go.Proofs.YteondnhokgmakaaGreatDoor.E
open Go.RowKit Go.Proofs.YteondnhokgmakaaGreatDoorW.PrintWords Go.Proofs.YteondnhokgmakaaGreatDoorW.PrintLast Go.Proofs.YteondnhokgmakaaGreatDoor.XC
set_option linter.unusedVariables false
set_option linter.unusedSimpArgs false
def ruleT1 : ByteArray := ⟨#[100, 101, 110, 121, 32, 49, 48, 46, 48, 46, 48, 46, 48, 47, 56, 32, 49, 45, 54, 53, 53, 51, 53]⟩
def ruleT2 : ByteArray := ⟨#[97, 108, 108, 111, 119, 32, 101, 120, 97, 109, 112, 108, 101, 46, 99, 111, 109, 32, 52, 52, 51]⟩
def ruleT3 : ByteArray := ⟨#[97, 108, 108, 111, 119, 32, 49, 48, 46, 48, 46, 48, 46, 49, 47, 56, 32, 56, 48]⟩
def exS : ByteArray := ⟨#[101, 120, 97, 109, 112, 108, 101, 46, 99, 111, 109]⟩
theorem ppR1 : ppR ruleT1 = some ⟨false, ⟨10, 0, 0, 0⟩, 8, ⟨#[]⟩, 1, 65535⟩ := by kernel_rfl
theorem ppR2 : ppR ruleT2 = some ⟨true, ⟨0, 0, 0, 0⟩, 0, exS, 443, 443⟩ := by kernel_rfl
theorem ppR3 : ppR ruleT3 = none := by kernel_rfl
theorem parse1 (w : World) (hS : StdW w) : Calls Tryz.prog 21 #[.string ruleT1] w fun e w' => e = .returned (.tuple #[.agg (rc false 10 0 0 0 8 ⟨#[]⟩ 1 65535), .int .i64 0]) ∧ Below w.heap.size w w' := by
  have h := pparse_any ruleT1 (by decide) w hS
  rw [ppR1] at h
  exact h
theorem parse2 (w : World) (hS : StdW w) : Calls Tryz.prog 21 #[.string ruleT2] w fun e w' => e = .returned (.tuple #[.agg (rc true 0 0 0 0 0 exS 443 443), .int .i64 0]) ∧ Below w.heap.size w w' := by
  have h := pparse_any ruleT2 (by decide) w hS
  rw [ppR2] at h
  exact h
theorem parse3 (w : World) (hS : StdW w) : Calls Tryz.prog 21 #[.string ruleT3] w fun e w' => e = .returned zeroRule ∧ Below w.heap.size w w' := by
  have h := pparse_any ruleT3 (by decide) w hS
  rw [ppR3] at h
  exact h
end Go.Proofs.YteondnhokgmakaaGreatDoor.E


namespace Go.Proofs.YteondnhokgmakaaGreatDoor.E
open Go.RowKit Go.Proofs.YteondnhokgmakaaGreatDoorW.PrintWords Go.Proofs.YteondnhokgmakaaGreatDoorW.PrintLast Go.Proofs.YteondnhokgmakaaGreatDoor.XC
set_option linter.unusedVariables false
set_option linter.unusedSimpArgs false
def sized (l : List S37) : Bool := l.all fun r => decide (r.f3.size ≤ 281474976710656)
theorem sized_mem {l : List S37} (h : sized l = true) : ∀ r ∈ l, r.f3.size ≤ 281474976710656 := fun r hr => of_decide_eq_true (List.all_eq_true.1 h r hr)
def Which.f (l : List S37) (a b c d : Int) (n : ByteArray) (po : Int) : Option Int :=
  if ((0 ≤ a ∧ a ≤ 255) ∧ (0 ≤ b ∧ b ≤ 255) ∧ (0 ≤ c ∧ c ≤ 255) ∧ (0 ≤ d ∧ d ≤ 255) ∧ n.size ≤ 281474976710656) ∧ sized l = true then some (whichB l a b c d n po) else none
theorem Which.calls (A0 : Option Addr) (c0 : Nat) (l0 : List S37) (a b c d : Int) (n : ByteArray) (po : Int) (r : Int) (w : World) (hr0 : Kd.C k37 w A0 l0.length l0) (hc0 : l0.length ≤ c0) (hS_ : StdW w) (h : Which.f l0 a b c d n po = some r) :
    Calls Tryz.prog 13 #[.slice A0 l0.length c0, .agg #[.int .u8 a, .int .u8 b, .int .u8 c, .int .u8 d, .string n, .int .i64 po]] w fun e w' => e = .returned (.int .i64 r) ∧ Below w.heap.size w w' := by
  unfold Which.f at h
  split at h
  · rename_i hc
    obtain rfl := Option.some.inj h
    have hz := sized_mem hc.2
    have HCK : ∀ W, Below w.heap.size w W → Calls Tryz.prog 11 #[.slice A0 l0.length c0] W fun e w' => e = .returned (.int .i64 (checkL l0)) ∧ Below W.heap.size W w' := fun W hb => policy_Check.calls 67 A0 c0 l0 _ W (Kd.C_below hr0 hb) hc0 (StdW.below hS_ hb) (checkL_some l0 hz)
    have HPD : ∀ W, StdW W → Calls Tryz.prog 34 #[.agg (dc a b c d n po)] W fun e w' => e = .returned (.string (printDestB a b c d n po)) ∧ Below W.heap.size W w' := fun W hW => hPrintDest.calls a b c d n po _ W hW (by unfold hPrintDest.f; rw [if_pos hc.1])
    unfold whichB
    by_cases h1 : checkL l0 = 0
    · rw [if_pos h1]
      cases h2 : (printDestB a b c d n po).toList.isEmpty
      · have hl : l0.length ≤ 64 := by
          unfold checkL at h1
          by_cases hh : 64 < l0.length
          · rw [if_pos hh] at h1; cases h1
          · omega
        rw [if_neg (by simp)]
        exact which_go A0 c0 l0 a b c d n po hl hc.1.2.2.2.2 h1 h2 w hS_ hr0 HCK HPD
      · rw [if_pos rfl]
        exact which_no A0 c0 l0 a b c d n po (.inr h2) w hS_ HCK HPD
    · rw [if_neg h1]
      exact which_no A0 c0 l0 a b c d n po (.inl h1) w hS_ HCK HPD
  · cases h
end Go.Proofs.YteondnhokgmakaaGreatDoor.E


namespace Go.Proofs.YteondnhokgmakaaGreatDoor.XM
open Go.Proofs.YteondnhokgmakaaGreatDoor.XC
open Go.RowKit Go.Proofs.YteondnhokgmakaaGreatDoorW.PrintWords Go.Proofs.YteondnhokgmakaaGreatDoorW.PrintLast Go.Proofs.YteondnhokgmakaaGreatDoorW.PrintMore
attribute [local go_sem] max2_int min2_int max_two min_two max_three min_three max_four min_four
set_option linter.unusedVariables false
set_option linter.unusedSimpArgs false
end Go.Proofs.YteondnhokgmakaaGreatDoor.XM


namespace Go.Proofs.YteondnhokgmakaaGreatDoor.XM
open Go.Proofs.YteondnhokgmakaaGreatDoor.XC
open Go.RowKit Go.Proofs.YteondnhokgmakaaGreatDoorW.PrintWords Go.Proofs.YteondnhokgmakaaGreatDoorW.PrintLast Go.Proofs.YteondnhokgmakaaGreatDoorW.PrintMore
attribute [local go_sem] max2_int min2_int max_two min_two max_three min_three max_four min_four
set_option linter.unusedVariables false
set_option linter.unusedSimpArgs false
def policy_May.f (l0 : List (S37)) (a1_0 : Int) (a1_1 : Int) (a1_2 : Int) (a1_3 : Int) (a1_4 : ByteArray) (a1_5 : Int) : Option (Bool) := (E.Which.f l0 a1_0 a1_1 a1_2 a1_3 a1_4 a1_5).bind fun t102 => (if t102 ≥ 0 then (if 0 ≤ t102 then (if t102 < (l0.length : Int) then (some ((rd_T37 l0 t102).f0)) else (none)) else (none)) else (some false))
set_option maxHeartbeats 8000000 in
set_option maxRecDepth 100000 in
theorem policy_May.calls (A0 : Option Addr) (c0 : Nat) (l0 : List (S37)) (a1_0 : Int) (a1_1 : Int) (a1_2 : Int) (a1_3 : Int) (a1_4 : ByteArray) (a1_5 : Int) (r : Bool) (w : World) (hr0 : Kd.C k37 w A0 l0.length l0) (hc0 : l0.length ≤ c0) (hS_ : StdW w) (h : policy_May.f l0 a1_0 a1_1 a1_2 a1_3 a1_4 a1_5 = some r) :
  Calls Tryz.prog 15 #[.slice A0 l0.length c0, .agg #[.int .u8 a1_0, .int .u8 a1_1, .int .u8 a1_2, .int .u8 a1_3, .string a1_4, .int .i64 a1_5]] w fun e w' => e = .returned (.bool r) ∧ Below w.heap.size w w' := by
 have hu28 := Tryz.underlying28
 have HR0 := Aside0.mk hr0
 have HC0 := Aside0.mk hc0
 clear hr0 hc0
 have HS_ := Aside0.mk hS_
 clear hS_
 have HB := Aside0.mk (Below.refl w.heap.size w)
 have H : ((E.Which.f l0 a1_0 a1_1 a1_2 a1_3 a1_4 a1_5).bind fun t102 => (if t102 ≥ 0 then (if 0 ≤ t102 then (if t102 < (l0.length : Int) then (some ((rd_T37 l0 t102).f0)) else (none)) else (none)) else (some false))) = some r := h
 clear h
 replace H := Option.bind_eq_some_iff.mp H
 obtain ⟨t102, A30, H⟩ := H
 replace H : (if t102 ≥ 0 then (if 0 ≤ t102 then (if t102 < (l0.length : Int) then (some ((rd_T37 l0 t102).f0)) else (none)) else (none)) else (some false)) = some r := H
 have A3 := Aside0.mk A30
 clear A30
 by_cases c4 : t102 ≥ 0
 ·rw [if_pos c4] at H
  have c4b0 : decide (0 ≤ t102) = true := decide_eq_true c4
  clear c4
  by_cases c5 : 0 ≤ t102
  ·rw [if_pos c5] at H
   have c5b0 : decide (0 ≤ t102) = true := decide_eq_true c5
   clear c5
   by_cases c6 : t102 < (l0.length : Int)
   ·rw [if_pos c6] at H
    have c6b0 : decide (t102 < (l0.length : Int)) = true := decide_eq_true c6
    clear c6
    obtain rfl := Option.some.inj H
    go_enter Tryz.func15, Tryz.ntmps15
    go_wp2_with (first | ((with_reducible refine gate_dst (N := 3) rfl ?_); refine box_event ?hg (N := 3) ?hd (cs := #[.int .u8 a1_0, .int .u8 a1_1, .int .u8 a1_2, .int .u8 a1_3, .string a1_4, .int .i64 a1_5]) (t := 28) ?hr ?_; (case hd => rfl); (case hg => rfl); (case hr => first | (go_simp; done) | (go_simp; rfl)); intro gb101 hg w7 hbox hb; have n0_ := Aside0.mk (below_step (by repeat (first | (with_reducible first | exact HB.out | apply below_alloc | apply pw_below_drewN | apply below_drew1) | exact HB.out)) hb); have n1_ := Aside0.mk (hbox); have n2_ := Aside0.mk ((by rw [hg]; exact (below_size (by repeat (first | (with_reducible first | exact HB.out | apply below_alloc | apply pw_below_drewN | apply below_drew1) | exact HB.out))) : w.heap.size ≤ gb101)); have n3_ := Aside0.mk ((by rw [hg]; exact (below_size (by repeat (first | (with_reducible first | exact HB.out | apply below_alloc | apply pw_below_drewN | apply below_drew1) | exact HB.out))) : w.heap.size ≤ gb101)); clear HB; have HB := n0_; have BK101 := n1_; have GW101 := n2_; have GE101 := n3_; clear n0_ n1_ n2_ n3_; clear hb hbox hg; have hcz8_0 : w7.cell? ⟨gb101, 0, none⟩ = some (.int .u8 a1_0) := (blk_cell BK101.out 0).trans rfl; have hcz8_1 : w7.cell? ⟨gb101, 1, none⟩ = some (.int .u8 a1_1) := (blk_cell BK101.out 1).trans rfl; have hcz8_2 : w7.cell? ⟨gb101, 2, none⟩ = some (.int .u8 a1_2) := (blk_cell BK101.out 2).trans rfl; have hcz8_3 : w7.cell? ⟨gb101, 3, none⟩ = some (.int .u8 a1_3) := (blk_cell BK101.out 3).trans rfl; have hcz8_4 : w7.cell? ⟨gb101, 4, none⟩ = some (.string a1_4) := (blk_cell BK101.out 4).trans rfl; have hcz8_5 : w7.cell? ⟨gb101, 5, none⟩ = some (.int .i64 a1_5) := (blk_cell BK101.out 5).trans rfl; have hfz8_0 := blk_frozen BK101.out 0; have hfz8_1 := blk_frozen BK101.out 1; have hfz8_2 := blk_frozen BK101.out 2; have hfz8_3 := blk_frozen BK101.out 3; have hfz8_4 := blk_frozen BK101.out 4; have hfz8_5 := blk_frozen BK101.out 5) | ((with_reducible refine gate_callee (f := 13) rfl ?_); refine goesL_ (some 8) rfl rfl Tryz.func13 (by kernel_rfl) rfl #[.slice A0 l0.length c0, .agg #[.int .u8 a1_0, .int .u8 a1_1, .int .u8 a1_2, .int .u8 a1_3, .string a1_4, .int .i64 a1_5]] rfl (by (try simp only [List.map_toArray, List.map_cons, List.map_nil]); first | done | rfl | (simp only [List.length_drop, List.length_take]; rfl)) ?_; (with_reducible refine (E.Which.calls _ _ l0 a1_0 a1_1 a1_2 a1_3 a1_4 a1_5 t102 _ ?side1 ?side2 ?side3 A3.out).mono ?_); (case side1 => repeat (first | exact (Kd.C_below HR0.out HB.out) | (with_reducible refine Kd.C_alloc ?_ _) | (with_reducible refine Kd.C_drewN ?_ _) | (with_reducible refine Kd.C_drew ?_))); (case side2 => exact HC0.out); (case side3 => exact StdW.below HS_.out (by repeat (first | (with_reducible first | exact HB.out | apply below_alloc | apply pw_below_drewN | apply below_drew1 | refine below_set ?_ GE101.out) | exact HB.out))); rintro e w9 ⟨rfl, hb⟩; refine ⟨_, rfl, ?_⟩; have n0_ := Aside0.mk (blk_below (g := gb101) (o := .cells #[.int .u8 a1_0, .int .u8 a1_1, .int .u8 a1_2, .int .u8 a1_3, .string a1_4, .int .i64 a1_5] 28 (0, 0)) (by (with_reducible repeat (first | refine blk_drewN ?_ _ | refine blk_drew ?_ | refine blk_alloc ?_ _)); exact BK101.out) hb); have n1_ := Aside0.mk (below_step (by repeat (first | (with_reducible first | exact HB.out | apply below_alloc | apply pw_below_drewN | apply below_drew1 | refine below_set ?_ GE101.out) | exact HB.out)) hb); clear BK101; clear HB; have BK101 := n0_; have HB := n1_; clear n0_ n1_; (try clear hb); (try clear hb2); (try clear hk); (try clear hi); have p103 : 0 ≤ (t102 : Int) := of_decide_eq_true (by first | (with_reducible assumption) | assumption); have q103 : t102 < (l0.length : Int) := of_decide_eq_true (by first | (with_reducible assumption) | assumption); obtain ⟨ad103, e103, hx103_0, hx103_1, hx103_2, hx103_3, hx103_4, hx103_5, hx103_6, hx103_7, hx103_8⟩ := at_T37 HR0.out t102 p103 q103; cases e103; replace hx103_0 := (HB.out.cell (World.block_lt_of_cell? w _ hx103_0)).trans hx103_0; replace hx103_1 := (HB.out.cell (World.block_lt_of_cell? w _ hx103_1)).trans hx103_1; replace hx103_2 := (HB.out.cell (World.block_lt_of_cell? w _ hx103_2)).trans hx103_2; replace hx103_3 := (HB.out.cell (World.block_lt_of_cell? w _ hx103_3)).trans hx103_3; replace hx103_4 := (HB.out.cell (World.block_lt_of_cell? w _ hx103_4)).trans hx103_4; replace hx103_5 := (HB.out.cell (World.block_lt_of_cell? w _ hx103_5)).trans hx103_5; replace hx103_6 := (HB.out.cell (World.block_lt_of_cell? w _ hx103_6)).trans hx103_6; replace hx103_7 := (HB.out.cell (World.block_lt_of_cell? w _ hx103_7)).trans hx103_7; replace hx103_8 := (HB.out.cell (World.block_lt_of_cell? w _ hx103_8)).trans hx103_8; replace p103 := eq_true p103; replace q103 := eq_true q103))
    go_ret
    exact ⟨by first | rfl | (simp [errW_none, errW_some] <;> rfl) | (simp [*, errW_none, errW_some] <;> rfl), by repeat (first | (with_reducible first | exact HB.out | apply below_alloc | apply pw_below_drewN | apply below_drew1 | refine below_set ?_ GE101.out) | exact HB.out)⟩
   ·rw [if_neg c6] at H
    exact absurd H (by simp)
  ·rw [if_neg c5] at H
   exact absurd H (by simp)
 ·rw [if_neg c4] at H
  have c4b0 : decide (0 ≤ t102) = false := decide_eq_false c4
  clear c4
  obtain rfl := Option.some.inj H
  go_enter Tryz.func15, Tryz.ntmps15
  go_wp2_with (first | ((with_reducible refine gate_dst (N := 3) rfl ?_); refine box_event ?hg (N := 3) ?hd (cs := #[.int .u8 a1_0, .int .u8 a1_1, .int .u8 a1_2, .int .u8 a1_3, .string a1_4, .int .i64 a1_5]) (t := 28) ?hr ?_; (case hd => rfl); (case hg => rfl); (case hr => first | (go_simp; done) | (go_simp; rfl)); intro gb101 hg w10 hbox hb; have n0_ := Aside0.mk (below_step (by repeat (first | (with_reducible first | exact HB.out | apply below_alloc | apply pw_below_drewN | apply below_drew1) | exact HB.out)) hb); have n1_ := Aside0.mk (hbox); have n2_ := Aside0.mk ((by rw [hg]; exact (below_size (by repeat (first | (with_reducible first | exact HB.out | apply below_alloc | apply pw_below_drewN | apply below_drew1) | exact HB.out))) : w.heap.size ≤ gb101)); have n3_ := Aside0.mk ((by rw [hg]; exact (below_size (by repeat (first | (with_reducible first | exact HB.out | apply below_alloc | apply pw_below_drewN | apply below_drew1) | exact HB.out))) : w.heap.size ≤ gb101)); clear HB; have HB := n0_; have BK101 := n1_; have GW101 := n2_; have GE101 := n3_; clear n0_ n1_ n2_ n3_; clear hb hbox hg; have hcz11_0 : w10.cell? ⟨gb101, 0, none⟩ = some (.int .u8 a1_0) := (blk_cell BK101.out 0).trans rfl; have hcz11_1 : w10.cell? ⟨gb101, 1, none⟩ = some (.int .u8 a1_1) := (blk_cell BK101.out 1).trans rfl; have hcz11_2 : w10.cell? ⟨gb101, 2, none⟩ = some (.int .u8 a1_2) := (blk_cell BK101.out 2).trans rfl; have hcz11_3 : w10.cell? ⟨gb101, 3, none⟩ = some (.int .u8 a1_3) := (blk_cell BK101.out 3).trans rfl; have hcz11_4 : w10.cell? ⟨gb101, 4, none⟩ = some (.string a1_4) := (blk_cell BK101.out 4).trans rfl; have hcz11_5 : w10.cell? ⟨gb101, 5, none⟩ = some (.int .i64 a1_5) := (blk_cell BK101.out 5).trans rfl; have hfz11_0 := blk_frozen BK101.out 0; have hfz11_1 := blk_frozen BK101.out 1; have hfz11_2 := blk_frozen BK101.out 2; have hfz11_3 := blk_frozen BK101.out 3; have hfz11_4 := blk_frozen BK101.out 4; have hfz11_5 := blk_frozen BK101.out 5) | ((with_reducible refine gate_callee (f := 13) rfl ?_); refine goesL_ (some 8) rfl rfl Tryz.func13 (by kernel_rfl) rfl #[.slice A0 l0.length c0, .agg #[.int .u8 a1_0, .int .u8 a1_1, .int .u8 a1_2, .int .u8 a1_3, .string a1_4, .int .i64 a1_5]] rfl (by (try simp only [List.map_toArray, List.map_cons, List.map_nil]); first | done | rfl | (simp only [List.length_drop, List.length_take]; rfl)) ?_; (with_reducible refine (E.Which.calls _ _ l0 a1_0 a1_1 a1_2 a1_3 a1_4 a1_5 t102 _ ?side1 ?side2 ?side3 A3.out).mono ?_); (case side1 => repeat (first | exact (Kd.C_below HR0.out HB.out) | (with_reducible refine Kd.C_alloc ?_ _) | (with_reducible refine Kd.C_drewN ?_ _) | (with_reducible refine Kd.C_drew ?_))); (case side2 => exact HC0.out); (case side3 => exact StdW.below HS_.out (by repeat (first | (with_reducible first | exact HB.out | apply below_alloc | apply pw_below_drewN | apply below_drew1 | refine below_set ?_ GE101.out) | exact HB.out))); rintro e w12 ⟨rfl, hb⟩; refine ⟨_, rfl, ?_⟩; have n0_ := Aside0.mk (blk_below (g := gb101) (o := .cells #[.int .u8 a1_0, .int .u8 a1_1, .int .u8 a1_2, .int .u8 a1_3, .string a1_4, .int .i64 a1_5] 28 (0, 0)) (by (with_reducible repeat (first | refine blk_drewN ?_ _ | refine blk_drew ?_ | refine blk_alloc ?_ _)); exact BK101.out) hb); have n1_ := Aside0.mk (below_step (by repeat (first | (with_reducible first | exact HB.out | apply below_alloc | apply pw_below_drewN | apply below_drew1 | refine below_set ?_ GE101.out) | exact HB.out)) hb); clear BK101; clear HB; have BK101 := n0_; have HB := n1_; clear n0_ n1_; (try clear hb); (try clear hb2); (try clear hk); (try clear hi)))
  go_ret
  exact ⟨by first | rfl | (simp [errW_none, errW_some] <;> rfl) | (simp [*, errW_none, errW_some] <;> rfl), by repeat (first | (with_reducible first | exact HB.out | apply below_alloc | apply pw_below_drewN | apply below_drew1 | refine below_set ?_ GE101.out) | exact HB.out)⟩
end Go.Proofs.YteondnhokgmakaaGreatDoor.XM


namespace Go.Proofs.YteondnhokgmakaaGreatDoor.XM
open Go.Proofs.YteondnhokgmakaaGreatDoor.XC
open Go.RowKit Go.Proofs.YteondnhokgmakaaGreatDoorW.PrintWords Go.Proofs.YteondnhokgmakaaGreatDoorW.PrintLast Go.Proofs.YteondnhokgmakaaGreatDoorW.PrintMore
attribute [local go_sem] max2_int min2_int max_two min_two max_three min_three max_four min_four
set_option linter.unusedVariables false
set_option linter.unusedSimpArgs false
end Go.Proofs.YteondnhokgmakaaGreatDoor.XM


namespace Go.Proofs.YteondnhokgmakaaGreatDoor.E
open Go.RowKit Go.Proofs.YteondnhokgmakaaGreatDoorW.PrintWords Go.Proofs.YteondnhokgmakaaGreatDoorW.PrintLast Go.Proofs.YteondnhokgmakaaGreatDoor.XC Go.Proofs.YteondnhokgmakaaGreatDoor.XM
set_option linter.unusedVariables false
set_option linter.unusedSimpArgs false
def aexS : ByteArray := ⟨#[97, 46, 101, 120, 97, 109, 112, 108, 101, 46, 99, 111, 109]⟩
def exRules : List S37 := [⟨false, ⟨10, 0, 0, 0⟩, 8, ⟨#[]⟩, 1, 65535⟩, ⟨true, ⟨0, 0, 0, 0⟩, 0, exS, 443, 443⟩]
theorem may1 : policy_May.f exRules 0 0 0 0 aexS 443 = some true := by kernel_rfl
theorem may2 : policy_May.f exRules 0 0 0 0 exS 80 = some false := by kernel_rfl
theorem may3 : policy_May.f exRules 10 0 0 0 ⟨#[]⟩ 443 = some false := by kernel_rfl
def exCells : Array Value := #[.bool false, .int .u8 10, .int .u8 0, .int .u8 0, .int .u8 0, .int .i64 8, .string ⟨#[]⟩, .int .i64 1, .int .i64 65535, .bool true, .int .u8 0, .int .u8 0, .int .u8 0, .int .u8 0, .int .i64 0, .string exS, .int .i64 443, .int .i64 443]
theorem exRules_lie {w : World} {R : Nat} {T : TypeId} (h : Blk w R exCells T) : Kd.C k37 w (some ⟨R, 0, none⟩) exRules.length exRules := by
  refine ⟨rfl, by decide, fun _ => ⟨_, rfl, fun j p hj => ?_⟩⟩
  match j, hj with
  | 0, hj =>
    obtain rfl := Option.some.inj hj
    refine ⟨_, rfl, k37_mk w _, fun i u hu => ?_⟩
    match i, hu with
    | 0, hu => exact h.cell 0 _ hu
    | 1, hu => exact h.cell 1 _ hu
    | 2, hu => exact h.cell 2 _ hu
    | 3, hu => exact h.cell 3 _ hu
    | 4, hu => exact h.cell 4 _ hu
    | 5, hu => exact h.cell 5 _ hu
    | 6, hu => exact h.cell 6 _ hu
    | 7, hu => exact h.cell 7 _ hu
    | 8, hu => exact h.cell 8 _ hu
  | 1, hj =>
    obtain rfl := Option.some.inj hj
    refine ⟨_, rfl, k37_mk w _, fun i u hu => ?_⟩
    match i, hu with
    | 0, hu => exact h.cell 9 _ hu
    | 1, hu => exact h.cell 10 _ hu
    | 2, hu => exact h.cell 11 _ hu
    | 3, hu => exact h.cell 12 _ hu
    | 4, hu => exact h.cell 13 _ hu
    | 5, hu => exact h.cell 14 _ hu
    | 6, hu => exact h.cell 15 _ hu
    | 7, hu => exact h.cell 16 _ hu
    | 8, hu => exact h.cell 17 _ hu
theorem named_any (s : ByteArray) (po : Int) (w : World) : Calls Tryz.prog 41 #[.string s, .int .i64 po] w fun e w' => e = .returned (.agg #[.int .u8 0, .int .u8 0, .int .u8 0, .int .u8 0, .string s, .int .i64 po]) ∧ Below w.heap.size w w' := by
  go_enter Tryz.func41, Tryz.ntmps41
  go_wp2
  refine bodyPost_ret (v := .agg #[.int .u8 0, .int .u8 0, .int .u8 0, .int .u8 0, .string s, .int .i64 po]) (by simp [results, Tryz.results41, go_sem]) rfl ⟨rfl, ?_⟩
  trace_state
  exact below_alloc (Below.refl _ _) _
end Go.Proofs.YteondnhokgmakaaGreatDoor.E


namespace Go.Proofs.YteondnhokgmakaaGreatDoor.E
open Go.RowKit Go.Proofs.YteondnhokgmakaaGreatDoorW.PrintWords Go.Proofs.YteondnhokgmakaaGreatDoorW.PrintLast Go.Proofs.YteondnhokgmakaaGreatDoor.XC Go.Proofs.YteondnhokgmakaaGreatDoor.XM
set_option linter.unusedVariables false
set_option linter.unusedSimpArgs false
set_option maxRecDepth 100000 in
set_option maxHeartbeats 8000000 in
theorem works_any (w : World) (hS : StdW w) : Calls Tryz.prog 18 #[] w fun e w' => e = .returned (.bool true) ∧ Below w.heap.size w w' := by
  have HS := Lib.hid hS
  clear hS
  have X1 := Lib.hid parse1
  have X2 := Lib.hid parse2
  have X3 := Lib.hid parse3
  have M1 := Lib.hid (fun W A0 h hS => policy_May.calls A0 2 exRules 0 0 0 0 aexS 443 true W h (Nat.le_refl _) hS may1)
  have M2 := Lib.hid (fun W A0 h hS => policy_May.calls A0 2 exRules 0 0 0 0 exS 80 false W h (Nat.le_refl _) hS may2)
  have M3 := Lib.hid (fun W A0 h hS => policy_May.calls A0 2 exRules 10 0 0 0 ⟨#[]⟩ 443 false W h (Nat.le_refl _) hS may3)
  unfold ruleT1 rc at X1
  unfold ruleT2 rc exS at X2
  unfold ruleT3 zeroRule rc at X3
  unfold aexS at M1
  unfold exS at M2
  have HL : exRules.length = 2 := rfl
  go_enter Tryz.func18, Tryz.ntmps18
  go_wp2_with (first | (go_at_call_of 21 (Value.string ⟨#[100, 101, 110, 121, 32, 49, 48, 46, 48, 46, 48, 46, 48, 47, 56, 32, 49, 45, 54, 53, 53, 51, 53]⟩); refine (X1.out _ HS.out).mono ?_; rintro e x1 ⟨rfl, hb1⟩; have HB1 := Lib.hid hb1; clear hb1) | (go_at_call_of 21 (Value.string ⟨#[97, 108, 108, 111, 119, 32, 101, 120, 97, 109, 112, 108, 101, 46, 99, 111, 109, 32, 52, 52, 51]⟩); refine (X2.out _ (StdW.below HS.out (below_alloc HB1.out _))).mono ?_; rintro e x2 ⟨rfl, hb2⟩; have HB2 := Lib.hid (below_then (below_alloc HB1.out _) (below_alloc HB1.out _).size hb2); have HR1 := Lib.hid ((Blk.new x1 (rc false 10 0 0 0 8 ⟨#[]⟩ 1 65535) 37).below hb2); clear hb2) | (go_at_call_of 21 (Value.string ⟨#[97, 108, 108, 111, 119, 32, 49, 48, 46, 48, 46, 48, 46, 49, 47, 56, 32, 56, 48]⟩); refine (X3.out _ (StdW.below HS.out (below_alloc HB2.out _))).mono ?_; rintro e x3 ⟨rfl, hb3⟩; have HB3 := Lib.hid (below_then (below_alloc HB2.out _) (below_alloc HB2.out _).size hb3); have HR2 : Hid (Blk x3 x2.heap.size (rc true 0 0 0 0 0 exS 443 443) 37) := Lib.hid ((Blk.new x2 (rc true 0 0 0 0 0 exS 443 443) 37).below hb3); have HR3 := Lib.hid ((HR1.out.old _).below hb3); have l1 := HR3.out.lt; have l2 := HR2.out.lt; obtain ⟨c0, c1, c2, c3, c4, c5, c6, c7, c8⟩ := HR3.out.nine; obtain ⟨d0, d1, d2, d3, d4, d5, d6, d7, d8⟩ := HR2.out.nine; clear hb3) | (go_at_call_of 41 (Value.string ⟨#[97, 46, 101, 120, 97, 109, 112, 108, 101, 46, 99, 111, 109]⟩); refine (named_any _ _ _).mono ?_; rintro e x4 ⟨rfl, hb4⟩; have HB4 := Lib.hid (below_then (below_alloc (below_alloc HB3.out _) _) (below_alloc (below_alloc HB3.out _) _).size hb4); have HC4 : Hid (Blk x4 (x3.heap.size + 1) exCells 37) := Lib.hid (by have hh := ((Blk.new (x3.alloc (.cells #[Value.bool false, Value.int .u8 0, Value.int .u8 0, Value.int .u8 0, Value.int .u8 0, Value.int .i64 0, Value.string ⟨#[]⟩, Value.int .i64 0, Value.int .i64 0] 37)) exCells 37).below hb4); rw [World.size_alloc] at hh; exact hh); clear hb4) | (go_at_call_of 15 (Value.string ⟨#[97, 46, 101, 120, 97, 109, 112, 108, 101, 46, 99, 111, 109]⟩); refine (M1.out x4 (some ⟨x3.heap.size + 1, 0, none⟩) (exRules_lie HC4.out) (StdW.below HS.out HB4.out)).mono ?_; rintro e x5 ⟨rfl, hb5⟩; have HB5 := Lib.hid (below_then HB4.out HB4.out.size hb5); have HC5 : Hid (Blk x5 (x3.heap.size + 1) exCells 37) := Lib.hid (HC4.out.below hb5); clear hb5) | (go_at_call_of 41 (Value.int .i64 80); refine (named_any _ _ _).mono ?_; rintro e x6 ⟨rfl, hb6⟩; have HB6 := Lib.hid (below_then HB5.out HB5.out.size hb6); have HC6 : Hid (Blk x6 (x3.heap.size + 1) exCells 37) := Lib.hid (HC5.out.below hb6); clear hb6) | (go_at_call_of 15 (Value.int .i64 80); refine (M2.out x6 (some ⟨x3.heap.size + 1, 0, none⟩) (exRules_lie HC6.out) (StdW.below HS.out HB6.out)).mono ?_; rintro e x7 ⟨rfl, hb7⟩; have HB7 := Lib.hid (below_then HB6.out HB6.out.size hb7); have HC7 : Hid (Blk x7 (x3.heap.size + 1) exCells 37) := Lib.hid (HC6.out.below hb7); clear hb7) | (go_at_call_of 15 (Value.int .u8 10); refine (M3.out x7 (some ⟨x3.heap.size + 1, 0, none⟩) (exRules_lie HC7.out) (StdW.below HS.out HB7.out)).mono ?_; rintro e x8 ⟨rfl, hb8⟩; have HB8 := Lib.hid (below_then HB7.out HB7.out.size hb8); have HC8 : Hid (Blk x8 (x3.heap.size + 1) exCells 37) := Lib.hid (HC7.out.below hb8); clear hb8))
  go_ret
  exact ⟨rfl, HB8.out⟩
def works.f : Option Bool := some true
theorem works.calls (r : Bool) (w : World) (hS_ : StdW w) (h : works.f = some r) : Calls Tryz.prog 18 #[] w fun e w' => e = .returned (.bool r) ∧ Below w.heap.size w w' := by
  obtain rfl := Option.some.inj h
  exact works_any w hS_
end Go.Proofs.YteondnhokgmakaaGreatDoor.E


namespace Go.Proofs.YteondnhokgmakaaGreatDoor.E
open Go.RowKit Go.Proofs.YteondnhokgmakaaGreatDoorW.PrintWords Go.Proofs.YteondnhokgmakaaGreatDoorW.PrintLast
set_option linter.unusedVariables false
set_option linter.unusedSimpArgs false
def lowI (x : Int) : Int := if 65 ≤ x ∧ x ≤ 90 then x + 32 else x
def lowAt (s : ByteArray) (k j : Nat) : Int := if j < k then lowI (s.data.toList.getD j 0).toNat else (s.data.toList.getD j 0).toNat
theorem lowI_byte (b : UInt8) : lowI b.toNat = (Lib.lowerB b).toNat := by
  have h : ∀ n : Fin 256, lowI (UInt8.ofNat n.1).toNat = (Lib.lowerB (UInt8.ofNat n.1)).toNat := by decide +kernel
  have := h ⟨b.toNat, b.toNat_lt⟩
  simpa using this
def LowMem (s : ByteArray) (R k : Nat) (w : World) : Prop := ∀ j, j < s.size → w.cell? ⟨R, j, none⟩ = some (.int .u8 (lowAt s k j)) ∧ w.frozen? ⟨R, j, none⟩ = false
theorem LowMem.keep {s : ByteArray} {R k : Nat} {w : World} (h : LowMem s R k w) (hk : lowI (s.data.toList.getD k 0).toNat = (s.data.toList.getD k 0).toNat) : LowMem s R (k + 1) w := fun j hj => by
  have e : lowAt s (k + 1) j = lowAt s k j := by
    unfold lowAt
    by_cases h1 : j < k
    · rw [if_pos h1, if_pos (by omega)]
    · by_cases h2 : j = k
      · subst h2; rw [if_pos (by omega), if_neg h1, hk]
      · rw [if_neg (by omega), if_neg h1]
  rw [e]; exact h j hj
theorem LowMem.put {s : ByteArray} {R k : Nat} {w : World} (h : LowMem s R k w) (hk : k < s.size) : LowMem s R (k + 1) (w.setCell ⟨R, k, none⟩ (.int .u8 (lowI (s.data.toList.getD k 0).toNat))) := fun j hj => by
  obtain ⟨a, b⟩ := h j hj
  rw [World.frozen?_setCell]
  refine ⟨?_, b⟩
  by_cases e : j = k
  · subst e
    rw [World.cell?_setCell_same _ _ _ a]
    unfold lowAt
    rw [if_pos (by omega)]
  · rw [World.cell?_setCell_other _ _ _ _ (by intro e2; injection e2 with _ e2; omega), a]
    unfold lowAt
    by_cases h1 : j < k
    · rw [if_pos h1, if_pos (by omega)]
    · rw [if_neg h1, if_neg (by omega)]
set_option maxRecDepth 100000 in
set_option maxHeartbeats 4000000 in
theorem lower_any (s : ByteArray) (hs : s.size ≤ 281474976710656) (w : World) :
    Calls Tryz.prog 37 #[.string s] w fun e w' => e = .returned (.string ⟨(Lib.toLowerA s.data.toList).toArray⟩) ∧ Below w.heap.size w w' := by
  have hcv := Lib.run_convert_string_bytes (P := Tryz.prog) w 9 105 5 s Tryz.underlying9 Tryz.underlying105 Tryz.underlying5
  generalize hcap : grownCap w s.size 0 5 = cap at hcv
  generalize hW : Lib.bytesWorld w 5 s = W at hcv
  have HB0 : Hid (Below w.heap.size w W) := Lib.hid (hW ▸ Lib.bytesWorld_below _ _ _)
  have HM0 : Hid (LowMem s w.heap.size 0 W) := Lib.hid (fun j hj => by
    subst hW
    refine ⟨?_, ?_⟩
    · rw [Lib.bytesWorld_cell _ _ _ _ hj]
      unfold lowAt
      rw [if_neg (by omega)]
    · unfold World.frozen?
      rw [Lib.bytesWorld_at_new]
      have hc : s.size ≤ (Lib.bytesCells w 5 s).size := by
        unfold Lib.bytesCells
        rw [Array.size_append, Array.size_map]; exact Nat.le_add_right _ _
      simp
      omega)
  clear hW hcap
  have HS := Lib.hid hs
  clear hs
  go_enter Tryz.func37, Tryz.ntmps37
  go_wp2
  go_loopw [4] (fun i wr => ∃ k : Nat, k ≤ s.size ∧ i = .int .i64 k ∧ Hid (LowMem s w.heap.size k wr) ∧ Hid (Below w.heap.size w wr)) (fun i _ => s.size - (intOf i).toNat)
  case atStart => exact ⟨0, Nat.zero_le _, rfl, HM0, HB0⟩
  case round =>
    obtain ⟨k, hk, rfl, HM, HB⟩ := hrel
    clear HM0 HB0
    have hs1 : (s.size : Int) ≤ 281474976710656 := by have := HS.out; omega
    by_cases hlt : k < s.size
    · have hk0 : (0 : Int) ≤ (k : Int) := Int.natCast_nonneg _
      have hk1 : (k : Int) < (s.size : Int) := by omega
      obtain ⟨hc, hf⟩ := HM.out k hlt
      have hR := World.block_lt_of_cell? _ _ hc
      have hx : lowAt s k k = ((s.data.toList.getD k 0).toNat : Int) := by unfold lowAt; rw [if_neg (by omega)]
      rw [hx] at hc
      have HKP := Lib.hid (fun h => HM.out.keep (k := k) h)
      have HPT := Lib.hid (HM.out.put hlt)
      have hb := (s.data.toList.getD k 0).toNat_lt
      generalize (s.data.toList.getD k 0).toNat = x at hc HKP HPT hb
      have hb' : (x : Int) < 256 := by omega
      have hb0 : (0 : Int) ≤ (x : Int) := by omega
      by_cases h1 : (65 : Int) ≤ (x : Int)
      · by_cases h2 : (x : Int) ≤ 90
        · have he : lowI (x : Int) = (x : Int) + 32 := by unfold lowI; rw [if_pos ⟨h1, h2⟩]
          rw [he] at HPT
          go_wp2
          go_roundw
          case rel => exact ⟨k + 1, by omega, by go_num, HPT, Lib.hid (HB.out.setCell (Nat.le_refl _) _)⟩
          case measure => simp [intOf]; omega
        · have he : lowI (x : Int) = (x : Int) := by unfold lowI; rw [if_neg (fun h => h2 h.2)]
          have h2' : decide ((x : Int) ≤ 90) = false := decide_eq_false h2
          have hm := HKP.out he
          go_wp2
          go_roundw
          case rel => exact ⟨k + 1, by omega, by go_num, Lib.hid hm, HB⟩
          case measure => simp [intOf]; omega
      · have he : lowI (x : Int) = (x : Int) := by unfold lowI; rw [if_neg (fun h => h1 h.1)]
        have h1' : decide ((65 : Int) ≤ (x : Int)) = false := decide_eq_false h1
        have hm := HKP.out he
        go_wp2
        go_roundw
        case rel => exact ⟨k + 1, by omega, by go_num, Lib.hid hm, HB⟩
        case measure => simp [intOf]; omega
    · have hk1 : (k : Int) = (s.size : Int) := by omega
      have hkn : k = s.size := by omega
      subst hkn
      have hz : (⟨(Lib.toLowerA s.data.toList).toArray⟩ : ByteArray).size = s.size := by
        show (Lib.toLowerA s.data.toList).toArray.size = _
        rw [List.size_toArray, Lib.toLowerA, List.length_map, Array.length_toList]; rfl
      have hB : Lib.Bytes wr w.heap.size 0 ⟨(Lib.toLowerA s.data.toList).toArray⟩ := fun i hi => by
        have hi' : i < s.size := by rw [hz] at hi; exact hi
        rw [Nat.zero_add, (HM.out i hi').1]
        unfold lowAt
        rw [if_pos hi', lowI_byte]
        have hl : i < s.data.toList.length := by rw [Array.length_toList]; exact hi'
        have hg : s.data.toList.getD i 0 = s.data.toList[i] := by rw [List.getD_eq_getElem?_getD, List.getElem?_eq_getElem hl]; rfl
        have hm : (⟨(Lib.toLowerA s.data.toList).toArray⟩ : ByteArray)[i]'hi = Lib.lowerB s.data.toList[i] := by
          exact List.getElem_map (l := s.data.toList) Lib.lowerB (i := i) (h := by rw [List.length_map]; exact hl)
        rw [hm, hg]
      have hcv2 := Lib.run_convert_whole (P := Tryz.prog) wr 105 5 9 Tryz.underlying105 Tryz.underlying5 Tryz.underlying9 w.heap.size 0 _ hB cap
      rw [hz] at hcv2
      go_wp2
      go_ret
      exact ⟨rfl, HB.out⟩
def Lower.f (s : ByteArray) : Option ByteArray := if s.size ≤ 281474976710656 then some ⟨(Lib.toLowerA s.data.toList).toArray⟩ else none
theorem Lower.calls (s : ByteArray) (r : ByteArray) (w : World) (hS_ : StdW w) (h : Lower.f s = some r) :
    Calls Tryz.prog 37 #[.string s] w fun e w' => e = .returned (.string r) ∧ Below w.heap.size w w' := by
  unfold Lower.f at h
  split at h
  · rename_i hc
    obtain rfl := Option.some.inj h
    exact lower_any s hc w
  · cases h
end Go.Proofs.YteondnhokgmakaaGreatDoor.E


namespace Go.Proofs.YteondnhokgmakaaGreatDoor.E
open Go.RowKit Go.Proofs.YteondnhokgmakaaGreatDoorW.PrintWords Go.Proofs.YteondnhokgmakaaGreatDoorW.PrintLast
set_option linter.unusedVariables false
set_option linter.unusedSimpArgs false
set_option maxRecDepth 100000 in
set_option maxHeartbeats 4000000 in
theorem fail_any (s : ByteArray) (at_ co : Int) (w : World) :
    Calls Tryz.prog 59 #[.string s, .int .i64 at_, .int .i64 co] w fun e w' => e = .returned (.agg #[.int .i64 1, .string s, .string ⟨#[]⟩, .string ⟨#[]⟩, .string ⟨#[]⟩, .int .i64 at_, .int .i64 0, .int .i64 0, .int .i64 0, .int .i64 co]) ∧ Below w.heap.size w w' := by
  go_enter Tryz.func59, Tryz.ntmps59
  go_wp2
  refine bodyPost_ret (v := .agg #[.int .i64 1, .string s, .string ⟨#[]⟩, .string ⟨#[]⟩, .string ⟨#[]⟩, .int .i64 at_, .int .i64 0, .int .i64 0, .int .i64 0, .int .i64 co]) (by simp [results, Tryz.results59, go_sem]) rfl ⟨rfl, below_alloc (below_alloc (Below.refl _ _) _) _⟩
def Fail.f (s : ByteArray) (at_ co : Int) : Option (Int × ByteArray × ByteArray × ByteArray × ByteArray × Int × Int × Int × Int × Int) := some (1, s, ⟨#[]⟩, ⟨#[]⟩, ⟨#[]⟩, at_, 0, 0, 0, co)
theorem Fail.calls (s : ByteArray) (at_ co : Int) (r1 : Int) (r2 r3 r4 r5 : ByteArray) (r6 r7 r8 r9 r10 : Int) (w : World) (hS_ : StdW w) (h : Fail.f s at_ co = some (r1, r2, r3, r4, r5, r6, r7, r8, r9, r10)) :
    Calls Tryz.prog 59 #[.string s, .int .i64 at_, .int .i64 co] w fun e w' => e = .returned (.agg #[.int .i64 r1, .string r2, .string r3, .string r4, .string r5, .int .i64 r6, .int .i64 r7, .int .i64 r8, .int .i64 r9, .int .i64 r10]) ∧ Below w.heap.size w w' := by
  cases h
  exact fail_any s at_ co w
end Go.Proofs.YteondnhokgmakaaGreatDoor.E
