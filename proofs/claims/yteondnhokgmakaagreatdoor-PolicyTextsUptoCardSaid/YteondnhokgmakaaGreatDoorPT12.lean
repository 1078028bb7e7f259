/- What the cards of this seat rest on: the walks and plain laws, part 12. -/
import Derived.Test.YteondnhokgmakaaGreatDoorPT11
import Derived.Test.YteondnhokgmakaaGreatDoorPT3
import Derived.Test.YteondnhokgmakaaGreatDoorProg
import Derived.Below
import Derived.Deep.Draws
import Derived.Deep.AppendLies
import Derived.Maps.AppendAt
import Derived.OwnWalk
import Derived.Laws.BytesArg
import Derived.Laws.MakeOwn
import Derived.Laws.OwnMore
import Derived.Deep.OwnRows
import Derived.Tactics
import Derived.Lib.ConvBytes
import Derived.Laws.Slices
import Derived.WalkKit
import Derived.KernelRfl
import Derived.RowKit3
import Derived.Deep.LoopGhost
import Derived.Deep.QuietTactic
import Derived.BigQuiet
import Derived.WideLaws
import Derived.Deep.DeepCutAuto
import Derived.Deep.CutBlock
import Derived.Deep.RegionHeld3
import Derived.Laws.Rows
import Derived.Lib.AppendStr
import Derived.ArgAppend
import Derived.Laws.IdiomCopy
import Derived.OrdersHeld
import Derived.Laws.BitsLemmas
import Derived.RowKit
import Derived.Test.YteondnhokgmakaaGreatDoorPT1
import Derived.Test.YteondnhokgmakaaGreatDoorPT10


namespace Go.Proofs.YteondnhokgmakaaGreatDoor.E
open Go.RowKit Go.Proofs.YteondnhokgmakaaGreatDoorW.PrintWords Go.Proofs.YteondnhokgmakaaGreatDoorW.PrintLast Go.Proofs.YteondnhokgmakaaGreatDoor.XC Go.Proofs.YteondnhokgmakaaGreatDoor.XR
set_option linter.unusedVariables false
set_option linter.unusedSimpArgs false
attribute [local go_sem high] eqA24
def bitZ (x n : Int) : Int := (x / 2 ^ (7 - n % 8).toNat).tmod 2
def pickZ (a b c d n : Int) : Int := if n < 8 then a else if n < 16 then b else if n < 24 then c else d
theorem quo8 (n : Int) (h0 : 0 ≤ n) (h1 : n < 32) : (n < 8 ∧ n.tdiv 8 = 0) ∨ (8 ≤ n ∧ n < 16 ∧ n.tdiv 8 = 1) ∨ (16 ≤ n ∧ n < 24 ∧ n.tdiv 8 = 2) ∨ (24 ≤ n ∧ n.tdiv 8 = 3) := by
  rw [Int.tdiv_eq_ediv_of_nonneg h0]; omega
def tailZ (a b c d : Int) : Nat → Int → Bool
  | 0, _ => true
  | n + 1, i => if bitZ (pickZ a b c d i) i = 0 then tailZ a b c d n (i + 1) else false
def ruleR (rcx : Bool) (a b c d bi : Int) (su : ByteArray) (lo hi : Int) : Bool :=
  if lo < 1 then false else if 65535 < hi then false else if hi < lo then false
  else if su.toList.isEmpty then (if bi < 0 then false else if 32 < bi then false else tailZ a b c d (32 - bi).toNat bi)
  else (rcx && ((a == 0 && (b == 0 && (c == 0 && d == 0))) && bi == 0))
set_option maxRecDepth 100000 in
set_option maxHeartbeats 8000000 in
theorem rule_walk (al : Bool) (a b c d bi : Int) (su : ByteArray) (lo hi : Int) (rcx : Bool) (w : World) (hS : StdW w)
    (HC : ∀ W, StdW W → Calls Tryz.prog 31 #[.agg #[.int .u8 0, .int .u8 0, .int .u8 0, .int .u8 0, .string su]] W fun e w' => e = .returned (.bool rcx) ∧ Below W.heap.size W w') :
    Calls Tryz.prog 39 #[.agg (rc al a b c d bi su lo hi)] w fun e w' => e = .returned (.bool (ruleR rcx a b c d bi su lo hi)) ∧ Below w.heap.size w w' := by
  have HS := Lib.hid hS
  have XC := Lib.hid HC
  clear hS HC
  unfold ruleR
  by_cases h1 : lo < 1
  · rw [if_pos h1]
    unfold rc
    go_enter Tryz.func39, Tryz.ntmps39
    go_wp2
    go_ret
    exact ⟨rfl, below_alloc (Below.refl _ _) _⟩
  rw [if_neg h1]
  have h1' : decide (lo < 1) = false := decide_eq_false h1
  by_cases h2 : 65535 < hi
  · rw [if_pos h2]
    unfold rc
    go_enter Tryz.func39, Tryz.ntmps39
    go_wp2
    go_ret
    exact ⟨rfl, below_alloc (Below.refl _ _) _⟩
  rw [if_neg h2]
  have h2' : decide (65535 < hi) = false := decide_eq_false h2
  by_cases h3 : hi < lo
  · rw [if_pos h3]
    unfold rc
    go_enter Tryz.func39, Tryz.ntmps39
    go_wp2
    go_ret
    exact ⟨rfl, below_alloc (Below.refl _ _) _⟩
  rw [if_neg h3]
  have h3' : decide (hi < lo) = false := decide_eq_false h3
  cases hsu : su.toList.isEmpty
  · rw [if_neg (by simp)]
    unfold rc
    cases rcx
    · rw [Bool.false_and]
      go_enter Tryz.func39, Tryz.ntmps39
      go_wp2_with (first | (go_at_call 31; refine (XC.out _ (StdW.below HS.out (below_alloc (Below.refl _ _) _))).mono ?_; rintro e w1 ⟨rfl, hb1⟩; have HB1 := Lib.hid (below_then (below_alloc (Below.refl w.heap.size w) _) (below_alloc (Below.refl w.heap.size w) _).size hb1); obtain ⟨c0, c1, c2, c3, c4, c5, c6, c7, c8⟩ := ((Blk.new w (rc al a b c d bi su lo hi) 37).below hb1).nine; clear hb1))
      go_ret
      exact ⟨rfl, HB1.out⟩
    · rw [Bool.true_and]
      cases hn : (a == 0 && (b == 0 && (c == 0 && d == 0)))
      · rw [Bool.false_and]
        go_enter Tryz.func39, Tryz.ntmps39
        go_wp2_with (first | (go_at_call 31; refine (XC.out _ (StdW.below HS.out (below_alloc (Below.refl _ _) _))).mono ?_; rintro e w1 ⟨rfl, hb1⟩; have HB1 := Lib.hid (below_then (below_alloc (Below.refl w.heap.size w) _) (below_alloc (Below.refl w.heap.size w) _).size hb1); obtain ⟨c0, c1, c2, c3, c4, c5, c6, c7, c8⟩ := ((Blk.new w (rc al a b c d bi su lo hi) 37).below hb1).nine; clear hb1))
        go_ret
        exact ⟨rfl, HB1.out⟩
      · rw [Bool.true_and]
        go_enter Tryz.func39, Tryz.ntmps39
        go_wp2_with (first | (go_at_call 31; refine (XC.out _ (StdW.below HS.out (below_alloc (Below.refl _ _) _))).mono ?_; rintro e w1 ⟨rfl, hb1⟩; have HB1 := Lib.hid (below_then (below_alloc (Below.refl w.heap.size w) _) (below_alloc (Below.refl w.heap.size w) _).size hb1); obtain ⟨c0, c1, c2, c3, c4, c5, c6, c7, c8⟩ := ((Blk.new w (rc al a b c d bi su lo hi) 37).below hb1).nine; clear hb1))
        go_ret
        exact ⟨rfl, HB1.out⟩
  · rw [if_pos rfl]
    by_cases h4 : bi < 0
    · rw [if_pos h4]
      unfold rc
      go_enter Tryz.func39, Tryz.ntmps39
      go_wp2
      go_ret
      exact ⟨rfl, below_alloc (Below.refl _ _) _⟩
    rw [if_neg h4]
    have h4' : decide (bi < 0) = false := decide_eq_false h4
    by_cases h5 : 32 < bi
    · rw [if_pos h5]
      unfold rc
      go_enter Tryz.func39, Tryz.ntmps39
      go_wp2
      go_ret
      exact ⟨rfl, below_alloc (Below.refl _ _) _⟩
    rw [if_neg h5]
    have h5' : decide (32 < bi) = false := decide_eq_false h5
    have hb0 : 0 ≤ bi := by omega
    have hb1 : bi ≤ 32 := by omega
    have HT : Hid (tailZ a b c d (32 - bi).toNat bi = tailZ a b c d (32 - bi).toNat bi) := Lib.hid rfl
    generalize hv : tailZ a b c d (32 - bi).toNat bi = v at HT ⊢
    have HV := Lib.hid hv
    clear hv HT
    unfold rc
    go_enter Tryz.func39, Tryz.ntmps39
    go_wp2
    go_loopw [3] (fun i wr => ∃ k : Int, 0 ≤ k ∧ k ≤ 32 ∧ i = .int .i64 k ∧ Hid (v = tailZ a b c d (32 - k).toNat k) ∧ Hid (Blk wr w.heap.size (rc al a b c d bi su lo hi) 37) ∧ Hid (Below w.heap.size w wr)) (fun i _ => (32 - intOf i).toNat)
    case atStart => exact ⟨bi, hb0, hb1, rfl, Lib.hid HV.out.symm, Lib.hid (Blk.new w _ _), Lib.hid (below_alloc (Below.refl _ _) _)⟩
    case round =>
      obtain ⟨k, k0, k1, rfl, HP, HD, HB⟩ := hrel
      obtain ⟨c0, c1, c2, c3, c4, c5, c6, c7, c8⟩ := HD.out.nine
      have hdl := HD.out.lt
      have hne : ¬ w.heap.size = wr.heap.size := by omega
      by_cases hlt : k < 32
      · have hstep : v = if bitZ (pickZ a b c d k) k = 0 then tailZ a b c d (32 - (k + 1)).toNat (k + 1) else false := by
          rw [HP.out, show (32 - k).toNat = (32 - (k + 1)).toNat + 1 by omega]; rfl
        clear HP
        rcases quo8 k k0 hlt with ⟨h2, hq⟩ | ⟨h2, h3, hq⟩ | ⟨h2, h3, hq⟩ | ⟨h2, hq⟩
        · rw [show pickZ a b c d k = a by unfold pickZ; rw [if_pos h2]] at hstep
          unfold bitZ at hstep
          by_cases hz : (a / 2 ^ (7 - k % 8).toNat).tmod 2 = 0
          · rw [if_pos hz] at hstep
            have HN := Lib.hid hstep
            clear hstep
            have hz' : ((a / 2 ^ (7 - k % 8).toNat).tmod 2 != 0) = false := by rw [hz]; rfl
            go_wp2
            go_roundw
            case rel => exact ⟨k + 1, by omega, by omega, by go_num, HN, Lib.hid (HD.out.old _), Lib.hid (below_alloc HB.out _)⟩
            case measure => simp [intOf]; omega
          · rw [if_neg hz] at hstep
            have HN := Lib.hid hstep
            clear hstep
            have hz' : ((a / 2 ^ (7 - k % 8).toNat).tmod 2 != 0) = true := bne_iff_ne.mpr hz
            go_wp2
            go_ret
            exact ⟨by rw [HN.out]; rfl, below_alloc HB.out _⟩
        · rw [show pickZ a b c d k = b by unfold pickZ; rw [if_neg (show ¬ k < 8 by omega), if_pos h3]] at hstep
          unfold bitZ at hstep
          by_cases hz : (b / 2 ^ (7 - k % 8).toNat).tmod 2 = 0
          · rw [if_pos hz] at hstep
            have HN := Lib.hid hstep
            clear hstep
            have hz' : ((b / 2 ^ (7 - k % 8).toNat).tmod 2 != 0) = false := by rw [hz]; rfl
            go_wp2
            go_roundw
            case rel => exact ⟨k + 1, by omega, by omega, by go_num, HN, Lib.hid (HD.out.old _), Lib.hid (below_alloc HB.out _)⟩
            case measure => simp [intOf]; omega
          · rw [if_neg hz] at hstep
            have HN := Lib.hid hstep
            clear hstep
            have hz' : ((b / 2 ^ (7 - k % 8).toNat).tmod 2 != 0) = true := bne_iff_ne.mpr hz
            go_wp2
            go_ret
            exact ⟨by rw [HN.out]; rfl, below_alloc HB.out _⟩
        · rw [show pickZ a b c d k = c by unfold pickZ; rw [if_neg (show ¬ k < 8 by omega), if_neg (show ¬ k < 16 by omega), if_pos h3]] at hstep
          unfold bitZ at hstep
          by_cases hz : (c / 2 ^ (7 - k % 8).toNat).tmod 2 = 0
          · rw [if_pos hz] at hstep
            have HN := Lib.hid hstep
            clear hstep
            have hz' : ((c / 2 ^ (7 - k % 8).toNat).tmod 2 != 0) = false := by rw [hz]; rfl
            go_wp2
            go_roundw
            case rel => exact ⟨k + 1, by omega, by omega, by go_num, HN, Lib.hid (HD.out.old _), Lib.hid (below_alloc HB.out _)⟩
            case measure => simp [intOf]; omega
          · rw [if_neg hz] at hstep
            have HN := Lib.hid hstep
            clear hstep
            have hz' : ((c / 2 ^ (7 - k % 8).toNat).tmod 2 != 0) = true := bne_iff_ne.mpr hz
            go_wp2
            go_ret
            exact ⟨by rw [HN.out]; rfl, below_alloc HB.out _⟩
        · rw [show pickZ a b c d k = d by unfold pickZ; rw [if_neg (show ¬ k < 8 by omega), if_neg (show ¬ k < 16 by omega), if_neg (show ¬ k < 24 by omega)]] at hstep
          unfold bitZ at hstep
          by_cases hz : (d / 2 ^ (7 - k % 8).toNat).tmod 2 = 0
          · rw [if_pos hz] at hstep
            have HN := Lib.hid hstep
            clear hstep
            have hz' : ((d / 2 ^ (7 - k % 8).toNat).tmod 2 != 0) = false := by rw [hz]; rfl
            go_wp2
            go_roundw
            case rel => exact ⟨k + 1, by omega, by omega, by go_num, HN, Lib.hid (HD.out.old _), Lib.hid (below_alloc HB.out _)⟩
            case measure => simp [intOf]; omega
          · rw [if_neg hz] at hstep
            have HN := Lib.hid hstep
            clear hstep
            have hz' : ((d / 2 ^ (7 - k % 8).toNat).tmod 2 != 0) = true := bne_iff_ne.mpr hz
            go_wp2
            go_ret
            exact ⟨by rw [HN.out]; rfl, below_alloc HB.out _⟩
      · have hk : k = 32 := by omega
        subst hk
        have HN := Lib.hid (show v = true from HP.out)
        clear HP
        go_wp2
        go_ret
        exact ⟨by rw [HN.out]; rfl, HB.out⟩
end Go.Proofs.YteondnhokgmakaaGreatDoor.E


namespace Go.Proofs.YteondnhokgmakaaGreatDoor.E
open Go.RowKit Go.Proofs.YteondnhokgmakaaGreatDoorW.PrintWords Go.Proofs.YteondnhokgmakaaGreatDoorW.PrintLast Go.Proofs.YteondnhokgmakaaGreatDoor.XC Go.Proofs.YteondnhokgmakaaGreatDoor.XR
set_option linter.unusedVariables false
set_option linter.unusedSimpArgs false
theorem bt_get (s : ByteArray) (i : Nat) (h : i < s.data.toList.length) : bt s (i : Int) = ((s.data.toList[i]'h).toNat : Int) := by
  have h' : i < s.size := by rw [Array.length_toList] at h; exact h
  unfold bt
  rw [Int.toNat_natCast, dif_pos h']; rfl
theorem len_size (s : ByteArray) : s.data.toList.length = s.size := Array.length_toList
def digR (c : UInt8) : Bool := decide (48 ≤ c.toNat) && decide (c.toNat ≤ 57)
theorem digit_f (c : UInt8) : sallyportref06_digit.f (c.toNat : Int) = some (digR c) := by
  unfold sallyportref06_digit.f digR
  by_cases h : (c.toNat : Int) ≥ 48
  · rw [if_pos h, decide_eq_true (show 48 ≤ c.toNat by omega), Bool.true_and]
    congr 1
    exact decide_eq_decide.2 (by omega)
  · rw [if_neg h, decide_eq_false (show ¬ 48 ≤ c.toNat by omega), Bool.false_and]
def okr (c : UInt8) : Bool := c.toNat == 45 || digR c || (decide (97 ≤ c.toNat) && decide (c.toNat ≤ 122))
theorem okr_low (c : UInt8) : okr (Lib.lowerB c) = ([2, 3, 4] : List Int).contains (kindZ (c.toNat : Int)) := by
  have h : ∀ n : Fin 256, okr (Lib.lowerB (UInt8.ofNat n.1)) = ([2, 3, 4] : List Int).contains (kindZ ((UInt8.ofNat n.1).toNat : Int)) := by decide +kernel
  have := h ⟨c.toNat, c.toNat_lt⟩
  simpa using this
theorem digR_low (c : UInt8) : digR (Lib.lowerB c) = ([2] : List Int).contains (kindZ (c.toNat : Int)) := by
  have h : ∀ n : Fin 256, digR (Lib.lowerB (UInt8.ofNat n.1)) = ([2] : List Int).contains (kindZ ((UInt8.ofNat n.1).toNat : Int)) := by decide +kernel
  have := h ⟨c.toNat, c.toNat_lt⟩
  simpa using this
theorem dash_low (c : UInt8) : ((Lib.lowerB c).toNat == 45) = (c.toNat == 45) := by
  have h : ∀ n : Fin 256, ((Lib.lowerB (UInt8.ofNat n.1)).toNat == 45) = ((UInt8.ofNat n.1).toNat == 45) := by decide +kernel
  have := h ⟨c.toNat, c.toNat_lt⟩
  simpa using this
theorem dot_low (c : UInt8) : (Lib.lowerB c = 46) ↔ c = 46 := by
  have h : ∀ n : Fin 256, (Lib.lowerB (UInt8.ofNat n.1) = 46) ↔ (UInt8.ofNat n.1) = 46 := by decide +kernel
  have := h ⟨c.toNat, c.toNat_lt⟩
  simpa using this
theorem label_loop (s : ByteArray) (hs : s.size ≤ 281474976710656) : ∀ (m k i : Nat), i + m = s.size → m < k → sallyportref06_label.l0 k s (i : Int) = some ((s.data.toList.drop i).all okr)
  | 0, k + 1, i, hi, hk => by
    unfold sallyportref06_label.l0
    rw [if_neg (by omega), List.drop_of_length_le (by rw [len_size]; omega)]; rfl
  | m + 1, k + 1, i, hi, hk => by
    have hl : i < s.data.toList.length := by rw [len_size]; omega
    have ih := label_loop s hs m k (i + 1) (by omega) (by omega)
    have hw : wrap64 ((i : Int) + 1) = ((i + 1 : Nat) : Int) := by rw [wrap64_id _ (by omega) (by omega)]; omega
    unfold sallyportref06_label.l0
    rw [if_pos (by omega), if_pos (by omega), bt_get s i hl, hw, ih, List.drop_eq_getElem_cons hl, List.all_cons, digit_f, Option.bind_some]
    generalize s.data.toList[i] = c
    unfold okr
    by_cases h1 : (c.toNat : Int) = 45
    · rw [if_pos h1, beq_iff_eq.2 (show c.toNat = 45 by omega)]; simp
    · rw [if_neg h1, beq_eq_false_iff_ne.2 (show c.toNat ≠ 45 by omega), Bool.false_or]
      cases digR c
      · rw [if_neg (by simp), Bool.false_or]
        by_cases h2 : (c.toNat : Int) < 97
        · rw [if_pos h2, decide_eq_false (show ¬ 97 ≤ c.toNat by omega)]; simp
        · rw [if_neg h2, decide_eq_true (show 97 ≤ c.toNat by omega)]
          by_cases h3 : (c.toNat : Int) > 122
          · rw [if_pos h3, decide_eq_false (show ¬ c.toNat ≤ 122 by omega)]; simp
          · rw [if_neg h3, decide_eq_true (show c.toNat ≤ 122 by omega)]; simp
      · rw [if_pos rfl]; simp
def labR (l : List UInt8) : Bool := !l.isEmpty && (decide (l.length ≤ 63) && (l.all okr && (!((l.headD 0).toNat == 45) && !((l.getLastD 0).toNat == 45))))
theorem label_f (s : ByteArray) (hs : s.size ≤ 281474976710656) (k : Nat) (hk : s.size + 1 < k) : sallyportref06_label.f k s = some (labR s.data.toList) := by
  obtain ⟨j, rfl⟩ : ∃ j, k = j + 1 := ⟨k - 1, by omega⟩
  have jt : sallyportref06_label.j0 (j + 1) s true = some false := by simp only [sallyportref06_label.j0, if_true]
  have jf : sallyportref06_label.j0 (j + 1) s false = some (s.data.toList.all okr) := by
    have := label_loop s hs s.size j 0 (by omega) (by omega)
    rw [List.drop_zero] at this
    simp only [sallyportref06_label.j0, Bool.false_eq_true, if_false]
    exact this
  have hl := len_size s
  have htl : s.toList = s.data.toList := ByteArray.toList_eq s
  unfold sallyportref06_label.f labR
  rw [jt, htl]
  by_cases h0 : s.data.toList = []
  · rw [if_pos h0, h0]; rfl
  · rw [if_neg h0]
    have hpos : 0 < s.data.toList.length := List.length_pos_iff.2 h0
    have he : s.data.toList.isEmpty = false := by rw [List.isEmpty_eq_false_iff]; exact h0
    rw [he, Bool.not_false, Bool.true_and]
    by_cases h1 : (s.size : Int) > 63
    · rw [if_pos h1, decide_eq_false (show ¬ s.data.toList.length ≤ 63 by omega)]; rfl
    · rw [if_neg h1, decide_eq_true (show s.data.toList.length ≤ 63 by omega), Bool.true_and, if_pos (by omega)]
      have hb0 : bt s 0 = (s.data.toList[0].toNat : Int) := bt_get s 0 hpos
      have hh : s.data.toList.headD 0 = s.data.toList[0] := by
        rw [List.headD_eq_head?_getD, List.head?_eq_getElem?, List.getElem?_eq_getElem hpos]; rfl
      have hw : wrap64 ((s.size : Int) - 1) = ((s.data.toList.length - 1 : Nat) : Int) := by rw [wrap64_id _ (by omega) (by omega)]; omega
      have hgl : s.data.toList.getLastD 0 = s.data.toList[s.data.toList.length - 1] := by
        rw [List.getLastD_eq_getLast?, List.getLast?_eq_getElem?, List.getElem?_eq_getElem (by omega)]; rfl
      rw [hb0, hw, bt_get s _ (by omega), hh, hgl]
      by_cases h2 : (s.data.toList[0].toNat : Int) = 45
      · rw [if_pos h2, beq_iff_eq.2 (show s.data.toList[0].toNat = 45 by omega)]; simp
      · rw [if_neg h2, if_pos (by omega), if_pos (by omega), beq_eq_false_iff_ne.2 (show s.data.toList[0].toNat ≠ 45 by omega)]
        by_cases h3 : s.data.toList[s.data.toList.length - 1].toNat = 45
        · rw [show ((s.data.toList[s.data.toList.length - 1].toNat : Int) == 45) = true by rw [beq_iff_eq]; omega, jt, beq_iff_eq.2 h3]; simp
        · rw [show ((s.data.toList[s.data.toList.length - 1].toNat : Int) == 45) = false by rw [beq_eq_false_iff_ne]; omega, jf, beq_eq_false_iff_ne.2 h3]; simp
theorem labR_low (l : List UInt8) : labR (l.map Lib.lowerB) = lblOk l := by
  unfold labR lblOk onlyZ
  have h1 : (l.map Lib.lowerB).isEmpty = l.isEmpty := by cases l <;> rfl
  have h2 : ((l.map Lib.lowerB).all okr) = l.all fun c => ([2, 3, 4] : List Int).contains (kindZ (c.toNat : Int)) := by
    rw [List.all_map]
    congr 1
    funext c
    exact okr_low c
  rw [h1, h2, List.length_map]
  cases l with
  | nil => rfl
  | cons a r =>
    have h3 : ((((a :: r).map Lib.lowerB).headD 0).toNat == 45) = (((a :: r).headD 0).toNat == 45) := dash_low a
    have h4 : ((((a :: r).map Lib.lowerB).getLastD 0).toNat == 45) = (((a :: r).getLastD 0).toNat == 45) := by
      rw [List.getLastD_eq_getLast?, List.getLastD_eq_getLast?, List.getLast?_map]
      cases hq : (a :: r).getLast? with
      | none => rfl
      | some x => exact dash_low x
    rw [h3, h4]
end Go.Proofs.YteondnhokgmakaaGreatDoor.E


namespace Go.Proofs.YteondnhokgmakaaGreatDoor.E
open Go.RowKit Go.Proofs.YteondnhokgmakaaGreatDoorW.PrintWords Go.Proofs.YteondnhokgmakaaGreatDoorW.PrintLast Go.Proofs.YteondnhokgmakaaGreatDoor.XC Go.Proofs.YteondnhokgmakaaGreatDoor.XR
set_option linter.unusedVariables false
set_option linter.unusedSimpArgs false
def cutR : List UInt8 → ByteArray → List ByteArray
  | [], last => [last]
  | c :: l, last => if c = 46 then last :: cutR l ⟨#[]⟩ else cutR l (last ++ ⟨#[c]⟩)
def starts : Nat → List UInt8 → List Int
  | _, [] => []
  | i, c :: l => if c = 46 then ((i + 1 : Nat) : Int) :: starts (i + 1) l else starts (i + 1) l
theorem data_append (a b : ByteArray) : (a ++ b).data.toList = a.data.toList ++ b.data.toList := by simp [ByteArray.append_eq, ByteArray.data_append]
theorem cutOn_at (c x : UInt8) (l : List UInt8) : Pt.cutOn c (x :: l) = if x = c then [] :: Pt.cutOn c l else match Pt.cutOn c l with
    | [] => [[x]]
    | p :: r => (x :: p) :: r := by rw [Pt.cutOn]; rfl
theorem cutR_map : ∀ (l : List UInt8) (last : ByteArray), (cutR l last).map (·.data.toList) = match Pt.cutOn 46 l with | [] => [last.data.toList] | p :: r => (last.data.toList ++ p) :: r
  | [], last => by simp [cutR, Pt.cutOn]
  | c :: l, last => by
    unfold cutR
    obtain ⟨p, r, e⟩ := Pt.cutOn_cons 46 l
    by_cases h : c = 46
    · rw [if_pos h, List.map_cons, cutR_map l ⟨#[]⟩, cutOn_at, if_pos h, e]; simp
    · rw [if_neg h, cutR_map l _, cutOn_at, if_neg h, e]
      simp only [data_append, List.append_assoc]; rfl
theorem cutR_zero (l : List UInt8) : (cutR l ⟨#[]⟩).map (·.data.toList) = Pt.cutOn 46 l := by
  rw [cutR_map]
  obtain ⟨p, r, e⟩ := Pt.cutOn_cons 46 l
  rw [e]; rfl
theorem starts_len : ∀ (l : List UInt8) (last : ByteArray) (i : Nat), (starts i l).length + 1 = (cutR l last).length
  | [], last, i => rfl
  | c :: l, last, i => by
    unfold starts cutR
    split
    · rw [List.length_cons, List.length_cons, starts_len l ⟨#[]⟩ (i + 1)]
    · exact starts_len l _ (i + 1)
theorem extract_one (s : ByteArray) (i : Nat) (h : i < s.data.toList.length) : s.extract i (i + 1) = ⟨#[s.data.toList[i]'h]⟩ := by
  apply ByteArray.ext
  rw [ByteArray.data_extract]
  apply Array.ext'
  rw [Array.toList_extract]
  simp only [List.extract_eq_take_drop, show i + 1 - i = 1 by omega]
  rw [List.drop_eq_getElem_cons h]; rfl
theorem parts_loop (s : ByteArray) (hs : s.size ≤ 253) : ∀ (m k i : Nat) (pre : List ByteArray) (last : ByteArray) (at_ : List Int), i + m = s.size → m < k → pre.length ≤ i → at_.length ≤ i + 1 → last.size ≤ i →
    sallyportref06_parts.l0 k s (pre ++ [last]) at_ (i : Int) = some (pre ++ cutR (s.data.toList.drop i) last, at_ ++ starts i (s.data.toList.drop i))
  | 0, k + 1, i, pre, last, at_, hi, hk, hp, ha, hl => by
    unfold sallyportref06_parts.l0
    rw [if_neg (by omega), List.drop_of_length_le (by rw [len_size]; omega)]
    simp [cutR, starts]
  | m + 1, k + 1, i, pre, last, at_, hi, hk, hp, ha, hl => by
    have hlt : i < s.data.toList.length := by rw [len_size]; omega
    have hw : wrap64 ((i : Int) + 1) = ((i + 1 : Nat) : Int) := by rw [wrap64_id _ (by omega) (by omega)]; omega
    have hx := extract_one s i hlt
    unfold sallyportref06_parts.l0
    rw [if_pos (by omega), if_pos (by omega), bt_get s i hlt, hw, List.drop_eq_getElem_cons hlt]
    simp only [Int.toNat_natCast]
    rw [hx]
    generalize s.data.toList[i] = c
    unfold cutR starts
    by_cases h : c = 46
    · subst h
      rw [if_pos (by decide), if_pos rfl, if_pos rfl, if_pos (by rw [List.length_append, List.length_singleton]; omega), if_pos (by omega), parts_loop s hs m k (i + 1) (pre ++ [last]) ⟨#[]⟩ (at_ ++ [((i + 1 : Nat) : Int)]) (by omega) (by omega) (by rw [List.length_append, List.length_singleton]; omega) (by rw [List.length_append, List.length_singleton]; omega) (by show 0 ≤ _; omega)]
      simp
    · have hc : ¬ (c.toNat : Int) = 46 := fun e => h (UInt8.toNat_inj.1 (show c.toNat = (46 : UInt8).toNat by show c.toNat = 46; omega))
      have hn : wrap64 (((pre ++ [last]).length : Int) - 1) = (pre.length : Int) := by rw [List.length_append, List.length_singleton, wrap64_id _ (by omega) (by omega)]; omega
      have hrd : rdOf ByteArray.empty (pre ++ [last]) (pre.length : Int) = last := by
        unfold rdOf; rw [Int.toNat_natCast, List.getD_eq_getElem?_getD, List.getElem?_append_right (Nat.le_refl _)]; simp
      have hset : (pre ++ [last]).set pre.length (last ++ ⟨#[c]⟩) = pre ++ [last ++ ⟨#[c]⟩] := by
        rw [List.set_append_right _ _ (Nat.le_refl _)]; simp
      have hsz : (last ++ (⟨#[c]⟩ : ByteArray)).size = last.size + 1 := by rw [ByteArray.size_append]; rfl
      rw [if_neg hc, if_neg h, if_neg h, hn, if_pos (by omega), if_pos (by rw [List.length_append, List.length_singleton]; omega), if_pos (by omega), if_pos (by omega), hrd, if_pos (by show last.size + 1 ≤ _; omega)]
      rw [Int.toNat_natCast, hset, parts_loop s hs m k (i + 1) pre (last ++ ⟨#[c]⟩) at_ (by omega) (by omega) (by omega) (by omega) (by rw [hsz]; omega)]
theorem parts_f (s : ByteArray) (hs : s.size ≤ 253) (k : Nat) (hk : s.size < k) : sallyportref06_parts.f k s = some (cutR s.data.toList ⟨#[]⟩, 0 :: starts 0 s.data.toList) := by
  unfold sallyportref06_parts.f
  have := parts_loop s hs s.size k 0 [] ⟨#[]⟩ [0] (by omega) hk (by simp) (by simp) (by show 0 ≤ 0; omega)
  rw [List.drop_zero] at this
  exact this
theorem fault_f (a c : Int) : ∃ r, sallyportref06_fault.f a c = some r ∧ r.1 = 1 := ⟨_, rfl, rfl⟩
def digs (p : ByteArray) : Bool := p.data.toList.all digR
theorem pn_l1 (low : ByteArray) (L : List ByteArray) (at_ : List Int) (last : ByteArray) (h0 : 0 < L.length) (h1 : L.length ≤ 1000) (hA : at_.length = L.length) (hs : last.size ≤ 253) : ∀ (m k i : Nat) (b : Bool), i + m = last.size → m < k →
    ∃ r, sallyportref06_ParseName.l1 k low L at_ last b (i : Int) = some r ∧ (if (b && (last.data.toList.drop i).all digR) = true then r.2.1 = 1 else r.1 = low ∧ r.2.1 = 0)
  | 0, k + 1, i, b, hi, hk => by
    unfold sallyportref06_ParseName.l1
    have hw : wrap64 ((L.length : Int) - 1) = (L.length : Int) - 1 := wrap64_id _ (by omega) (by omega)
    rw [if_neg (by omega), List.drop_of_length_le (by rw [len_size]; omega), hw]
    cases b
    · rw [if_neg (by simp)]
      exact ⟨_, rfl, by simp⟩
    · rw [if_pos rfl, if_pos (by omega), if_pos (by omega)]
      obtain ⟨r, hr, h⟩ := fault_f (rd at_ ((L.length : Int) - 1)) 63
      rw [hr, Option.bind_some]
      exact ⟨_, rfl, by simpa using h⟩
  | m + 1, k + 1, i, b, hi, hk => by
    have hlt : i < last.data.toList.length := by rw [len_size]; omega
    have hw : wrap64 ((i : Int) + 1) = ((i + 1 : Nat) : Int) := by rw [wrap64_id _ (by omega) (by omega)]; omega
    unfold sallyportref06_ParseName.l1
    rw [if_pos (by omega), hw]
    cases b
    · rw [if_neg (by simp)]
      have := pn_l1 low L at_ last h0 h1 hA hs m k (i + 1) false (by omega) (by omega)
      simpa using this
    · rw [if_pos rfl, if_pos (by omega), bt_get last i hlt, digit_f, Option.bind_some, List.drop_eq_getElem_cons hlt, List.all_cons]
      generalize last.data.toList[i] = c
      have := pn_l1 low L at_ last h0 h1 hA hs m k (i + 1) (digR c) (by omega) (by omega)
      simpa using this
theorem rdOf_at (l : List ByteArray) (k : Nat) (hk : k < l.length) : rdOf ByteArray.empty l (k : Int) = l[k] := by
  unfold rdOf
  rw [Int.toNat_natCast, List.getD_eq_getElem?_getD, List.getElem?_eq_getElem hk]; rfl
theorem pn_l0 (low : ByteArray) (L : List ByteArray) (at_ : List Int) (h0 : 0 < L.length) (h1 : L.length ≤ 1000) (hA : at_.length = L.length) (hs : ∀ p ∈ L, p.size ≤ 253) : ∀ (m k j : Nat), j + m = L.length → m + 300 < k →
    ∃ r, sallyportref06_ParseName.l0 k low L at_ (j : Int) = some r ∧ (if ((L.drop j).all (fun p => labR p.data.toList) && !digs (L.getLastD ⟨#[]⟩)) = true then r.1 = low ∧ r.2.1 = 0 else r.2.1 = 1)
  | 0, k + 1, j, hj, hk => by
    unfold sallyportref06_ParseName.l0
    have hw : wrap64 ((L.length : Int) - 1) = ((L.length - 1 : Nat) : Int) := by rw [wrap64_id _ (by omega) (by omega)]; omega
    rw [if_neg (by omega), List.drop_of_length_le (by omega), hw, if_pos (by omega), if_pos (by omega), rdOf_at L _ (by omega)]
    have hl : L.getLastD ⟨#[]⟩ = L[L.length - 1] := by
      rw [List.getLastD_eq_getLast?, List.getLast?_eq_getElem?, List.getElem?_eq_getElem (by omega)]; rfl
    rw [hl]
    obtain ⟨r, hr, h⟩ := pn_l1 low L at_ L[L.length - 1] h0 h1 hA (hs _ (List.getElem_mem _)) L[L.length - 1].size k 0 true (by omega) (by have := hs _ (List.getElem_mem (show L.length - 1 < L.length by omega)); omega)
    refine ⟨r, hr, ?_⟩
    rw [List.drop_zero, Bool.true_and] at h
    unfold digs
    cases hd : L[L.length - 1].data.toList.all digR
    · rw [hd] at h; simpa using h
    · rw [hd] at h; simpa using h
  | m + 1, k + 1, j, hj, hk => by
    have hlt : j < L.length := by omega
    have hw : wrap64 ((j : Int) + 1) = ((j + 1 : Nat) : Int) := by rw [wrap64_id _ (by omega) (by omega)]; omega
    have hp := hs _ (List.getElem_mem hlt)
    unfold sallyportref06_ParseName.l0
    rw [if_pos (by omega), if_pos (by omega), rdOf_at L j hlt, List.drop_eq_getElem_cons hlt, List.all_cons, label_f _ (by omega) k (by omega), Option.bind_some, hw]
    cases hb : labR L[j].data.toList
    · rw [if_neg (by simp), if_pos (by omega)]
      obtain ⟨r, hr, h⟩ := fault_f (rd at_ (j : Int)) 61
      rw [hr, Option.bind_some]
      exact ⟨_, rfl, by simpa using h⟩
    · rw [if_pos rfl, Bool.true_and]
      exact pn_l0 low L at_ h0 h1 hA hs m k (j + 1) (by omega) (by omega)
theorem cutOn_low : ∀ l : List UInt8, Pt.cutOn 46 (l.map Lib.lowerB) = (Pt.cutOn 46 l).map (List.map Lib.lowerB)
  | [] => rfl
  | c :: l => by
    have ih := cutOn_low l
    obtain ⟨p, r, e⟩ := Pt.cutOn_cons 46 l
    rw [List.map_cons, cutOn_at, cutOn_at]
    by_cases h : c = 46
    · rw [if_pos h, if_pos ((dot_low c).2 h), ih]; rfl
    · rw [if_neg h, if_neg (fun h2 => h ((dot_low c).1 h2)), ih, e]; rfl
theorem getLastD_map {α β : Type} (f : α → β) (l : List α) (d : α) (d' : β) (h : l ≠ []) : (l.map f).getLastD d' = f (l.getLastD d) := by
  rw [List.getLastD_eq_getLast?, List.getLastD_eq_getLast?, List.getLast?_map]
  cases hq : l.getLast? with
  | none => exact absurd (List.getLast?_eq_none_iff.1 hq) h
  | some x => rfl
theorem low_size (s : ByteArray) : (⟨(Lib.toLowerA s.data.toList).toArray⟩ : ByteArray).size = s.size := by
  show (Lib.toLowerA s.data.toList).toArray.size = _
  rw [List.size_toArray, Lib.toLowerA, List.length_map, Array.length_toList]; rfl
theorem refCheck_f (a b c d : Int) (n : ByteArray) (hn : n.size ≤ 281474976710656) : sallyportref06_Check.f 1000 a b c d n = some (checkB a b c d n) := by
  unfold sallyportref06_Check.f checkB
  have htl : n.toList = n.data.toList := ByteArray.toList_eq n
  by_cases h0 : n.size = 0
  · have : n.toList = [] := by rw [htl]; exact List.eq_nil_of_length_eq_zero (by rw [len_size]; exact h0)
    rw [if_pos this, if_pos h0]
  · have hne : ¬ n.toList = [] := fun e => h0 (by rw [← len_size, ← htl, e]; rfl)
    rw [if_neg hne, if_neg h0]
    unfold sallyportref06_ParseName.f pnRes
    by_cases h253 : 253 < n.size
    · obtain ⟨r, hr, h⟩ := fault_f 253 3
      rw [if_pos (by omega), if_pos h253, hr, Option.bind_some, Option.bind_some]
      dsimp only
      rw [h, if_neg (by decide)]
    · rw [if_neg (by omega), if_neg h253]
      have hlow : E.Lower.f n = some ⟨(Lib.toLowerA n.data.toList).toArray⟩ := by unfold E.Lower.f; rw [if_pos hn]
      rw [hlow, Option.bind_some]
      have hls := low_size n
      have hll : (⟨(Lib.toLowerA n.data.toList).toArray⟩ : ByteArray).data.toList = n.data.toList.map Lib.lowerB := by show (Lib.toLowerA _).toArray.toList = _; rw [Lib.toLowerA]
      generalize hL : (⟨(Lib.toLowerA n.data.toList).toArray⟩ : ByteArray) = low at hls hll
      rw [parts_f low (by omega) 1000 (by omega), Option.bind_some]
      dsimp only
      have hmap := cutR_zero low.data.toList
      have hlen := starts_len low.data.toList ⟨#[]⟩ 0
      generalize cutR low.data.toList ⟨#[]⟩ = L at hmap hlen
      rw [hll, cutOn_low, ← parts_data] at hmap
      have hLlen : L.length = (parts n).length := by have := congrArg List.length hmap; simpa using this
      have hpl := parts_le n
      have hpp := parts_pos n
      have hsz : ∀ p ∈ L, p.size ≤ 253 := fun p hp => by
        have h1 : p.data.toList ∈ L.map (·.data.toList) := List.mem_map_of_mem hp
        rw [hmap] at h1
        obtain ⟨q, hq, e⟩ := List.mem_map.1 h1
        obtain ⟨q2, hq2, rfl⟩ := List.mem_map.1 hq
        have h2 := size_mem _ q2 hq2
        rw [sumAt_parts] at h2
        have h3 := congrArg List.length e
        rw [List.length_map, len_size, len_size] at h3
        omega
      obtain ⟨r, hr, h⟩ := pn_l0 low L (0 :: starts 0 low.data.toList) (by omega) (by omega) (by rw [List.length_cons]; omega) hsz L.length 1000 0 (by omega) (by omega)
      have hr' : sallyportref06_ParseName.l0 1000 low L (0 :: starts 0 low.data.toList) 0 = some r := hr
      rw [hr', Option.bind_some]
      rw [List.drop_zero] at h
      have hall : L.all (fun p => labR p.data.toList) = (parts n).all (fun p => lblOk p.data.toList) := by
        have e1 : L.all (fun p => labR p.data.toList) = (L.map (·.data.toList)).all labR := by rw [List.all_map]; rfl
        rw [e1, hmap, List.map_map, List.all_map]
        congr 1
        funext p
        exact labR_low _
      have hlast : digs (L.getLastD ⟨#[]⟩) = onlyZ [2] ((parts n).getLastD ⟨#[]⟩).data.toList := by
        have hLn : L ≠ [] := fun e => by rw [e] at hLlen; simp at hLlen; omega
        have hPn : parts n ≠ [] := fun e => by rw [e] at hpp; simp at hpp
        have e1 := getLastD_map (·.data.toList) L ⟨#[]⟩ [] hLn
        have e2 := getLastD_map (fun p : ByteArray => p.data.toList.map Lib.lowerB) (parts n) ⟨#[]⟩ [] hPn
        have e3 : (L.map (·.data.toList)) = (parts n).map (fun p : ByteArray => p.data.toList.map Lib.lowerB) := by rw [hmap, List.map_map]; rfl
        rw [e3, e2] at e1
        unfold digs onlyZ
        rw [← e1, List.all_map]
        congr 1
        funext x
        exact digR_low x
      rw [hall, hlast] at h
      cases hbad : badAt 0 (parts n) with
      | some x =>
        have : (parts n).all (fun p => lblOk p.data.toList) = false := by
          cases hq : (parts n).all (fun p => lblOk p.data.toList)
          · rfl
          · have := (badAt_none (parts n) 0).2 (fun p hp => List.all_eq_true.1 hq p hp)
            rw [this] at hbad; cases hbad
        rw [this, Bool.false_and, if_neg (by simp)] at h
        rw [h, if_neg (by decide)]
      | none =>
        have : (parts n).all (fun p => lblOk p.data.toList) = true := List.all_eq_true.2 (fun p hp => (badAt_none (parts n) 0).1 hbad p hp)
        rw [this, Bool.true_and] at h
        dsimp only
        cases ho : onlyZ [2] ((parts n).getLastD ⟨#[]⟩).data.toList
        · rw [ho] at h
          rw [if_pos (by rfl)] at h
          rw [h.1, h.2, if_pos rfl, if_neg Bool.false_ne_true]
          by_cases e : low.toList = n.toList
          · rw [if_pos e]
            show _ = some (low.toList == n.toList && _)
            rw [beq_iff_eq.2 e, Bool.true_and]
          · rw [if_neg e]
            show _ = some (low.toList == n.toList && _)
            rw [beq_eq_false_iff_ne.2 e, Bool.false_and]
        · rw [ho] at h
          rw [if_neg (by simp)] at h
          rw [h, if_neg (by decide), if_pos rfl]
def refCheck.f (a b c d : Int) (n : ByteArray) : Option Bool := if n.size ≤ 281474976710656 then some (checkB a b c d n) else none
theorem refCheck.calls (a b c d : Int) (n : ByteArray) (r : Bool) (w : World) (hS_ : StdW w) (h : refCheck.f a b c d n = some r) :
    Calls Tryz.prog 31 #[.agg #[.int .u8 a, .int .u8 b, .int .u8 c, .int .u8 d, .string n]] w fun e w' => e = .returned (.bool r) ∧ Below w.heap.size w w' := by
  unfold refCheck.f at h
  split at h
  · rename_i hc
    rw [← refCheck_f a b c d n hc] at h
    exact sallyportref06_Check.calls 1000 a b c d n r w hS_ h
  · cases h
end Go.Proofs.YteondnhokgmakaaGreatDoor.E


namespace Go.Proofs.YteondnhokgmakaaGreatDoor.E
open Go.RowKit Go.Proofs.YteondnhokgmakaaGreatDoorW.PrintWords Go.Proofs.YteondnhokgmakaaGreatDoorW.PrintLast Go.Proofs.YteondnhokgmakaaGreatDoorW.PrintMore Go.Proofs.YteondnhokgmakaaGreatDoor.XC
set_option linter.unusedVariables false
set_option linter.unusedSimpArgs false
theorem word_f {a b c d : Nat} (ha : a < 256) (hb : b < 256) (hc : c < 256) (hd : d < 256) : host_word.f a b c d = some ((Bt.w4 a b c d : Nat) : Int) := by
  unfold host_word.f
  rw [show ((a : Int) % 4294967296 * 16777216) % 4294967296 = (a : Int) * 16777216 by omega, show ((b : Int) % 4294967296 * 65536) % 4294967296 = (b : Int) * 65536 by omega, show ((c : Int) % 4294967296 * 256) % 4294967296 = (c : Int) * 256 by omega, show (d : Int) % 4294967296 = (d : Int) by omega, Bt.word_or a b c d ha hb hc hd]
theorem bits_f {a b c d : Nat} (ha : a < 256) (hb : b < 256) (hc : c < 256) (hd : d < 256) : policy_bits.f a b c d = some ((Bt.w4 a b c d : Nat) : Int) := by
  have := word_f ha hb hc hd
  unfold host_word.f at this
  unfold policy_bits.f
  exact this
theorem pick_nat (a b c d n : Nat) : pickZ (a : Int) b c d n = ((Bt.pk a b c d n : Nat) : Int) := by
  unfold pickZ Bt.pk
  by_cases h1 : n < 8
  · rw [if_pos (by omega), if_pos h1]
  · rw [if_neg (by omega), if_neg h1]
    by_cases h2 : n < 16
    · rw [if_pos (by omega), if_pos h2]
    · rw [if_neg (by omega), if_neg h2]
      by_cases h3 : n < 24
      · rw [if_pos (by omega), if_pos h3]
      · rw [if_neg (by omega), if_neg h3]
def bitB (a b c d n : Nat) : Bool := (Bt.pk a b c d n).testBit (7 - n % 8)
theorem bitZ_nat (a b c d n : Nat) : bitZ (pickZ (a : Int) b c d n) n = if bitB a b c d n then 1 else 0 := by
  unfold bitZ
  rw [pick_nat, Bt.bit_of]; rfl
theorem tailZ_nat (a b c d : Nat) : ∀ (m i : Nat), i + m = 32 → (tailZ (a : Int) b c d m (i : Int) = true ↔ ∀ j, i ≤ j → j < 32 → bitB a b c d j = false)
  | 0, i, hi => by
    unfold tailZ
    exact ⟨fun _ j h1 h2 => by omega, fun _ => rfl⟩
  | m + 1, i, hi => by
    unfold tailZ
    rw [bitZ_nat]
    cases hb : bitB a b c d i
    · rw [show (if (false : Bool) = true then (1 : Int) else 0) = 0 from rfl, if_pos rfl, show (i : Int) + 1 = ((i + 1 : Nat) : Int) by omega, tailZ_nat a b c d m (i + 1) (by omega)]
      constructor
      · intro h j h1 h2
        by_cases e : j = i
        · subst e; exact hb
        · exact h j (by omega) h2
      · intro h j h1 h2
        exact h j (by omega) h2
    · rw [show (if (true : Bool) = true then (1 : Int) else 0) = 1 from rfl, if_neg (by decide)]
      constructor
      · intro h; cases h
      · intro h
        have := h i (by omega) (by omega)
        rw [hb] at this; cases this
def byteI (a : Int) : Prop := 0 ≤ a ∧ a ≤ 255
theorem byteI_nat {a : Int} (h : byteI a) : ∃ n : Nat, n < 256 ∧ a = (n : Int) := ⟨a.toNat, by have := h.1; have := h.2; omega, by have := h.1; omega⟩
theorem ruleR_right (al : Bool) (a b c d bi : Int) (su : ByteArray) (lo hi : Int) (ha : byteI a) (hb : byteI b) (hc : byteI c) (hd : byteI d) (hs : su.size ≤ 281474976710656) :
    ruleR (checkB 0 0 0 0 su) a b c d bi su lo hi = rightB ⟨al, ⟨a, b, c, d⟩, bi, su, lo, hi⟩ := by
  obtain ⟨a, ha', rfl⟩ := byteI_nat ha
  obtain ⟨b, hb', rfl⟩ := byteI_nat hb
  obtain ⟨c, hc', rfl⟩ := byteI_nat hc
  obtain ⟨d, hd', rfl⟩ := byteI_nat hd
  have key := rightB_some 0 ⟨al, ⟨a, b, c, d⟩, bi, su, lo, hi⟩ hs
  dsimp only at key
  unfold ruleR
  have jt : policy_right.j0 (0 + 1) true al a b c d bi su lo hi = some false := by simp only [policy_right.j0, if_true]
  unfold policy_right.f at key
  by_cases h1 : lo < 1
  · rw [if_pos h1, jt] at key
    rw [if_pos h1]; exact Option.some.inj key
  rw [if_neg h1] at key ⊢
  by_cases h2 : 65535 < hi
  · rw [if_pos h2, jt] at key
    rw [if_pos h2]; exact Option.some.inj key
  rw [if_neg h2] at key ⊢
  by_cases h3 : hi < lo
  · rw [decide_eq_true (show lo > hi from h3), jt] at key
    rw [if_pos h3]; exact Option.some.inj key
  rw [decide_eq_false (show ¬ lo > hi from h3)] at key
  rw [if_neg h3]
  simp only [policy_right.j0, Bool.false_eq_true, if_false] at key
  by_cases h4 : su.toList = []
  · have h4' : su.toList.isEmpty = true := by rw [h4]; rfl
    rw [if_pos h4] at key
    rw [if_pos h4']
    by_cases h5 : bi < 0
    · rw [if_neg (show ¬ bi ≥ 0 by omega)] at key
      rw [if_pos h5]; exact Option.some.inj key
    rw [if_pos (show bi ≥ 0 by omega)] at key
    rw [if_neg h5]
    by_cases h6 : 32 < bi
    · rw [if_neg (show ¬ bi ≤ 32 by omega)] at key
      rw [if_pos h6]; exact Option.some.inj key
    rw [if_pos (show bi ≤ 32 by omega), bits_f ha' hb' hc' hd', Option.bind_some, if_pos (by omega)] at key
    rw [if_neg h6, ← Option.some.inj key]
    obtain ⟨n, rfl⟩ := Int.eq_ofNat_of_zero_le (show 0 ≤ bi by omega)
    have hn : n ≤ 32 := by omega
    rw [show (32 - (n : Int)).toNat = 32 - n by omega, Bool.eq_iff_iff, tailZ_nat a b c d (32 - n) n (by omega), beq_iff_eq]
    unfold shl
    rw [Int.toNat_natCast, show min n IntKind.u32.bits = n from Nat.min_eq_left (by show n ≤ 32; omega), IntKind.wrap_u32]
    have e1 : (((Bt.w4 a b c d : Nat) : Int) * 2 ^ n) % 4294967296 = (((Bt.w4 a b c d * 2 ^ n) % 4294967296 : Nat) : Int) := by simp
    rw [e1]
    have k1 := Bt.shl_zero (Bt.w4 a b c d) n hn
    have k2 := Bt.tail_bits ha' hb' hc' hd' n hn
    constructor
    · intro h
      have := k1.2 (k2.2 h)
      omega
    · intro h
      exact k2.1 (k1.1 (by omega))
  · have h4' : su.toList.isEmpty = false := by rw [List.isEmpty_eq_false_iff]; exact h4
    have hck : E.hCheck.f 0 0 0 0 su = some (checkB 0 0 0 0 su) := by unfold E.hCheck.f; rw [if_pos hs]
    rw [if_neg h4, hck, Option.bind_some] at key
    rw [h4', if_neg (by simp)]
    cases hcb : checkB 0 0 0 0 su
    · rw [hcb, if_neg (by simp)] at key
      rw [Bool.false_and]; exact Option.some.inj key
    · rw [hcb, if_pos rfl] at key
      rw [Bool.true_and]
      cases hz : ((a : Int) == 0 && ((b : Int) == 0 && ((c : Int) == 0 && ((d : Int) == 0))))
      · rw [hz, if_neg (by simp)] at key
        rw [Bool.false_and]; exact Option.some.inj key
      · rw [hz, if_pos rfl] at key
        rw [Bool.true_and]; exact Option.some.inj key
def refRule.f (al : Bool) (a b c d bi : Int) (su : ByteArray) (lo hi : Int) : Option Bool :=
  if (0 ≤ a ∧ a ≤ 255) ∧ (0 ≤ b ∧ b ≤ 255) ∧ (0 ≤ c ∧ c ≤ 255) ∧ (0 ≤ d ∧ d ≤ 255) ∧ su.size ≤ 281474976710656 then some (rightB ⟨al, ⟨a, b, c, d⟩, bi, su, lo, hi⟩) else none
theorem refRule.calls (al : Bool) (a b c d bi : Int) (su : ByteArray) (lo hi : Int) (r : Bool) (w : World) (hS_ : StdW w) (h : refRule.f al a b c d bi su lo hi = some r) :
    Calls Tryz.prog 39 #[.agg #[.bool al, .int .u8 a, .int .u8 b, .int .u8 c, .int .u8 d, .int .i64 bi, .string su, .int .i64 lo, .int .i64 hi]] w fun e w' => e = .returned (.bool r) ∧ Below w.heap.size w w' := by
  unfold refRule.f at h
  split at h
  · rename_i hc
    obtain rfl := Option.some.inj h
    rw [← ruleR_right al a b c d bi su lo hi hc.1 hc.2.1 hc.2.2.1 hc.2.2.2.1 hc.2.2.2.2]
    exact rule_walk al a b c d bi su lo hi (checkB 0 0 0 0 su) w hS_ (fun W hW => refCheck.calls 0 0 0 0 su (checkB 0 0 0 0 su) W hW (by unfold refCheck.f; rw [if_pos hc.2.2.2.2]))
  · cases h
end Go.Proofs.YteondnhokgmakaaGreatDoor.E


namespace Go.Proofs.YteondnhokgmakaaGreatDoor.XG
open Go.Proofs.YteondnhokgmakaaGreatDoor.XC Go.Proofs.YteondnhokgmakaaGreatDoor.XM
open Go.RowKit Go.Proofs.YteondnhokgmakaaGreatDoorW.PrintWords Go.Proofs.YteondnhokgmakaaGreatDoorW.PrintLast Go.Proofs.YteondnhokgmakaaGreatDoorW.PrintMore
attribute [local go_sem] max2_int min2_int max_two min_two max_three min_three max_four min_four
set_option linter.unusedVariables false
set_option linter.unusedSimpArgs false
end Go.Proofs.YteondnhokgmakaaGreatDoor.XG


namespace Go.Proofs.YteondnhokgmakaaGreatDoor.XG
open Go.Proofs.YteondnhokgmakaaGreatDoor.XC Go.Proofs.YteondnhokgmakaaGreatDoor.XM
open Go.RowKit Go.Proofs.YteondnhokgmakaaGreatDoorW.PrintWords Go.Proofs.YteondnhokgmakaaGreatDoorW.PrintLast Go.Proofs.YteondnhokgmakaaGreatDoorW.PrintMore
attribute [local go_sem] max2_int min2_int max_two min_two max_three min_three max_four min_four
set_option linter.unusedVariables false
set_option linter.unusedSimpArgs false
theorem eqA37 (d : Nat) (w : World) (x0 y0 : Bool) (x1 y1 : Int) (x2 y2 : Int) (x3 y3 : Int) (x4 y4 : Int) (x5 y5 : Int) (x6 y6 : ByteArray) (x7 y7 : Int) (x8 y8 : Int) :
  (Op.equalIn (d + 3) 37 (.agg #[.bool x0, .int .u8 x1, .int .u8 x2, .int .u8 x3, .int .u8 x4, .int .i64 x5, .string x6, .int .i64 x7, .int .i64 x8]) (.agg #[.bool y0, .int .u8 y1, .int .u8 y2, .int .u8 y3, .int .u8 y4, .int .i64 y5, .string y6, .int .i64 y7, .int .i64 y8])).run Tryz.prog w = .ok (x0 == y0 && ((x1 == y1 && (x2 == y2 && (x3 == y3 && (x4 == y4)))) && (x5 == y5 && (x6.toList == y6.toList && (x7 == y7 && (x8 == y8)))))) w := by
 refine eqA_of Tryz.underlying37 (by kernel_rfl) ?_
 refine eqf_cons (by rfl) (by go_simp; rfl) (by go_simp; rfl) (by go_simp) ?_
 refine eqf_cons (by rfl) (by go_simp) (by go_simp) (eqA24 (d + 0) w _ _ _ _ _ _ _ _) ?_
 refine eqf_cons (by rfl) (by go_simp; rfl) (by go_simp; rfl) (by go_simp) ?_
 refine eqf_cons (by rfl) (by go_simp; rfl) (by go_simp; rfl) (by go_simp) ?_
 refine eqf_cons (by rfl) (by go_simp; rfl) (by go_simp; rfl) (by go_simp) ?_
 exact eqf_last (by rfl) (by go_simp; rfl) (by go_simp; rfl) (by go_simp)
end Go.Proofs.YteondnhokgmakaaGreatDoor.XG


namespace Go.Proofs.YteondnhokgmakaaGreatDoor.XG
open Go.Proofs.YteondnhokgmakaaGreatDoor.XC Go.Proofs.YteondnhokgmakaaGreatDoor.XM
open Go.RowKit Go.Proofs.YteondnhokgmakaaGreatDoorW.PrintWords Go.Proofs.YteondnhokgmakaaGreatDoorW.PrintLast Go.Proofs.YteondnhokgmakaaGreatDoorW.PrintMore
attribute [local go_sem] max2_int min2_int max_two min_two max_three min_three max_four min_four
set_option linter.unusedVariables false
set_option linter.unusedSimpArgs false
def sallyportbase_Itoa.l0 : Nat → Int → ByteArray → Bool → Option (ByteArray)
 | 0, _, _, _ => none
 | k + 1, x0, x3, x4 => if x0 = 0 then (if x4 = true then (if 1 + x3.size ≤ 9223372036854775807 then (some ((⟨#[45]⟩ : ByteArray) ++ x3)) else (none)) else (some x3)) else (if (Int.tmod x0 10) < 0 then ((some (([(wrap64 (48 + (wrap64 (-(Int.tmod x0 10))))) % 256] : List Int) : List Int)).bind fun y101 => (if (strOfNums y101).size + x3.size ≤ 9223372036854775807 then (sallyportbase_Itoa.l0 k (wrap64 (Int.tdiv x0 10)) ((strOfNums y101) ++ x3) x4) else (none))) else ((some (([(wrap64 (48 + (Int.tmod x0 10))) % 256] : List Int) : List Int)).bind fun y104 => (if (strOfNums y104).size + x3.size ≤ 9223372036854775807 then (sallyportbase_Itoa.l0 k (wrap64 (Int.tdiv x0 10)) ((strOfNums y104) ++ x3) x4) else (none))))
def sallyportbase_Itoa.f (k : Nat) (a0 : Int) : Option (ByteArray) := if a0 = 0 then (some (⟨#[48]⟩ : ByteArray)) else (sallyportbase_Itoa.l0 k a0 (⟨#[]⟩ : ByteArray) (decide (a0 < 0)))
theorem sallyportbase_Itoa.mono_l : ∀ k, (∀ y0 y1 y2, LeO (sallyportbase_Itoa.l0 k y0 y1 y2) (sallyportbase_Itoa.l0 (k + 1) y0 y1 y2))
 | 0 => fun _ _ _ r h => by simp [sallyportbase_Itoa.l0] at h
 | k + 1 => by
  have ih0 := sallyportbase_Itoa.mono_l k
  ·intro y0 y1 y2
   unfold sallyportbase_Itoa.l0
   repeat' first
   | (with_reducible exact ih0 _ _ _)
   | (with_reducible exact LeO.refl _)
   | (with_reducible exact LeO.none _)
   | (with_reducible refine LeO.ite ?_ ?_)
   | (with_reducible refine LeO.bind ?_ (fun _ => ?_))
   | exact ih0 _ _ _
   | exact LeO.none _
   | refine LeO.ite ?_ ?_
   | refine LeO.bind ?_ (fun _ => ?_)
theorem sallyportbase_Itoa.mono : ∀ a0 k, LeO (sallyportbase_Itoa.f k a0) (sallyportbase_Itoa.f (k + 1) a0) := by
 intro a0 k
 have ih0 := sallyportbase_Itoa.mono_l k
 unfold sallyportbase_Itoa.f
 repeat' first
   | (with_reducible exact ih0 _ _ _)
   | (with_reducible exact LeO.refl _)
   | (with_reducible exact LeO.none _)
   | (with_reducible refine LeO.ite ?_ ?_)
   | (with_reducible refine LeO.bind ?_ (fun _ => ?_))
   | exact ih0 _ _ _
   | exact LeO.none _
   | refine LeO.ite ?_ ?_
   | refine LeO.bind ?_ (fun _ => ?_)
set_option maxHeartbeats 8000000 in
set_option maxRecDepth 100000 in
theorem sallyportbase_Itoa.calls (k : Nat) (a0 : Int) (r : ByteArray) (w : World) (h : sallyportbase_Itoa.f k a0 = some r) :
  Calls Tryz.prog 44 #[.int .i64 a0] w fun e w' => e = .returned (.string r) ∧ Below w.heap.size w w' := by
 have HB := Aside0.mk (Below.refl w.heap.size w)
 have H : (if a0 = 0 then (some (⟨#[48]⟩ : ByteArray)) else (sallyportbase_Itoa.l0 k a0 (⟨#[]⟩ : ByteArray) (decide (a0 < 0)))) = some r := h
 clear h
 by_cases c2 : a0 = 0
 ·rw [if_pos c2] at H
  have c2b0 : (a0 == 0) = true := beq_iff_eq.mpr c2
  have c2b1 : (a0 != 0) = false := bne_eq_false_iff_eq.mpr c2
  clear c2
  obtain rfl := Option.some.inj H
  go_enter Tryz.func44, Tryz.ntmps44
  go_wp2
  go_ret
  exact ⟨by first | rfl | (simp [errW_none, errW_some] <;> rfl) | (simp [*, errW_none, errW_some] <;> rfl), by repeat (first | (with_reducible first | exact HB.out | apply below_alloc | apply pw_below_drewN | apply below_drew1) | exact HB.out)⟩
 ·rw [if_neg c2] at H
  have c2b0 : (a0 == 0) = false := beq_eq_false_iff_ne.mpr c2
  have c2b1 : (a0 != 0) = true := bne_iff_ne.mpr c2
  have H' := Aside0.mk H
  clear H
  go_enter Tryz.func44, Tryz.ntmps44
  go_wp2
  go_loopg [0, 3] k (fun kq v0 v3 w' => ∃ (x0_1 : Int) (x3_1 : ByteArray), v0 = .int .i64 x0_1 ∧ v3 = .string x3_1 ∧ Aside0 (sallyportbase_Itoa.l0 kq x0_1 x3_1 (decide (a0 < 0)) = some r) ∧ Aside0 (kq ≤ k) ∧ Aside0 (Below w.heap.size w w'))
  case atStart => exact ⟨(a0), ((⟨#[]⟩ : ByteArray)), (by first | rfl | (simp; done) | (simp [*]; done)), (by first | rfl | (simp; done) | (simp [*]; done)), H', ⟨Nat.le_refl _⟩, ⟨by repeat (first | (with_reducible first | exact HB.out | apply below_alloc | apply pw_below_drewN | apply below_drew1) | exact HB.out)⟩⟩
  case round =>
   clear H'
   try clear c2
   try clear c2b0
   try clear c2b1
   try clear p2
   obtain ⟨x0_1, x3_1, rfl, rfl, HA, HK1, HB⟩ := hrel
   cases gk with
   | zero => exact absurd HA.out (by simp [sallyportbase_Itoa.l0])
   | succ k1 =>
    have H := HA.out
    clear HA
    simp only [sallyportbase_Itoa.l0] at H
    by_cases c3 : x0_1 = 0
    ·rw [if_pos c3] at H
     have c3b0 : (x0_1 == 0) = true := beq_iff_eq.mpr c3
     have c3b1 : (x0_1 != 0) = false := bne_eq_false_iff_eq.mpr c3
     clear c3
     by_cases c4 : (decide (a0 < 0)) = true
     ·rw [if_pos c4] at H
      have c4b0 : (decide (a0 < 0)) = true := c4
      have c4p : a0 < 0 := of_decide_eq_true c4b0
      clear c4
      by_cases c5 : 1 + x3_1.size ≤ 9223372036854775807
      ·rw [if_pos c5] at H
       have c5b0 := eq_true c5
       have c5b1 : decide (1 + x3_1.size ≤ 9223372036854775807) = true := decide_eq_true c5
       try have c5b2 : (9223372036854775807 < 1 + x3_1.size) = False := eq_false (Nat.not_lt.2 c5)
       obtain rfl := Option.some.inj H
       go_wp2
       go_ret
       exact ⟨by first | rfl | (simp [errW_none, errW_some] <;> rfl) | (simp [*, errW_none, errW_some] <;> rfl), by repeat (first | (with_reducible first | exact HB.out | apply below_alloc | apply pw_below_drewN | apply below_drew1) | exact HB.out)⟩
      ·rw [if_neg c5] at H
       exact absurd H (by simp)
     ·rw [if_neg c4] at H
      have c4b0 : (decide (a0 < 0)) = false := by simpa using c4
      have c4p : ¬ (a0 < 0) := of_decide_eq_false c4b0
      clear c4
      obtain rfl := Option.some.inj H
      go_wp2
      go_ret
      exact ⟨by first | rfl | (simp [errW_none, errW_some] <;> rfl) | (simp [*, errW_none, errW_some] <;> rfl), by repeat (first | (with_reducible first | exact HB.out | apply below_alloc | apply pw_below_drewN | apply below_drew1) | exact HB.out)⟩
    ·rw [if_neg c3] at H
     have c3b0 : (x0_1 == 0) = false := beq_eq_false_iff_ne.mpr c3
     have c3b1 : (x0_1 != 0) = true := bne_iff_ne.mpr c3
     by_cases c6 : (Int.tmod x0_1 10) < 0
     ·rw [if_pos c6] at H
      have c6b0 : decide ((Int.tmod x0_1 10) < 0) = true := decide_eq_true c6
      clear c6
      obtain ⟨y101, hy101⟩ : ∃ y_ : List Int, y_ = (([(wrap64 (48 + (wrap64 (-(Int.tmod x0_1 10))))) % 256] : List Int)) := ⟨_, rfl⟩
      replace H : (if (strOfNums y101).size + x3_1.size ≤ 9223372036854775807 then (sallyportbase_Itoa.l0 k1 (wrap64 (Int.tdiv x0_1 10)) ((strOfNums y101) ++ x3_1) (decide (a0 < 0))) else (none)) = some r := by first | (rw [hy101]; with_reducible exact H) | (have H2_ := (Option.bind_some _ _).symm.trans H; rw [hy101]; with_reducible exact H2_) | (have H2_ := (Option.bind_some _ _).symm.trans H; with_reducible exact H2_) | with_reducible exact H | (rw [hy101]; exact H) | exact H
      have Ny101 := Aside0.mk hy101
      clear hy101
      by_cases c7 : (strOfNums y101).size + x3_1.size ≤ 9223372036854775807
      ·rw [if_pos c7] at H
       have c7b0 := eq_true c7
       have c7b1 : decide ((strOfNums y101).size + x3_1.size ≤ 9223372036854775807) = true := decide_eq_true c7
       try have c7b2 : (9223372036854775807 < (strOfNums y101).size + x3_1.size) = False := eq_false (Nat.not_lt.2 c7)
       have H' := Aside0.mk H
       clear H
       go_wp2_with (first | ((with_reducible refine gate_dst (N := 21) rfl ?_); refine Kd.R_lit (Kd.int .u8) _ 5 ?hg (N := 21) ?hd (xs := ([(wrap64 (48 + (wrap64 (-(Int.tmod x0_1 10))))) % 256] : List Int)) (inner := [.int .u8 ((wrap64 (48 + (wrap64 (-(Int.tmod x0_1 10))))) % 256)]) (ok := fun _ => True) (okp := fun _ => True) ?hr ?hp (fun _ hk => hk) trivial (Below.refl _ _) (Nat.le_refl _) (by simp) ?_; (case hd => rfl); (case hg => rfl); (case hr => first | (go_simp; done) | (go_simp; rfl)); (case hp => exact (Reps.one (show Kd.M (Kd.int .u8) _ _ _ ((wrap64 (48 + (wrap64 (-(Int.tmod x0_1 10))))) % 256) [.int .u8 ((wrap64 (48 + (wrap64 (-(Int.tmod x0_1 10))))) % 256)] from rfl) (Reps.none _ _))); intro v102 w8 ho9 hb hg_ hnew_; clear hg_ hnew_; (first | rw [← Ny101.out] at ho9 | (simp only [Int.reduceToNat] at ho9; rw [← Ny101.out] at ho9)); have n0_ := Aside0.mk (Kd.R_lower ho9 (below_size (by repeat (first | (with_reducible first | exact HB.out | apply below_alloc | apply pw_below_drewN | apply below_drew1) | exact HB.out)))); have n1_ := Aside0.mk (below_step (by repeat (first | (with_reducible first | exact HB.out | apply below_alloc | apply pw_below_drewN | apply below_drew1) | exact HB.out)) hb); clear HB; have HO103 := n0_; have HB := n1_; clear n0_ n1_; clear hb ho9; have hcv10 := own_string (P := Tryz.prog) Tryz.underlying105 Tryz.underlying5 Tryz.underlying9 (Kd.own_of_R HO103.out)))
       go_roundg k1
       case measure => have := HK1.out; omega
       case rel => exact ⟨(wrap64 (Int.tdiv x0_1 10)), ((strOfNums y101) ++ x3_1), (by first | rfl | (simp; done) | (simp [*]; done)), (by first | rfl | (simp; done) | (simp [*]; done)), H', ⟨by have := HK1.out; omega⟩, ⟨by repeat (first | (with_reducible first | exact HB.out | apply below_alloc | apply pw_below_drewN | apply below_drew1) | exact HB.out)⟩⟩
      ·rw [if_neg c7] at H
       exact absurd H (by simp)
     ·rw [if_neg c6] at H
      have c6b0 : decide ((Int.tmod x0_1 10) < 0) = false := decide_eq_false c6
      clear c6
      obtain ⟨y104, hy104⟩ : ∃ y_ : List Int, y_ = (([(wrap64 (48 + (Int.tmod x0_1 10))) % 256] : List Int)) := ⟨_, rfl⟩
      replace H : (if (strOfNums y104).size + x3_1.size ≤ 9223372036854775807 then (sallyportbase_Itoa.l0 k1 (wrap64 (Int.tdiv x0_1 10)) ((strOfNums y104) ++ x3_1) (decide (a0 < 0))) else (none)) = some r := by first | (rw [hy104]; with_reducible exact H) | (have H2_ := (Option.bind_some _ _).symm.trans H; rw [hy104]; with_reducible exact H2_) | (have H2_ := (Option.bind_some _ _).symm.trans H; with_reducible exact H2_) | with_reducible exact H | (rw [hy104]; exact H) | exact H
      have Ny104 := Aside0.mk hy104
      clear hy104
      by_cases c11 : (strOfNums y104).size + x3_1.size ≤ 9223372036854775807
      ·rw [if_pos c11] at H
       have c11b0 := eq_true c11
       have c11b1 : decide ((strOfNums y104).size + x3_1.size ≤ 9223372036854775807) = true := decide_eq_true c11
       try have c11b2 : (9223372036854775807 < (strOfNums y104).size + x3_1.size) = False := eq_false (Nat.not_lt.2 c11)
       have H' := Aside0.mk H
       clear H
       go_wp2_with (first | ((with_reducible refine gate_dst (N := 21) rfl ?_); refine Kd.R_lit (Kd.int .u8) _ 5 ?hg (N := 21) ?hd (xs := ([(wrap64 (48 + (Int.tmod x0_1 10))) % 256] : List Int)) (inner := [.int .u8 ((wrap64 (48 + (Int.tmod x0_1 10))) % 256)]) (ok := fun _ => True) (okp := fun _ => True) ?hr ?hp (fun _ hk => hk) trivial (Below.refl _ _) (Nat.le_refl _) (by simp) ?_; (case hd => rfl); (case hg => rfl); (case hr => first | (go_simp; done) | (go_simp; rfl)); (case hp => exact (Reps.one (show Kd.M (Kd.int .u8) _ _ _ ((wrap64 (48 + (Int.tmod x0_1 10))) % 256) [.int .u8 ((wrap64 (48 + (Int.tmod x0_1 10))) % 256)] from rfl) (Reps.none _ _))); intro v105 w12 ho13 hb hg_ hnew_; clear hg_ hnew_; (first | rw [← Ny104.out] at ho13 | (simp only [Int.reduceToNat] at ho13; rw [← Ny104.out] at ho13)); have n0_ := Aside0.mk (Kd.R_lower ho13 (below_size (by repeat (first | (with_reducible first | exact HB.out | apply below_alloc | apply pw_below_drewN | apply below_drew1) | exact HB.out)))); have n1_ := Aside0.mk (below_step (by repeat (first | (with_reducible first | exact HB.out | apply below_alloc | apply pw_below_drewN | apply below_drew1) | exact HB.out)) hb); clear HB; have HO106 := n0_; have HB := n1_; clear n0_ n1_; clear hb ho13; have hcv14 := own_string (P := Tryz.prog) Tryz.underlying105 Tryz.underlying5 Tryz.underlying9 (Kd.own_of_R HO106.out)))
       go_roundg k1
       case measure => have := HK1.out; omega
       case rel => exact ⟨(wrap64 (Int.tdiv x0_1 10)), ((strOfNums y104) ++ x3_1), (by first | rfl | (simp; done) | (simp [*]; done)), (by first | rfl | (simp; done) | (simp [*]; done)), H', ⟨by have := HK1.out; omega⟩, ⟨by repeat (first | (with_reducible first | exact HB.out | apply below_alloc | apply pw_below_drewN | apply below_drew1) | exact HB.out)⟩⟩
      ·rw [if_neg c11] at H
       exact absurd H (by simp)
def sallyportref06_Print.f (k : Nat) (a0_0 : Int) (a0_1 : Int) (a0_2 : Int) (a0_3 : Int) (a0_4 : ByteArray) : Option (ByteArray) := (E.refCheck.f a0_0 a0_1 a0_2 a0_3 a0_4).bind fun t108 => (if t108 = true then (if a0_4.toList = ([] : List UInt8) then ((sallyportbase_Itoa.f k (wrap64 (a0_0))).bind fun t110 => (if t110.size + 1 ≤ 9223372036854775807 then ((sallyportbase_Itoa.f k (wrap64 (a0_1))).bind fun t111 => (if (t110 ++ (⟨#[46]⟩ : ByteArray)).size + t111.size ≤ 9223372036854775807 then (if ((t110 ++ (⟨#[46]⟩ : ByteArray)) ++ t111).size + 1 ≤ 9223372036854775807 then ((sallyportbase_Itoa.f k (wrap64 (a0_2))).bind fun t112 => (if (((t110 ++ (⟨#[46]⟩ : ByteArray)) ++ t111) ++ (⟨#[46]⟩ : ByteArray)).size + t112.size ≤ 9223372036854775807 then (if ((((t110 ++ (⟨#[46]⟩ : ByteArray)) ++ t111) ++ (⟨#[46]⟩ : ByteArray)) ++ t112).size + 1 ≤ 9223372036854775807 then ((sallyportbase_Itoa.f k (wrap64 (a0_3))).bind fun t113 => (if (((((t110 ++ (⟨#[46]⟩ : ByteArray)) ++ t111) ++ (⟨#[46]⟩ : ByteArray)) ++ t112) ++ (⟨#[46]⟩ : ByteArray)).size + t113.size ≤ 9223372036854775807 then (some ((((((t110 ++ (⟨#[46]⟩ : ByteArray)) ++ t111) ++ (⟨#[46]⟩ : ByteArray)) ++ t112) ++ (⟨#[46]⟩ : ByteArray)) ++ t113)) else (none))) else (none)) else (none))) else (none)) else (none))) else (none))) else (some a0_4)) else (some (⟨#[]⟩ : ByteArray)))
theorem sallyportref06_Print.mono : ∀ a0 a1 a2 a3 a4 k, LeO (sallyportref06_Print.f k a0 a1 a2 a3 a4) (sallyportref06_Print.f (k + 1) a0 a1 a2 a3 a4) := by
 intro a0 a1 a2 a3 a4 k
 unfold sallyportref06_Print.f
 repeat' first
   | (with_reducible exact sallyportbase_Itoa.mono _ _)
   | (with_reducible exact LeO.refl _)
   | (with_reducible exact LeO.none _)
   | (with_reducible refine LeO.ite ?_ ?_)
   | (with_reducible refine LeO.bind ?_ (fun _ => ?_))
   | exact sallyportbase_Itoa.mono _ _
   | exact LeO.none _
   | refine LeO.ite ?_ ?_
   | refine LeO.bind ?_ (fun _ => ?_)
def sallyportref06_Print.T6 : Bool × List (List Nat × List Nat) := (true, [([], []), ([0], [0]), ([1], [1]), ([2], [2]), ([3], [3]), ([], []), ([5], [5]), ([6], [6]), ([7, 3], [7]), ([4, 8], [4, 8]), ([9], [9]), ([], []), ([11], [11]), ([12], [12]), ([13, 8], [13]), ([10, 14], [10, 14]), ([15], [15]), ([], []), ([17], [17]), ([18], [18]), ([19, 14], [19]), ([16, 20], [16, 20]), ([21, 20, 0, 1, 2, 3, 4, 5, 6, 7, 8, 9, 10, 11, 12, 13, 14, 15, 16, 17, 18, 19, 20, 21], [21])])
def sallyportref06_Print.B6 : List Nat := [0, 1, 3, 7, 15, 0, 32, 96, 239, 511, 1023, 0, 2048, 6144, 14831, 32767, 65535, 0, 131072, 393216, 948719, 2097151, 4194303]
theorem sallyportref06_Print.tab6 : rtab .any (opsOf Tryz.f33 6) = sallyportref06_Print.T6 := by kernel_rfl
theorem sallyportref06_Print.bits6 : waitsOk sallyportref06_Print.T6.2 sallyportref06_Print.B6 = true := by kernel_rfl
set_option maxHeartbeats 8000000 in
set_option maxRecDepth 100000 in
theorem sallyportref06_Print.calls (k : Nat) (a0_0 : Int) (a0_1 : Int) (a0_2 : Int) (a0_3 : Int) (a0_4 : ByteArray) (r : ByteArray) (w : World) (hS_ : StdW w) (h : sallyportref06_Print.f k a0_0 a0_1 a0_2 a0_3 a0_4 = some r) :
  Calls Tryz.prog 33 #[.agg #[.int .u8 a0_0, .int .u8 a0_1, .int .u8 a0_2, .int .u8 a0_3, .string a0_4]] w fun e w' => e = .returned (.string r) ∧ Below w.heap.size w w' := by
 have hu26 := Tryz.underlying26
 have hu24 := Tryz.underlying24
 have HS_ := Aside0.mk hS_
 clear hS_
 have HB := Aside0.mk (Below.refl w.heap.size w)
 have H : ((E.refCheck.f a0_0 a0_1 a0_2 a0_3 a0_4).bind fun t108 => (if t108 = true then (if a0_4.toList = ([] : List UInt8) then ((sallyportbase_Itoa.f k (wrap64 (a0_0))).bind fun t110 => (if t110.size + 1 ≤ 9223372036854775807 then ((sallyportbase_Itoa.f k (wrap64 (a0_1))).bind fun t111 => (if (t110 ++ (⟨#[46]⟩ : ByteArray)).size + t111.size ≤ 9223372036854775807 then (if ((t110 ++ (⟨#[46]⟩ : ByteArray)) ++ t111).size + 1 ≤ 9223372036854775807 then ((sallyportbase_Itoa.f k (wrap64 (a0_2))).bind fun t112 => (if (((t110 ++ (⟨#[46]⟩ : ByteArray)) ++ t111) ++ (⟨#[46]⟩ : ByteArray)).size + t112.size ≤ 9223372036854775807 then (if ((((t110 ++ (⟨#[46]⟩ : ByteArray)) ++ t111) ++ (⟨#[46]⟩ : ByteArray)) ++ t112).size + 1 ≤ 9223372036854775807 then ((sallyportbase_Itoa.f k (wrap64 (a0_3))).bind fun t113 => (if (((((t110 ++ (⟨#[46]⟩ : ByteArray)) ++ t111) ++ (⟨#[46]⟩ : ByteArray)) ++ t112) ++ (⟨#[46]⟩ : ByteArray)).size + t113.size ≤ 9223372036854775807 then (some ((((((t110 ++ (⟨#[46]⟩ : ByteArray)) ++ t111) ++ (⟨#[46]⟩ : ByteArray)) ++ t112) ++ (⟨#[46]⟩ : ByteArray)) ++ t113)) else (none))) else (none)) else (none))) else (none)) else (none))) else (none))) else (some a0_4)) else (some (⟨#[]⟩ : ByteArray)))) = some r := h
 clear h
 replace H := Option.bind_eq_some_iff.mp H
 obtain ⟨t108, A20, H⟩ := H
 replace H : (if t108 = true then (if a0_4.toList = ([] : List UInt8) then ((sallyportbase_Itoa.f k (wrap64 (a0_0))).bind fun t110 => (if t110.size + 1 ≤ 9223372036854775807 then ((sallyportbase_Itoa.f k (wrap64 (a0_1))).bind fun t111 => (if (t110 ++ (⟨#[46]⟩ : ByteArray)).size + t111.size ≤ 9223372036854775807 then (if ((t110 ++ (⟨#[46]⟩ : ByteArray)) ++ t111).size + 1 ≤ 9223372036854775807 then ((sallyportbase_Itoa.f k (wrap64 (a0_2))).bind fun t112 => (if (((t110 ++ (⟨#[46]⟩ : ByteArray)) ++ t111) ++ (⟨#[46]⟩ : ByteArray)).size + t112.size ≤ 9223372036854775807 then (if ((((t110 ++ (⟨#[46]⟩ : ByteArray)) ++ t111) ++ (⟨#[46]⟩ : ByteArray)) ++ t112).size + 1 ≤ 9223372036854775807 then ((sallyportbase_Itoa.f k (wrap64 (a0_3))).bind fun t113 => (if (((((t110 ++ (⟨#[46]⟩ : ByteArray)) ++ t111) ++ (⟨#[46]⟩ : ByteArray)) ++ t112) ++ (⟨#[46]⟩ : ByteArray)).size + t113.size ≤ 9223372036854775807 then (some ((((((t110 ++ (⟨#[46]⟩ : ByteArray)) ++ t111) ++ (⟨#[46]⟩ : ByteArray)) ++ t112) ++ (⟨#[46]⟩ : ByteArray)) ++ t113)) else (none))) else (none)) else (none))) else (none)) else (none))) else (none))) else (some a0_4)) else (some (⟨#[]⟩ : ByteArray))) = some r := H
 have A2 := Aside0.mk A20
 clear A20
 by_cases c3 : t108 = true
 ·subst c3
  have H1 : (if a0_4.toList = ([] : List UInt8) then ((sallyportbase_Itoa.f k (wrap64 (a0_0))).bind fun t110 => (if t110.size + 1 ≤ 9223372036854775807 then ((sallyportbase_Itoa.f k (wrap64 (a0_1))).bind fun t111 => (if (t110 ++ (⟨#[46]⟩ : ByteArray)).size + t111.size ≤ 9223372036854775807 then (if ((t110 ++ (⟨#[46]⟩ : ByteArray)) ++ t111).size + 1 ≤ 9223372036854775807 then ((sallyportbase_Itoa.f k (wrap64 (a0_2))).bind fun t112 => (if (((t110 ++ (⟨#[46]⟩ : ByteArray)) ++ t111) ++ (⟨#[46]⟩ : ByteArray)).size + t112.size ≤ 9223372036854775807 then (if ((((t110 ++ (⟨#[46]⟩ : ByteArray)) ++ t111) ++ (⟨#[46]⟩ : ByteArray)) ++ t112).size + 1 ≤ 9223372036854775807 then ((sallyportbase_Itoa.f k (wrap64 (a0_3))).bind fun t113 => (if (((((t110 ++ (⟨#[46]⟩ : ByteArray)) ++ t111) ++ (⟨#[46]⟩ : ByteArray)) ++ t112) ++ (⟨#[46]⟩ : ByteArray)).size + t113.size ≤ 9223372036854775807 then (some ((((((t110 ++ (⟨#[46]⟩ : ByteArray)) ++ t111) ++ (⟨#[46]⟩ : ByteArray)) ++ t112) ++ (⟨#[46]⟩ : ByteArray)) ++ t113)) else (none))) else (none)) else (none))) else (none)) else (none))) else (none))) else (some a0_4)) = some r := by rw [if_pos rfl] at H; exact H
  clear H
  have H := H1
  clear H1
  by_cases c4 : a0_4.toList = ([] : List UInt8)
  ·rw [if_pos c4] at H
   have c4b0 : (a0_4.toList == ([] : List UInt8)) = true := beq_iff_eq.mpr c4
   have c4b1 : (a0_4.toList != ([] : List UInt8)) = false := bne_eq_false_iff_eq.mpr c4
   clear c4
   replace H := Option.bind_eq_some_iff.mp H
   obtain ⟨t110, A50, H⟩ := H
   replace H : (if t110.size + 1 ≤ 9223372036854775807 then ((sallyportbase_Itoa.f k (wrap64 (a0_1))).bind fun t111 => (if (t110 ++ (⟨#[46]⟩ : ByteArray)).size + t111.size ≤ 9223372036854775807 then (if ((t110 ++ (⟨#[46]⟩ : ByteArray)) ++ t111).size + 1 ≤ 9223372036854775807 then ((sallyportbase_Itoa.f k (wrap64 (a0_2))).bind fun t112 => (if (((t110 ++ (⟨#[46]⟩ : ByteArray)) ++ t111) ++ (⟨#[46]⟩ : ByteArray)).size + t112.size ≤ 9223372036854775807 then (if ((((t110 ++ (⟨#[46]⟩ : ByteArray)) ++ t111) ++ (⟨#[46]⟩ : ByteArray)) ++ t112).size + 1 ≤ 9223372036854775807 then ((sallyportbase_Itoa.f k (wrap64 (a0_3))).bind fun t113 => (if (((((t110 ++ (⟨#[46]⟩ : ByteArray)) ++ t111) ++ (⟨#[46]⟩ : ByteArray)) ++ t112) ++ (⟨#[46]⟩ : ByteArray)).size + t113.size ≤ 9223372036854775807 then (some ((((((t110 ++ (⟨#[46]⟩ : ByteArray)) ++ t111) ++ (⟨#[46]⟩ : ByteArray)) ++ t112) ++ (⟨#[46]⟩ : ByteArray)) ++ t113)) else (none))) else (none)) else (none))) else (none)) else (none))) else (none)) = some r := H
   have A5 := Aside0.mk A50
   clear A50
   by_cases c6 : t110.size + 1 ≤ 9223372036854775807
   ·rw [if_pos c6] at H
    have c6b0 := eq_true c6
    have c6b1 : decide (t110.size + 1 ≤ 9223372036854775807) = true := decide_eq_true c6
    try have c6b2 : (9223372036854775807 < t110.size + 1) = False := eq_false (Nat.not_lt.2 c6)
    replace H := Option.bind_eq_some_iff.mp H
    obtain ⟨t111, A70, H⟩ := H
    replace H : (if (t110 ++ (⟨#[46]⟩ : ByteArray)).size + t111.size ≤ 9223372036854775807 then (if ((t110 ++ (⟨#[46]⟩ : ByteArray)) ++ t111).size + 1 ≤ 9223372036854775807 then ((sallyportbase_Itoa.f k (wrap64 (a0_2))).bind fun t112 => (if (((t110 ++ (⟨#[46]⟩ : ByteArray)) ++ t111) ++ (⟨#[46]⟩ : ByteArray)).size + t112.size ≤ 9223372036854775807 then (if ((((t110 ++ (⟨#[46]⟩ : ByteArray)) ++ t111) ++ (⟨#[46]⟩ : ByteArray)) ++ t112).size + 1 ≤ 9223372036854775807 then ((sallyportbase_Itoa.f k (wrap64 (a0_3))).bind fun t113 => (if (((((t110 ++ (⟨#[46]⟩ : ByteArray)) ++ t111) ++ (⟨#[46]⟩ : ByteArray)) ++ t112) ++ (⟨#[46]⟩ : ByteArray)).size + t113.size ≤ 9223372036854775807 then (some ((((((t110 ++ (⟨#[46]⟩ : ByteArray)) ++ t111) ++ (⟨#[46]⟩ : ByteArray)) ++ t112) ++ (⟨#[46]⟩ : ByteArray)) ++ t113)) else (none))) else (none)) else (none))) else (none)) else (none)) = some r := H
    have A7 := Aside0.mk A70
    clear A70
    by_cases c8 : (t110 ++ (⟨#[46]⟩ : ByteArray)).size + t111.size ≤ 9223372036854775807
    ·rw [if_pos c8] at H
     have c8b0 := eq_true c8
     have c8b1 : decide ((t110 ++ (⟨#[46]⟩ : ByteArray)).size + t111.size ≤ 9223372036854775807) = true := decide_eq_true c8
     try have c8b2 : (9223372036854775807 < (t110 ++ (⟨#[46]⟩ : ByteArray)).size + t111.size) = False := eq_false (Nat.not_lt.2 c8)
     try have c8b5 : (9223372036854775807 < t110.size + 1 + t111.size) = False := eq_false (Nat.not_lt.2 (by have h_ := c8; simp only [ByteArray.size_append] at h_; exact h_))
     by_cases c9 : ((t110 ++ (⟨#[46]⟩ : ByteArray)) ++ t111).size + 1 ≤ 9223372036854775807
     ·rw [if_pos c9] at H
      have c9b0 := eq_true c9
      have c9b1 : decide (((t110 ++ (⟨#[46]⟩ : ByteArray)) ++ t111).size + 1 ≤ 9223372036854775807) = true := decide_eq_true c9
      try have c9b2 : (9223372036854775807 < ((t110 ++ (⟨#[46]⟩ : ByteArray)) ++ t111).size + 1) = False := eq_false (Nat.not_lt.2 c9)
      try have c9b5 : (9223372036854775807 < t110.size + 1 + t111.size + 1) = False := eq_false (Nat.not_lt.2 (by have h_ := c9; simp only [ByteArray.size_append] at h_; exact h_))
      replace H := Option.bind_eq_some_iff.mp H
      obtain ⟨t112, A100, H⟩ := H
      replace H : (if (((t110 ++ (⟨#[46]⟩ : ByteArray)) ++ t111) ++ (⟨#[46]⟩ : ByteArray)).size + t112.size ≤ 9223372036854775807 then (if ((((t110 ++ (⟨#[46]⟩ : ByteArray)) ++ t111) ++ (⟨#[46]⟩ : ByteArray)) ++ t112).size + 1 ≤ 9223372036854775807 then ((sallyportbase_Itoa.f k (wrap64 (a0_3))).bind fun t113 => (if (((((t110 ++ (⟨#[46]⟩ : ByteArray)) ++ t111) ++ (⟨#[46]⟩ : ByteArray)) ++ t112) ++ (⟨#[46]⟩ : ByteArray)).size + t113.size ≤ 9223372036854775807 then (some ((((((t110 ++ (⟨#[46]⟩ : ByteArray)) ++ t111) ++ (⟨#[46]⟩ : ByteArray)) ++ t112) ++ (⟨#[46]⟩ : ByteArray)) ++ t113)) else (none))) else (none)) else (none)) = some r := H
      have A10 := Aside0.mk A100
      clear A100
      by_cases c11 : (((t110 ++ (⟨#[46]⟩ : ByteArray)) ++ t111) ++ (⟨#[46]⟩ : ByteArray)).size + t112.size ≤ 9223372036854775807
      ·rw [if_pos c11] at H
       have c11b0 := eq_true c11
       have c11b1 : decide ((((t110 ++ (⟨#[46]⟩ : ByteArray)) ++ t111) ++ (⟨#[46]⟩ : ByteArray)).size + t112.size ≤ 9223372036854775807) = true := decide_eq_true c11
       try have c11b2 : (9223372036854775807 < (((t110 ++ (⟨#[46]⟩ : ByteArray)) ++ t111) ++ (⟨#[46]⟩ : ByteArray)).size + t112.size) = False := eq_false (Nat.not_lt.2 c11)
       try have c11b5 : (9223372036854775807 < t110.size + 1 + t111.size + 1 + t112.size) = False := eq_false (Nat.not_lt.2 (by have h_ := c11; simp only [ByteArray.size_append] at h_; exact h_))
       by_cases c12 : ((((t110 ++ (⟨#[46]⟩ : ByteArray)) ++ t111) ++ (⟨#[46]⟩ : ByteArray)) ++ t112).size + 1 ≤ 9223372036854775807
       ·rw [if_pos c12] at H
        have c12b0 := eq_true c12
        have c12b1 : decide (((((t110 ++ (⟨#[46]⟩ : ByteArray)) ++ t111) ++ (⟨#[46]⟩ : ByteArray)) ++ t112).size + 1 ≤ 9223372036854775807) = true := decide_eq_true c12
        try have c12b2 : (9223372036854775807 < ((((t110 ++ (⟨#[46]⟩ : ByteArray)) ++ t111) ++ (⟨#[46]⟩ : ByteArray)) ++ t112).size + 1) = False := eq_false (Nat.not_lt.2 c12)
        try have c12b5 : (9223372036854775807 < t110.size + 1 + t111.size + 1 + t112.size + 1) = False := eq_false (Nat.not_lt.2 (by have h_ := c12; simp only [ByteArray.size_append] at h_; exact h_))
        replace H := Option.bind_eq_some_iff.mp H
        obtain ⟨t113, A130, H⟩ := H
        replace H : (if (((((t110 ++ (⟨#[46]⟩ : ByteArray)) ++ t111) ++ (⟨#[46]⟩ : ByteArray)) ++ t112) ++ (⟨#[46]⟩ : ByteArray)).size + t113.size ≤ 9223372036854775807 then (some ((((((t110 ++ (⟨#[46]⟩ : ByteArray)) ++ t111) ++ (⟨#[46]⟩ : ByteArray)) ++ t112) ++ (⟨#[46]⟩ : ByteArray)) ++ t113)) else (none)) = some r := H
        have A13 := Aside0.mk A130
        clear A130
        by_cases c14 : (((((t110 ++ (⟨#[46]⟩ : ByteArray)) ++ t111) ++ (⟨#[46]⟩ : ByteArray)) ++ t112) ++ (⟨#[46]⟩ : ByteArray)).size + t113.size ≤ 9223372036854775807
        ·rw [if_pos c14] at H
         have c14b0 := eq_true c14
         have c14b1 : decide ((((((t110 ++ (⟨#[46]⟩ : ByteArray)) ++ t111) ++ (⟨#[46]⟩ : ByteArray)) ++ t112) ++ (⟨#[46]⟩ : ByteArray)).size + t113.size ≤ 9223372036854775807) = true := decide_eq_true c14
         try have c14b2 : (9223372036854775807 < (((((t110 ++ (⟨#[46]⟩ : ByteArray)) ++ t111) ++ (⟨#[46]⟩ : ByteArray)) ++ t112) ++ (⟨#[46]⟩ : ByteArray)).size + t113.size) = False := eq_false (Nat.not_lt.2 c14)
         try have c14b5 : (9223372036854775807 < t110.size + 1 + t111.size + 1 + t112.size + 1 + t113.size) = False := eq_false (Nat.not_lt.2 (by have h_ := c14; simp only [ByteArray.size_append] at h_; exact h_))
         obtain rfl := Option.some.inj H
         go_enter Tryz.func33, Tryz.ntmps33
         try go_wp2_with (first | ((with_reducible refine gate_dst (N := 1) rfl ?_); refine box_event ?hg (N := 1) ?hd (cs := #[.int .u8 a0_0, .int .u8 a0_1, .int .u8 a0_2, .int .u8 a0_3, .string a0_4]) (t := 26) ?hr ?_; (case hd => rfl); (case hg => rfl); (case hr => first | (go_simp; done) | (go_simp; rfl)); intro gb107 hg w15 hbox hb; have n0_ := Aside0.mk (below_step (by repeat (first | (with_reducible first | exact HB.out | apply below_alloc | apply pw_below_drewN | apply below_drew1) | exact HB.out)) hb); have n1_ := Aside0.mk (hbox); have n2_ := Aside0.mk ((by rw [hg]; exact (below_size (by repeat (first | (with_reducible first | exact HB.out | apply below_alloc | apply pw_below_drewN | apply below_drew1) | exact HB.out))) : w.heap.size ≤ gb107)); have n3_ := Aside0.mk ((by rw [hg]; exact (below_size (by repeat (first | (with_reducible first | exact HB.out | apply below_alloc | apply pw_below_drewN | apply below_drew1) | exact HB.out))) : w.heap.size ≤ gb107)); clear HB; have HB := n0_; have BK107 := n1_; have GW107 := n2_; have GE107 := n3_; clear n0_ n1_ n2_ n3_; clear hb hbox hg; have hcz16_0 : w15.cell? ⟨gb107, 0, none⟩ = some (.int .u8 a0_0) := (blk_cell BK107.out 0).trans rfl; have hcz16_1 : w15.cell? ⟨gb107, 1, none⟩ = some (.int .u8 a0_1) := (blk_cell BK107.out 1).trans rfl; have hcz16_2 : w15.cell? ⟨gb107, 2, none⟩ = some (.int .u8 a0_2) := (blk_cell BK107.out 2).trans rfl; have hcz16_3 : w15.cell? ⟨gb107, 3, none⟩ = some (.int .u8 a0_3) := (blk_cell BK107.out 3).trans rfl; have hcz16_4 : w15.cell? ⟨gb107, 4, none⟩ = some (.string a0_4) := (blk_cell BK107.out 4).trans rfl; have hfz16_0 := blk_frozen BK107.out 0; have hfz16_1 := blk_frozen BK107.out 1; have hfz16_2 := blk_frozen BK107.out 2; have hfz16_3 := blk_frozen BK107.out 3; have hfz16_4 := blk_frozen BK107.out 4) | ((with_reducible refine gate_callee (f := 31) rfl ?_); refine goesL_ (some 5) rfl rfl Tryz.func31 (by kernel_rfl) rfl #[.agg #[.int .u8 a0_0, .int .u8 a0_1, .int .u8 a0_2, .int .u8 a0_3, .string a0_4]] rfl (by (try simp only [List.map_toArray, List.map_cons, List.map_nil]); first | done | rfl | (simp only [List.length_drop, List.length_take]; rfl)) ?_; (with_reducible refine (E.refCheck.calls a0_0 a0_1 a0_2 a0_3 a0_4 true _ ?side1 A2.out).mono ?_); (case side1 => exact StdW.below HS_.out (by repeat (first | (with_reducible first | exact HB.out | apply below_alloc | apply pw_below_drewN | apply below_drew1 | refine below_set ?_ GE107.out) | exact HB.out))); rintro e w17 ⟨rfl, hb⟩; refine ⟨_, rfl, ?_⟩; have n0_ := Aside0.mk (blk_below (g := gb107) (o := .cells #[.int .u8 a0_0, .int .u8 a0_1, .int .u8 a0_2, .int .u8 a0_3, .string a0_4] 26 (0, 0)) (by (with_reducible repeat (first | refine blk_drewN ?_ _ | refine blk_drew ?_ | refine blk_alloc ?_ _)); exact BK107.out) hb); have n1_ := Aside0.mk (below_step (by repeat (first | (with_reducible first | exact HB.out | apply below_alloc | apply pw_below_drewN | apply below_drew1 | refine below_set ?_ GE107.out) | exact HB.out)) hb); clear BK107; clear HB; have BK107 := n0_; have HB := n1_; clear n0_ n1_; (try clear hb); (try clear hb2); (try clear hk); (try clear hi); have hcz18_0 : w17.cell? ⟨gb107, 0, none⟩ = some (.int .u8 a0_0) := (blk_cell BK107.out 0).trans rfl; have hcz18_1 : w17.cell? ⟨gb107, 1, none⟩ = some (.int .u8 a0_1) := (blk_cell BK107.out 1).trans rfl; have hcz18_2 : w17.cell? ⟨gb107, 2, none⟩ = some (.int .u8 a0_2) := (blk_cell BK107.out 2).trans rfl; have hcz18_3 : w17.cell? ⟨gb107, 3, none⟩ = some (.int .u8 a0_3) := (blk_cell BK107.out 3).trans rfl; have hcz18_4 : w17.cell? ⟨gb107, 4, none⟩ = some (.string a0_4) := (blk_cell BK107.out 4).trans rfl; have hfz18_0 := blk_frozen BK107.out 0; have hfz18_1 := blk_frozen BK107.out 1; have hfz18_2 := blk_frozen BK107.out 2; have hfz18_3 := blk_frozen BK107.out 3; have hfz18_4 := blk_frozen BK107.out 4) | ((with_reducible refine gate_dst (N := 3) rfl ?_); refine box_event ?hg (N := 3) ?hd (cs := #[.int .u8 0, .int .u8 0, .int .u8 0, .int .u8 0]) (t := 24) ?hr ?_; (case hd => rfl); (case hg => rfl); (case hr => first | (go_simp; done) | (go_simp; rfl)); intro gb109 hg w19 hbox hb; have n0_ := Aside0.mk (blk_below (g := gb107) (o := .cells #[.int .u8 a0_0, .int .u8 a0_1, .int .u8 a0_2, .int .u8 a0_3, .string a0_4] 26 (0, 0)) (by (with_reducible repeat (first | refine blk_drewN ?_ _ | refine blk_drew ?_ | refine blk_alloc ?_ _)); exact BK107.out) hb); have n1_ := Aside0.mk (below_step (by repeat (first | (with_reducible first | exact HB.out | apply below_alloc | apply pw_below_drewN | apply below_drew1 | refine below_set ?_ GE107.out) | exact HB.out)) hb); have n2_ := Aside0.mk (hbox); have n3_ := Aside0.mk ((by rw [hg]; exact (below_size (by repeat (first | (with_reducible first | exact HB.out | apply below_alloc | apply pw_below_drewN | apply below_drew1 | refine below_set ?_ GE107.out) | exact HB.out))) : w.heap.size ≤ gb109)); have n4_ := Aside0.mk ((by rw [hg]; exact (below_size (by repeat (first | (with_reducible first | exact HB.out | apply below_alloc | apply pw_below_drewN | apply below_drew1 | refine below_set ?_ GE107.out) | exact HB.out))) : w.heap.size ≤ gb109)); have n5_ := Aside0.mk ((by rw [hg]; exact Nat.ne_of_lt (blk_lt (g := gb107) (o := .cells #[.int .u8 a0_0, .int .u8 a0_1, .int .u8 a0_2, .int .u8 a0_3, .string a0_4] 26 (0, 0)) (by (with_reducible repeat (first | refine blk_drewN ?_ _ | refine blk_drew ?_ | refine blk_alloc ?_ _)); exact BK107.out)) : gb107 ≠ gb109)); have n6_ := Aside0.mk ((by rw [hg]; exact Nat.ne_of_gt (blk_lt (g := gb107) (o := .cells #[.int .u8 a0_0, .int .u8 a0_1, .int .u8 a0_2, .int .u8 a0_3, .string a0_4] 26 (0, 0)) (by (with_reducible repeat (first | refine blk_drewN ?_ _ | refine blk_drew ?_ | refine blk_alloc ?_ _)); exact BK107.out)) : gb109 ≠ gb107)); clear BK107; clear HB; have BK107 := n0_; have HB := n1_; have BK109 := n2_; have GW109 := n3_; have GE109 := n4_; have NB107_109 := n5_; have NB109_107 := n6_; clear n0_ n1_ n2_ n3_ n4_ n5_ n6_; clear hb hbox hg; have hnb20 := NB109_107.out; have hnc20 := NB107_109.out; have hcz21_0 : w19.cell? ⟨gb109, 0, none⟩ = some (.int .u8 0) := (blk_cell BK109.out 0).trans rfl; have hcz21_1 : w19.cell? ⟨gb109, 1, none⟩ = some (.int .u8 0) := (blk_cell BK109.out 1).trans rfl; have hcz21_2 : w19.cell? ⟨gb109, 2, none⟩ = some (.int .u8 0) := (blk_cell BK109.out 2).trans rfl; have hcz21_3 : w19.cell? ⟨gb109, 3, none⟩ = some (.int .u8 0) := (blk_cell BK109.out 3).trans rfl; have hfz21_0 := blk_frozen BK109.out 0; have hfz21_1 := blk_frozen BK109.out 1; have hfz21_2 := blk_frozen BK109.out 2; have hfz21_3 := blk_frozen BK109.out 3))
         have n0_ : Aside0 (((((w19.setCell ⟨gb109, 0, none⟩ (.int .u8 a0_0)).setCell ⟨gb109, 1, none⟩ (.int .u8 a0_1)).setCell ⟨gb109, 2, none⟩ (.int .u8 a0_2)).setCell ⟨gb109, 3, none⟩ (.int .u8 a0_3)).heap[gb107]? = some (.cells #[.int .u8 a0_0, .int .u8 a0_1, .int .u8 a0_2, .int .u8 a0_3, .string a0_4] 26 (0, 0))) := ⟨by (with_reducible repeat (first | refine blk_drewN ?_ _ | refine blk_drew ?_ | refine blk_alloc ?_ _)); refine blk_far ?_ NB107_109.out _; (with_reducible repeat (first | refine blk_drewN ?_ _ | refine blk_drew ?_ | refine blk_alloc ?_ _)); refine blk_far ?_ NB107_109.out _; (with_reducible repeat (first | refine blk_drewN ?_ _ | refine blk_drew ?_ | refine blk_alloc ?_ _)); refine blk_far ?_ NB107_109.out _; (with_reducible repeat (first | refine blk_drewN ?_ _ | refine blk_drew ?_ | refine blk_alloc ?_ _)); refine blk_far ?_ NB107_109.out _; (with_reducible repeat (first | refine blk_drewN ?_ _ | refine blk_drew ?_ | refine blk_alloc ?_ _)); exact BK107.out⟩
         have n1_ : Aside0 (((((w19.setCell ⟨gb109, 0, none⟩ (.int .u8 a0_0)).setCell ⟨gb109, 1, none⟩ (.int .u8 a0_1)).setCell ⟨gb109, 2, none⟩ (.int .u8 a0_2)).setCell ⟨gb109, 3, none⟩ (.int .u8 a0_3)).heap[gb109]? = some (.cells #[.int .u8 a0_0, .int .u8 a0_1, .int .u8 a0_2, .int .u8 a0_3] 24 (0, 0))) := ⟨by (with_reducible repeat (first | refine blk_drewN ?_ _ | refine blk_drew ?_ | refine blk_alloc ?_ _)); refine blk_put (cs := #[.int .u8 a0_0, .int .u8 a0_1, .int .u8 a0_2, .int .u8 0]) ?_ 3 _ rfl; (with_reducible repeat (first | refine blk_drewN ?_ _ | refine blk_drew ?_ | refine blk_alloc ?_ _)); refine blk_put (cs := #[.int .u8 a0_0, .int .u8 a0_1, .int .u8 0, .int .u8 0]) ?_ 2 _ rfl; (with_reducible repeat (first | refine blk_drewN ?_ _ | refine blk_drew ?_ | refine blk_alloc ?_ _)); refine blk_put (cs := #[.int .u8 a0_0, .int .u8 0, .int .u8 0, .int .u8 0]) ?_ 1 _ rfl; (with_reducible repeat (first | refine blk_drewN ?_ _ | refine blk_drew ?_ | refine blk_alloc ?_ _)); refine blk_put (cs := #[.int .u8 0, .int .u8 0, .int .u8 0, .int .u8 0]) ?_ 0 _ rfl; (with_reducible repeat (first | refine blk_drewN ?_ _ | refine blk_drew ?_ | refine blk_alloc ?_ _)); exact BK109.out⟩
         have n2_ : Aside0 (Below w.heap.size w ((((w19.setCell ⟨gb109, 0, none⟩ (.int .u8 a0_0)).setCell ⟨gb109, 1, none⟩ (.int .u8 a0_1)).setCell ⟨gb109, 2, none⟩ (.int .u8 a0_2)).setCell ⟨gb109, 3, none⟩ (.int .u8 a0_3))) := ⟨by repeat (first | (with_reducible first | exact HB.out | apply below_alloc | apply pw_below_drewN | apply below_drew1 | refine below_set ?_ GE107.out | refine below_set ?_ GE109.out) | exact HB.out)⟩
         (try clear BK107)
         (try clear BK109)
         (try clear HB)
         generalize ((((w19.setCell ⟨gb109, 0, none⟩ (.int .u8 a0_0)).setCell ⟨gb109, 1, none⟩ (.int .u8 a0_1)).setCell ⟨gb109, 2, none⟩ (.int .u8 a0_2)).setCell ⟨gb109, 3, none⟩ (.int .u8 a0_3)) = w22 at n0_ n1_ n2_ ⊢
         have BK107 := n0_
         have BK109 := n1_
         have HB := n2_
         clear n0_ n1_ n2_
         have n0_ := Aside0.mk (blk_drew BK107.out)
         have n1_ := Aside0.mk (blk_drew BK109.out)
         have n2_ := Aside0.mk (below_drew1 HB.out)
         clear BK107
         clear BK109
         clear HB
         have BK107 := n0_
         have BK109 := n1_
         have HB := n2_
         clear n0_ n1_ n2_
         refine start_ (n := 23) (S := fun w' => w'.cell? ⟨gb109, 0, none⟩ = some (.int .u8 a0_0) ∧ w'.cell? ⟨gb109, 1, none⟩ = some (.int .u8 a0_1) ∧ w'.cell? ⟨gb109, 2, none⟩ = some (.int .u8 a0_2) ∧ w'.cell? ⟨gb109, 3, none⟩ = some (.int .u8 a0_3)) (ds := []) #[false, false, false, false, false, false, false, false, false, false, false, false, false, false, false, false, false, false, false, false, false, false, false] (by kernel_rfl) rfl rfl ⟨(blk_cell BK109.out 0).trans rfl, (blk_cell BK109.out 1).trans rfl, (blk_cell BK109.out 2).trans rfl, (blk_cell BK109.out 3).trans rfl⟩ (fun hHeld => ?_); refine with_tabW sallyportref06_Print.tab6 sallyportref06_Print.bits6 (fun HT_ HW_ => ?_)
         generalize w22.drew = w23 at BK107 BK109 HB hHeld ⊢
         refine pure_ (i := 0) (N := some 14) (v := ?_) (a' := ?_) #[true, false, false, false, false, false, false, false, false, false, false, false, false, false, false, false, false, false, false, false, false, false, false] rfl rfl (any_of HT_.out (by kernel_rfl)) (fun _ _ _ h => h) (Or.inl ⟨by rfl, ?_⟩) ?_ ?_
         rotate_left
         ·intro w'
          go_simp
          with_reducible rfl
         rotate_left
         ·simp only [Act.put, List.setIfInBounds_toArray, List.set_cons_zero, List.set_cons_succ, i64_w, i32_w]
          rfl
         refine pure_ (i := 5) (N := some 19) (v := ?_) (a' := ?_) #[true, false, false, false, false, true, false, false, false, false, false, false, false, false, false, false, false, false, false, false, false, false, false] rfl rfl (any_of HT_.out (by kernel_rfl)) (fun _ _ _ h => h) (Or.inl ⟨by rfl, ?_⟩) ?_ ?_
         rotate_left
         ·intro w'
          go_simp
          with_reducible rfl
         rotate_left
         ·simp only [Act.put, List.setIfInBounds_toArray, List.set_cons_zero, List.set_cons_succ, i64_w, i32_w]
          rfl
         refine pure_ (i := 11) (N := some 25) (v := ?_) (a' := ?_) #[true, false, false, false, false, true, false, false, false, false, false, true, false, false, false, false, false, false, false, false, false, false, false] rfl rfl (any_of HT_.out (by kernel_rfl)) (fun _ _ _ h => h) (Or.inl ⟨by rfl, ?_⟩) ?_ ?_
         rotate_left
         ·intro w'
          go_simp
          with_reducible rfl
         rotate_left
         ·simp only [Act.put, List.setIfInBounds_toArray, List.set_cons_zero, List.set_cons_succ, i64_w, i32_w]
          rfl
         refine pure_ (i := 17) (N := some 31) (v := ?_) (a' := ?_) #[true, false, false, false, false, true, false, false, false, false, false, true, false, false, false, false, false, true, false, false, false, false, false] rfl rfl (any_of HT_.out (by kernel_rfl)) (fun _ _ _ h => h) (Or.inl ⟨by rfl, ?_⟩) ?_ ?_
         rotate_left
         ·intro w'
          go_simp
          with_reducible rfl
         rotate_left
         ·simp only [Act.put, List.setIfInBounds_toArray, List.set_cons_zero, List.set_cons_succ, i64_w, i32_w]
          rfl
         refine take_ (i := 1) (N := some 15) (v := ?_) (a' := ?_) #[true, true, false, false, false, true, false, false, false, false, false, true, false, false, false, false, false, true, false, false, false, false, false] rfl rfl (take_ofW HT_.out HW_.out (by kernel_rfl)) (fun _ _ _ h => h) (Or.inl ⟨by rfl, ?_⟩) hHeld ?_ ?_
         rotate_left
         ·rintro w' ⟨s0, s1, s2, s3⟩
          go_simp
          with_reducible rfl
         rotate_left
         ·simp only [Act.put, List.setIfInBounds_toArray, List.set_cons_zero, List.set_cons_succ, i64_w, i32_w]
          rfl
         refine pure_ (i := 2) (N := some 16) (v := ?_) (a' := ?_) #[true, true, true, false, false, true, false, false, false, false, false, true, false, false, false, false, false, true, false, false, false, false, false] rfl rfl (any_of HT_.out (by kernel_rfl)) (fun _ _ _ h => h) (Or.inl ⟨by rfl, ?_⟩) ?_ ?_
         rotate_left
         ·intro w'
          go_simp
          with_reducible rfl
         rotate_left
         ·simp only [Act.put, List.setIfInBounds_toArray, List.set_cons_zero, List.set_cons_succ, i64_w, i32_w]
          rfl
         refine take_ (i := 6) (N := some 20) (v := ?_) (a' := ?_) #[true, true, true, false, false, true, true, false, false, false, false, true, false, false, false, false, false, true, false, false, false, false, false] rfl rfl (take_ofW HT_.out HW_.out (by kernel_rfl)) (fun _ _ _ h => h) (Or.inl ⟨by rfl, ?_⟩) hHeld ?_ ?_
         rotate_left
         ·rintro w' ⟨s0, s1, s2, s3⟩
          go_simp
          with_reducible rfl
         rotate_left
         ·simp only [Act.put, List.setIfInBounds_toArray, List.set_cons_zero, List.set_cons_succ, i64_w, i32_w]
          rfl
         refine pure_ (i := 7) (N := some 21) (v := ?_) (a' := ?_) #[true, true, true, false, false, true, true, true, false, false, false, true, false, false, false, false, false, true, false, false, false, false, false] rfl rfl (any_of HT_.out (by kernel_rfl)) (fun _ _ _ h => h) (Or.inl ⟨by rfl, ?_⟩) ?_ ?_
         rotate_left
         ·intro w'
          go_simp
          with_reducible rfl
         rotate_left
         ·simp only [Act.put, List.setIfInBounds_toArray, List.set_cons_zero, List.set_cons_succ, i64_w, i32_w]
          rfl
         refine take_ (i := 12) (N := some 26) (v := ?_) (a' := ?_) #[true, true, true, false, false, true, true, true, false, false, false, true, true, false, false, false, false, true, false, false, false, false, false] rfl rfl (take_ofW HT_.out HW_.out (by kernel_rfl)) (fun _ _ _ h => h) (Or.inl ⟨by rfl, ?_⟩) hHeld ?_ ?_
         rotate_left
         ·rintro w' ⟨s0, s1, s2, s3⟩
          go_simp
          with_reducible rfl
         rotate_left
         ·simp only [Act.put, List.setIfInBounds_toArray, List.set_cons_zero, List.set_cons_succ, i64_w, i32_w]
          rfl
         refine pure_ (i := 13) (N := some 27) (v := ?_) (a' := ?_) #[true, true, true, false, false, true, true, true, false, false, false, true, true, true, false, false, false, true, false, false, false, false, false] rfl rfl (any_of HT_.out (by kernel_rfl)) (fun _ _ _ h => h) (Or.inl ⟨by rfl, ?_⟩) ?_ ?_
         rotate_left
         ·intro w'
          go_simp
          with_reducible rfl
         rotate_left
         ·simp only [Act.put, List.setIfInBounds_toArray, List.set_cons_zero, List.set_cons_succ, i64_w, i32_w]
          rfl
         refine take_ (i := 18) (N := some 32) (v := ?_) (a' := ?_) #[true, true, true, false, false, true, true, true, false, false, false, true, true, true, false, false, false, true, true, false, false, false, false] rfl rfl (take_ofW HT_.out HW_.out (by kernel_rfl)) (fun _ _ _ h => h) (Or.inl ⟨by rfl, ?_⟩) hHeld ?_ ?_
         rotate_left
         ·rintro w' ⟨s0, s1, s2, s3⟩
          go_simp
          with_reducible rfl
         rotate_left
         ·simp only [Act.put, List.setIfInBounds_toArray, List.set_cons_zero, List.set_cons_succ, i64_w, i32_w]
          rfl
         refine pure_ (i := 19) (N := some 33) (v := ?_) (a' := ?_) #[true, true, true, false, false, true, true, true, false, false, false, true, true, true, false, false, false, true, true, true, false, false, false] rfl rfl (any_of HT_.out (by kernel_rfl)) (fun _ _ _ h => h) (Or.inl ⟨by rfl, ?_⟩) ?_ ?_
         rotate_left
         ·intro w'
          go_simp
          with_reducible rfl
         rotate_left
         ·simp only [Act.put, List.setIfInBounds_toArray, List.set_cons_zero, List.set_cons_succ, i64_w, i32_w]
          rfl
         refine one_ (i := 3) (N := some 17) #[true, true, true, true, false, true, true, true, false, false, false, true, true, true, false, false, false, true, true, true, false, false, false] rfl rfl (one_of HT_.out (by kernel_rfl)) (by decide) (fun K hK => ?_)
         refine goes_ Tryz.func44 (by kernel_rfl) rfl #[.int .i64 (wrap64 (a0_0))] (by rfl) rfl rfl (by (try simp only [List.map_toArray, List.map_cons, List.map_nil]); first | done | rfl | (simp only [List.length_drop, List.length_take]; rfl)) ?_
         with_reducible refine (sallyportbase_Itoa.calls k (wrap64 (a0_0)) t110 _ A5.out).mono ?_
         rintro e w24 ⟨rfl, hb⟩
         refine ⟨_, rfl, ?_⟩
         have n0_ := Aside0.mk (blk_below (g := gb107) (o := .cells #[.int .u8 a0_0, .int .u8 a0_1, .int .u8 a0_2, .int .u8 a0_3, .string a0_4] 26 (0, 0)) (by (with_reducible repeat (first | refine blk_drewN ?_ _ | refine blk_drew ?_ | refine blk_alloc ?_ _)); exact BK107.out) hb)
         have n1_ := Aside0.mk (blk_below (g := gb109) (o := .cells #[.int .u8 a0_0, .int .u8 a0_1, .int .u8 a0_2, .int .u8 a0_3] 24 (0, 0)) (by (with_reducible repeat (first | refine blk_drewN ?_ _ | refine blk_drew ?_ | refine blk_alloc ?_ _)); exact BK109.out) hb)
         have n2_ := Aside0.mk (below_step (by repeat (first | (with_reducible first | exact HB.out | apply below_alloc | apply pw_below_drewN | apply below_drew1 | refine below_set ?_ GE107.out | refine below_set ?_ GE109.out) | exact HB.out)) hb)
         clear BK107
         clear BK109
         clear HB
         have BK107 := n0_
         have BK109 := n1_
         have HB := n2_
         clear n0_ n1_ n2_
         (try clear hb)
         (try clear hb2)
         (try clear hk)
         (try clear hi)
         refine hK.out _ _ ⟨(blk_cell BK109.out 0).trans rfl, (blk_cell BK109.out 1).trans rfl, (blk_cell BK109.out 2).trans rfl, (blk_cell BK109.out 3).trans rfl⟩ (fun hHeld => ?_)
         clear hK K
         refine norm_ (a' := ?_) ?_ ?_
         rotate_left
         ·show Act.put _ (some 17) _ = _
          simp only [Act.put, List.setIfInBounds_toArray, List.set_cons_zero, List.set_cons_succ, i64_w, i32_w]
          rfl
         refine pure_ (i := 4) (N := some 18) (v := ?_) (a' := ?_) #[true, true, true, true, true, true, true, true, false, false, false, true, true, true, false, false, false, true, true, true, false, false, false] rfl rfl (any_of HT_.out (by kernel_rfl)) (fun _ _ _ h => h) (Or.inl ⟨by rfl, ?_⟩) ?_ ?_
         rotate_left
         ·intro w'
          go_simp
          with_reducible rfl
         rotate_left
         ·simp only [Act.put, List.setIfInBounds_toArray, List.set_cons_zero, List.set_cons_succ, i64_w, i32_w]
          rfl
         refine one_ (i := 8) (N := some 22) #[true, true, true, true, true, true, true, true, true, false, false, true, true, true, false, false, false, true, true, true, false, false, false] rfl rfl (one_of HT_.out (by kernel_rfl)) (by decide) (fun K hK => ?_)
         refine goes_ Tryz.func44 (by kernel_rfl) rfl #[.int .i64 (wrap64 (a0_1))] (by rfl) rfl rfl (by (try simp only [List.map_toArray, List.map_cons, List.map_nil]); first | done | rfl | (simp only [List.length_drop, List.length_take]; rfl)) ?_
         with_reducible refine (sallyportbase_Itoa.calls k (wrap64 (a0_1)) t111 _ A7.out).mono ?_
         rintro e w25 ⟨rfl, hb⟩
         refine ⟨_, rfl, ?_⟩
         have n0_ := Aside0.mk (blk_below (g := gb107) (o := .cells #[.int .u8 a0_0, .int .u8 a0_1, .int .u8 a0_2, .int .u8 a0_3, .string a0_4] 26 (0, 0)) (by (with_reducible repeat (first | refine blk_drewN ?_ _ | refine blk_drew ?_ | refine blk_alloc ?_ _)); exact BK107.out) hb)
         have n1_ := Aside0.mk (blk_below (g := gb109) (o := .cells #[.int .u8 a0_0, .int .u8 a0_1, .int .u8 a0_2, .int .u8 a0_3] 24 (0, 0)) (by (with_reducible repeat (first | refine blk_drewN ?_ _ | refine blk_drew ?_ | refine blk_alloc ?_ _)); exact BK109.out) hb)
         have n2_ := Aside0.mk (below_step (by repeat (first | (with_reducible first | exact HB.out | apply below_alloc | apply pw_below_drewN | apply below_drew1 | refine below_set ?_ GE107.out | refine below_set ?_ GE109.out) | exact HB.out)) hb)
         clear BK107
         clear BK109
         clear HB
         have BK107 := n0_
         have BK109 := n1_
         have HB := n2_
         clear n0_ n1_ n2_
         (try clear hb)
         (try clear hb2)
         (try clear hk)
         (try clear hi)
         refine hK.out _ _ ⟨(blk_cell BK109.out 0).trans rfl, (blk_cell BK109.out 1).trans rfl, (blk_cell BK109.out 2).trans rfl, (blk_cell BK109.out 3).trans rfl⟩ (fun hHeld => ?_)
         clear hK K
         refine norm_ (a' := ?_) ?_ ?_
         rotate_left
         ·show Act.put _ (some 22) _ = _
          simp only [Act.put, List.setIfInBounds_toArray, List.set_cons_zero, List.set_cons_succ, i64_w, i32_w]
          rfl
         refine pure_ (i := 9) (N := some 23) (v := ?_) (a' := ?_) #[true, true, true, true, true, true, true, true, true, true, false, true, true, true, false, false, false, true, true, true, false, false, false] rfl rfl (any_of HT_.out (by kernel_rfl)) (fun _ _ _ h => h) (Or.inl ⟨by rfl, ?_⟩) ?_ ?_
         rotate_left
         ·intro w'
          go_simp
          with_reducible rfl
         rotate_left
         ·simp only [Act.put, List.setIfInBounds_toArray, List.set_cons_zero, List.set_cons_succ, i64_w, i32_w]
          rfl
         refine pure_ (i := 10) (N := some 24) (v := ?_) (a' := ?_) #[true, true, true, true, true, true, true, true, true, true, true, true, true, true, false, false, false, true, true, true, false, false, false] rfl rfl (any_of HT_.out (by kernel_rfl)) (fun _ _ _ h => h) (Or.inl ⟨by rfl, ?_⟩) ?_ ?_
         rotate_left
         ·intro w'
          go_simp
          with_reducible rfl
         rotate_left
         ·simp only [Act.put, List.setIfInBounds_toArray, List.set_cons_zero, List.set_cons_succ, i64_w, i32_w]
          rfl
         refine one_ (i := 14) (N := some 28) #[true, true, true, true, true, true, true, true, true, true, true, true, true, true, true, false, false, true, true, true, false, false, false] rfl rfl (one_of HT_.out (by kernel_rfl)) (by decide) (fun K hK => ?_)
         refine goes_ Tryz.func44 (by kernel_rfl) rfl #[.int .i64 (wrap64 (a0_2))] (by rfl) rfl rfl (by (try simp only [List.map_toArray, List.map_cons, List.map_nil]); first | done | rfl | (simp only [List.length_drop, List.length_take]; rfl)) ?_
         with_reducible refine (sallyportbase_Itoa.calls k (wrap64 (a0_2)) t112 _ A10.out).mono ?_
         rintro e w26 ⟨rfl, hb⟩
         refine ⟨_, rfl, ?_⟩
         have n0_ := Aside0.mk (blk_below (g := gb107) (o := .cells #[.int .u8 a0_0, .int .u8 a0_1, .int .u8 a0_2, .int .u8 a0_3, .string a0_4] 26 (0, 0)) (by (with_reducible repeat (first | refine blk_drewN ?_ _ | refine blk_drew ?_ | refine blk_alloc ?_ _)); exact BK107.out) hb)
         have n1_ := Aside0.mk (blk_below (g := gb109) (o := .cells #[.int .u8 a0_0, .int .u8 a0_1, .int .u8 a0_2, .int .u8 a0_3] 24 (0, 0)) (by (with_reducible repeat (first | refine blk_drewN ?_ _ | refine blk_drew ?_ | refine blk_alloc ?_ _)); exact BK109.out) hb)
         have n2_ := Aside0.mk (below_step (by repeat (first | (with_reducible first | exact HB.out | apply below_alloc | apply pw_below_drewN | apply below_drew1 | refine below_set ?_ GE107.out | refine below_set ?_ GE109.out) | exact HB.out)) hb)
         clear BK107
         clear BK109
         clear HB
         have BK107 := n0_
         have BK109 := n1_
         have HB := n2_
         clear n0_ n1_ n2_
         (try clear hb)
         (try clear hb2)
         (try clear hk)
         (try clear hi)
         refine hK.out _ _ ⟨(blk_cell BK109.out 0).trans rfl, (blk_cell BK109.out 1).trans rfl, (blk_cell BK109.out 2).trans rfl, (blk_cell BK109.out 3).trans rfl⟩ (fun hHeld => ?_)
         clear hK K
         refine norm_ (a' := ?_) ?_ ?_
         rotate_left
         ·show Act.put _ (some 28) _ = _
          simp only [Act.put, List.setIfInBounds_toArray, List.set_cons_zero, List.set_cons_succ, i64_w, i32_w]
          rfl
         refine pure_ (i := 15) (N := some 29) (v := ?_) (a' := ?_) #[true, true, true, true, true, true, true, true, true, true, true, true, true, true, true, true, false, true, true, true, false, false, false] rfl rfl (any_of HT_.out (by kernel_rfl)) (fun _ _ _ h => h) (Or.inl ⟨by rfl, ?_⟩) ?_ ?_
         rotate_left
         ·intro w'
          go_simp
          with_reducible rfl
         rotate_left
         ·simp only [Act.put, List.setIfInBounds_toArray, List.set_cons_zero, List.set_cons_succ, i64_w, i32_w]
          rfl
         refine pure_ (i := 16) (N := some 30) (v := ?_) (a' := ?_) #[true, true, true, true, true, true, true, true, true, true, true, true, true, true, true, true, true, true, true, true, false, false, false] rfl rfl (any_of HT_.out (by kernel_rfl)) (fun _ _ _ h => h) (Or.inl ⟨by rfl, ?_⟩) ?_ ?_
         rotate_left
         ·intro w'
          go_simp
          with_reducible rfl
         rotate_left
         ·simp only [Act.put, List.setIfInBounds_toArray, List.set_cons_zero, List.set_cons_succ, i64_w, i32_w]
          rfl
         refine one_ (i := 20) (N := some 34) #[true, true, true, true, true, true, true, true, true, true, true, true, true, true, true, true, true, true, true, true, true, false, false] rfl rfl (one_of HT_.out (by kernel_rfl)) (by decide) (fun K hK => ?_)
         refine goes_ Tryz.func44 (by kernel_rfl) rfl #[.int .i64 (wrap64 (a0_3))] (by rfl) rfl rfl (by (try simp only [List.map_toArray, List.map_cons, List.map_nil]); first | done | rfl | (simp only [List.length_drop, List.length_take]; rfl)) ?_
         with_reducible refine (sallyportbase_Itoa.calls k (wrap64 (a0_3)) t113 _ A13.out).mono ?_
         rintro e w27 ⟨rfl, hb⟩
         refine ⟨_, rfl, ?_⟩
         have n0_ := Aside0.mk (blk_below (g := gb107) (o := .cells #[.int .u8 a0_0, .int .u8 a0_1, .int .u8 a0_2, .int .u8 a0_3, .string a0_4] 26 (0, 0)) (by (with_reducible repeat (first | refine blk_drewN ?_ _ | refine blk_drew ?_ | refine blk_alloc ?_ _)); exact BK107.out) hb)
         have n1_ := Aside0.mk (blk_below (g := gb109) (o := .cells #[.int .u8 a0_0, .int .u8 a0_1, .int .u8 a0_2, .int .u8 a0_3] 24 (0, 0)) (by (with_reducible repeat (first | refine blk_drewN ?_ _ | refine blk_drew ?_ | refine blk_alloc ?_ _)); exact BK109.out) hb)
         have n2_ := Aside0.mk (below_step (by repeat (first | (with_reducible first | exact HB.out | apply below_alloc | apply pw_below_drewN | apply below_drew1 | refine below_set ?_ GE107.out | refine below_set ?_ GE109.out) | exact HB.out)) hb)
         clear BK107
         clear BK109
         clear HB
         have BK107 := n0_
         have BK109 := n1_
         have HB := n2_
         clear n0_ n1_ n2_
         (try clear hb)
         (try clear hb2)
         (try clear hk)
         (try clear hi)
         refine hK.out _ _ ⟨(blk_cell BK109.out 0).trans rfl, (blk_cell BK109.out 1).trans rfl, (blk_cell BK109.out 2).trans rfl, (blk_cell BK109.out 3).trans rfl⟩ (fun hHeld => ?_)
         clear hK K
         refine norm_ (a' := ?_) ?_ ?_
         rotate_left
         ·show Act.put _ (some 34) _ = _
          simp only [Act.put, List.setIfInBounds_toArray, List.set_cons_zero, List.set_cons_succ, i64_w, i32_w]
          rfl
         refine pure_ (i := 21) (N := some 35) (v := ?_) (a' := ?_) #[true, true, true, true, true, true, true, true, true, true, true, true, true, true, true, true, true, true, true, true, true, true, false] rfl rfl (any_of HT_.out (by kernel_rfl)) (fun _ _ _ h => h) (Or.inl ⟨by rfl, ?_⟩) ?_ ?_
         rotate_left
         ·intro w'
          go_simp
          with_reducible rfl
         rotate_left
         ·simp only [Act.put, List.setIfInBounds_toArray, List.set_cons_zero, List.set_cons_succ, i64_w, i32_w]
          rfl
         refine pure_ (i := 22) (N := some 2) (v := ?_) (a' := ?_) #[true, true, true, true, true, true, true, true, true, true, true, true, true, true, true, true, true, true, true, true, true, true, true] rfl rfl (any_of HT_.out (by kernel_rfl)) (fun _ _ _ h => h) (Or.inl ⟨by rfl, ?_⟩) ?_ ?_
         rotate_left
         ·intro w'
          go_simp
          with_reducible rfl
         rotate_left
         ·simp only [Act.put, List.setIfInBounds_toArray, List.set_cons_zero, List.set_cons_succ, i64_w, i32_w]
          rfl
         refine done_ (done_of HT_.out (by kernel_rfl)) ?_
         try go_wp2
         go_ret
         exact ⟨by first | rfl | (simp [errW_none, errW_some] <;> rfl) | (simp [*, errW_none, errW_some] <;> rfl), by repeat (first | (with_reducible first | exact HB.out | apply below_alloc | apply pw_below_drewN | apply below_drew1 | refine below_set ?_ GE107.out | refine below_set ?_ GE109.out) | exact HB.out)⟩
        ·rw [if_neg c14] at H
         exact absurd H (by simp)
       ·rw [if_neg c12] at H
        exact absurd H (by simp)
      ·rw [if_neg c11] at H
       exact absurd H (by simp)
     ·rw [if_neg c9] at H
      exact absurd H (by simp)
    ·rw [if_neg c8] at H
     exact absurd H (by simp)
   ·rw [if_neg c6] at H
    exact absurd H (by simp)
  ·rw [if_neg c4] at H
   have c4b0 : (a0_4.toList == ([] : List UInt8)) = false := beq_eq_false_iff_ne.mpr c4
   have c4b1 : (a0_4.toList != ([] : List UInt8)) = true := bne_iff_ne.mpr c4
   obtain rfl := Option.some.inj H
   go_enter Tryz.func33, Tryz.ntmps33
   go_wp2_with (first | ((with_reducible refine gate_dst (N := 1) rfl ?_); refine box_event ?hg (N := 1) ?hd (cs := #[.int .u8 a0_0, .int .u8 a0_1, .int .u8 a0_2, .int .u8 a0_3, .string a0_4]) (t := 26) ?hr ?_; (case hd => rfl); (case hg => rfl); (case hr => first | (go_simp; done) | (go_simp; rfl)); intro gb107 hg w28 hbox hb; have n0_ := Aside0.mk (below_step (by repeat (first | (with_reducible first | exact HB.out | apply below_alloc | apply pw_below_drewN | apply below_drew1) | exact HB.out)) hb); have n1_ := Aside0.mk (hbox); have n2_ := Aside0.mk ((by rw [hg]; exact (below_size (by repeat (first | (with_reducible first | exact HB.out | apply below_alloc | apply pw_below_drewN | apply below_drew1) | exact HB.out))) : w.heap.size ≤ gb107)); have n3_ := Aside0.mk ((by rw [hg]; exact (below_size (by repeat (first | (with_reducible first | exact HB.out | apply below_alloc | apply pw_below_drewN | apply below_drew1) | exact HB.out))) : w.heap.size ≤ gb107)); clear HB; have HB := n0_; have BK107 := n1_; have GW107 := n2_; have GE107 := n3_; clear n0_ n1_ n2_ n3_; clear hb hbox hg; have hcz29_0 : w28.cell? ⟨gb107, 0, none⟩ = some (.int .u8 a0_0) := (blk_cell BK107.out 0).trans rfl; have hcz29_1 : w28.cell? ⟨gb107, 1, none⟩ = some (.int .u8 a0_1) := (blk_cell BK107.out 1).trans rfl; have hcz29_2 : w28.cell? ⟨gb107, 2, none⟩ = some (.int .u8 a0_2) := (blk_cell BK107.out 2).trans rfl; have hcz29_3 : w28.cell? ⟨gb107, 3, none⟩ = some (.int .u8 a0_3) := (blk_cell BK107.out 3).trans rfl; have hcz29_4 : w28.cell? ⟨gb107, 4, none⟩ = some (.string a0_4) := (blk_cell BK107.out 4).trans rfl; have hfz29_0 := blk_frozen BK107.out 0; have hfz29_1 := blk_frozen BK107.out 1; have hfz29_2 := blk_frozen BK107.out 2; have hfz29_3 := blk_frozen BK107.out 3; have hfz29_4 := blk_frozen BK107.out 4) | ((with_reducible refine gate_callee (f := 31) rfl ?_); refine goesL_ (some 5) rfl rfl Tryz.func31 (by kernel_rfl) rfl #[.agg #[.int .u8 a0_0, .int .u8 a0_1, .int .u8 a0_2, .int .u8 a0_3, .string a0_4]] rfl (by (try simp only [List.map_toArray, List.map_cons, List.map_nil]); first | done | rfl | (simp only [List.length_drop, List.length_take]; rfl)) ?_; (with_reducible refine (E.refCheck.calls a0_0 a0_1 a0_2 a0_3 a0_4 true _ ?side1 A2.out).mono ?_); (case side1 => exact StdW.below HS_.out (by repeat (first | (with_reducible first | exact HB.out | apply below_alloc | apply pw_below_drewN | apply below_drew1 | refine below_set ?_ GE107.out) | exact HB.out))); rintro e w30 ⟨rfl, hb⟩; refine ⟨_, rfl, ?_⟩; have n0_ := Aside0.mk (blk_below (g := gb107) (o := .cells #[.int .u8 a0_0, .int .u8 a0_1, .int .u8 a0_2, .int .u8 a0_3, .string a0_4] 26 (0, 0)) (by (with_reducible repeat (first | refine blk_drewN ?_ _ | refine blk_drew ?_ | refine blk_alloc ?_ _)); exact BK107.out) hb); have n1_ := Aside0.mk (below_step (by repeat (first | (with_reducible first | exact HB.out | apply below_alloc | apply pw_below_drewN | apply below_drew1 | refine below_set ?_ GE107.out) | exact HB.out)) hb); clear BK107; clear HB; have BK107 := n0_; have HB := n1_; clear n0_ n1_; (try clear hb); (try clear hb2); (try clear hk); (try clear hi); have hcz31_0 : w30.cell? ⟨gb107, 0, none⟩ = some (.int .u8 a0_0) := (blk_cell BK107.out 0).trans rfl; have hcz31_1 : w30.cell? ⟨gb107, 1, none⟩ = some (.int .u8 a0_1) := (blk_cell BK107.out 1).trans rfl; have hcz31_2 : w30.cell? ⟨gb107, 2, none⟩ = some (.int .u8 a0_2) := (blk_cell BK107.out 2).trans rfl; have hcz31_3 : w30.cell? ⟨gb107, 3, none⟩ = some (.int .u8 a0_3) := (blk_cell BK107.out 3).trans rfl; have hcz31_4 : w30.cell? ⟨gb107, 4, none⟩ = some (.string a0_4) := (blk_cell BK107.out 4).trans rfl; have hfz31_0 := blk_frozen BK107.out 0; have hfz31_1 := blk_frozen BK107.out 1; have hfz31_2 := blk_frozen BK107.out 2; have hfz31_3 := blk_frozen BK107.out 3; have hfz31_4 := blk_frozen BK107.out 4))
   go_ret
   exact ⟨by first | rfl | (simp [errW_none, errW_some] <;> rfl) | (simp [*, errW_none, errW_some] <;> rfl), by repeat (first | (with_reducible first | exact HB.out | apply below_alloc | apply pw_below_drewN | apply below_drew1 | refine below_set ?_ GE107.out) | exact HB.out)⟩
 ·replace c3 := Bool.eq_false_iff.mpr c3
  subst c3
  have H1 : (some (⟨#[]⟩ : ByteArray)) = some r := by rw [if_neg (show ¬ (false = true) by decide)] at H; exact H
  clear H
  have H := H1
  clear H1
  obtain rfl := Option.some.inj H
  go_enter Tryz.func33, Tryz.ntmps33
  go_wp2_with (first | ((with_reducible refine gate_dst (N := 1) rfl ?_); refine box_event ?hg (N := 1) ?hd (cs := #[.int .u8 a0_0, .int .u8 a0_1, .int .u8 a0_2, .int .u8 a0_3, .string a0_4]) (t := 26) ?hr ?_; (case hd => rfl); (case hg => rfl); (case hr => first | (go_simp; done) | (go_simp; rfl)); intro gb107 hg w32 hbox hb; have n0_ := Aside0.mk (below_step (by repeat (first | (with_reducible first | exact HB.out | apply below_alloc | apply pw_below_drewN | apply below_drew1) | exact HB.out)) hb); have n1_ := Aside0.mk (hbox); have n2_ := Aside0.mk ((by rw [hg]; exact (below_size (by repeat (first | (with_reducible first | exact HB.out | apply below_alloc | apply pw_below_drewN | apply below_drew1) | exact HB.out))) : w.heap.size ≤ gb107)); have n3_ := Aside0.mk ((by rw [hg]; exact (below_size (by repeat (first | (with_reducible first | exact HB.out | apply below_alloc | apply pw_below_drewN | apply below_drew1) | exact HB.out))) : w.heap.size ≤ gb107)); clear HB; have HB := n0_; have BK107 := n1_; have GW107 := n2_; have GE107 := n3_; clear n0_ n1_ n2_ n3_; clear hb hbox hg; have hcz33_0 : w32.cell? ⟨gb107, 0, none⟩ = some (.int .u8 a0_0) := (blk_cell BK107.out 0).trans rfl; have hcz33_1 : w32.cell? ⟨gb107, 1, none⟩ = some (.int .u8 a0_1) := (blk_cell BK107.out 1).trans rfl; have hcz33_2 : w32.cell? ⟨gb107, 2, none⟩ = some (.int .u8 a0_2) := (blk_cell BK107.out 2).trans rfl; have hcz33_3 : w32.cell? ⟨gb107, 3, none⟩ = some (.int .u8 a0_3) := (blk_cell BK107.out 3).trans rfl; have hcz33_4 : w32.cell? ⟨gb107, 4, none⟩ = some (.string a0_4) := (blk_cell BK107.out 4).trans rfl; have hfz33_0 := blk_frozen BK107.out 0; have hfz33_1 := blk_frozen BK107.out 1; have hfz33_2 := blk_frozen BK107.out 2; have hfz33_3 := blk_frozen BK107.out 3; have hfz33_4 := blk_frozen BK107.out 4) | ((with_reducible refine gate_callee (f := 31) rfl ?_); refine goesL_ (some 5) rfl rfl Tryz.func31 (by kernel_rfl) rfl #[.agg #[.int .u8 a0_0, .int .u8 a0_1, .int .u8 a0_2, .int .u8 a0_3, .string a0_4]] rfl (by (try simp only [List.map_toArray, List.map_cons, List.map_nil]); first | done | rfl | (simp only [List.length_drop, List.length_take]; rfl)) ?_; (with_reducible refine (E.refCheck.calls a0_0 a0_1 a0_2 a0_3 a0_4 false _ ?side1 A2.out).mono ?_); (case side1 => exact StdW.below HS_.out (by repeat (first | (with_reducible first | exact HB.out | apply below_alloc | apply pw_below_drewN | apply below_drew1 | refine below_set ?_ GE107.out) | exact HB.out))); rintro e w34 ⟨rfl, hb⟩; refine ⟨_, rfl, ?_⟩; have n0_ := Aside0.mk (blk_below (g := gb107) (o := .cells #[.int .u8 a0_0, .int .u8 a0_1, .int .u8 a0_2, .int .u8 a0_3, .string a0_4] 26 (0, 0)) (by (with_reducible repeat (first | refine blk_drewN ?_ _ | refine blk_drew ?_ | refine blk_alloc ?_ _)); exact BK107.out) hb); have n1_ := Aside0.mk (below_step (by repeat (first | (with_reducible first | exact HB.out | apply below_alloc | apply pw_below_drewN | apply below_drew1 | refine below_set ?_ GE107.out) | exact HB.out)) hb); clear BK107; clear HB; have BK107 := n0_; have HB := n1_; clear n0_ n1_; (try clear hb); (try clear hb2); (try clear hk); (try clear hi)))
  go_ret
  exact ⟨by first | rfl | (simp [errW_none, errW_some] <;> rfl) | (simp [*, errW_none, errW_some] <;> rfl), by repeat (first | (with_reducible first | exact HB.out | apply below_alloc | apply pw_below_drewN | apply below_drew1 | refine below_set ?_ GE107.out) | exact HB.out)⟩
end Go.Proofs.YteondnhokgmakaaGreatDoor.XG


namespace Go.Proofs.YteondnhokgmakaaGreatDoor.XG
open Go.Proofs.YteondnhokgmakaaGreatDoor.XC Go.Proofs.YteondnhokgmakaaGreatDoor.XM
open Go.RowKit Go.Proofs.YteondnhokgmakaaGreatDoorW.PrintWords Go.Proofs.YteondnhokgmakaaGreatDoorW.PrintLast Go.Proofs.YteondnhokgmakaaGreatDoorW.PrintMore
attribute [local go_sem] max2_int min2_int max_two min_two max_three min_three max_four min_four
set_option linter.unusedVariables false
set_option linter.unusedSimpArgs false
def sallyportref06_PrintDest.T3 : Bool × List (List Nat × List Nat) := (true, [([], []), ([0], [0]), ([1], [1]), ([2], [2]), ([], []), ([4], [4]), ([5, 2], [5]), ([3, 6], [3, 6]), ([7, 6, 0, 1, 2, 3, 4, 5, 6, 7], [7])])
def sallyportref06_PrintDest.B3 : List Nat := [0, 1, 3, 7, 0, 16, 55, 127, 255]
theorem sallyportref06_PrintDest.tab3 : rtab .any (opsOf Tryz.f35 3) = sallyportref06_PrintDest.T3 := by kernel_rfl
theorem sallyportref06_PrintDest.bits3 : waitsOk sallyportref06_PrintDest.T3.2 sallyportref06_PrintDest.B3 = true := by kernel_rfl
end Go.Proofs.YteondnhokgmakaaGreatDoor.XG


namespace Go.Proofs.YteondnhokgmakaaGreatDoor.XG
open Go.Proofs.YteondnhokgmakaaGreatDoor.XC Go.Proofs.YteondnhokgmakaaGreatDoor.XM
open Go.RowKit Go.Proofs.YteondnhokgmakaaGreatDoorW.PrintWords Go.Proofs.YteondnhokgmakaaGreatDoorW.PrintLast Go.Proofs.YteondnhokgmakaaGreatDoorW.PrintMore
attribute [local go_sem] max2_int min2_int max_two min_two max_three min_three max_four min_four
set_option linter.unusedVariables false
set_option linter.unusedSimpArgs false
end Go.Proofs.YteondnhokgmakaaGreatDoor.XG


namespace Go.Proofs.YteondnhokgmakaaGreatDoor.XG
open Go.Proofs.YteondnhokgmakaaGreatDoor.XC Go.Proofs.YteondnhokgmakaaGreatDoor.XM
open Go.RowKit Go.Proofs.YteondnhokgmakaaGreatDoorW.PrintWords Go.Proofs.YteondnhokgmakaaGreatDoorW.PrintLast Go.Proofs.YteondnhokgmakaaGreatDoorW.PrintMore
attribute [local go_sem] max2_int min2_int max_two min_two max_three min_three max_four min_four
set_option linter.unusedVariables false
set_option linter.unusedSimpArgs false
end Go.Proofs.YteondnhokgmakaaGreatDoor.XG


namespace Go.Proofs.YteondnhokgmakaaGreatDoor.XG
open Go.Proofs.YteondnhokgmakaaGreatDoor.XC Go.Proofs.YteondnhokgmakaaGreatDoor.XM
open Go.RowKit Go.Proofs.YteondnhokgmakaaGreatDoorW.PrintWords Go.Proofs.YteondnhokgmakaaGreatDoorW.PrintLast Go.Proofs.YteondnhokgmakaaGreatDoorW.PrintMore
attribute [local go_sem] max2_int min2_int max_two min_two max_three min_three max_four min_four
set_option linter.unusedVariables false
set_option linter.unusedSimpArgs false
attribute [local go_sem high] eqA37
end Go.Proofs.YteondnhokgmakaaGreatDoor.XG


namespace Go.Proofs.YteondnhokgmakaaGreatDoor.XG
open Go.Proofs.YteondnhokgmakaaGreatDoor.XC Go.Proofs.YteondnhokgmakaaGreatDoor.XM
open Go.RowKit Go.Proofs.YteondnhokgmakaaGreatDoorW.PrintWords Go.Proofs.YteondnhokgmakaaGreatDoorW.PrintLast Go.Proofs.YteondnhokgmakaaGreatDoorW.PrintMore
attribute [local go_sem] max2_int min2_int max_two min_two max_three min_three max_four min_four
set_option linter.unusedVariables false
set_option linter.unusedSimpArgs false
end Go.Proofs.YteondnhokgmakaaGreatDoor.XG


namespace Go.Proofs.YteondnhokgmakaaGreatDoor.E
open Go.RowKit Go.Proofs.YteondnhokgmakaaGreatDoorW.PrintWords Go.Proofs.YteondnhokgmakaaGreatDoorW.PrintLast Go.Proofs.YteondnhokgmakaaGreatDoorW.PrintMore Go.Proofs.YteondnhokgmakaaGreatDoor.XC Go.Proofs.YteondnhokgmakaaGreatDoor.XM Go.Proofs.YteondnhokgmakaaGreatDoor.XG
set_option linter.unusedVariables false
set_option linter.unusedSimpArgs false
def digsOf (x : Nat) : List UInt8 := if x = 0 then [] else Lib.decDigits x
theorem digsOf_step (x : Nat) (h : 0 < x) : digsOf x = digsOf (x / 10) ++ [UInt8.ofNat (48 + x % 10)] := by
  unfold digsOf
  rw [if_neg (by omega), Lib.decDigits]
  by_cases h1 : x < 10
  · rw [dif_pos h1, if_pos (by omega), show x % 10 = x by omega]; rfl
  · rw [dif_neg h1, if_neg (by omega)]
theorem data_of (l : List UInt8) : (⟨l.toArray⟩ : ByteArray).data.toList = l := rfl
theorem one_append (c : UInt8) (s : ByteArray) : (⟨#[c]⟩ : ByteArray) ++ s = ⟨(c :: s.data.toList).toArray⟩ := by
  apply ByteArray.ext; apply Array.ext'; rw [data_append]; rfl
theorem itoa_loop : ∀ (d k x : Nat) (s : ByteArray), x < 10 ^ d → x ≤ 99999999 → d < k → s.size + d ≤ 1000 → sallyportbase_Itoa.l0 k (x : Int) s false = some ⟨(digsOf x ++ s.data.toList).toArray⟩
  | 0, k + 1, x, s, hx, hb, hk, hs => by
    have h0 : x = 0 := by simp at hx; exact hx
    subst h0
    unfold sallyportbase_Itoa.l0
    rw [if_pos (show ((0 : Nat) : Int) = 0 from rfl), if_neg (by simp)]
    rfl
  | d + 1, k + 1, x, s, hx, hb, hk, hs => by
    unfold sallyportbase_Itoa.l0
    by_cases h0 : x = 0
    · subst h0
      rw [if_pos (show ((0 : Nat) : Int) = 0 from rfl), if_neg (by simp)]
      rfl
    · have ht : Int.tmod (x : Int) 10 = ((x % 10 : Nat) : Int) := by rw [Int.tmod_eq_emod_of_nonneg (by omega)]; omega
      have hq : Int.tdiv (x : Int) 10 = ((x / 10 : Nat) : Int) := by rw [Int.tdiv_eq_ediv_of_nonneg (by omega)]; omega
      rw [if_neg (by omega), ht, if_neg (by omega), hq, wrap64_id ((x / 10 : Nat) : Int) (by omega) (by omega), wrap64_id (48 + ((x % 10 : Nat) : Int)) (by omega) (by omega), Option.bind_some]
      have he : strOfNums [(48 + ((x % 10 : Nat) : Int)) % 256] = ⟨#[UInt8.ofNat (48 + x % 10)]⟩ := by
        have : (48 + ((x % 10 : Nat) : Int)) % 256 = ((48 + x % 10 : Nat) : Int) := by omega
        rw [this]
        rfl
      rw [he, one_append, if_pos (by show 1 + s.size ≤ _; omega), itoa_loop d k (x / 10) _ (by rw [Nat.pow_succ] at hx; omega) (by omega) (by omega) (by show (UInt8.ofNat (48 + x % 10) :: s.data.toList).toArray.size + d ≤ 1000; rw [List.size_toArray, List.length_cons, len_size]; omega), data_of, digsOf_step x (by omega), List.append_assoc]
      rfl
theorem itoa_f (k : Nat) (n : Int) (h0 : 0 ≤ n) (h1 : n ≤ 99999999) (hk : 9 ≤ k) : sallyportbase_Itoa.f k n = some (it n) := by
  unfold sallyportbase_Itoa.f it Lib.itoa
  rw [if_neg (show ¬ n < 0 by omega)]
  obtain ⟨x, rfl⟩ := Int.eq_ofNat_of_zero_le h0
  by_cases hz : x = 0
  · subst hz
    rw [if_pos (show ((0 : Nat) : Int) = 0 from rfl)]
    rw [show ((0 : Nat) : Int).toNat = 0 from rfl, Lib.decDigits, dif_pos (by decide)]; rfl
  · rw [if_neg (by omega), decide_eq_false (show ¬ (x : Int) < 0 by omega), itoa_loop 8 k x ⟨#[]⟩ (by omega) (by omega) (by omega) (by decide), Int.toNat_natCast]
    unfold digsOf
    rw [if_neg hz]
    simp
theorem it_size (n : Int) (h0 : 0 ≤ n) (h1 : n ≤ 99999999) : (it n).size ≤ 8 := by
  show (Lib.itoa n).toArray.size ≤ 8
  rw [List.size_toArray]
  unfold Lib.itoa
  rw [if_neg (by omega), Lib.decDigits_length]
  exact Num.nDigits_le 8 _ (by omega) (by decide)
theorem addrS_eq (a b c d : Int) : addrS a b c d = ((((((it a ++ ⟨#[46]⟩) ++ it b) ++ ⟨#[46]⟩) ++ it c) ++ ⟨#[46]⟩) ++ it d) := by
  apply ByteArray.ext; apply Array.ext'
  simp only [data_append]
  unfold addrS
  rw [data_of]
  simp [Lib.join, List.intercalate, List.intersperse]
theorem refPrint_f (k : Nat) (hk : 9 ≤ k) (a b c d : Int) (n : ByteArray) (ha : byteI a) (hb : byteI b) (hc : byteI c) (hd : byteI d) (hs : n.size ≤ 281474976710656) : sallyportref06_Print.f k a b c d n = some (printB a b c d n) := by
  unfold sallyportref06_Print.f E.refCheck.f printB
  rw [if_pos hs, Option.bind_some]
  have htl : n.toList = n.data.toList := ByteArray.toList_eq n
  cases checkB a b c d n
  · rw [if_neg (by simp), if_neg (by simp)]
  · rw [if_pos rfl, if_pos rfl]
    by_cases h0 : n.size = 0
    · have he : n.toList = [] := by rw [htl]; exact List.eq_nil_of_length_eq_zero (by rw [len_size]; exact h0)
      have wa : wrap64 a = a := wrap64_id _ (by have := ha.1; omega) (by have := ha.2; omega)
      have wb : wrap64 b = b := wrap64_id _ (by have := hb.1; omega) (by have := hb.2; omega)
      have wc : wrap64 c = c := wrap64_id _ (by have := hc.1; omega) (by have := hc.2; omega)
      have wd : wrap64 d = d := wrap64_id _ (by have := hd.1; omega) (by have := hd.2; omega)
      have sa := it_size a ha.1 (by have := ha.2; omega)
      have sb := it_size b hb.1 (by have := hb.2; omega)
      have sc := it_size c hc.1 (by have := hc.2; omega)
      have sd := it_size d hd.1 (by have := hd.2; omega)
      rw [if_pos he, if_pos h0, wa, wb, wc, wd, itoa_f k a ha.1 (by have := ha.2; omega) hk, itoa_f k b hb.1 (by have := hb.2; omega) hk, itoa_f k c hc.1 (by have := hc.2; omega) hk, itoa_f k d hd.1 (by have := hd.2; omega) hk]
      simp only [Option.bind_some]
      simp only [ByteArray.size_append]
      have h1 : (⟨#[46]⟩ : ByteArray).size = 1 := rfl
      rw [h1, if_pos (by omega), if_pos (by omega), if_pos (by omega), if_pos (by omega), if_pos (by omega), if_pos (by omega), addrS_eq]
    · have he : ¬ n.toList = [] := fun e => h0 (by rw [← len_size, ← htl, e]; rfl)
      rw [if_neg he, if_neg h0]
end Go.Proofs.YteondnhokgmakaaGreatDoor.E


namespace Go.Proofs.YteondnhokgmakaaGreatDoor.XV
open Go.Proofs.YteondnhokgmakaaGreatDoor.XC Go.Proofs.YteondnhokgmakaaGreatDoor.XM Go.Proofs.YteondnhokgmakaaGreatDoor.XG
open Go.RowKit Go.Proofs.YteondnhokgmakaaGreatDoorW.PrintWords Go.Proofs.YteondnhokgmakaaGreatDoorW.PrintLast Go.Proofs.YteondnhokgmakaaGreatDoorW.PrintMore
attribute [local go_sem] max2_int min2_int max_two min_two max_three min_three max_four min_four
set_option linter.unusedVariables false
set_option linter.unusedSimpArgs false
end Go.Proofs.YteondnhokgmakaaGreatDoor.XV


namespace Go.Proofs.YteondnhokgmakaaGreatDoor.XV
open Go.Proofs.YteondnhokgmakaaGreatDoor.XC Go.Proofs.YteondnhokgmakaaGreatDoor.XM Go.Proofs.YteondnhokgmakaaGreatDoor.XG
open Go.RowKit Go.Proofs.YteondnhokgmakaaGreatDoorW.PrintWords Go.Proofs.YteondnhokgmakaaGreatDoorW.PrintLast Go.Proofs.YteondnhokgmakaaGreatDoorW.PrintMore
attribute [local go_sem] max2_int min2_int max_two min_two max_three min_three max_four min_four
set_option linter.unusedVariables false
set_option linter.unusedSimpArgs false
mutual
def sallyportbase_Whole.j0 : Nat → ByteArray → Bool → Option (Int × Bool)
 | 0, _, _ => none
 | k + 1, x0, x29 => if x29 = true then (some (0, false)) else (sallyportbase_Whole.l0 k x0 0 0)
def sallyportbase_Whole.l0 : Nat → ByteArray → Int → Int → Option (Int × Bool)
 | 0, _, _, _ => none
 | k + 1, x0, x6, x7 => if x7 < (x0.size : Int) then (if 0 ≤ x7 then (if (bt x0 x7) < 48 then (some (0, false)) else (if (bt x0 x7) > 57 then (some (0, false)) else (sallyportbase_Whole.l0 k x0 (wrap64 ((wrap64 (x6 * 10)) + (((bt x0 x7) - 48) % 256))) (wrap64 (x7 + 1))))) else (none)) else (some (x6, true))
end
def sallyportbase_Whole.f (k : Nat) (a0 : ByteArray) (a1 : Int) : Option (Int × Bool) := if a0.toList = ([] : List UInt8) then (sallyportbase_Whole.j0 k a0 true) else (if (a0.size : Int) > a1 then (sallyportbase_Whole.j0 k a0 true) else (if a1 > 18 then (sallyportbase_Whole.j0 k a0 true) else (if (a0.size : Int) > 1 then (if 0 < (a0.size : Int) then (sallyportbase_Whole.j0 k a0 ((bt a0 0) == 48)) else (none)) else (sallyportbase_Whole.j0 k a0 false))))
theorem sallyportbase_Whole.mono_l : ∀ k, (∀ y0 y1, LeO (sallyportbase_Whole.j0 k y0 y1) (sallyportbase_Whole.j0 (k + 1) y0 y1)) ∧ (∀ y0 y1 y2, LeO (sallyportbase_Whole.l0 k y0 y1 y2) (sallyportbase_Whole.l0 (k + 1) y0 y1 y2))
 | 0 => ⟨fun _ _ r h => by simp [sallyportbase_Whole.j0] at h, fun _ _ _ r h => by simp [sallyportbase_Whole.l0] at h⟩
 | k + 1 => by
  obtain ⟨ih0, ih1⟩ := sallyportbase_Whole.mono_l k
  refine ⟨?_, ?_⟩
  ·intro y0 y1
   unfold sallyportbase_Whole.j0
   repeat' first
   | (with_reducible exact ih0 _ _)
   | (with_reducible exact ih1 _ _ _)
   | (with_reducible exact LeO.refl _)
   | (with_reducible exact LeO.none _)
   | (with_reducible refine LeO.ite ?_ ?_)
   | (with_reducible refine LeO.bind ?_ (fun _ => ?_))
   | exact ih0 _ _
   | exact ih1 _ _ _
   | exact LeO.none _
   | refine LeO.ite ?_ ?_
   | refine LeO.bind ?_ (fun _ => ?_)
  ·intro y0 y1 y2
   unfold sallyportbase_Whole.l0
   repeat' first
   | (with_reducible exact ih0 _ _)
   | (with_reducible exact ih1 _ _ _)
   | (with_reducible exact LeO.refl _)
   | (with_reducible exact LeO.none _)
   | (with_reducible refine LeO.ite ?_ ?_)
   | (with_reducible refine LeO.bind ?_ (fun _ => ?_))
   | exact ih0 _ _
   | exact ih1 _ _ _
   | exact LeO.none _
   | refine LeO.ite ?_ ?_
   | refine LeO.bind ?_ (fun _ => ?_)
theorem sallyportbase_Whole.mono : ∀ a0 a1 k, LeO (sallyportbase_Whole.f k a0 a1) (sallyportbase_Whole.f (k + 1) a0 a1) := by
 intro a0 a1 k
 obtain ⟨ih0, ih1⟩ := sallyportbase_Whole.mono_l k
 unfold sallyportbase_Whole.f
 repeat' first
   | (with_reducible exact ih0 _ _)
   | (with_reducible exact ih1 _ _ _)
   | (with_reducible exact LeO.refl _)
   | (with_reducible exact LeO.none _)
   | (with_reducible refine LeO.ite ?_ ?_)
   | (with_reducible refine LeO.bind ?_ (fun _ => ?_))
   | exact ih0 _ _
   | exact ih1 _ _ _
   | exact LeO.none _
   | refine LeO.ite ?_ ?_
   | refine LeO.bind ?_ (fun _ => ?_)
set_option maxHeartbeats 8000000 in
set_option maxRecDepth 100000 in
theorem sallyportbase_Whole.calls (k : Nat) (a0 : ByteArray) (a1 : Int) (r1 : Int) (r2 : Bool) (w : World) (h : sallyportbase_Whole.f k a0 a1 = some (r1, r2)) :
  Calls Tryz.prog 50 #[.string a0, .int .i64 a1] w fun e w' => e = .returned (.tuple #[.int .i64 r1, .bool r2]) ∧ Drawn0 w w' := by
 have H : (if a0.toList = ([] : List UInt8) then (sallyportbase_Whole.j0 k a0 true) else (if (a0.size : Int) > a1 then (sallyportbase_Whole.j0 k a0 true) else (if a1 > 18 then (sallyportbase_Whole.j0 k a0 true) else (if (a0.size : Int) > 1 then (if 0 < (a0.size : Int) then (sallyportbase_Whole.j0 k a0 ((bt a0 0) == 48)) else (none)) else (sallyportbase_Whole.j0 k a0 false))))) = some (r1, r2) := h
 clear h
 have HC3 := Aside0.mk H
 clear H
 go_enter Tryz.func50, Tryz.ntmps50
 go_upto_region 1 with (fail)
 go_cut [29] (fun v29 wc => ∃ (kq : Nat) (x29_2 : Bool), v29 = .bool x29_2 ∧ Aside0 (sallyportbase_Whole.j0 kq a0 x29_2 = some (r1, r2)) ∧ Aside0 (kq ≤ k) ∧ Drawn0 w wc)
 case first =>
  have H := HC3.out
  clear HC3
  by_cases c4 : a0.toList = ([] : List UInt8)
  ·rw [if_pos c4] at H
   have c4b0 : (a0.toList == ([] : List UInt8)) = true := beq_iff_eq.mpr c4
   have c4b1 : (a0.toList != ([] : List UInt8)) = false := bne_eq_false_iff_eq.mpr c4
   clear c4
   (first | rw [c4b0] | (simp only [i64_w, i32_w]; rw [c4b0]) | skip)
   have H' := Aside0.mk H
   clear H
   go_wp2
   go_meet
   case rel => exact ⟨_, (true), (by first | rfl | (simp; done) | (simp [*]; done)), H', ⟨by first | omega | exact Nat.le_refl _⟩, by repeat (first | exact Drawn0.refl _ | apply Drawn0.step)⟩
  ·rw [if_neg c4] at H
   have c4b0 : (a0.toList == ([] : List UInt8)) = false := beq_eq_false_iff_ne.mpr c4
   have c4b1 : (a0.toList != ([] : List UInt8)) = true := bne_iff_ne.mpr c4
   (first | rw [c4b0] | (simp only [i64_w, i32_w]; rw [c4b0]) | skip)
   by_cases c5 : (a0.size : Int) > a1
   ·rw [if_pos c5] at H
    have c5b0 : decide (a1 < (a0.size : Int)) = true := decide_eq_true c5
    clear c5
    have H' := Aside0.mk H
    clear H
    go_wp2
    go_meet
    case rel => exact ⟨_, (true), (by first | rfl | (simp; done) | (simp [*]; done)), H', ⟨by first | omega | exact Nat.le_refl _⟩, by repeat (first | exact Drawn0.refl _ | apply Drawn0.step)⟩
   ·rw [if_neg c5] at H
    have c5b0 : decide (a1 < (a0.size : Int)) = false := decide_eq_false c5
    clear c5
    by_cases c6 : a1 > 18
    ·rw [if_pos c6] at H
     have c6b0 : decide (18 < a1) = true := decide_eq_true c6
     clear c6
     have H' := Aside0.mk H
     clear H
     go_wp2
     go_meet
     case rel => exact ⟨_, (true), (by first | rfl | (simp; done) | (simp [*]; done)), H', ⟨by first | omega | exact Nat.le_refl _⟩, by repeat (first | exact Drawn0.refl _ | apply Drawn0.step)⟩
    ·rw [if_neg c6] at H
     have c6b0 : decide (18 < a1) = false := decide_eq_false c6
     clear c6
     by_cases c7 : (a0.size : Int) > 1
     ·rw [if_pos c7] at H
      have c7b0 : decide (1 < (a0.size : Int)) = true := decide_eq_true c7
      have c7b1 : decide (1 < a0.size) = true := decide_eq_true (by omega)
      clear c7
      by_cases c8 : 0 < (a0.size : Int)
      ·rw [if_pos c8] at H
       have c8b0 : decide (0 < (a0.size : Int)) = true := decide_eq_true c8
       have c8b1 : decide (0 < a0.size) = true := decide_eq_true (by omega)
       clear c8
       have H' := Aside0.mk H
       clear H
       have p9 : 0 ≤ (0 : Int) := (by omega)
       have q9 : 0 < a0.size := (by have : (0 : Int) < (a0.size : Int) := of_decide_eq_true (by first | (with_reducible assumption) | assumption); omega)
       have hx9 : ∀ h : 0 < a0.size, ((a0[0]'h).toNat : Int) = bt a0 0 := bt_at a0 0
       clear p9
       have qi9 : (0 < (a0.size : Int)) = True := eq_true (of_decide_eq_true (by first | (with_reducible assumption) | assumption))
       replace q9 := eq_true q9
       go_wp2
       go_meet
       case rel => exact ⟨_, (((bt a0 0) == 48)), (by first | rfl | (simp; done) | (simp [*]; done)), H', ⟨by first | omega | exact Nat.le_refl _⟩, by repeat (first | exact Drawn0.refl _ | apply Drawn0.step)⟩
      ·rw [if_neg c8] at H
       exact absurd H (by simp)
     ·rw [if_neg c7] at H
      have c7b0 : decide (1 < (a0.size : Int)) = false := decide_eq_false c7
      have c7b1 : decide (1 < a0.size) = false := decide_eq_false (by omega)
      clear c7
      have H' := Aside0.mk H
      clear H
      go_wp2
      go_meet
      case rel => exact ⟨_, (false), (by first | rfl | (simp; done) | (simp [*]; done)), H', ⟨by first | omega | exact Nat.le_refl _⟩, by repeat (first | exact Drawn0.refl _ | apply Drawn0.step)⟩
 case rest =>
  clear HC3
  try clear p2
  try clear c4
  try clear c4b0
  try clear c4b1
  try clear c5
  try clear c5b0
  try clear c6
  try clear c6b0
  try clear c7
  try clear c7b0
  try clear c7b1
  try clear c8
  try clear c8b0
  try clear c8b1
  try clear p9
  try clear q9
  try clear hx9
  try clear qi9
  try clear p9
  try clear q9
  obtain ⟨kq, x29_2, rfl, HA, HJ2, ⟨mc2, rfl⟩⟩ := hcut
  cases kq with
  | zero => exact absurd HA.out (by simp [sallyportbase_Whole.j0])
  | succ kj2 =>
   have H := HA.out
   clear HA
   simp only [sallyportbase_Whole.j0] at H
   by_cases c10 : x29_2 = true
   ·subst c10
    have H1 : (some (0, false)) = some (r1, r2) := by rw [if_pos rfl] at H; exact H
    clear H
    have H := H1
    clear H1
    simp only [Option.some.injEq, Prod.mk.injEq] at H
    obtain ⟨rfl, rfl⟩ := H
    go_wp2
    go_ret2
    exact ⟨by first | rfl | (simp; done) | (simp [*]; done), by repeat (first | exact Drawn0.refl _ | apply Drawn0.step)⟩
   ·replace c10 := Bool.eq_false_iff.mpr c10
    subst c10
    have H1 : (sallyportbase_Whole.l0 kj2 a0 0 0) = some (r1, r2) := by rw [if_neg (show ¬ (false = true) by decide)] at H; exact H
    clear H
    have H := H1
    clear H1
    have H' := Aside0.mk H
    clear H
    go_wp2
    go_loopg [6, 7] kj2 (fun kq v6 v7 w' => ∃ (x6_2 : Int) (x7_2 : Int), v6 = .int .i64 x6_2 ∧ v7 = .int .i64 x7_2 ∧ Aside0 (sallyportbase_Whole.l0 kq a0 x6_2 x7_2 = some (r1, r2)) ∧ Aside0 (kq ≤ kj2) ∧ Drawn0 w w')
    case atStart => exact ⟨(0), (0), (by first | rfl | (simp; done) | (simp [*]; done)), (by first | rfl | (simp; done) | (simp [*]; done)), H', ⟨Nat.le_refl _⟩, by repeat (first | exact Drawn0.refl _ | apply Drawn0.step)⟩
    case round =>
     clear H'
     try clear c1
     try clear c2
     try clear p2
     try clear c4
     try clear c4b0
     try clear c4b1
     try clear c5
     try clear c5b0
     try clear c6
     try clear c6b0
     try clear c7
     try clear c7b0
     try clear c7b1
     try clear c8
     try clear c8b0
     try clear c8b1
     try clear p9
     try clear q9
     try clear hx9
     try clear qi9
     try clear c10
     try clear p2
     try clear p9
     try clear q9
     obtain ⟨x6_2, x7_2, rfl, rfl, HA, HK2, ⟨m2, rfl⟩⟩ := hrel
     cases gk with
     | zero => exact absurd HA.out (by simp [sallyportbase_Whole.l0])
     | succ k2 =>
      have H := HA.out
      clear HA
      simp only [sallyportbase_Whole.l0] at H
      by_cases c11 : x7_2 < (a0.size : Int)
      ·rw [if_pos c11] at H
       have c11b0 : decide (x7_2 < (a0.size : Int)) = true := decide_eq_true c11
       clear c11
       by_cases c12 : 0 ≤ x7_2
       ·rw [if_pos c12] at H
        have c12b0 : decide (0 ≤ x7_2) = true := decide_eq_true c12
        clear c12
        by_cases c14 : (bt a0 x7_2) < 48
        ·rw [if_pos c14] at H
         have c14b0 : decide ((bt a0 x7_2) < 48) = true := decide_eq_true c14
         clear c14
         simp only [Option.some.injEq, Prod.mk.injEq] at H
         obtain ⟨rfl, rfl⟩ := H
         have p13 : 0 ≤ (x7_2 : Int) := of_decide_eq_true (by first | (with_reducible assumption) | assumption)
         have q13 : x7_2 < (a0.size : Int) := of_decide_eq_true (by first | (with_reducible assumption) | assumption)
         have hx13 := bt_at a0 x7_2
         replace p13 := eq_true p13
         replace q13 := eq_true q13
         go_wp2
         go_ret2
         exact ⟨by first | rfl | (simp; done) | (simp [*]; done), by repeat (first | exact Drawn0.refl _ | apply Drawn0.step)⟩
        ·rw [if_neg c14] at H
         have c14b0 : decide ((bt a0 x7_2) < 48) = false := decide_eq_false c14
         clear c14
         by_cases c16 : (bt a0 x7_2) > 57
         ·rw [if_pos c16] at H
          have c16b0 : decide (57 < (bt a0 x7_2)) = true := decide_eq_true c16
          clear c16
          simp only [Option.some.injEq, Prod.mk.injEq] at H
          obtain ⟨rfl, rfl⟩ := H
          have p13 : 0 ≤ (x7_2 : Int) := of_decide_eq_true (by first | (with_reducible assumption) | assumption)
          have q13 : x7_2 < (a0.size : Int) := of_decide_eq_true (by first | (with_reducible assumption) | assumption)
          have hx13 := bt_at a0 x7_2
          replace p13 := eq_true p13
          replace q13 := eq_true q13
          have p15 : 0 ≤ (x7_2 : Int) := of_decide_eq_true (by first | (with_reducible assumption) | assumption)
          have q15 : x7_2 < (a0.size : Int) := of_decide_eq_true (by first | (with_reducible assumption) | assumption)
          have hx15 := bt_at a0 x7_2
          replace p15 := eq_true p15
          replace q15 := eq_true q15
          go_wp2
          go_ret2
          exact ⟨by first | rfl | (simp; done) | (simp [*]; done), by repeat (first | exact Drawn0.refl _ | apply Drawn0.step)⟩
         ·rw [if_neg c16] at H
          have c16b0 : decide (57 < (bt a0 x7_2)) = false := decide_eq_false c16
          clear c16
          have H' := Aside0.mk H
          clear H
          have p13 : 0 ≤ (x7_2 : Int) := of_decide_eq_true (by first | (with_reducible assumption) | assumption)
          have q13 : x7_2 < (a0.size : Int) := of_decide_eq_true (by first | (with_reducible assumption) | assumption)
          have hx13 := bt_at a0 x7_2
          replace p13 := eq_true p13
          replace q13 := eq_true q13
          have p15 : 0 ≤ (x7_2 : Int) := of_decide_eq_true (by first | (with_reducible assumption) | assumption)
          have q15 : x7_2 < (a0.size : Int) := of_decide_eq_true (by first | (with_reducible assumption) | assumption)
          have hx15 := bt_at a0 x7_2
          replace p15 := eq_true p15
          replace q15 := eq_true q15
          have p17 : 0 ≤ (x7_2 : Int) := of_decide_eq_true (by first | (with_reducible assumption) | assumption)
          have q17 : x7_2 < (a0.size : Int) := of_decide_eq_true (by first | (with_reducible assumption) | assumption)
          have hx17 := bt_at a0 x7_2
          replace p17 := eq_true p17
          replace q17 := eq_true q17
          go_wp2
          go_roundg k2
          case measure => have := HJ2.out; have := HK2.out; omega
          case rel => exact ⟨(wrap64 ((wrap64 (x6_2 * 10)) + (((bt a0 x7_2) - 48) % 256))), (wrap64 (x7_2 + 1)), (by first | rfl | (simp; done) | (simp [*]; done)), (by first | rfl | (simp; done) | (simp [*]; done)), H', ⟨by have := HJ2.out; have := HK2.out; omega⟩, by repeat (first | exact Drawn0.refl _ | apply Drawn0.step)⟩
       ·rw [if_neg c12] at H
        exact absurd H (by simp)
      ·rw [if_neg c11] at H
       have c11b0 : decide (x7_2 < (a0.size : Int)) = false := decide_eq_false c11
       clear c11
       simp only [Option.some.injEq, Prod.mk.injEq] at H
       obtain ⟨rfl, rfl⟩ := H
       go_wp2
       go_ret2
       exact ⟨by first | rfl | (simp; done) | (simp [*]; done), by repeat (first | exact Drawn0.refl _ | apply Drawn0.step)⟩
end Go.Proofs.YteondnhokgmakaaGreatDoor.XV


namespace Go.Proofs.YteondnhokgmakaaGreatDoor.XV
open Go.Proofs.YteondnhokgmakaaGreatDoor.XC Go.Proofs.YteondnhokgmakaaGreatDoor.XM Go.Proofs.YteondnhokgmakaaGreatDoor.XG
open Go.RowKit Go.Proofs.YteondnhokgmakaaGreatDoorW.PrintWords Go.Proofs.YteondnhokgmakaaGreatDoorW.PrintLast Go.Proofs.YteondnhokgmakaaGreatDoorW.PrintMore
attribute [local go_sem] max2_int min2_int max_two min_two max_three min_three max_four min_four
set_option linter.unusedVariables false
set_option linter.unusedSimpArgs false
end Go.Proofs.YteondnhokgmakaaGreatDoor.XV


namespace Go.Proofs.YteondnhokgmakaaGreatDoor.E
open Go.RowKit Go.Proofs.YteondnhokgmakaaGreatDoorW.PrintWords Go.Proofs.YteondnhokgmakaaGreatDoorW.PrintLast Go.Proofs.YteondnhokgmakaaGreatDoor.XC Go.Proofs.YteondnhokgmakaaGreatDoor.XR Go.Proofs.YteondnhokgmakaaGreatDoor.XV
set_option linter.unusedVariables false
set_option linter.unusedSimpArgs false
def wholeV (l : List UInt8) (d : Nat) : Int × Bool := match Num.whole l d with | some n => ((n : Int), true) | none => (0, false)
theorem fold_lt : ∀ (l : List UInt8) (a : Nat), l.all Num.dig = true → l.foldl (fun a c => a * 10 + (c.toNat - 48)) a < (a + 1) * 10 ^ l.length
  | [], a, _ => by simp
  | c :: r, a, h => by
    rw [List.all_cons, Bool.and_eq_true, Num.dig_iff] at h
    have ih := fold_lt r (a * 10 + (c.toNat - 48)) h.2
    rw [List.foldl_cons, List.length_cons, Nat.pow_succ]
    refine Nat.lt_of_lt_of_le ih ?_
    rw [Nat.mul_comm (10 ^ r.length) 10, ← Nat.mul_assoc]
    exact Nat.mul_le_mul_right _ (by omega)
theorem val_lt (l : List UInt8) (h : l.all Num.dig = true) : Num.val l < 10 ^ l.length := by
  have := fold_lt l 0 h
  rw [Nat.zero_add, Nat.one_mul] at this
  exact this
theorem whole_loop (s : ByteArray) (hs : s.size ≤ 18) : ∀ (m k i : Nat), i + m = s.size → m < k → (s.data.toList.take i).all Num.dig = true →
    sallyportbase_Whole.l0 k s (Num.val (s.data.toList.take i) : Int) (i : Int) = some (if (s.data.toList.drop i).all Num.dig then ((Num.val s.data.toList : Int), true) else (0, false)) := by
  intro m
  induction m with
  | zero =>
    intro k i hi hk hall
    obtain ⟨k, rfl⟩ : ∃ j, k = j + 1 := ⟨k - 1, by omega⟩
    have hl := len_size s
    simp only [sallyportbase_Whole.l0]
    rw [if_neg (by omega), List.drop_of_length_le (by omega), List.take_of_length_le (by omega)]
    rfl
  | succ m ih =>
    intro k i hi hk hall
    obtain ⟨k, rfl⟩ : ∃ j, k = j + 1 := ⟨k - 1, by omega⟩
    have hl := len_size s
    have hlt : i < s.data.toList.length := by omega
    have hb := bt_get s i hlt
    have hd := List.drop_eq_getElem_cons hlt
    have ht : s.data.toList.take (i + 1) = s.data.toList.take i ++ [s.data.toList[i]] := List.take_succ_eq_append_getElem hlt
    have hv := val_lt _ hall
    have hv2 : Num.val (s.data.toList.take i) < 100000000000000000 := by
      have hp : (10 : Nat) ^ (s.data.toList.take i).length ≤ 10 ^ 17 := Nat.pow_le_pow_right (by decide) (by rw [List.length_take]; omega)
      exact Nat.lt_of_lt_of_le hv (Nat.le_trans hp (by decide))
    clear hv
    generalize s.data.toList[i] = c at hb hd ht
    simp only [sallyportbase_Whole.l0]
    rw [if_pos (by omega), if_pos (by omega), hb, hd, List.all_cons]
    by_cases h1 : c.toNat < 48
    · have hz : Num.dig c = false := by rw [← Bool.not_eq_true, Num.dig_iff]; omega
      rw [if_pos (by omega), hz]; rfl
    · rw [if_neg (by omega)]
      by_cases h2 : 57 < c.toNat
      · have hz : Num.dig c = false := by rw [← Bool.not_eq_true, Num.dig_iff]; omega
        rw [if_pos (by omega), hz]; rfl
      · have hz : Num.dig c = true := by rw [Num.dig_iff]; omega
        rw [if_neg (by omega), hz, Bool.true_and]
        have e1 : wrap64 ((wrap64 ((Num.val (s.data.toList.take i) : Int) * 10)) + (((c.toNat : Int) - 48) % 256)) = ((Num.val (s.data.toList.take (i + 1)) : Nat) : Int) := by
          rw [ht, Num.val_snoc]
          generalize Num.val (s.data.toList.take i) = v at hv2
          rw [wrap64_id ((v : Int) * 10) (by omega) (by omega), wrap64_id _ (by omega) (by omega)]
          omega
        have e2 : wrap64 ((i : Int) + 1) = ((i + 1 : Nat) : Int) := by rw [wrap64_id _ (by omega) (by omega)]; omega
        rw [e1, e2]
        exact ih k (i + 1) ((Nat.succ_add_eq_add_succ i m).trans hi) (Nat.lt_of_succ_lt_succ hk) (by rw [ht, List.all_append, hall, Bool.true_and]; simpa using hz)
theorem whole_f (s : ByteArray) (d k : Nat) (hd : d ≤ 18) (hk : 21 ≤ k) : sallyportbase_Whole.f k s d = some (wholeV s.data.toList d) := by
  have hl := len_size s
  have hj : ∀ b, (s.size ≤ d) → sallyportbase_Whole.j0 k s b = some (if b then (0, false) else if s.data.toList.all Num.dig then ((Num.val s.data.toList : Int), true) else (0, false)) := by
    intro b hs
    obtain ⟨k, rfl⟩ : ∃ j, k = j + 1 := ⟨k - 1, by omega⟩
    simp only [sallyportbase_Whole.j0]
    cases b
    · have := whole_loop s (by omega) s.size k 0 (by omega) (by omega) (by rfl)
      simp only [Bool.false_eq_true, if_false]
      exact this
    · rfl
  have hjt : sallyportbase_Whole.j0 k s true = some (0, false) := by
    obtain ⟨k, rfl⟩ : ∃ j, k = j + 1 := ⟨k - 1, by omega⟩
    simp only [sallyportbase_Whole.j0, if_true]
  unfold sallyportbase_Whole.f wholeV Num.whole
  by_cases h0 : s.data.toList = []
  · rw [if_pos (by rw [ByteArray.toList_eq]; exact h0), hjt, if_pos (.inl h0)]
  · rw [if_neg (by rw [ByteArray.toList_eq]; exact h0)]
    have hpos : 0 < s.data.toList.length := List.length_pos_iff.2 h0
    by_cases h1 : d < s.data.toList.length
    · rw [if_pos (by omega), hjt, if_pos (.inr (.inl h1))]
    · rw [if_neg (by omega), if_neg (by omega)]
      by_cases h2 : 1 < s.data.toList.length
      · rw [if_pos (by omega), if_pos (by omega), hj _ (by omega)]
        have hb := bt_get s 0 hpos
        have hh : s.data.toList.head?.map (·.toNat) = some (s.data.toList[0].toNat) := by
          rw [List.head?_eq_getElem?, List.getElem?_eq_getElem hpos]; rfl
        rw [show bt s 0 = ((s.data.toList[0].toNat : Nat) : Int) from hb]
        by_cases h3 : s.data.toList[0].toNat = 48
        · rw [show (((s.data.toList[0].toNat : Nat) : Int) == 48) = true by rw [beq_iff_eq]; omega, if_pos rfl]
          rw [if_pos (Or.inr (Or.inr ⟨h2, by rw [hh, h3]⟩))]
        · rw [show (((s.data.toList[0].toNat : Nat) : Int) == 48) = false by rw [beq_eq_false_iff_ne]; omega]
          simp only [Bool.false_eq_true, if_false]
          rw [if_neg (show ¬ (s.data.toList = [] ∨ d < s.data.toList.length ∨ (1 < s.data.toList.length ∧ s.data.toList.head?.map (·.toNat) = some 48)) by rintro (h | h | ⟨-, h⟩); exact h0 h; exact h1 h; rw [hh] at h; exact h3 (Option.some.inj h))]
          split <;> rfl
      · rw [if_neg (by omega), hj _ (by omega)]
        simp only [Bool.false_eq_true, if_false]
        rw [if_neg (show ¬ (s.data.toList = [] ∨ d < s.data.toList.length ∨ (1 < s.data.toList.length ∧ s.data.toList.head?.map (·.toNat) = some 48)) by rintro (h | h | ⟨h, -⟩); exact h0 h; exact h1 h; exact h2 h)]
        split <;> rfl
end Go.Proofs.YteondnhokgmakaaGreatDoor.E


namespace Go.Proofs.YteondnhokgmakaaGreatDoor.E
open Go.RowKit Go.Proofs.YteondnhokgmakaaGreatDoorW.PrintWords Go.Proofs.YteondnhokgmakaaGreatDoorW.PrintLast Go.Proofs.YteondnhokgmakaaGreatDoor.XC
set_option linter.unusedVariables false
set_option linter.unusedSimpArgs false
theorem index_none1 (c : UInt8) : ∀ l : List UInt8, c ∉ l → Lib.index l [c] = -1
  | [], _ => by simp [Lib.index]
  | b :: l, h => by
    have hb : ([c] : List UInt8).isPrefixOf (b :: l) = false := by simp [List.isPrefixOf]; rintro rfl; exact h List.mem_cons_self
    have ih := index_none1 c l (fun e => h (List.mem_cons_of_mem _ e))
    unfold Lib.index
    rw [hb, ih]; rfl
theorem index_app1 (c : UInt8) (b : List UInt8) : ∀ a : List UInt8, c ∉ a → Lib.index (a ++ c :: b) [c] = a.length
  | [], _ => by
    show Lib.index (c :: b) [c] = _
    unfold Lib.index
    rw [if_pos (by simp [List.isPrefixOf])]; rfl
  | x :: a, h => by
    have hb : ([c] : List UInt8).isPrefixOf (x :: (a ++ c :: b)) = false := by simp [List.isPrefixOf]; rintro rfl; exact h List.mem_cons_self
    have ih := index_app1 c b a (fun e => h (List.mem_cons_of_mem _ e))
    show Lib.index (x :: (a ++ c :: b)) [c] = _
    unfold Lib.index
    rw [hb, ih]
    have : ((a.length : Int) == -1) = false := by rw [beq_eq_false_iff_ne]; omega
    simp [this]
theorem cut_none1 (c : UInt8) (l : List UInt8) (h : c ∉ l) : Lib.cut l [c] = (l, [], false) := by
  unfold Lib.cut
  rw [index_none1 c l h, if_neg (by omega)]
theorem cut_app1 (c : UInt8) (a b : List UInt8) (h : c ∉ a) : Lib.cut (a ++ c :: b) [c] = (a, b, true) := by
  unfold Lib.cut
  rw [index_app1 c b a h, if_pos (by omega)]
  simp
theorem cut_split (c : UInt8) (l : List UInt8) : (c ∉ l ∧ Lib.cut l [c] = (l, [], false)) ∨ (∃ a b, l = a ++ c :: b ∧ c ∉ a ∧ Lib.cut l [c] = (a, b, true)) := by
  by_cases h : c ∈ l
  · obtain ⟨a, b, rfl, hn⟩ := List.eq_append_cons_of_mem h
    exact .inr ⟨a, b, rfl, hn, cut_app1 c a b hn⟩
  · exact .inl ⟨h, cut_none1 c l h⟩
theorem cutOn_step (c x : UInt8) (l : List UInt8) : Pt.cutOn c (x :: l) = if x = c then [] :: Pt.cutOn c l else match Pt.cutOn c l with
    | [] => [[x]]
    | p :: r => (x :: p) :: r := rfl
theorem cutOn_none1 (c : UInt8) : ∀ l : List UInt8, c ∉ l → Pt.cutOn c l = [l]
  | [], _ => rfl
  | x :: l, h => by
    rw [cutOn_step, if_neg (show ¬ x = c from fun e => h (by rw [e]; exact List.mem_cons_self)), cutOn_none1 c l (fun e => h (List.mem_cons_of_mem _ e))]
theorem cutOn_app1 (c : UInt8) (b : List UInt8) : ∀ a : List UInt8, c ∉ a → Pt.cutOn c (a ++ c :: b) = a :: Pt.cutOn c b
  | [], _ => by rw [List.nil_append, cutOn_step, if_pos rfl]
  | x :: a, h => by
    rw [List.cons_append, cutOn_step, if_neg (show ¬ x = c from fun e => h (by rw [e]; exact List.mem_cons_self)), cutOn_app1 c b a (fun e => h (List.mem_cons_of_mem _ e))]
theorem itoa_dec (n : Int) (h : 0 ≤ n) : Lib.itoa n = Lib.decDigits n.toNat := by unfold Lib.itoa; rw [if_neg (by omega)]
theorem itoa_digs (n : Int) (h : 0 ≤ n) : ∀ c ∈ Lib.itoa n, 48 ≤ c.toNat ∧ c.toNat ≤ 57 := fun c hc => by
  rw [itoa_dec n h] at hc
  exact (Num.dig_iff c).1 (Num.dec_digits _ c hc)
theorem itoa_not (n : Int) (h : 0 ≤ n) (c : UInt8) (hc : c.toNat < 48) : c ∉ Lib.itoa n := fun hm => by have := itoa_digs n h c hm; omega
theorem numP_itoa (n : Int) (h0 : 0 ≤ n) (h1 : n < 9223372036854775808) : numOkP (Lib.itoa n) = true ∧ atoiV (Lib.itoa n) = n := by
  rw [itoa_dec n h0]
  have := numOkP_canon (Lib.decDigits n.toNat) (Num.canon_dec _) (by rw [Num.val_dec]; omega)
  rw [Num.val_dec] at this
  exact ⟨this.1, this.2.trans (by omega)⟩
theorem numP_back (l : List UInt8) (h : numOkP l = true) : Lib.itoa (atoiV l) = l ∧ 0 ≤ atoiV l := by
  obtain ⟨hc, hv, -⟩ := numOkP_iff l h
  rw [hv]
  exact ⟨Num.itoa_val l hc, by omega⟩
theorem num_itoa (n m : Int) (h0 : 0 ≤ n) (h1 : n ≤ m) (h2 : n < 9223372036854775808) : numOk (Lib.itoa n) m = true := by
  have hp := (numP_itoa n h0 h2)
  have hi : Lib.atoiAll (Lib.itoa n) = .ok n := by
    have := Num.atoi_canon (Lib.itoa n) (by rw [itoa_dec n h0]; exact Num.canon_dec _) (by rw [itoa_dec n h0, Num.val_dec]; omega)
    rw [this, itoa_dec n h0, Num.val_dec]
    congr 1; omega
  unfold numOk
  rw [hi]
  simp [h0, h1]
theorem num_back (l : List UInt8) (m : Int) (h : numOk l m = true) : Lib.itoa (atoiV l) = l ∧ 0 ≤ atoiV l ∧ atoiV l ≤ m := by
  unfold numOk at h
  unfold atoiV
  rcases ha : Lib.atoiAll l with v | _ | _
  · rw [ha] at h
    simp only [Bool.and_eq_true, decide_eq_true_eq, beq_iff_eq] at h
    exact ⟨h.2.2, h.1, h.2.1⟩
  · rw [ha] at h; cases h
  · rw [ha] at h; cases h
theorem data_inj {a b : ByteArray} (h : a.data.toList = b.data.toList) : a = b := ByteArray.ext (Array.toList_inj.1 h)
theorem map_data_inj : ∀ {a b : List ByteArray}, a.map (·.data.toList) = b.map (·.data.toList) → a = b
  | [], [], _ => rfl
  | [], _ :: _, h => by cases h
  | _ :: _, [], h => by cases h
  | x :: a, y :: b, h => by
    simp only [List.map_cons, List.cons.injEq] at h
    rw [data_inj h.1, map_data_inj h.2]
theorem addrS_list (a b c d : Int) : (addrS a b c d).data.toList = Lib.itoa a ++ 46 :: (Lib.itoa b ++ 46 :: (Lib.itoa c ++ 46 :: Lib.itoa d)) := by
  simp [addrS, it, Lib.join, List.intercalate, List.intersperse]
theorem addrS_parts (a b c d : Int) (ha : 0 ≤ a) (hb : 0 ≤ b) (hc : 0 ≤ c) (hd : 0 ≤ d) : parts (addrS a b c d) = [it a, it b, it c, it d] := by
  apply map_data_inj
  rw [parts_data, addrS_list, cutOn_app1 46 _ _ (itoa_not a ha 46 (by decide)), cutOn_app1 46 _ _ (itoa_not b hb 46 (by decide)), cutOn_app1 46 _ _ (itoa_not c hc 46 (by decide)), cutOn_none1 46 _ (itoa_not d hd 46 (by decide))]
  rfl
theorem paRes_addrS (a b c d : Int) (ha : 0 ≤ a) (ha1 : a ≤ 255) (hb : 0 ≤ b) (hb1 : b ≤ 255) (hc : 0 ≤ c) (hc1 : c ≤ 255) (hd : 0 ≤ d) (hd1 : d ≤ 255) : paRes (addrS a b c d) = .inr [a, b, c, d] := by
  have hz := addrS_size a b c d ha ha1 hb hb1 hc hc1 hd hd1
  have hsz : (addrS a b c d).size = (it a).size + (it b).size + (it c).size + (it d).size + 3 := by
    have := sumAt_parts (addrS a b c d)
    rw [addrS_parts a b c d ha hb hc hd] at this
    simp only [sumAt] at this
    omega
  have e : ∀ n, (it n).data.toList = Lib.itoa n := fun n => rfl
  unfold paRes
  rw [if_neg (by omega), addrS_parts a b c d ha hb hc hd]
  simp only [paLoop, e]
  rw [if_neg (by decide), num_itoa a 255 ha ha1 (by omega), if_neg (by decide), if_neg (by omega),
    if_neg (by decide), num_itoa b 255 hb hb1 (by omega), if_neg (by decide), if_neg (by omega),
    if_neg (by decide), num_itoa c 255 hc hc1 (by omega), if_neg (by decide), if_neg (by omega),
    if_neg (by decide), num_itoa d 255 hd hd1 (by omega), if_neg (by decide), if_neg (by omega),
    (numP_itoa a ha (by omega)).2, (numP_itoa b hb (by omega)).2, (numP_itoa c hc (by omega)).2, (numP_itoa d hd (by omega)).2]
  rfl
theorem paLoop_ok (sz : Int) : ∀ (ps : List ByteArray) (i a : Int) (acc l : List Int), paLoop sz i a ps acc = .inr l → (∀ p ∈ ps, numOk p.data.toList 255 = true) ∧ l = acc ++ ps.map (fun p => atoiV p.data.toList) ∧ (i ≤ 4 → i + ps.length ≤ 4)
  | [], i, a, acc, l, h => by
    simp only [paLoop] at h
    cases h
    exact ⟨fun p hp => (by cases hp), (by simp), fun h => (by simpa using h)⟩
  | p :: r, i, a, acc, l, h => by
    simp only [paLoop] at h
    split at h
    · cases h
    · rename_i hi
      split at h
      · cases h
      · rename_i hn
        split at h
        · cases h
        · obtain ⟨h1, h2, h3⟩ := paLoop_ok sz r _ _ _ _ h
          refine ⟨fun q hq => ?_, (by rw [h2]; simp), fun h4 => (by have := h3 (by omega); rw [List.length_cons]; omega)⟩
          rcases List.mem_cons.1 hq with rfl | hq
          · simpa using hn
          · exact h1 q hq
theorem paRes_back (s : ByteArray) (l : List Int) (h : paRes s = .inr l) : ∃ a b c d : Int, l = [a, b, c, d] ∧ s = addrS a b c d ∧ (0 ≤ a ∧ a ≤ 255) ∧ (0 ≤ b ∧ b ≤ 255) ∧ (0 ≤ c ∧ c ≤ 255) ∧ (0 ≤ d ∧ d ≤ 255) := by
  unfold paRes at h
  split at h
  · cases h
  · have hs := sumAt_parts s
    have hj := Pt.join_cutOn 46 s.data.toList
    rw [← parts_data] at hj
    have hp := parts_pos s
    generalize parts s = P at h hs hj hp
    match P, h, hs, hj, hp with
    | [p], h, hs, hj, _ =>
      simp only [paLoop, sumAt] at h hs
      repeat' split at h
      all_goals first | cases h; done | (exfalso; omega)
    | [p, q], h, hs, hj, _ =>
      simp only [paLoop, sumAt] at h hs
      repeat' split at h
      all_goals first | cases h; done | (exfalso; omega)
    | [p, q, r], h, hs, hj, _ =>
      simp only [paLoop, sumAt] at h hs
      repeat' split at h
      all_goals first | cases h; done | (exfalso; omega)
    | [p, q, r, t], h, hs, hj, _ =>
      obtain ⟨hn, hl, -⟩ := paLoop_ok _ _ _ _ _ _ h
      have b1 := num_back _ _ (hn p (by simp))
      have b2 := num_back _ _ (hn q (by simp))
      have b3 := num_back _ _ (hn r (by simp))
      have b4 := num_back _ _ (hn t (by simp))
      refine ⟨_, _, _, _, hl, data_inj ?_, b1.2, b2.2, b3.2, b4.2⟩
      rw [addrS_list, b1.1, b2.1, b3.1, b4.1, ← hj]
      simp [List.intercalate, List.intersperse]
    | p :: q :: r :: t :: u :: v, h, hs, hj, _ =>
      obtain ⟨-, -, h3⟩ := paLoop_ok _ _ _ _ _ _ h
      have := h3 (by decide)
      simp only [List.length_cons] at this
      omega
theorem lbl_clean (p : List UInt8) (h : lblOk p = true) : p.all (fun c => decide (c ≠ 32 ∧ c ≠ 47 ∧ c ≠ 58)) = true := by
  unfold lblOk at h
  simp only [Bool.and_eq_true] at h
  have h2 := h.2.2.1
  unfold onlyZ at h2
  rw [List.all_eq_true] at h2 ⊢
  intro c hc
  have := h2 c hc
  rw [decide_eq_true_eq]
  refine ⟨?_, ?_, ?_⟩
  · rintro rfl; revert this; decide
  · rintro rfl; revert this; decide
  · rintro rfl; revert this; decide
theorem check_clean (a b c d : Int) (n : ByteArray) (h0 : n.size ≠ 0) (h : checkB a b c d n = true) : n.size ≤ 253 ∧ n.data.toList.all (fun c => decide (c ≠ 32 ∧ c ≠ 47 ∧ c ≠ 58)) = true := by
  unfold checkB at h
  rw [if_neg h0] at h
  unfold pnRes at h
  split at h
  · rename_i t he
    split at he
    · cases he
    · rename_i hl
      split at he
      · cases he
      · rename_i hb
        refine ⟨by omega, Pt.cutOn_all 46 _ (by decide) _ fun p hp => ?_⟩
        rw [← parts_data] at hp
        obtain ⟨q, hq, rfl⟩ := List.mem_map.1 hp
        exact lbl_clean _ ((badAt_none _ _).1 hb q hq)
  · cases h
theorem right_facts (r : S37) (hs : r.f3.size ≤ 281474976710656) (h : rightB r = true) :
    1 ≤ r.f4 ∧ r.f5 ≤ 65535 ∧ r.f4 ≤ r.f5 ∧ (r.f3.size = 0 → 0 ≤ r.f2 ∧ r.f2 ≤ 32) ∧ (r.f3.size ≠ 0 → checkB 0 0 0 0 r.f3 = true ∧ r.f1.f0 = 0 ∧ r.f1.f1 = 0 ∧ r.f1.f2 = 0 ∧ r.f1.f3 = 0 ∧ r.f2 = 0) := by
  have h1 := rightB_some 0 r hs
  rw [h] at h1
  unfold policy_right.f at h1
  have hz : r.f3.toList = ([] : List UInt8) ↔ r.f3.size = 0 := by
    have := size_zero r.f3
    constructor
    · intro e; rw [e] at this; simpa using this.symm
    · intro e; rw [e] at this; exact List.isEmpty_iff.1 (by simpa using this)
  split at h1
  · simp [policy_right.j0] at h1
  · rename_i h4
    split at h1
    · simp [policy_right.j0] at h1
    · rename_i h5
      simp only [policy_right.j0] at h1
      split at h1
      · cases h1
      · rename_i h6
        rw [decide_eq_true_eq] at h6
        refine ⟨by omega, by omega, by omega, ?_, ?_⟩
        · intro h0
          rw [if_pos (hz.2 h0)] at h1
          split at h1
          · split at h1
            · rename_i x y; exact ⟨x, y⟩
            · cases h1
          · cases h1
        · intro h0
          rw [if_neg (fun e => h0 (hz.1 e))] at h1
          unfold hCheck.f at h1
          rw [if_pos hs, Option.bind_some] at h1
          split at h1
          · rename_i hc
            split at h1
            · rename_i ha
              simp only [Bool.and_eq_true, beq_iff_eq] at ha
              have := Option.some.inj h1
              rw [beq_iff_eq] at this
              exact ⟨hc, ha.1, ha.2.1, ha.2.2.1, ha.2.2.2, this⟩
            · cases h1
          · cases h1
end Go.Proofs.YteondnhokgmakaaGreatDoor.E


namespace Go.Proofs.YteondnhokgmakaaGreatDoor.E
open Go.RowKit Go.Proofs.YteondnhokgmakaaGreatDoorW.PrintWords Go.Proofs.YteondnhokgmakaaGreatDoorW.PrintLast Go.Proofs.YteondnhokgmakaaGreatDoorW.PrintMore Go.Proofs.YteondnhokgmakaaGreatDoor.XC Go.Proofs.YteondnhokgmakaaGreatDoor.XR Go.Proofs.YteondnhokgmakaaGreatDoor.XV
set_option linter.unusedVariables false
set_option linter.unusedSimpArgs false
def badV (a c : Int) : Value := .agg #[.int .i64 1, .string hostS, .string ⟨#[]⟩, .string ⟨#[]⟩, .string ⟨#[]⟩, .int .i64 a, .int .i64 0, .int .i64 0, .int .i64 0, .int .i64 c]
def zA4 : Array Value := #[.int .u8 0, .int .u8 0, .int .u8 0, .int .u8 0]
def zB10 : Array Value := #[.int .i64 0, .string ⟨#[]⟩, .string ⟨#[]⟩, .string ⟨#[]⟩, .string ⟨#[]⟩, .int .i64 0, .int .i64 0, .int .i64 0, .int .i64 0, .int .i64 0]
theorem Blk.fourz {w : World} {R : Nat} {T : TypeId} (h : Blk w R zA4 T) :
    w.cell? ⟨R, 0, none⟩ = some (.int .u8 0) ∧ w.cell? ⟨R, 1, none⟩ = some (.int .u8 0) ∧ w.cell? ⟨R, 2, none⟩ = some (.int .u8 0) ∧ w.cell? ⟨R, 3, none⟩ = some (.int .u8 0) ∧
    w.frozen? ⟨R, 0, none⟩ = false ∧ w.frozen? ⟨R, 1, none⟩ = false ∧ w.frozen? ⟨R, 2, none⟩ = false ∧ w.frozen? ⟨R, 3, none⟩ = false ∧
    w.setCell ⟨R, 0, none⟩ (.int .u8 0) = w ∧ w.setCell ⟨R, 1, none⟩ (.int .u8 0) = w ∧ w.setCell ⟨R, 2, none⟩ (.int .u8 0) = w ∧ w.setCell ⟨R, 3, none⟩ (.int .u8 0) = w :=
  ⟨h.cell 0 _ rfl, h.cell 1 _ rfl, h.cell 2 _ rfl, h.cell 3 _ rfl, h.free 0, h.free 1, h.free 2, h.free 3,
    setCell_id _ _ _ _ (h.cell 0 _ rfl), setCell_id _ _ _ _ (h.cell 1 _ rfl), setCell_id _ _ _ _ (h.cell 2 _ rfl), setCell_id _ _ _ _ (h.cell 3 _ rfl)⟩
theorem Blk.tenz {w : World} {R : Nat} {T : TypeId} (h : Blk w R zB10 T) :
    w.cell? ⟨R, 0, none⟩ = some (.int .i64 0) ∧ w.cell? ⟨R, 1, none⟩ = some (.string ⟨#[]⟩) ∧ w.cell? ⟨R, 2, none⟩ = some (.string ⟨#[]⟩) ∧ w.cell? ⟨R, 3, none⟩ = some (.string ⟨#[]⟩) ∧ w.cell? ⟨R, 4, none⟩ = some (.string ⟨#[]⟩) ∧ w.cell? ⟨R, 5, none⟩ = some (.int .i64 0) ∧ w.cell? ⟨R, 6, none⟩ = some (.int .i64 0) ∧ w.cell? ⟨R, 7, none⟩ = some (.int .i64 0) ∧ w.cell? ⟨R, 8, none⟩ = some (.int .i64 0) ∧ w.cell? ⟨R, 9, none⟩ = some (.int .i64 0) ∧
    w.frozen? ⟨R, 0, none⟩ = false ∧ w.frozen? ⟨R, 1, none⟩ = false ∧ w.frozen? ⟨R, 2, none⟩ = false ∧ w.frozen? ⟨R, 3, none⟩ = false ∧ w.frozen? ⟨R, 4, none⟩ = false ∧ w.frozen? ⟨R, 5, none⟩ = false ∧ w.frozen? ⟨R, 6, none⟩ = false ∧ w.frozen? ⟨R, 7, none⟩ = false ∧ w.frozen? ⟨R, 8, none⟩ = false ∧ w.frozen? ⟨R, 9, none⟩ = false :=
  ⟨h.cell 0 _ rfl, h.cell 1 _ rfl, h.cell 2 _ rfl, h.cell 3 _ rfl, h.cell 4 _ rfl, h.cell 5 _ rfl, h.cell 6 _ rfl, h.cell 7 _ rfl, h.cell 8 _ rfl, h.cell 9 _ rfl, h.free 0, h.free 1, h.free 2, h.free 3, h.free 4, h.free 5, h.free 6, h.free 7, h.free 8, h.free 9⟩
def badC (a c : Int) : Array Value := #[.int .i64 1, .string hostS, .string ⟨#[]⟩, .string ⟨#[]⟩, .string ⟨#[]⟩, .int .i64 a, .int .i64 0, .int .i64 0, .int .i64 0, .int .i64 c]
def setBad (w1 : World) (R : Nat) (a c : Int) : World := ((((((((((w1.setCell ⟨R, 0, none⟩ (.int .i64 1)).setCell ⟨R, 1, none⟩ (.string hostS)).setCell ⟨R, 2, none⟩ (.string ⟨#[]⟩)).setCell ⟨R, 3, none⟩ (.string ⟨#[]⟩)).setCell ⟨R, 4, none⟩ (.string ⟨#[]⟩)).setCell ⟨R, 5, none⟩ (.int .i64 a)).setCell ⟨R, 6, none⟩ (.int .i64 0)).setCell ⟨R, 7, none⟩ (.int .i64 0)).setCell ⟨R, 8, none⟩ (.int .i64 0)).setCell ⟨R, 9, none⟩ (.int .i64 c))
theorem setBad_eq (w1 : World) (R : Nat) (a c : Int) : ((((((((((w1.setCell ⟨R, 0, none⟩ (.int .i64 1)).setCell ⟨R, 1, none⟩ (.string hostS)).setCell ⟨R, 2, none⟩ (.string ⟨#[]⟩)).setCell ⟨R, 3, none⟩ (.string ⟨#[]⟩)).setCell ⟨R, 4, none⟩ (.string ⟨#[]⟩)).setCell ⟨R, 5, none⟩ (.int .i64 a)).setCell ⟨R, 6, none⟩ (.int .i64 0)).setCell ⟨R, 7, none⟩ (.int .i64 0)).setCell ⟨R, 8, none⟩ (.int .i64 0)).setCell ⟨R, 9, none⟩ (.int .i64 c)) = setBad w1 R a c := rfl
theorem setBad_blk {w1 : World} {R : Nat} {T : TypeId} (a c : Int) (h : Blk w1 R zB10 T) : Blk (setBad w1 R a c) R (badC a c) T := ((((((((((h.set 0 (.int .i64 1)).set 1 (.string hostS)).set 2 (.string ⟨#[]⟩)).set 3 (.string ⟨#[]⟩)).set 4 (.string ⟨#[]⟩)).set 5 (.int .i64 a)).set 6 (.int .i64 0)).set 7 (.int .i64 0)).set 8 (.int .i64 0)).set 9 (.int .i64 c))
theorem setBad_other {w1 : World} {R Q : Nat} {C : Array Value} {T : TypeId} (a c : Int) (hn : Q ≠ R) (h : Blk w1 Q C T) : Blk (setBad w1 R a c) Q C T := ((((((((((h.other ⟨R, 0, none⟩ hn (.int .i64 1)).other ⟨R, 1, none⟩ hn (.string hostS)).other ⟨R, 2, none⟩ hn (.string ⟨#[]⟩)).other ⟨R, 3, none⟩ hn (.string ⟨#[]⟩)).other ⟨R, 4, none⟩ hn (.string ⟨#[]⟩)).other ⟨R, 5, none⟩ hn (.int .i64 a)).other ⟨R, 6, none⟩ hn (.int .i64 0)).other ⟨R, 7, none⟩ hn (.int .i64 0)).other ⟨R, 8, none⟩ hn (.int .i64 0)).other ⟨R, 9, none⟩ hn (.int .i64 c))
theorem setBad_below {w w1 : World} {n R : Nat} (a c : Int) (hn : n ≤ R) (h : Below n w w1) : Below n w (setBad w1 R a c) := ((((((((((h.setCell (p := ⟨R, 0, none⟩) hn (.int .i64 1)).setCell (p := ⟨R, 1, none⟩) hn (.string hostS)).setCell (p := ⟨R, 2, none⟩) hn (.string ⟨#[]⟩)).setCell (p := ⟨R, 3, none⟩) hn (.string ⟨#[]⟩)).setCell (p := ⟨R, 4, none⟩) hn (.string ⟨#[]⟩)).setCell (p := ⟨R, 5, none⟩) hn (.int .i64 a)).setCell (p := ⟨R, 6, none⟩) hn (.int .i64 0)).setCell (p := ⟨R, 7, none⟩) hn (.int .i64 0)).setCell (p := ⟨R, 8, none⟩) hn (.int .i64 0)).setCell (p := ⟨R, 9, none⟩) hn (.int .i64 c))
theorem Blk.tenb {w : World} {R : Nat} {T : TypeId} {a c : Int} (h : Blk w R (badC a c) T) :
    w.cell? ⟨R, 0, none⟩ = some (.int .i64 1) ∧ w.cell? ⟨R, 1, none⟩ = some (.string hostS) ∧ w.cell? ⟨R, 2, none⟩ = some (.string ⟨#[]⟩) ∧ w.cell? ⟨R, 3, none⟩ = some (.string ⟨#[]⟩) ∧ w.cell? ⟨R, 4, none⟩ = some (.string ⟨#[]⟩) ∧ w.cell? ⟨R, 5, none⟩ = some (.int .i64 a) ∧ w.cell? ⟨R, 6, none⟩ = some (.int .i64 0) ∧ w.cell? ⟨R, 7, none⟩ = some (.int .i64 0) ∧ w.cell? ⟨R, 8, none⟩ = some (.int .i64 0) ∧ w.cell? ⟨R, 9, none⟩ = some (.int .i64 c) :=
  ⟨h.cell 0 _ rfl, h.cell 1 _ rfl, h.cell 2 _ rfl, h.cell 3 _ rfl, h.cell 4 _ rfl, h.cell 5 _ rfl, h.cell 6 _ rfl, h.cell 7 _ rfl, h.cell 8 _ rfl, h.cell 9 _ rfl⟩
def setOk (w1 : World) (P R : Nat) (x0 x1 x2 x3 : Int) : World := ((((((((((((((w1.setCell ⟨P, 0, none⟩ (.int .u8 x0)).setCell ⟨P, 1, none⟩ (.int .u8 x1)).setCell ⟨P, 2, none⟩ (.int .u8 x2)).setCell ⟨P, 3, none⟩ (.int .u8 x3)).setCell ⟨R, 0, none⟩ (.int .i64 0)).setCell ⟨R, 1, none⟩ (.string ⟨#[]⟩)).setCell ⟨R, 2, none⟩ (.string ⟨#[]⟩)).setCell ⟨R, 3, none⟩ (.string ⟨#[]⟩)).setCell ⟨R, 4, none⟩ (.string ⟨#[]⟩)).setCell ⟨R, 5, none⟩ (.int .i64 0)).setCell ⟨R, 6, none⟩ (.int .i64 0)).setCell ⟨R, 7, none⟩ (.int .i64 0)).setCell ⟨R, 8, none⟩ (.int .i64 0)).setCell ⟨R, 9, none⟩ (.int .i64 0))
theorem setOk_eq (w1 : World) (P R : Nat) (x0 x1 x2 x3 : Int) : ((((((((((((((w1.setCell ⟨P, 0, none⟩ (.int .u8 x0)).setCell ⟨P, 1, none⟩ (.int .u8 x1)).setCell ⟨P, 2, none⟩ (.int .u8 x2)).setCell ⟨P, 3, none⟩ (.int .u8 x3)).setCell ⟨R, 0, none⟩ (.int .i64 0)).setCell ⟨R, 1, none⟩ (.string ⟨#[]⟩)).setCell ⟨R, 2, none⟩ (.string ⟨#[]⟩)).setCell ⟨R, 3, none⟩ (.string ⟨#[]⟩)).setCell ⟨R, 4, none⟩ (.string ⟨#[]⟩)).setCell ⟨R, 5, none⟩ (.int .i64 0)).setCell ⟨R, 6, none⟩ (.int .i64 0)).setCell ⟨R, 7, none⟩ (.int .i64 0)).setCell ⟨R, 8, none⟩ (.int .i64 0)).setCell ⟨R, 9, none⟩ (.int .i64 0)) = setOk w1 P R x0 x1 x2 x3 := rfl
theorem setOk_a {w1 : World} {P R : Nat} {T : TypeId} (x0 x1 x2 x3 : Int) (hn : P ≠ R) (h : Blk w1 P zA4 T) : Blk (setOk w1 P R x0 x1 x2 x3) P #[.int .u8 x0, .int .u8 x1, .int .u8 x2, .int .u8 x3] T := ((((((((((((((h.set 0 (.int .u8 x0)).set 1 (.int .u8 x1)).set 2 (.int .u8 x2)).set 3 (.int .u8 x3)).other ⟨R, 0, none⟩ hn (.int .i64 0)).other ⟨R, 1, none⟩ hn (.string ⟨#[]⟩)).other ⟨R, 2, none⟩ hn (.string ⟨#[]⟩)).other ⟨R, 3, none⟩ hn (.string ⟨#[]⟩)).other ⟨R, 4, none⟩ hn (.string ⟨#[]⟩)).other ⟨R, 5, none⟩ hn (.int .i64 0)).other ⟨R, 6, none⟩ hn (.int .i64 0)).other ⟨R, 7, none⟩ hn (.int .i64 0)).other ⟨R, 8, none⟩ hn (.int .i64 0)).other ⟨R, 9, none⟩ hn (.int .i64 0))
theorem setOk_b {w1 : World} {P R : Nat} {T : TypeId} (x0 x1 x2 x3 : Int) (hn : P ≠ R) (h : Blk w1 R zB10 T) : Blk (setOk w1 P R x0 x1 x2 x3) R zB10 T := ((((((((((((((h.other ⟨P, 0, none⟩ hn.symm (.int .u8 x0)).other ⟨P, 1, none⟩ hn.symm (.int .u8 x1)).other ⟨P, 2, none⟩ hn.symm (.int .u8 x2)).other ⟨P, 3, none⟩ hn.symm (.int .u8 x3)).set 0 (.int .i64 0)).set 1 (.string ⟨#[]⟩)).set 2 (.string ⟨#[]⟩)).set 3 (.string ⟨#[]⟩)).set 4 (.string ⟨#[]⟩)).set 5 (.int .i64 0)).set 6 (.int .i64 0)).set 7 (.int .i64 0)).set 8 (.int .i64 0)).set 9 (.int .i64 0))
theorem setOk_below {w w1 : World} {n P R : Nat} (x0 x1 x2 x3 : Int) (hp : n ≤ P) (hr : n ≤ R) (h : Below n w w1) : Below n w (setOk w1 P R x0 x1 x2 x3) := ((((((((((((((h.setCell (p := ⟨P, 0, none⟩) hp (.int .u8 x0)).setCell (p := ⟨P, 1, none⟩) hp (.int .u8 x1)).setCell (p := ⟨P, 2, none⟩) hp (.int .u8 x2)).setCell (p := ⟨P, 3, none⟩) hp (.int .u8 x3)).setCell (p := ⟨R, 0, none⟩) hr (.int .i64 0)).setCell (p := ⟨R, 1, none⟩) hr (.string ⟨#[]⟩)).setCell (p := ⟨R, 2, none⟩) hr (.string ⟨#[]⟩)).setCell (p := ⟨R, 3, none⟩) hr (.string ⟨#[]⟩)).setCell (p := ⟨R, 4, none⟩) hr (.string ⟨#[]⟩)).setCell (p := ⟨R, 5, none⟩) hr (.int .i64 0)).setCell (p := ⟨R, 6, none⟩) hr (.int .i64 0)).setCell (p := ⟨R, 7, none⟩) hr (.int .i64 0)).setCell (p := ⟨R, 8, none⟩) hr (.int .i64 0)).setCell (p := ⟨R, 9, none⟩) hr (.int .i64 0))
theorem refFault (a c : Int) (w : World) (hS : StdW w) : Calls Tryz.prog 76 #[.int .i64 a, .int .i64 c] w fun e w' => e = .returned (.agg #[.int .i64 1, .string hostS, .string ⟨#[]⟩, .string ⟨#[]⟩, .string ⟨#[]⟩, .int .i64 a, .int .i64 0, .int .i64 0, .int .i64 0, .int .i64 c]) ∧ Below w.heap.size w w' :=
  sallyportref06_fault.calls a c 1 hostS ⟨#[]⟩ ⟨#[]⟩ ⟨#[]⟩ a 0 0 0 c w hS rfl
theorem refWhole (p : ByteArray) (w : World) : Calls Tryz.prog 50 #[.string p, .int .i64 3] w fun e w' => e = .returned (.tuple #[.int .i64 (wholeV p.data.toList 3).1, .bool (wholeV p.data.toList 3).2]) ∧ Below w.heap.size w w' :=
  (sallyportbase_Whole.calls 21 p 3 _ _ w (whole_f p 3 21 (by decide) (by decide))).mono fun e w' ⟨he, hd⟩ => ⟨he, by obtain ⟨n, rfl⟩ := hd; exact below_drewN w n⟩
theorem own2 (w w1 : World) (hb : Below ((w.alloc (.cells zA4 24)).alloc (.cells zB10 79)).heap.size ((w.alloc (.cells zA4 24)).alloc (.cells zB10 79)) w1) :
    Blk w1 w.heap.size zA4 24 ∧ Blk w1 (w.heap.size + 1) zB10 79 ∧ Below w.heap.size w w1 := by
  refine ⟨((Blk.new w zA4 _).old _).below hb, ?_, below_then (below_alloc (below_alloc (Below.refl _ _) _) _) (below_alloc (below_alloc (Below.refl _ _) _) _).size hb⟩
  have := (Blk.new (w.alloc (.cells zA4 24)) zB10 79).below hb
  rwa [World.size_alloc] at this
set_option maxRecDepth 100000 in
set_option maxHeartbeats 4000000 in
theorem rpa_long (s : ByteArray) (hs : 253 < s.size) (w : World) (hS : StdW w) :
    Calls Tryz.prog 51 #[.string s] w fun e w' => e = .returned (.tuple #[.agg zA4, badV 253 3]) ∧ Below w.heap.size w w' := by
  have HF := Lib.hid (fun W h => refFault 253 3 W h)
  have HS := Lib.hid hS
  have hs1 : (253 : Int) < (s.size : Int) := by omega
  clear hS
  go_enter Tryz.func51, Tryz.ntmps51
  go_wp2_with (go_at_call 76; refine (HF.out _ (StdW.below HS.out (below_alloc (below_alloc (Below.refl _ _) _) _))).mono ?_; rintro e w1 ⟨rfl, hb⟩; obtain ⟨hA, hB, hw⟩ := own2 w w1 hb; obtain ⟨a0, a1, a2, a3, f0, f1, f2, f3, s0, s1, s2, s3⟩ := hA.fourz; obtain ⟨b0, b1, b2, b3, b4, b5, b6, b7, b8, b9, g0, g1, g2, g3, g4, g5, g6, g7, g8, g9⟩ := hB.tenz; have hlt := hB.lt; clear hb)
  have hn1 : ¬ w.heap.size = w.heap.size + 1 := by omega
  have hn2 : ¬ w.heap.size + 1 = w.heap.size := by omega
  rw [setBad_eq]
  have hA2 := setBad_other 253 3 hn1 hA
  have hB2 := setBad_blk 253 3 hB
  have hw2 := setBad_below 253 3 (show w.heap.size ≤ w.heap.size + 1 by omega) hw
  generalize setBad w1 (w.heap.size + 1) 253 3 = wf at hA2 hB2 hw2 ⊢
  clear a0 a1 a2 a3 f0 f1 f2 f3 s0 s1 s2 s3 b0 b1 b2 b3 b4 b5 b6 b7 b8 b9 g0 g1 g2 g3 g4 g5 g6 g7 g8 g9
  obtain ⟨a0, a1, a2, a3, -⟩ := hA2.fourz
  obtain ⟨b0, b1, b2, b3, b4, b5, b6, b7, b8, b9⟩ := hB2.tenb
  exact bodyPost_ret (v := .tuple #[.agg #[.int .u8 0, .int .u8 0, .int .u8 0, .int .u8 0], .agg #[.int .i64 1, .string hostS, .string ⟨#[]⟩, .string ⟨#[]⟩, .string ⟨#[]⟩, .int .i64 253, .int .i64 0, .int .i64 0, .int .i64 0, .int .i64 3]]) (by simp [results, Tryz.results51, go_sem, a0, a1, a2, a3, b0, b1, b2, b3, b4, b5, b6, b7, b8, b9]) rfl ⟨rfl, hw2⟩
def rpaLoop (sz : Int) (ats : List Int) : Nat → List ByteArray → List Int → (Int × Int) ⊕ List Int
  | k, [], acc => if k < 4 then .inl (sz, 63) else .inr acc
  | k, p :: r, acc => if k = 4 then .inl (ats.getD 4 0, 63) else if (wholeV p.data.toList 3).2 = false ∨ 255 < (wholeV p.data.toList 3).1 then .inl (ats.getD k 0, 60)
    else rpaLoop sz ats (k + 1) r (acc ++ [(wholeV p.data.toList 3).1])
def rpaRes (s : ByteArray) : (Int × Int) ⊕ List Int := if 253 < s.size then .inl (253, 3) else rpaLoop s.size (0 :: starts 0 s.data.toList) 0 (cutR s.data.toList ⟨#[]⟩) []
def RPPost (r : (Int × Int) ⊕ List Int) (w : World) (e : Ending) (w' : World) : Prop :=
  Below w.heap.size w w' ∧ match r with
    | .inl (a, c) => e = .returned (.tuple #[.agg zA4, badV a c])
    | .inr l => e = .returned (.tuple #[.agg #[.int .u8 (l.getD 0 0), .int .u8 (l.getD 1 0), .int .u8 (l.getD 2 0), .int .u8 (l.getD 3 0)], .agg zB10])
def accC (acc : List Int) : Array Value := #[.int .u8 (acc.getD 0 0), .int .u8 (acc.getD 1 0), .int .u8 (acc.getD 2 0), .int .u8 (acc.getD 3 0)]
theorem accC_put (acc : List Int) (k : Nat) (hk : acc.length = k) (h4 : k < 4) (v : Int) : (accC acc).setIfInBounds k (.int .u8 v) = accC (acc ++ [v]) := by
  match acc, hk with
  | [], hk => subst hk; rfl
  | [a], hk => subst hk; rfl
  | [a, b], hk => subst hk; rfl
  | [a, b, c], hk => subst hk; rfl
  | _ :: _ :: _ :: _ :: _, hk => simp only [List.length_cons] at hk; omega
theorem accC_cell (acc : List Int) (k : Nat) (h4 : k < 4) : (accC acc)[k]? = some (.int .u8 (acc.getD k 0)) := by
  match k, h4 with
  | 0, _ => rfl
  | 1, _ => rfl
  | 2, _ => rfl
  | 3, _ => rfl
set_option maxRecDepth 100000 in
set_option maxHeartbeats 8000000 in
theorem rpa_short (s : ByteArray) (hs : s.size ≤ 253) (w : World) (hS : StdW w) :
    Calls Tryz.prog 51 #[.string s] w (RPPost (rpaRes s) w) := by
  have HP := Lib.hid (fun W => sallyportref06_parts.calls 300 s _ _ W (parts_f s hs 300 (by omega)))
  have HF := Lib.hid (fun a c W h => refFault a c W h)
  have HR := Lib.hid (show rpaRes s = _ by unfold rpaRes; rw [if_neg (show ¬ 253 < s.size by omega)])
  have HS := Lib.hid hS
  have hs1 : ¬ (253 : Int) < (s.size : Int) := by omega
  clear hS
  have hlen : (0 :: starts 0 s.data.toList : List Int).length = (cutR s.data.toList ⟨#[]⟩).length := by rw [← starts_len s.data.toList ⟨#[]⟩ 0]; rfl
  generalize cutR s.data.toList ⟨#[]⟩ = l at HP HR hlen
  generalize (0 :: starts 0 s.data.toList : List Int) = ats at HP HR hlen
  go_enter Tryz.func51, Tryz.ntmps51
  go_wp2_with (go_at_call 77; refine (HP.out _).mono ?_; rintro e w1 ⟨v0, v1, rfl, hv0, hv1, hb⟩; obtain ⟨hA, hB, hw⟩ := own2 w w1 hb; obtain ⟨A0, c0, e0⟩ := Kd.R_slice hv0; obtain ⟨A1, c1, e1⟩ := Kd.R_slice hv1; subst e0 e1)
  have hC0 := (Kd.R_reads' hv0).2.2
  have hC1 := (Kd.R_reads' hv1).2.2
  have hn1 : w.heap.size ≠ w.heap.size + 1 := by omega
  have hlt1 : w.heap.size + 1 < w1.heap.size := hB.lt
  clear hv0 hv1 hb
  have HLEN := Lib.hid hlen
  clear hlen
  go_loopw [7] (fun i wr => ∃ (k : Nat) (acc : List Int), k ≤ l.length ∧ k ≤ 4 ∧ i = .int .i64 k ∧ Hid (acc.length = k) ∧ Hid (rpaRes s = rpaLoop s.size ats k (l.drop k) acc) ∧ Hid (Blk wr w1.heap.size (accC acc) 97) ∧ Hid (Below w1.heap.size w1 wr)) (fun i _ => l.length - (intOf i).toNat)
  case atStart => exact ⟨0, [], Nat.zero_le _, by omega, rfl, rfl, Lib.hid (by rw [HR.out]; rfl), Lib.hid (Blk.new w1 (accC []) _), Lib.hid (below_alloc (Below.refl _ _) _)⟩
  case round =>
    obtain ⟨k, acc, hk, hk4, rfl, HAL, HP2, HBK, HBR⟩ := hrel
    have hAr := hA.below HBR.out
    have hBr := hB.below HBR.out
    have hCr0 := Kd.C_below hC0 HBR.out
    have hCr1 := Kd.C_below hC1 HBR.out
    have hwr := below_then hw hw.size HBR.out
    have hk0 : (0 : Int) ≤ (k : Int) := Int.natCast_nonneg _
    by_cases hlt : k < l.length
    · have hk1 : (k : Int) < (l.length : Int) := by omega
      have hk1' : (k : Int) < (ats.length : Int) := by have := HLEN.out; omega
      obtain ⟨ad, rfl, hcell⟩ := Kd.at_string hCr0 k hk0 hk1
      obtain ⟨ad1, rfl, hcell1⟩ := Kd.at_int hCr1 k hk0 hk1'
      rw [rdOf_at l k hlt, Int.toNat_natCast] at hcell
      rw [Int.toNat_natCast] at hcell1
      rw [List.drop_eq_getElem_cons hlt] at HP2
      generalize l[k] = p at hcell HP2
      unfold rpaLoop at HP2
      by_cases h4 : k = 4
      · subst h4
        have HPE : Hid (rpaRes s = .inl (rd ats 4, 63)) := Lib.hid (by rw [HP2.out, if_pos rfl]; rfl)
        clear HP2
        have h4l : (4 : Int) < (ats.length : Int) := hk1'
        have hc4 : wr.cell? ⟨ad1.block, ad1.off + 4, none⟩ = some (.int .i64 (rd ats 4)) := hcell1
        go_wp2_with ((go_at_call 76; refine (HF.out _ _ _ (StdW.below HS.out hwr)).mono ?_; rintro e w3 ⟨rfl, hb3⟩; have hAe := hAr.below hb3; have hBe := hBr.below hb3; have hwe := below_then hwr hwr.size hb3; obtain ⟨a0, a1, a2, a3, f0, f1, f2, f3, s0, s1, s2, s3⟩ := hAe.fourz; obtain ⟨b0, b1, b2, b3, b4, b5, b6, b7, b8, b9, g0, g1, g2, g3, g4, g5, g6, g7, g8, g9⟩ := hBe.tenz; clear hb3))
        rw [setBad_eq]
        have hA2 := setBad_other (rd ats 4) 63 hn1 hAe
        have hB2 := setBad_blk (rd ats 4) 63 hBe
        have hw2 := setBad_below (rd ats 4) 63 (show w.heap.size ≤ w.heap.size + 1 by omega) hwe
        generalize setBad _ (w.heap.size + 1) (rd ats 4) 63 = wf at hA2 hB2 hw2 ⊢
        clear a0 a1 a2 a3 f0 f1 f2 f3 s0 s1 s2 s3 b0 b1 b2 b3 b4 b5 b6 b7 b8 b9 g0 g1 g2 g3 g4 g5 g6 g7 g8 g9
        obtain ⟨a0, a1, a2, a3, -⟩ := hA2.fourz
        obtain ⟨b0, b1, b2, b3, b4, b5, b6, b7, b8, b9⟩ := hB2.tenb
        exact bodyPost_ret (v := .tuple #[.agg #[.int .u8 0, .int .u8 0, .int .u8 0, .int .u8 0], .agg #[.int .i64 1, .string hostS, .string ⟨#[]⟩, .string ⟨#[]⟩, .string ⟨#[]⟩, .int .i64 (rd ats 4), .int .i64 0, .int .i64 0, .int .i64 0, .int .i64 63]]) (by simp [results, Tryz.results51, go_sem, a0, a1, a2, a3, b0, b1, b2, b3, b4, b5, b6, b7, b8, b9]) rfl ⟨hw2, by rw [HPE.out]; rfl⟩
      · have h4' : ((k : Int) == 4) = false := by rw [beq_eq_false_iff_ne]; omega
        have hk3' : k < 4 := by omega
        have hk3 : (k : Int) < 4 := by omega
        rw [if_neg h4] at HP2
        have HW := Lib.hid (fun W => refWhole p W)
        obtain ⟨⟨n, ok⟩, hv⟩ : ∃ x, wholeV p.data.toList 3 = x := ⟨_, rfl⟩
        have hn0 : 0 ≤ n := by unfold wholeV at hv; split at hv <;> cases hv <;> omega
        rw [hv] at HW HP2
        clear hv
        simp only [] at HW HP2
        cases ok
        · have HPE : Hid (rpaRes s = .inl (rd ats k, 60)) := Lib.hid (by rw [HP2.out, if_pos (.inl rfl)]; rfl)
          clear HP2
          go_wp2_with (first | (go_at_call 50; refine (HW.out _).mono ?_; rintro e w2 ⟨rfl, hb2⟩; have hA2 := hAr.below hb2; have hB2 := hBr.below hb2; have hw2 := below_then hwr hwr.size hb2; have hK2 := HBK.out.below hb2; have hC2 := hcell1; have hD2 := pw_cell_below hb2 hcell1; have HB2 := Lib.hid (below_then HBR.out HBR.out.size hb2); have hcb := hK2.cell k _ (accC_cell acc k hk3'); have hfb := hK2.free k; have HK2 := Lib.hid hK2; clear hK2) | (go_at_call 76; refine (HF.out _ _ _ (StdW.below HS.out hw2)).mono ?_; rintro e w3 ⟨rfl, hb3⟩; have hAe := hA2.below hb3; have hBe := hB2.below hb3; have hwe := below_then hw2 hw2.size hb3; obtain ⟨a0, a1, a2, a3, f0, f1, f2, f3, s0, s1, s2, s3⟩ := hAe.fourz; obtain ⟨b0, b1, b2, b3, b4, b5, b6, b7, b8, b9, g0, g1, g2, g3, g4, g5, g6, g7, g8, g9⟩ := hBe.tenz; clear hb3))
          rw [setBad_eq]
          have hA2 := setBad_other (rd ats k) 60 hn1 hAe
          have hB2 := setBad_blk (rd ats k) 60 hBe
          have hw2 := setBad_below (rd ats k) 60 (show w.heap.size ≤ w.heap.size + 1 by omega) hwe
          generalize setBad _ (w.heap.size + 1) (rd ats k) 60 = wf at hA2 hB2 hw2 ⊢
          clear a0 a1 a2 a3 f0 f1 f2 f3 s0 s1 s2 s3 b0 b1 b2 b3 b4 b5 b6 b7 b8 b9 g0 g1 g2 g3 g4 g5 g6 g7 g8 g9
          obtain ⟨a0, a1, a2, a3, -⟩ := hA2.fourz
          obtain ⟨b0, b1, b2, b3, b4, b5, b6, b7, b8, b9⟩ := hB2.tenb
          exact bodyPost_ret (v := .tuple #[.agg #[.int .u8 0, .int .u8 0, .int .u8 0, .int .u8 0], .agg #[.int .i64 1, .string hostS, .string ⟨#[]⟩, .string ⟨#[]⟩, .string ⟨#[]⟩, .int .i64 (rd ats k), .int .i64 0, .int .i64 0, .int .i64 0, .int .i64 60]]) (by simp [results, Tryz.results51, go_sem, a0, a1, a2, a3, b0, b1, b2, b3, b4, b5, b6, b7, b8, b9]) rfl ⟨hw2, by rw [HPE.out]; rfl⟩
        · by_cases hbig : 255 < n
          · have HPE : Hid (rpaRes s = .inl (rd ats k, 60)) := Lib.hid (by rw [HP2.out, if_pos (.inr hbig)]; rfl)
            clear HP2
            go_wp2_with (first | (go_at_call 50; refine (HW.out _).mono ?_; rintro e w2 ⟨rfl, hb2⟩; have hA2 := hAr.below hb2; have hB2 := hBr.below hb2; have hw2 := below_then hwr hwr.size hb2; have hK2 := HBK.out.below hb2; have hC2 := hcell1; have hD2 := pw_cell_below hb2 hcell1; have HB2 := Lib.hid (below_then HBR.out HBR.out.size hb2); have hcb := hK2.cell k _ (accC_cell acc k hk3'); have hfb := hK2.free k; have HK2 := Lib.hid hK2; clear hK2) | (go_at_call 76; refine (HF.out _ _ _ (StdW.below HS.out hw2)).mono ?_; rintro e w3 ⟨rfl, hb3⟩; have hAe := hA2.below hb3; have hBe := hB2.below hb3; have hwe := below_then hw2 hw2.size hb3; obtain ⟨a0, a1, a2, a3, f0, f1, f2, f3, s0, s1, s2, s3⟩ := hAe.fourz; obtain ⟨b0, b1, b2, b3, b4, b5, b6, b7, b8, b9, g0, g1, g2, g3, g4, g5, g6, g7, g8, g9⟩ := hBe.tenz; clear hb3))
            rw [setBad_eq]
            have hA2 := setBad_other (rd ats k) 60 hn1 hAe
            have hB2 := setBad_blk (rd ats k) 60 hBe
            have hw2 := setBad_below (rd ats k) 60 (show w.heap.size ≤ w.heap.size + 1 by omega) hwe
            generalize setBad _ (w.heap.size + 1) (rd ats k) 60 = wf at hA2 hB2 hw2 ⊢
            clear a0 a1 a2 a3 f0 f1 f2 f3 s0 s1 s2 s3 b0 b1 b2 b3 b4 b5 b6 b7 b8 b9 g0 g1 g2 g3 g4 g5 g6 g7 g8 g9
            obtain ⟨a0, a1, a2, a3, -⟩ := hA2.fourz
            obtain ⟨b0, b1, b2, b3, b4, b5, b6, b7, b8, b9⟩ := hB2.tenb
            exact bodyPost_ret (v := .tuple #[.agg #[.int .u8 0, .int .u8 0, .int .u8 0, .int .u8 0], .agg #[.int .i64 1, .string hostS, .string ⟨#[]⟩, .string ⟨#[]⟩, .string ⟨#[]⟩, .int .i64 (rd ats k), .int .i64 0, .int .i64 0, .int .i64 0, .int .i64 60]]) (by simp [results, Tryz.results51, go_sem, a0, a1, a2, a3, b0, b1, b2, b3, b4, b5, b6, b7, b8, b9]) rfl ⟨hw2, by rw [HPE.out]; rfl⟩
          · rw [if_neg (by rintro (h | h); cases h; exact hbig h)] at HP2
            have hbig' : ¬ n > 255 := hbig
            go_wp2_with (go_at_call 50; refine (HW.out _).mono ?_; rintro e w2 ⟨rfl, hb2⟩; have hA2 := hAr.below hb2; have hB2 := hBr.below hb2; have hw2 := below_then hwr hwr.size hb2; have hK2 := HBK.out.below hb2; have hC2 := hcell1; have hD2 := pw_cell_below hb2 hcell1; have HB2 := Lib.hid (below_then HBR.out HBR.out.size hb2); have hcb := hK2.cell k _ (accC_cell acc k hk3'); have hfb := hK2.free k; have HK2 := Lib.hid hK2; clear hK2)
            go_roundw
            case rel => exact ⟨k + 1, acc ++ [n], by omega, by omega, by go_num, Lib.hid (by rw [List.length_append, HAL.out]; rfl), HP2, Lib.hid (by rw [← accC_put acc k HAL.out hk3']; exact HK2.out.set k _), Lib.hid (HB2.out.setCell (Nat.le_refl _) _)⟩
            case measure => simp [intOf]; omega
    · have hkl : k = l.length := by omega
      have hk1 : ¬ (k : Int) < (l.length : Int) := by omega
      rw [List.drop_of_length_le (by omega)] at HP2
      unfold rpaLoop at HP2
      by_cases h4 : k < 4
      · have HPE : Hid (rpaRes s = .inl ((s.size : Int), 63)) := Lib.hid (by rw [HP2.out, if_pos h4])
        have hl4 : (l.length : Int) < 4 := by omega
        clear HP2 hkl
        go_wp2_with (go_at_call 76; refine (HF.out _ _ _ (StdW.below HS.out hwr)).mono ?_; rintro e w3 ⟨rfl, hb3⟩; have hAe := hAr.below hb3; have hBe := hBr.below hb3; have hwe := below_then hwr hwr.size hb3; obtain ⟨a0, a1, a2, a3, f0, f1, f2, f3, s0, s1, s2, s3⟩ := hAe.fourz; obtain ⟨b0, b1, b2, b3, b4, b5, b6, b7, b8, b9, g0, g1, g2, g3, g4, g5, g6, g7, g8, g9⟩ := hBe.tenz; clear hb3)
        rw [setBad_eq]
        have hA2 := setBad_other (s.size) 63 hn1 hAe
        have hB2 := setBad_blk (s.size) 63 hBe
        have hw2 := setBad_below (s.size) 63 (show w.heap.size ≤ w.heap.size + 1 by omega) hwe
        generalize setBad _ (w.heap.size + 1) (s.size) 63 = wf at hA2 hB2 hw2 ⊢
        clear a0 a1 a2 a3 f0 f1 f2 f3 s0 s1 s2 s3 b0 b1 b2 b3 b4 b5 b6 b7 b8 b9 g0 g1 g2 g3 g4 g5 g6 g7 g8 g9
        obtain ⟨a0, a1, a2, a3, -⟩ := hA2.fourz
        obtain ⟨b0, b1, b2, b3, b4, b5, b6, b7, b8, b9⟩ := hB2.tenb
        exact bodyPost_ret (v := .tuple #[.agg #[.int .u8 0, .int .u8 0, .int .u8 0, .int .u8 0], .agg #[.int .i64 1, .string hostS, .string ⟨#[]⟩, .string ⟨#[]⟩, .string ⟨#[]⟩, .int .i64 (s.size), .int .i64 0, .int .i64 0, .int .i64 0, .int .i64 63]]) (by simp [results, Tryz.results51, go_sem, a0, a1, a2, a3, b0, b1, b2, b3, b4, b5, b6, b7, b8, b9]) rfl ⟨hw2, by rw [HPE.out]; rfl⟩
      · have HPE : Hid (rpaRes s = .inr acc) := Lib.hid (by rw [HP2.out, if_neg h4])
        have hl4 : ¬ (l.length : Int) < 4 := by omega
        clear HP2 hkl
        have d0 := HBK.out.cell 0 _ (accC_cell acc 0 (by decide))
        have d1 := HBK.out.cell 1 _ (accC_cell acc 1 (by decide))
        have d2 := HBK.out.cell 2 _ (accC_cell acc 2 (by decide))
        have d3 := HBK.out.cell 3 _ (accC_cell acc 3 (by decide))
        have f0 := hAr.free 0
        have f1 := hAr.free 1
        have f2 := hAr.free 2
        have f3 := hAr.free 3
        have a0 := hAr.cell 0 _ rfl
        have a1 := hAr.cell 1 _ rfl
        have a2 := hAr.cell 2 _ rfl
        have a3 := hAr.cell 3 _ rfl
        obtain ⟨b0, b1, b2, b3, b4, b5, b6, b7, b8, b9, g0, g1, g2, g3, g4, g5, g6, g7, g8, g9⟩ := hBr.tenz
        have HEND : Hid (∀ wx, Below w.heap.size w wx → RPPost (rpaRes s) w (.returned (.tuple #[.agg #[.int .u8 (acc.getD 0 0), .int .u8 (acc.getD 1 0), .int .u8 (acc.getD 2 0), .int .u8 (acc.getD 3 0)], .agg zB10])) wx) := Lib.hid (fun wx hb => ⟨hb, by rw [HPE.out]⟩)
        generalize acc.getD 0 0 = x0 at d0 HEND
        generalize acc.getD 1 0 = x1 at d1 HEND
        generalize acc.getD 2 0 = x2 at d2 HEND
        generalize acc.getD 3 0 = x3 at d3 HEND
        go_wp2
        rw [setOk_eq]
        have hA2 := setOk_a x0 x1 x2 x3 hn1 hAr
        have hB2 := setOk_b x0 x1 x2 x3 hn1 hBr
        have hw2 := setOk_below x0 x1 x2 x3 (Nat.le_refl _) (show w.heap.size ≤ w.heap.size + 1 by omega) hwr
        generalize setOk wr w.heap.size (w.heap.size + 1) x0 x1 x2 x3 = wf at hA2 hB2 hw2 ⊢
        clear a0 a1 a2 a3 f0 f1 f2 f3 b0 b1 b2 b3 b4 b5 b6 b7 b8 b9 g0 g1 g2 g3 g4 g5 g6 g7 g8 g9
        have a0 := hA2.cell 0 _ rfl
        have a1 := hA2.cell 1 _ rfl
        have a2 := hA2.cell 2 _ rfl
        have a3 := hA2.cell 3 _ rfl
        obtain ⟨b0, b1, b2, b3, b4, b5, b6, b7, b8, b9, -⟩ := hB2.tenz
        exact bodyPost_ret (v := .tuple #[.agg #[.int .u8 x0, .int .u8 x1, .int .u8 x2, .int .u8 x3], .agg #[.int .i64 0, .string ⟨#[]⟩, .string ⟨#[]⟩, .string ⟨#[]⟩, .string ⟨#[]⟩, .int .i64 0, .int .i64 0, .int .i64 0, .int .i64 0, .int .i64 0]]) (by simp [results, Tryz.results51, go_sem, a0, a1, a2, a3, b0, b1, b2, b3, b4, b5, b6, b7, b8, b9]) rfl (HEND.out _ hw2)
theorem rpa_any (s : ByteArray) (w : World) (hS : StdW w) : Calls Tryz.prog 51 #[.string s] w (RPPost (rpaRes s) w) := by
  by_cases hs : 253 < s.size
  · refine (rpa_long s hs w hS).mono fun e w' ⟨he, hb⟩ => ?_
    have : rpaRes s = .inl (253, 3) := by unfold rpaRes; rw [if_pos hs]
    rw [this]
    exact ⟨hb, he⟩
  · exact rpa_short s (by omega) w hS
def refPA.f (s : ByteArray) : Option (Int × Int × Int × Int × Int × ByteArray × ByteArray × ByteArray × ByteArray × Int × Int × Int × Int × Int) := some (match rpaRes s with
  | .inl (a, c) => (0, 0, 0, 0, 1, hostS, ⟨#[]⟩, ⟨#[]⟩, ⟨#[]⟩, a, 0, 0, 0, c)
  | .inr l => (l.getD 0 0, l.getD 1 0, l.getD 2 0, l.getD 3 0, 0, ⟨#[]⟩, ⟨#[]⟩, ⟨#[]⟩, ⟨#[]⟩, 0, 0, 0, 0, 0))
theorem refPA.calls (s : ByteArray) (r1 r2 r3 r4 r5 : Int) (r6 r7 r8 r9 : ByteArray) (r10 r11 r12 r13 r14 : Int) (w : World) (hS_ : StdW w) (h : refPA.f s = some (r1, r2, r3, r4, r5, r6, r7, r8, r9, r10, r11, r12, r13, r14)) :
    Calls Tryz.prog 51 #[.string s] w fun e w' => e = .returned (.tuple #[.agg #[.int .u8 r1, .int .u8 r2, .int .u8 r3, .int .u8 r4], .agg #[.int .i64 r5, .string r6, .string r7, .string r8, .string r9, .int .i64 r10, .int .i64 r11, .int .i64 r12, .int .i64 r13, .int .i64 r14]]) ∧ Below w.heap.size w w' := by
  refine (rpa_any s w hS_).mono fun e w' hp => ?_
  unfold RPPost at hp
  unfold refPA.f at h
  have h := Option.some.inj h
  obtain ⟨hb, hp⟩ := hp
  split at h
  · rename_i a c hr
    rw [hr] at hp
    cases h
    exact ⟨hp, hb⟩
  · rename_i l hr
    rw [hr] at hp
    cases h
    exact ⟨hp, hb⟩
theorem wholeV_good (l : List UInt8) (n : Int) (h : wholeV l 3 = (n, true)) : Lib.itoa n = l ∧ 0 ≤ n := by
  unfold wholeV at h
  rw [Num.whole_canon] at h
  split at h
  · rename_i m hm
    split at hm
    · rename_i hc
      cases hm
      cases h
      exact ⟨Num.itoa_val l hc.1, by omega⟩
    · cases hm
  · cases h
theorem rpaLoop_ok (sz : Int) (ats : List Int) : ∀ (ps : List ByteArray) (k : Nat) (acc l : List Int), k ≤ 4 → rpaLoop sz ats k ps acc = .inr l → (∀ p ∈ ps, wholeV p.data.toList 3 = ((wholeV p.data.toList 3).1, true) ∧ (wholeV p.data.toList 3).1 ≤ 255) ∧ l = acc ++ ps.map (fun p => (wholeV p.data.toList 3).1) ∧ k + ps.length = 4
  | [], k, acc, l, hk, h => by
    unfold rpaLoop at h
    split at h
    · cases h
    · cases h
      exact ⟨fun p hp => (by cases hp), (by simp), (by simp only [List.length_nil]; omega)⟩
  | p :: r, k, acc, l, hk, h => by
    unfold rpaLoop at h
    split at h
    · cases h
    · split at h
      · cases h
      · rename_i hn
        obtain ⟨h1, h2, h3⟩ := rpaLoop_ok sz ats r _ _ _ (by omega) h
        refine ⟨fun q hq => ?_, (by rw [h2]; simp), (by rw [List.length_cons]; omega)⟩
        rcases List.mem_cons.1 hq with rfl | hq
        · rw [not_or] at hn
          refine ⟨Prod.ext rfl ?_, by omega⟩
          cases hb : (wholeV q.data.toList 3).2
          · exact absurd hb hn.1
          · rfl
        · exact h1 q hq
theorem rpa_pa (s : ByteArray) (l : List Int) (h : rpaRes s = .inr l) : paRes s = .inr l := by
  unfold rpaRes at h
  split at h
  · cases h
  · obtain ⟨h1, h2, h3⟩ := rpaLoop_ok _ _ _ _ _ _ (by omega) h
    have hj := Pt.join_cutOn 46 s.data.toList
    rw [← cutR_zero] at hj
    generalize cutR s.data.toList ⟨#[]⟩ = P at h1 h2 h3 hj
    match P, h1, h2, h3, hj with
    | [p, q, r, t], h1, h2, _, hj =>
      have g1 := h1 p (by simp)
      have g2 := h1 q (by simp)
      have g3 := h1 r (by simp)
      have g4 := h1 t (by simp)
      have b1 := wholeV_good _ _ g1.1
      have b2 := wholeV_good _ _ g2.1
      have b3 := wholeV_good _ _ g3.1
      have b4 := wholeV_good _ _ g4.1
      have hs : s = addrS (wholeV p.data.toList 3).1 (wholeV q.data.toList 3).1 (wholeV r.data.toList 3).1 (wholeV t.data.toList 3).1 := by
        apply data_inj
        rw [addrS_list, b1.1, b2.1, b3.1, b4.1, ← hj]
        simp [List.intercalate, List.intersperse]
      rw [hs, paRes_addrS _ _ _ _ b1.2 g1.2 b2.2 g2.2 b3.2 g3.2 b4.2 g4.2, h2]
      rfl
    | [], _, _, h3, _ => simp at h3
    | [_], _, _, h3, _ => simp at h3
    | [_, _], _, _, h3, _ => simp at h3
    | [_, _, _], _, _, h3, _ => simp at h3
    | _ :: _ :: _ :: _ :: _ :: _, _, _, h3, _ => simp only [List.length_cons] at h3; omega
theorem wholeV_itoa (n : Int) (h0 : 0 ≤ n) (h1 : n ≤ 255) : wholeV (Lib.itoa n) 3 = (n, true) := by
  unfold wholeV
  rw [Num.whole_canon, if_pos]
  · simp only [Prod.mk.injEq, and_true]
    rw [itoa_dec n h0, Num.val_dec]; omega
  · refine ⟨by rw [itoa_dec n h0]; exact Num.canon_dec _, it_len n h0 h1⟩
theorem pa_rpa (s : ByteArray) (l : List Int) (h : paRes s = .inr l) : rpaRes s = .inr l := by
  obtain ⟨a, b, c, d, rfl, rfl, ha, hb, hc, hd⟩ := paRes_back s l h
  have hz := addrS_size a b c d ha.1 ha.2 hb.1 hb.2 hc.1 hc.2 hd.1 hd.2
  have hP : cutR (addrS a b c d).data.toList ⟨#[]⟩ = [it a, it b, it c, it d] := by
    apply map_data_inj
    rw [cutR_zero, ← parts_data, addrS_parts a b c d ha.1 hb.1 hc.1 hd.1]
  have e : ∀ n, (it n).data.toList = Lib.itoa n := fun n => rfl
  unfold rpaRes
  rw [if_neg (by omega), hP]
  simp only [rpaLoop, e, wholeV_itoa a ha.1 ha.2, wholeV_itoa b hb.1 hb.2, wholeV_itoa c hc.1 hc.2, wholeV_itoa d hd.1 hd.2]
  rw [if_neg (by decide), if_neg (by rintro (h | h); cases h; omega), if_neg (by decide), if_neg (by rintro (h | h); cases h; omega), if_neg (by decide), if_neg (by rintro (h | h); cases h; omega), if_neg (by decide), if_neg (by rintro (h | h); cases h; omega), if_neg (by decide)]
  rfl
end Go.Proofs.YteondnhokgmakaaGreatDoor.E
