/- What the cards of this seat rest on: the walks and plain laws, part 3. -/
import Derived.Lib.ItoaNum
import Derived.Lib.AtoiAll
import Derived.Test.YtocklkaddiomhaaGreatDoorHD1
import Derived.Test.YtocklkaddiomhaaGreatDoorHD2
import Derived.Test.YtocklkaddiomhaaGreatDoorProg
import Derived.WalkKit
import Derived.WalkLawsBesides
import Derived.Below
import Derived.Lib.Hide
import Derived.Outline
import Derived.Lib.SplitLaws
import Derived.Lib.CutLaws
import Derived.Laws.IdiomStrings
import Derived.Deep.RegionWith


namespace Go.Proofs.YtocklkaddiomhaaGreatDoor.Num
open Go.Lib
def val (l : List UInt8) : Nat := l.foldl (fun a c => a * 10 + (c.toNat - 48)) 0
theorem val_snoc (l : List UInt8) (c : UInt8) : val (l ++ [c]) = val l * 10 + (c.toNat - 48) := by simp [val]
def canon (l : List UInt8) : Bool := l == decDigits (val l)
def dig (c : UInt8) : Bool := decide (48 ≤ c.toNat) && decide (c.toNat ≤ 57)
theorem ofNat_toNat (k : Nat) (h : k < 10) : (UInt8.ofNat (48 + k)).toNat = 48 + k := by
  rw [UInt8.toNat_ofNat']; omega
theorem val_dec (n : Nat) : val (decDigits n) = n := by
  induction n using Nat.strongRecOn with
  | _ n ih =>
    by_cases h : n < 10
    · rw [decDigits, dif_pos h]
      simp only [val, List.foldl_cons, List.foldl_nil]
      rw [ofNat_toNat n h]; omega
    · rw [decDigits, dif_neg h, val_snoc, ih (n / 10) (by omega), ofNat_toNat _ (by omega)]; omega
theorem canon_dec (n : Nat) : canon (decDigits n) = true := by simp [canon, val_dec]
def whole (l : List UInt8) (d : Nat) : Option Nat :=
  if l = [] ∨ d < l.length ∨ (1 < l.length ∧ l.head?.map (·.toNat) = some 48) then none
  else if l.all dig then some (val l) else none
theorem nDigits_le (k n : Nat) (h : n < 10 ^ k) (hk : 1 ≤ k) : nDigits n ≤ k := by
  induction k generalizing n with
  | zero => omega
  | succ k ih =>
    by_cases h10 : n < 10
    · rw [nDigits_small h10]; omega
    · rw [nDigits_big h10]
      have : 1 ≤ k := by
        rcases Nat.eq_zero_or_pos k with rfl | h
        · simp at h; omega
        · exact h
      have := ih (n / 10) (by rw [Nat.pow_succ] at h; omega) this
      omega
theorem atoi_itoa (l : List UInt8) (v : Int) (h : atoiAll l = .ok v) (h0 : 0 ≤ v) (hi : itoa v = l) : canon l = true ∧ v = (val l : Int) := by
  unfold itoa at hi
  rw [if_neg (by omega)] at hi
  subst hi
  exact ⟨canon_dec _, by rw [val_dec]; omega⟩
end Go.Proofs.YtocklkaddiomhaaGreatDoor.Num


namespace Go.Proofs.YtocklkaddiomhaaGreatDoor.E
open Go.RowKit Go.Proofs.YtocklkaddiomhaaGreatDoorW.PrintWords Go.Proofs.YtocklkaddiomhaaGreatDoorW.PrintLast
set_option linter.unusedVariables false
set_option linter.unusedSimpArgs false
theorem addAt (b o j : Nat) : (⟨b, o, none⟩ : Addr).add j = ⟨b, o + j, none⟩ := by unfold Addr.add; split <;> simp_all
def Itoa.f (a : Int) : Option ByteArray := if -9223372036854775808 ≤ a ∧ a ≤ 9223372036854775807 then some ⟨(Lib.itoa a).toArray⟩ else none
theorem Itoa.calls (a : Int) (r : ByteArray) (w : World) (hS_ : StdW w) (h : Itoa.f a = some r) :
    Calls Tryz.prog 91 #[.int .i64 a] w fun e w' => e = .returned (.string r) ∧ Below w.heap.size w w' := by
  unfold Itoa.f at h
  split at h
  · rename_i hc
    obtain rfl := Option.some.inj h
    refine (Tryz.strconv_Itoa a hc.1 hc.2 w hS_.tab).mono ?_
    rintro e w' ⟨rfl, k, os, rfl⟩
    exact ⟨rfl, below_then (below_drewN w k) (Nat.le_refl _) (below_grow (w.drewN k) os)⟩
  · cases h
def Cut.f (s sep : ByteArray) : Option (ByteArray × ByteArray × Bool) :=
  if s.size < 4294967281 then some (⟨(Lib.cut s.data.toList sep.data.toList).1.toArray⟩, ⟨(Lib.cut s.data.toList sep.data.toList).2.1.toArray⟩, (Lib.cut s.data.toList sep.data.toList).2.2) else none
theorem Cut.calls (s sep : ByteArray) (r1 r2 : ByteArray) (r3 : Bool) (w : World) (hS_ : StdW w) (h : Cut.f s sep = some (r1, r2, r3)) :
    Calls Tryz.prog 70 #[.string s, .string sep] w fun e w' => e = .returned (.tuple #[.string r1, .string r2, .bool r3]) ∧ Below w.heap.size w w' := by
  unfold Cut.f at h
  split at h
  · rename_i hc
    simp only [Option.some.injEq, Prod.mk.injEq] at h
    obtain ⟨rfl, rfl, rfl⟩ := h
    obtain ⟨m, hm⟩ := hS_.max
    refine (Tryz.strings_Cut s sep m w hc hm).mono ?_
    rintro e w' ⟨rfl, n, rfl⟩
    exact ⟨rfl, below_drewN w n⟩
  · cases h
end Go.Proofs.YtocklkaddiomhaaGreatDoor.E


namespace Go.Proofs.YtocklkaddiomhaaGreatDoor.E
open Go.RowKit Go.Proofs.YtocklkaddiomhaaGreatDoorW.PrintWords Go.Proofs.YtocklkaddiomhaaGreatDoorW.PrintLast
set_option linter.unusedVariables false
set_option linter.unusedSimpArgs false
def atoiV (l : List UInt8) : Int := match Lib.atoiAll l with | .ok v => v | .range => Lib.atoiSat l | _ => 0
def numOk (l : List UInt8) (most : Int) : Bool := match Lib.atoiAll l with | .ok v => decide (0 ≤ v) && (decide (v ≤ most) && (Lib.itoa v == l)) | _ => false
theorem atoi_any (s : ByteArray) (hs : s.size ≤ 281474976710656) (w : World) (hS : StdW w) :
    Calls Tryz.prog 90 #[.string s] w fun e w' => ∃ er : Value, e = .returned (.tuple #[.int .i64 (atoiV s.data.toList), er]) ∧ (match Lib.atoiAll s.data.toList with | .ok _ => er = .nilIface | _ => ∃ N, er = .iface 203 (.pointer (some ⟨N, 0, none⟩))) ∧ Below w.heap.size w w' := by
  unfold atoiV
  rcases h : Lib.atoiAll s.data.toList with v | _ | _
  ·
    refine (Tryz.strconv_Atoi_ok s (by omega) v h w).mono ?_
    rintro e w' ⟨rfl, hw⟩
    refine ⟨_, rfl, rfl, ?_⟩
    rcases hw with rfl | ⟨t, rfl⟩
    · exact Below.refl _ _
    · exact Lib.bytesWorld_below _ _ _
  ·
    obtain ⟨a, b, hs1⟩ := hS.syn
    refine (Tryz.strconv_Atoi_syntax s hs h _ w hs1 (.inr ⟨_, _, rfl⟩)).mono ?_
    rintro e w' ⟨N, rfl, -, -, hb⟩
    exact ⟨_, rfl, ⟨N, rfl⟩, hb⟩
  ·
    obtain ⟨a, b, hs1⟩ := hS.rng
    refine (Tryz.strconv_Atoi_range s hs h _ w hs1 (.inr ⟨_, _, rfl⟩)).mono ?_
    rintro e w' ⟨N, rfl, -, -, hb⟩
    exact ⟨_, rfl, ⟨N, rfl⟩, hb⟩
theorem atoiAll_bounds (l : List UInt8) (v : Int) (h : Lib.atoiAll l = .ok v) : -9223372036854775808 ≤ v ∧ v ≤ 9223372036854775807 := by
  unfold Lib.atoiAll at h
  cases l with
  | nil => cases h
  | cons c r =>
    simp only at h
    split at h
    · cases h
    · cases h
    · rename_i u hu
      have := Lib.parseMag_lt hu
      split at h
      · cases h
      · split at h
        · cases h
        · injection h with h
          split at h <;> omega
theorem numOk_bounds (l : List UInt8) (most : Int) (h : numOk l most = true) : 0 ≤ atoiV l ∧ atoiV l ≤ most ∧ Num.canon l = true ∧ atoiV l = (Num.val l : Int) := by
  unfold numOk at h
  unfold atoiV
  rcases ha : Lib.atoiAll l with v | _ | _
  ·
    rw [ha] at h
    simp only [Bool.and_eq_true, decide_eq_true_eq, beq_iff_eq] at h
    have := Num.atoi_itoa l v ha h.1 h.2.2
    exact ⟨h.1, h.2.1, this.1, this.2⟩
  · rw [ha] at h; cases h
  · rw [ha] at h; cases h
end Go.Proofs.YtocklkaddiomhaaGreatDoor.E


namespace Go.Proofs.YtocklkaddiomhaaGreatDoor.E
open Go.RowKit Go.Proofs.YtocklkaddiomhaaGreatDoorW.PrintWords Go.Proofs.YtocklkaddiomhaaGreatDoorW.PrintLast
set_option linter.unusedVariables false
set_option linter.unusedSimpArgs false
set_option maxHeartbeats 1000000 in
theorem hnumber_ok (s : ByteArray) (most v : Int) (hv0 : -9223372036854775808 ≤ v) (hv1 : v ≤ 9223372036854775807) (w : World)
    (A : Calls Tryz.prog 90 #[.string s] w fun e w' => e = .returned (.tuple #[.int .i64 v, .nilIface]) ∧ Below w.heap.size w w') (hS : StdW w) :
    Calls Tryz.prog 138 #[.string s, .int .i64 most] w fun e w' => e = .returned (.tuple #[.int .i64 v, .bool (decide (0 ≤ v) && (decide (v ≤ most) && (Lib.itoa v == s.toList)))]) ∧ Below w.heap.size w w' := by
  have HA := Lib.hid A
  have HS := Lib.hid hS
  clear A hS
  by_cases h0 : 0 ≤ v
  · by_cases h1 : v ≤ most
    · rw [decide_eq_true h0, decide_eq_true h1, Bool.true_and, Bool.true_and]
      go_enter Tryz.func138, Tryz.ntmps138
      go_wp2_with (first | (go_at_call 90; refine HA.out.mono ?_; rintro e w1 ⟨rfl, hb1⟩) | (go_at_call 91; refine (Itoa.calls v ⟨(Lib.itoa v).toArray⟩ _ (StdW.below HS.out hb1) (by unfold Itoa.f; rw [if_pos ⟨hv0, hv1⟩])).mono ?_; rintro e w2 ⟨rfl, hb2⟩))
      go_ret2
      exact ⟨rfl, below_then hb1 hb1.size hb2⟩
    · rw [decide_eq_true h0, decide_eq_false h1, Bool.true_and, Bool.false_and]
      have h1' : decide (v ≤ most) = false := decide_eq_false h1
      go_enter Tryz.func138, Tryz.ntmps138
      go_wp2_with (go_at_call 90; refine HA.out.mono ?_; rintro e w1 ⟨rfl, hb1⟩)
      go_ret2
      exact ⟨rfl, hb1⟩
  · rw [decide_eq_false h0, Bool.false_and]
    have h0' : decide (0 ≤ v) = false := decide_eq_false h0
    go_enter Tryz.func138, Tryz.ntmps138
    go_wp2_with (go_at_call 90; refine HA.out.mono ?_; rintro e w1 ⟨rfl, hb1⟩)
    go_ret2
    exact ⟨rfl, hb1⟩
set_option maxHeartbeats 1000000 in
theorem hnumber_no (s : ByteArray) (most v : Int) (w : World)
    (A : Calls Tryz.prog 90 #[.string s] w fun e w' => (∃ N, e = .returned (.tuple #[.int .i64 v, .iface 203 (.pointer (some ⟨N, 0, none⟩))])) ∧ Below w.heap.size w w') :
    Calls Tryz.prog 138 #[.string s, .int .i64 most] w fun e w' => e = .returned (.tuple #[.int .i64 v, .bool false]) ∧ Below w.heap.size w w' := by
  have HA := Lib.hid A
  clear A
  go_enter Tryz.func138, Tryz.ntmps138
  go_wp2_with (go_at_call 90; refine HA.out.mono ?_; rintro e w1 ⟨⟨N, rfl⟩, hb1⟩)
  go_ret2
  exact ⟨rfl, hb1⟩
theorem hnumber_any (s : ByteArray) (most : Int) (hs : s.size ≤ 281474976710656) (w : World) (hS : StdW w) :
    Calls Tryz.prog 138 #[.string s, .int .i64 most] w fun e w' => e = .returned (.tuple #[.int .i64 (atoiV s.data.toList), .bool (numOk s.data.toList most)]) ∧ Below w.heap.size w w' := by
  have A := atoi_any s hs w hS
  unfold numOk
  rcases h : Lib.atoiAll s.data.toList with v | _ | _
  ·
    have hv : atoiV s.data.toList = v := by unfold atoiV; rw [h]
    rw [hv] at A ⊢
    obtain ⟨b0, b1⟩ := atoiAll_bounds _ _ h
    have := hnumber_ok s most v b0 b1 w (A.mono fun e w' hh => by
      obtain ⟨er, rfl, he, hb⟩ := hh
      rw [h] at he
      subst he
      exact ⟨rfl, hb⟩) hS
    rw [ByteArray.toList_eq] at this
    exact this
  ·
    exact hnumber_no s most _ w (A.mono fun e w' hh => by
      obtain ⟨er, rfl, he, hb⟩ := hh
      rw [h] at he
      obtain ⟨N, rfl⟩ := he
      exact ⟨⟨N, rfl⟩, hb⟩)
  ·
    exact hnumber_no s most _ w (A.mono fun e w' hh => by
      obtain ⟨er, rfl, he, hb⟩ := hh
      rw [h] at he
      obtain ⟨N, rfl⟩ := he
      exact ⟨⟨N, rfl⟩, hb⟩)
end Go.Proofs.YtocklkaddiomhaaGreatDoor.E


namespace Go.Proofs.YtocklkaddiomhaaGreatDoor.E
open Go.RowKit Go.Proofs.YtocklkaddiomhaaGreatDoorW.PrintWords Go.Proofs.YtocklkaddiomhaaGreatDoorW.PrintLast
set_option linter.unusedVariables false
set_option linter.unusedSimpArgs false
def Join.f (l : List ByteArray) (sep : ByteArray) : Option ByteArray :=
  if (Lib.join (l.map (·.data.toList)) sep.data.toList).length ≤ 140737488355328 ∧ l.length ≤ 140737488355328 then some ⟨(Lib.join (l.map (·.data.toList)) sep.data.toList).toArray⟩ else none
theorem Join.calls (A0 : Option Addr) (c0 : Nat) (l0 : List ByteArray) (sep : ByteArray) (r : ByteArray) (w : World) (hr0 : Kd.C Kd.string w A0 l0.length l0) (hc0 : l0.length ≤ c0) (hS_ : StdW w) (h : Join.f l0 sep = some r) :
    Calls Tryz.prog 129 #[.slice A0 l0.length c0, .string sep] w fun e w' => e = .returned (.string r) ∧ Below w.heap.size w w' := by
  unfold Join.f at h
  split at h
  · rename_i hc
    obtain rfl := Option.some.inj h
    cases l0 with
    | nil =>
      refine (Tryz.strings_Join_none A0 c0 sep w).mono ?_
      rintro e w' ⟨rfl, rfl⟩
      exact ⟨rfl, Below.refl _ _⟩
    | cons x l =>
      obtain ⟨ad, rfl, h0⟩ := Kd.at_string hr0 0 (Int.le_refl _) (by simp)
      have hsp := World.cell?_spot h0
      obtain ⟨b, o, sp⟩ := ad
      have hsp2 : sp = none := by simpa [Addr.add] using hsp
      subst hsp2
      refine Tryz.strings_Join b o c0 (x :: l) sep w (fun j y hj => ?_) ?_ hc.2 hc0 hc.1
      · have hj2 : j < (x :: l).length := (List.getElem?_eq_some_iff.1 hj).1
        obtain ⟨ad2, e2, h2⟩ := Kd.at_string hr0 (j : Int) (by omega) (by omega)
        cases e2
        have hr : rdOf ByteArray.empty (x :: l) (j : Int) = y := by
          unfold rdOf; rw [Int.toNat_natCast, List.getD_eq_getElem?_getD, hj]; rfl
        rw [hr, Int.toNat_natCast, addAt] at h2
        exact h2
      · have := World.block_lt_of_cell? w _ h0
        simpa [Addr.add] using this
  · cases h
def ToLower.f (s : ByteArray) : Option ByteArray := if s.size ≤ 140737488355328 ∧ s.data.toList.all (fun b => decide (b.toNat < 128)) = true then some ⟨(Lib.toLowerA s.data.toList).toArray⟩ else none
theorem ToLower.calls (s r : ByteArray) (w : World) (hS_ : StdW w) (h : ToLower.f s = some r) :
    Calls Tryz.prog 144 #[.string s] w fun e w' => e = .returned (.string r) ∧ Below w.heap.size w w' := by
  unfold ToLower.f at h
  split at h
  · rename_i hc
    obtain rfl := Option.some.inj h
    exact Tryz.strings_ToLower_ascii s w hc.1 (fun j b hb => by
      have := List.all_eq_true.1 hc.2 b (List.mem_of_getElem? hb)
      simpa using this)
  · cases h
end Go.Proofs.YtocklkaddiomhaaGreatDoor.E


namespace Go.Proofs.YtocklkaddiomhaaGreatDoor
open Go.RowKit
def kindZ (c : Int) : Int :=
  if c = 46 then 1 else if 48 ≤ c ∧ c ≤ 57 then 2 else if c = 45 then 3 else if 65 ≤ c ∧ c ≤ 90 then 4 else if 97 ≤ c ∧ c ≤ 122 then 4 else 0
theorem kind_any (c : Int) (w : World) (h0 : 0 ≤ c) (h1 : c ≤ 255) :
    Calls Tryz.prog 143 #[.int .u8 c] w fun e w' => e = .returned (.int .i64 (kindZ c)) ∧ w = w' := by
  go_enter Tryz.func143, Tryz.ntmps143
  go_wp2
  all_goals
    go_ret
    refine ⟨?_, rfl⟩
    unfold kindZ
    simp_all
    try omega
end Go.Proofs.YtocklkaddiomhaaGreatDoor


namespace Go.Proofs.YtocklkaddiomhaaGreatDoor.E
open Go.RowKit Go.Proofs.YtocklkaddiomhaaGreatDoorW.PrintWords Go.Proofs.YtocklkaddiomhaaGreatDoorW.PrintLast
set_option linter.unusedVariables false
set_option linter.unusedSimpArgs false
def onlyZ (ks : List Int) (l : List UInt8) : Bool := l.all fun c => ks.contains (kindZ (c.toNat : Int))
theorem take_snoc (s : ByteArray) (k : Nat) (h : k < s.size) : s.data.toList.take (k + 1) = s.data.toList.take k ++ [s[k]] := by
  rw [List.take_succ_eq_append_getElem (by simpa using h)]; rfl
theorem all_snoc (p : UInt8 → Bool) (l : List UInt8) (c : UInt8) : (l ++ [c]).all p = (l.all p && p c) := by simp [List.all_append]
theorem any_take (ks : List Int) (j : Nat) (h : j < ks.length) (q : Int) : (ks.take (j + 1)).contains q = ((ks.take j).contains q || (q == ks[j])) := by
  rw [List.take_succ_eq_append_getElem h]
  rw [List.contains_eq_any_beq, List.any_append, ← List.contains_eq_any_beq]
  simp
theorem all_false (p : UInt8 → Bool) (s : ByteArray) (k : Nat) (h : k < s.size) (hp : p s[k] = false) : s.data.toList.all p = false := by
  rw [List.all_eq_false]
  exact ⟨s[k], by
    have : s[k] = s.data.toList[k]'(by simpa using h) := rfl
    rw [this]; exact List.getElem_mem _, by simp [hp]⟩
set_option maxRecDepth 100000 in
set_option maxHeartbeats 1000000 in
theorem only_any (s : ByteArray) (ks : List Int) (bk c : Nat) (w : World) (hs : s.size ≤ 281474976710656) (hl : ks.length ≤ 1000)
    (hks : ∀ j, j < ks.length → w.cell? ⟨bk, j, none⟩ = some (.int .i64 (ks.getD j 0))) :
    Calls Tryz.prog 109 #[.string s, .slice (some ⟨bk, 0, none⟩) ks.length c] w fun e w' => e = .returned (.bool (onlyZ ks s.data.toList)) ∧ w = w' := by
  have HK := Lib.hid hks
  clear hks
  go_enter Tryz.func109, Tryz.ntmps109
  go_wp2
  go_loop [11] (fun i => ∃ k : Nat, k ≤ s.size ∧ i = .int .i64 k ∧ Hid (onlyZ ks (s.data.toList.take k) = true)) (fun i => s.size - (intOf i).toNat)
  case atStart => exact ⟨0, Nat.zero_le _, rfl, by simp [Hid, onlyZ]⟩
  case round =>
    obtain ⟨k, hk, rfl, HO⟩ := hrel
    by_cases hlt : k < s.size
    · have hk0 : (0 : Int) ≤ (k : Int) := Int.natCast_nonneg _
      have hk1 : (k : Int) < (s.size : Int) := by omega
      go_wp2
      go_loop [6, 16] (fun b j => ∃ (m : Nat), m ≤ ks.length ∧ j = .int .i64 m ∧ b = .bool ((ks.take m).contains (kindZ (s[k].toNat : Int)))) (fun _ j => ks.length - (intOf j).toNat)
      case atStart => exact ⟨0, Nat.zero_le _, rfl, by simp⟩
      case round =>
        obtain ⟨m, hm, rfl, rfl⟩ := hrel
        by_cases hmt : m < ks.length
        · have hc := HK.out m hmt
          have hm0 : (0 : Int) ≤ (m : Int) := Int.natCast_nonneg _
          have hat := Lib.hid (any_take ks m hmt (kindZ (s[k].toNat : Int)))
          have KC := Lib.hid (fun W => kind_any (s[k].toNat : Int) W (by omega) (by have := s[k].toNat_lt; omega))
          cases hb : (ks.take m).contains (kindZ (s[k].toNat : Int))
          · have HB := Lib.hid hb
            clear hb
            go_wp2_with (go_at_call 143; refine (KC.out _).mono ?_; rintro e w' ⟨rfl, rfl⟩)
            all_goals
              go_round
              case rel => exact ⟨m + 1, by omega, by go_num, by first | (rw [hat.out, HB.out]; rfl) | (rw [hat.out, HB.out, Bool.false_or])⟩
              case measure => simp [intOf]; omega
          · have HB := Lib.hid hb
            clear hb
            go_wp2_with (go_at_call 143; refine (KC.out _).mono ?_; rintro e w' ⟨rfl, rfl⟩)
            all_goals
              go_round
              case rel => exact ⟨m + 1, by omega, by go_num, by first | (rw [hat.out, HB.out]; rfl) | (rw [hat.out, HB.out, Bool.false_or])⟩
              case measure => simp [intOf]; omega
        · have hme : m = ks.length := by omega
          subst hme
          rw [List.take_length]
          have hts := take_snoc s k hlt
          have HS : Hid (onlyZ ks (s.data.toList.take (k + 1)) = ks.contains (kindZ (s[k].toNat : Int))) := by
            have := HO.out
            unfold onlyZ at this ⊢
            rw [hts, all_snoc, this, Bool.true_and]; rfl
          clear hts
          cases hb : ks.contains (kindZ (s[k].toNat : Int))
          · have HB := Lib.hid hb
            clear hb
            go_wp2
            go_ret
            have hf : onlyZ ks s.data.toList = false := all_false _ s k hlt HB.out
            exact ⟨by rw [hf]; rfl, rfl⟩
          · have HB := Lib.hid hb
            clear hb
            go_wp2
            go_round
            case rel => exact ⟨k + 1, by omega, by go_num, by rw [HB.out] at HS; exact HS⟩
            case measure => simp [intOf]; omega
    · go_wp2
      go_ret
      have hke : k = s.size := by omega
      subst hke
      refine ⟨?_, rfl⟩
      have := HO.out
      rw [List.take_of_length_le (by simp)] at this
      rw [this]
      rfl
end Go.Proofs.YtocklkaddiomhaaGreatDoor.E


namespace Go.Proofs.YtocklkaddiomhaaGreatDoor.E
open Go.RowKit Go.Proofs.YtocklkaddiomhaaGreatDoorW.PrintWords Go.Proofs.YtocklkaddiomhaaGreatDoorW.PrintLast
set_option linter.unusedVariables false
set_option linter.unusedSimpArgs false
def ErrIs (w : World) : Value → List (ByteArray × Int) → Int → Prop
  | v, [], c => v = .iface 45 (.int .i64 c)
  | v, (l, a) :: r, c => ∃ b u, v = .iface 116 (.pointer (some ⟨b, 0, none⟩)) ∧ w.cell? ⟨b, 0, none⟩ = some (.string l) ∧ w.cell? ⟨b, 1, none⟩ = some (.int .i64 a) ∧ w.cell? ⟨b, 2, none⟩ = some u ∧ ErrIs w u r c
theorem ErrIs.below {w w' : World} (hb : Below w.heap.size w w') : ∀ {v : Value} {r : List (ByteArray × Int)} {c : Int}, ErrIs w v r c → ErrIs w' v r c
  | _, [], _, h => h
  | _, (l, a) :: r, c, h => by
    obtain ⟨b, u, e, h0, h1, h2, hr⟩ := h
    exact ⟨b, u, e, pw_cell_below hb h0, pw_cell_below hb h1, pw_cell_below hb h2, ErrIs.below hb hr⟩
def hostS : ByteArray := ⟨#[104, 111, 115, 116]⟩
theorem ErrIs.iface {w : World} : ∀ {v : Value} {r : List (ByteArray × Int)} {c : Int}, ErrIs w v r c → ∃ t x, v = .iface t x
  | _, [], _, h => ⟨_, _, h⟩
  | _, (l, a) :: r, c, h => by obtain ⟨b, u, e, _⟩ := h; exact ⟨_, _, e⟩
theorem wrong_walk (at_ : Int) (t : TypeId) (x : Value) (w : World) :
    Calls Tryz.prog 104 #[.int .i64 at_, .iface t x] w fun e w' => e = .returned (.iface 116 (.pointer (some ⟨w.heap.size, 0, none⟩))) ∧ w' = w.alloc (.cells #[.string hostS, .int .i64 at_, .iface t x] 118) := by
  go_enter Tryz.func104, Tryz.ntmps104
  go_wp2
  go_ret
  exact ⟨rfl, rfl⟩
theorem wrong_any (at_ : Int) (er : Value) (r : List (ByteArray × Int)) (c : Int) (w : World) (h : ErrIs w er r c) :
    Calls Tryz.prog 104 #[.int .i64 at_, er] w fun e w' => ∃ v, e = .returned v ∧ ErrIs w' v ((hostS, at_) :: r) c ∧ Below w.heap.size w w' := by
  obtain ⟨t, x, rfl⟩ := h.iface
  refine (wrong_walk at_ t x w).mono ?_
  rintro e w' ⟨rfl, rfl⟩
  have hb : Below w.heap.size w (w.alloc (.cells #[.string hostS, .int .i64 at_, .iface t x] 118)) := (Below.refl _ _).alloc (Nat.le_refl _) _
  exact ⟨_, rfl, ⟨w.heap.size, .iface t x, rfl, by simp, by simp, by simp, ErrIs.below hb h⟩, hb⟩
def parts (s : ByteArray) : List ByteArray := Lib.splitB ⟨#[46]⟩ 0 (Lib.countB s ⟨#[46]⟩) s
theorem parts_pos (s : ByteArray) : 0 < (parts s).length := by
  unfold parts; rw [Lib.splitB_all ⟨#[46]⟩ (Nat.le_refl _) 0 _ s rfl]; omega
theorem split_dots (s : ByteArray) (hs : s.size < 4294967281) (w : World) (hS : StdW w) :
    Calls Tryz.prog 36 #[.string s, .string ⟨#[46]⟩] w fun e w' => e = .returned (.slice (some ⟨w.heap.size, 0, none⟩) (parts s).length (parts s).length) ∧ (∀ j, (h : j < (parts s).length) → w'.cell? ⟨w.heap.size, j, none⟩ = some (.string (parts s)[j])) ∧ w.heap.size < w'.heap.size ∧ Below w.heap.size w w' := by
  obtain ⟨m, hm⟩ := hS.max
  refine (Tryz.strings_Split s ⟨#[46]⟩ m w hs hm (Nat.le_refl _)).mono ?_
  rintro e w' ⟨rfl, rfl⟩
  have hl := Lib.splitB_all ⟨#[46]⟩ (Nat.le_refl _) 0 _ s rfl
  refine ⟨by unfold parts; rw [hl], fun j hj => ?_, by simp, (Below.refl _ _).alloc (Nat.le_refl _) _⟩
  unfold parts at hj ⊢
  rw [World.cell?_alloc_new, List.getElem?_toArray, List.getElem?_map, List.getElem?_eq_getElem hj]
  rfl
end Go.Proofs.YtocklkaddiomhaaGreatDoor.E


namespace Go.Proofs.YtocklkaddiomhaaGreatDoor.E
open Go.RowKit Go.Proofs.YtocklkaddiomhaaGreatDoorW.PrintWords Go.Proofs.YtocklkaddiomhaaGreatDoorW.PrintLast
set_option linter.unusedVariables false
set_option linter.unusedSimpArgs false
def lblOk (p : List UInt8) : Bool :=
  !p.isEmpty && (decide (p.length ≤ 63) && (onlyZ [2, 3, 4] p && (!((p.headD 0).toNat == 45) && !((p.getLastD 0).toNat == 45))))
def badAt : Nat → List ByteArray → Option Nat
  | _, [] => none
  | at_, p :: r => if lblOk p.data.toList then badAt (at_ + p.size + 1) r else some at_
def sumAt : Nat → List ByteArray → Nat
  | at_, [] => at_
  | at_, p :: r => sumAt (at_ + p.size + 1) r
theorem badAt_append (l : List ByteArray) (p : ByteArray) : ∀ a, badAt a (l ++ [p]) = match badAt a l with | some x => some x | none => if lblOk p.data.toList then none else some (sumAt a l) := by
  induction l with
  | nil => intro a; simp [badAt, sumAt]
  | cons q r ih =>
    intro a
    simp only [List.cons_append, badAt, sumAt]
    split
    · exact ih _
    · rfl
theorem sumAt_append (l : List ByteArray) (p : ByteArray) : ∀ a, sumAt a (l ++ [p]) = sumAt a l + p.size + 1 := by
  induction l with
  | nil => intro a; rfl
  | cons q r ih => intro a; exact ih _
theorem badAt_some (l r : List ByteArray) (x : Nat) : ∀ a, badAt a l = some x → badAt a (l ++ r) = some x := by
  induction l with
  | nil => intro a h; cases h
  | cons q t ih =>
    intro a h
    simp only [List.cons_append, badAt] at h ⊢
    split
    · rename_i hq; rw [if_pos hq] at h; exact ih _ h
    · rename_i hq; rw [if_neg hq] at h; exact h
set_option maxRecDepth 100000 in
set_option maxHeartbeats 2000000 in
theorem parseName_long (s : ByteArray) (hs : 253 < s.size) (hs2 : s.size ≤ 281474976710656) (w : World) :
    Calls Tryz.prog 111 #[.string s] w fun e w' => ∃ v, e = .returned (.tuple #[.string ⟨#[]⟩, v]) ∧ ErrIs w' v [(hostS, 253)] 3 ∧ Below w.heap.size w w' := by
  have HE : ∀ W, ErrIs W (.iface 45 (.int .i64 3)) [] 3 := fun W => rfl
  have HW := Lib.hid (fun W => wrong_any 253 _ [] 3 W (HE W))
  clear HE
  go_enter Tryz.func111, Tryz.ntmps111
  go_wp2_with (go_at_call 104; refine (HW.out _).mono ?_; rintro e w1 ⟨v, rfl, he, hb⟩)
  go_ret2
  exact ⟨v, rfl, he, hb⟩
theorem only3 (p : ByteArray) (hp : p.size ≤ 281474976710656) (W : World) :
    Calls Tryz.prog 109 #[.string p, .slice (some ⟨W.heap.size, 0, none⟩) 3 3] (W.alloc (.cells #[.int .i64 2, .int .i64 3, .int .i64 4] 3)) fun e w' => e = .returned (.bool (onlyZ [2, 3, 4] p.data.toList)) ∧ W.alloc (.cells #[.int .i64 2, .int .i64 3, .int .i64 4] 3) = w' :=
  only_any p [2, 3, 4] W.heap.size 3 _ hp (by decide) (fun j hj => by
    rw [World.cell?_alloc_new]
    match j, hj with
    | 0, _ => rfl
    | 1, _ => rfl
    | 2, _ => rfl)
theorem only1 (p : ByteArray) (hp : p.size ≤ 281474976710656) (W : World) :
    Calls Tryz.prog 109 #[.string p, .slice (some ⟨W.heap.size, 0, none⟩) 1 1] (W.alloc (.cells #[.int .i64 2] 3)) fun e w' => e = .returned (.bool (onlyZ [2] p.data.toList)) ∧ W.alloc (.cells #[.int .i64 2] 3) = w' :=
  only_any p [2] W.heap.size 1 _ hp (by decide) (fun j hj => by
    rw [World.cell?_alloc_new]
    match j, hj with
    | 0, _ => rfl)
def pnRes (s : ByteArray) : (Int × Int) ⊕ ByteArray :=
  if 253 < s.size then .inl (253, 3) else match badAt 0 (parts s) with
    | some a => .inl ((a : Int), 61)
    | none => if onlyZ [2] ((parts s).getLastD ⟨#[]⟩).data.toList then .inl ((sumAt 0 (parts s) : Int) - 1 - ((parts s).getLastD ⟨#[]⟩).size, 63) else .inr ⟨(Lib.toLowerA s.data.toList).toArray⟩
def PNPost (r : (Int × Int) ⊕ ByteArray) (w : World) (e : Ending) (w' : World) : Prop :=
  Below w.heap.size w w' ∧ match r with
    | .inl (a, c) => ∃ v, e = .returned (.tuple #[.string ⟨#[]⟩, v]) ∧ ErrIs w' v [(hostS, a)] c
    | .inr t => e = .returned (.tuple #[.string t, .nilIface])
theorem parts_le (s : ByteArray) : (parts s).length ≤ s.size + 1 := by
  unfold parts; rw [Lib.splitB_all ⟨#[46]⟩ (Nat.le_refl _) 0 _ s rfl]
  have := Lib.countB_le ⟨#[46]⟩ (Nat.le_refl _) s.size s (Nat.le_refl _); omega
theorem size_zero (p : ByteArray) : p.toList.isEmpty = decide (p.size = 0) := by
  rw [ByteArray.toList_eq]
  obtain ⟨⟨l⟩⟩ := p
  cases l <;> rfl
theorem getLast_take (l : List ByteArray) (k : Nat) (h : k < l.length) : (l.take (k + 1)).getLastD ⟨#[]⟩ = l[k] := by
  rw [List.take_succ_eq_append_getElem h, List.getLastD_eq_getLast?, List.getLast?_append]; rfl
theorem head_eq (p : ByteArray) (h : 0 < p.size) : p.data.toList.headD 0 = p[0] := by
  obtain ⟨⟨l⟩⟩ := p
  cases l with
  | nil => simp [ByteArray.size] at h
  | cons c r => rfl
theorem last_eq (p : ByteArray) (h : p.size - 1 < p.size) : p.data.toList.getLastD 0 = p[p.size - 1] := by
  obtain ⟨⟨l⟩⟩ := p
  have hl : l ≠ [] := by rintro rfl; simp [ByteArray.size] at h
  show l.getLastD 0 = l[l.length - 1]
  rw [List.getLastD_eq_getLast?, List.getLast?_eq_some_getLast hl, Option.getD_some, List.getLast_eq_getElem]
set_option maxRecDepth 100000 in
set_option maxHeartbeats 8000000 in
theorem parseName_short (s : ByteArray) (hs : s.size ≤ 253) (hasc : badAt 0 (parts s) = none → s.data.toList.all (fun b => decide (b.toNat < 128)) = true) (hsz : ∀ p ∈ parts s, p.size ≤ 253) (hsum : ∀ k, sumAt 0 ((parts s).take k) ≤ 254) (w : World) (hS : StdW w) :
    Calls Tryz.prog 111 #[.string s] w (PNPost (pnRes s) w) := by
  have HSP := Lib.hid (split_dots s (by omega) w hS)
  have HS := Lib.hid hS
  have HPN := Lib.hid (show pnRes s = _ by unfold pnRes; rw [if_neg (show ¬ 253 < s.size by omega)])
  have HLOW := Lib.hid hasc
  have HSZ := Lib.hid hsz
  have HSUM := Lib.hid hsum
  clear hS hasc hsz hsum
  have HW := Lib.hid (fun a c W => wrong_any a _ [] c W (show ErrIs W (.iface 45 (.int .i64 c)) [] c from rfl))
  have hn0 := parts_pos s
  have hn1 := parts_le s
  go_enter Tryz.func111, Tryz.ntmps111
  go_wp2_with (go_at_call 36; refine HSP.out.mono ?_; rintro e w1 ⟨rfl, hc, hlt1, hb1⟩)
  have HC := Lib.hid hc
  have HB1 := Lib.hid hb1
  clear hc hb1
  generalize hl : parts s = l at HC hn0 hn1 HPN HLOW HSZ HSUM ⊢
  have HL := Lib.hid hl
  clear hl
  go_loopw [4, 5, 16] (fun a z i wr => ∃ (k q : Nat) (y : ByteArray), k ≤ l.length ∧ i = .int .i64 k ∧ a = .int .i64 q ∧ q ≤ 254 ∧ y.size ≤ 253 ∧ z = .string y ∧ Hid (q = sumAt 0 (l.take k)) ∧ Hid (y = (l.take k).getLastD ⟨#[]⟩) ∧ Hid (badAt 0 (l.take k) = none) ∧ Hid (Below w1.heap.size w1 wr)) (fun _ _ i _ => l.length - (intOf i).toNat)
  case atStart => exact ⟨0, 0, ⟨#[]⟩, Nat.zero_le _, rfl, rfl, by omega, by decide, rfl, rfl, rfl, rfl, Lib.hid (Below.refl _ _)⟩
  case round =>
    obtain ⟨k, q, y, hk, rfl, rfl, hq, hy, rfl, HQ, HY, HBA, HBW⟩ := hrel
    by_cases hlt : k < l.length
    · have hk0 : (0 : Int) ≤ (k : Int) := Int.natCast_nonneg _
      have hk1 : (k : Int) < (l.length : Int) := by omega
      have hcell : wr.cell? ⟨w.heap.size, k, none⟩ = some (.string l[k]) := (HBW.out.cell (p := ⟨w.heap.size, k, none⟩) hlt1).trans (HC.out k hlt)
      have hpsz : l[k].size ≤ 253 := HSZ.out _ (List.getElem_mem _)
      have hq1 := HSUM.out (k + 1)
      rw [List.take_succ_eq_append_getElem hlt, sumAt_append, ← HQ.out] at hq1
      have HNX : Hid (badAt 0 (l.take (k + 1)) = if lblOk l[k].data.toList then none else some q) := by
        rw [List.take_succ_eq_append_getElem hlt, badAt_append, HBA.out, ← HQ.out]; exact rfl
      have HQ1 : Hid (q + l[k].size + 1 = sumAt 0 (l.take (k + 1))) := by
        rw [List.take_succ_eq_append_getElem hlt, sumAt_append, ← HQ.out]; exact rfl
      have HY1 : Hid (l[k] = (l.take (k + 1)).getLastD ⟨#[]⟩) := by rw [getLast_take l k hlt]; exact rfl
      generalize l[k] = p at hcell hpsz hq1 HNX HQ1 HY1
      have HBAD : lblOk p.data.toList = false → ∀ (v : Value) (wx : World), ErrIs wx v [(hostS, (q : Int))] 61 → Below w.heap.size w wx → PNPost (pnRes s) w (.returned (.tuple #[.string ⟨#[]⟩, v])) wx := by
        intro hb v wx he hbx
        have h1 := HNX.out
        rw [hb] at h1
        have h2 := badAt_some (l.take (k + 1)) (l.drop (k + 1)) q 0 h1
        rw [List.take_append_drop] at h2
        refine ⟨hbx, ?_⟩
        rw [HPN.out, h2]
        exact ⟨v, rfl, he⟩
      have HBAD' := Lib.hid HBAD
      clear HBAD
      have HBW' : Hid (Below w.heap.size w wr) := Lib.hid (below_then HB1.out (Nat.le_of_lt hlt1) (HBW.out.mono (Nat.le_refl _)))
      by_cases hA : p.size = 0
      · have hA1 : p.toList.isEmpty = true := by rw [size_zero]; simpa using hA
        have HLB := Lib.hid (show lblOk p.data.toList = false by unfold lblOk; rw [← ByteArray.toList_eq, hA1]; rfl)
        clear hA
        go_wp2_with (go_at_call 104; refine (HW.out _ _ _).mono ?_; rintro e w2 ⟨v, rfl, he, hb2⟩)
        go_ret2
        exact HBAD'.out HLB.out v _ he (below_then HBW'.out HBW'.out.size hb2)
      · have hA1 : p.toList.isEmpty = false := by rw [size_zero]; simpa using hA
        have hp0 : (0 : Int) < (p.size : Int) := by omega
        by_cases hB : 63 < p.size
        · have hB1 : (63 : Int) < (p.size : Int) := by omega
          have HLB := Lib.hid (show lblOk p.data.toList = false by
            unfold lblOk; rw [show decide (p.data.toList.length ≤ 63) = false from decide_eq_false (by rw [← Lib.size_eq]; omega)]; simp)
          go_wp2_with (go_at_call 104; refine (HW.out _ _ _).mono ?_; rintro e w2 ⟨v, rfl, he, hb2⟩)
          go_ret2
          exact HBAD'.out HLB.out v _ he (below_then HBW'.out HBW'.out.size hb2)
        · have hB1 : (p.size : Int) ≤ 63 := by omega
          have HO3 := Lib.hid (only3 p (by omega))
          cases hC : onlyZ [2, 3, 4] p.data.toList
          · have HLB := Lib.hid (show lblOk p.data.toList = false by unfold lblOk; rw [hC]; simp)
            rw [hC] at HO3
            clear hC
            go_wp2_with (first | (go_at_call 109; refine (HO3.out _).mono ?_; rintro e w2 ⟨rfl, rfl⟩) | (go_at_call 104; refine (HW.out _ _ _).mono ?_; rintro e w2 ⟨v, rfl, he, hb2⟩))
            go_ret2
            exact HBAD'.out HLB.out v _ he (below_then (below_alloc HBW'.out _) (below_alloc HBW'.out _).size hb2)
          · rw [hC] at HO3
            have HC3 := Lib.hid hC
            clear hC
            have hp1 : p.size - 1 < p.size := by omega
            have hp2 : (0 : Int) ≤ (p.size : Int) - 1 := by omega
            have hp3 : (p.size : Int) - 1 < (p.size : Int) := by omega
            have hpp : 0 < p.size := by omega
            have HHE := Lib.hid (head_eq p hpp)
            have HLE := Lib.hid (last_eq p hp1)
            cases hD : (((p[0]).toNat : Int) == 45)
            · cases hE : (((p[p.size - 1]).toNat : Int) == 45)
              · have HLB := Lib.hid (show lblOk p.data.toList = true by
                  unfold lblOk; rw [HLE.out, HHE.out, HC3.out]
                  have e1 : ((p[0]).toNat == 45) = false := by rw [beq_eq_false_iff_ne] at hD ⊢; omega
                  have e2 : ((p[p.size - 1]).toNat == 45) = false := by rw [beq_eq_false_iff_ne] at hE ⊢; omega
                  have e3 : p.data.toList.isEmpty = false := by rw [← ByteArray.toList_eq]; exact hA1
                  rw [e1, e2, e3, show decide (p.data.toList.length ≤ 63) = true from decide_eq_true (by rw [← Lib.size_eq]; omega)]; rfl)
                clear hA
                go_wp2_with (go_at_call 109; refine (HO3.out _).mono ?_; rintro e w2 ⟨rfl, rfl⟩)
                go_roundw
                case rel => exact ⟨k + 1, q + p.size + 1, p, by omega, by go_num, by go_num, by omega, by omega, rfl, HQ1, HY1, by rw [HLB.out] at HNX; exact HNX, Lib.hid (below_then HBW.out HBW.out.size (by exact below_alloc (Below.refl _ _) _))⟩
                case measure => simp [intOf]; omega
              · have HLB := Lib.hid (show lblOk p.data.toList = false by
                  unfold lblOk; rw [HLE.out]
                  have : ((p[p.size - 1]).toNat == 45) = true := by rw [beq_iff_eq] at hE ⊢; omega
                  rw [this]; simp)
                clear hA
                go_wp2_with (first | (go_at_call 109; refine (HO3.out _).mono ?_; rintro e w2 ⟨rfl, rfl⟩) | (go_at_call 104; refine (HW.out _ _ _).mono ?_; rintro e w2 ⟨v, rfl, he, hb2⟩))
                go_ret2
                exact HBAD'.out HLB.out v _ he (below_then (below_alloc HBW'.out _) (below_alloc HBW'.out _).size hb2)
            · have HLB := Lib.hid (show lblOk p.data.toList = false by
                unfold lblOk; rw [HHE.out]
                have : ((p[0]).toNat == 45) = true := by rw [beq_iff_eq] at hD ⊢; omega
                rw [this]; simp)
              clear hA
              go_wp2_with (first | (go_at_call 109; refine (HO3.out _).mono ?_; rintro e w2 ⟨rfl, rfl⟩) | (go_at_call 104; refine (HW.out _ _ _).mono ?_; rintro e w2 ⟨v, rfl, he, hb2⟩))
              go_ret2
              exact HBAD'.out HLB.out v _ he (below_then (below_alloc HBW'.out _) (below_alloc HBW'.out _).size hb2)
    · have hke : k = l.length := by omega
      subst hke
      rw [List.take_length] at HQ HY HBA
      have HBW' : Hid (Below w.heap.size w wr) := Lib.hid (below_then HB1.out (Nat.le_of_lt hlt1) (HBW.out.mono (Nat.le_refl _)))
      have HO1 := Lib.hid (only1 y (by omega))
      have hend : pnRes s = if onlyZ [2] y.data.toList then .inl ((q : Int) - 1 - y.size, 63) else .inr ⟨(Lib.toLowerA s.data.toList).toArray⟩ := by
        rw [HPN.out, HBA.out]
        simp only [← HY.out, ← HQ.out]
      have HEND := Lib.hid hend
      clear hend
      cases hC : onlyZ [2] y.data.toList
      · rw [hC] at HO1 HEND
        clear hC
        have HLW := Lib.hid (ToLower.calls s ⟨(Lib.toLowerA s.data.toList).toArray⟩)
        have HF := Lib.hid (show ToLower.f s = some ⟨(Lib.toLowerA s.data.toList).toArray⟩ by unfold ToLower.f; rw [if_pos ⟨by omega, HLOW.out HBA.out⟩])
        go_wp2_with (first | (go_at_call 109; refine (HO1.out _).mono ?_; rintro e w2 ⟨rfl, rfl⟩) | (go_at_call 144; refine (HLW.out _ (StdW.below HS.out (below_alloc HBW'.out _)) HF.out).mono ?_; rintro e w3 ⟨rfl, hb3⟩))
        go_ret2
        refine ⟨below_then (below_alloc HBW'.out _) (below_alloc HBW'.out _).size hb3, ?_⟩
        rw [HEND.out]
        rfl
      · rw [hC] at HO1 HEND
        clear hC
        go_wp2_with (first | (go_at_call 109; refine (HO1.out _).mono ?_; rintro e w2 ⟨rfl, rfl⟩) | (go_at_call 104; refine (HW.out _ _ _).mono ?_; rintro e w2 ⟨v, rfl, he, hb2⟩))
        go_ret2
        refine ⟨below_then (below_alloc HBW'.out _) (below_alloc HBW'.out _).size hb2, ?_⟩
        rw [HEND.out]
        exact ⟨v, rfl, he⟩
end Go.Proofs.YtocklkaddiomhaaGreatDoor.E


namespace Go.Proofs.YtocklkaddiomhaaGreatDoor.Pt
open Go.Lib
def cutOn (c : UInt8) : List UInt8 → List (List UInt8)
  | [] => [[]]
  | x :: l => if x = c then [] :: cutOn c l else match cutOn c l with
    | [] => [[x]]
    | p :: r => (x :: p) :: r
theorem cutOn_ne (c : UInt8) (l : List UInt8) : cutOn c l ≠ [] := by
  cases l with
  | nil => simp [cutOn]
  | cons x l => unfold cutOn; split; simp; split <;> simp
theorem cutOn_cons (c : UInt8) (l : List UInt8) : ∃ p r, cutOn c l = p :: r := by
  cases h : cutOn c l with
  | nil => exact absurd h (cutOn_ne c l)
  | cons p r => exact ⟨p, r, rfl⟩
theorem splitK_cutOn (c : UInt8) : ∀ s : List UInt8, splitK [c] 0 (count s [c]) s = cutOn c s
  | [] => by
    rw [count_miss (by simp [index])]; rfl
  | b :: l => by
    have ih := splitK_cutOn c l
    by_cases h : b = c
    · subst h
      have hix : index (b :: l) [b] = 0 := by rw [index]; simp [List.isPrefixOf]
      rw [count_cons_eq, Nat.add_comm, splitK, hix]
      simp only [cutOn, if_true]
      rw [← ih]; rfl
    · rw [count_cons_ne b c l h]
      simp only [cutOn, if_neg h]
      have hp : ([c] : List UInt8).isPrefixOf (b :: l) = false := by simp [List.isPrefixOf, Ne.symm h]
      have hix : index (b :: l) [c] = if index l [c] == -1 then -1 else index l [c] + 1 := by rw [index, hp]; simp
      cases hn : count l [c] with
      | zero =>
        rw [hn] at ih
        rw [← ih]; rfl
      | succ m =>
        rw [hn] at ih
        have hm : ¬ index l [c] = -1 := fun e => by rw [count_miss e] at hn; cases hn
        have hge := index_ge l [c]
        obtain ⟨j, hj⟩ : ∃ j : Nat, index l [c] = j := ⟨(index l [c]).toNat, by omega⟩
        have hb : (index l [c] == -1) = false := by rw [beq_eq_false_iff_ne]; exact hm
        rw [← ih]
        unfold splitK
        rw [hix, hb]
        have hb2 : ((index l [c] + 1 : Int) == -1) = false := by rw [beq_eq_false_iff_ne]; omega
        simp only [Bool.false_eq_true, if_false, hb2]
        rw [hj]
        have e1 : ((j : Int) + 1).toNat = j + 1 := by omega
        have e2 : ((j : Int)).toNat = j := by omega
        rw [e1, e2]
        simp
def tot (l : List (List UInt8)) : Nat := (l.map (fun p => p.length + 1)).sum
theorem tot_cutOn (c : UInt8) : ∀ s : List UInt8, tot (cutOn c s) = s.length + 1
  | [] => rfl
  | x :: l => by
    have ih := tot_cutOn c l
    obtain ⟨p, r, e⟩ := cutOn_cons c l
    unfold cutOn
    split
    · show _ + tot (cutOn c l) = _; rw [ih]; simp; omega
    · rw [e] at ih ⊢
      simp only [tot, List.map_cons, List.sum_cons, List.length_cons] at ih ⊢
      omega
theorem cutOn_all (c : UInt8) (P : UInt8 → Bool) (hc : P c = true) : ∀ s : List UInt8, (∀ p ∈ cutOn c s, p.all P = true) → s.all P = true
  | [], _ => rfl
  | x :: l, h => by
    have ih := cutOn_all c P hc l
    obtain ⟨p, r, e⟩ := cutOn_cons c l
    unfold cutOn at h
    split at h
    · rename_i hx
      rw [List.all_cons, hx, hc, Bool.true_and]
      exact ih (fun q hq => h q (List.mem_cons_of_mem _ hq))
    · rw [e] at h ih
      have h1 := h (x :: p) List.mem_cons_self
      rw [List.all_cons, Bool.and_eq_true] at h1 ⊢
      refine ⟨h1.1, ih (fun q hq => ?_)⟩
      rcases List.mem_cons.1 hq with rfl | hq
      · exact h1.2
      · exact h q (List.mem_cons_of_mem _ hq)
end Go.Proofs.YtocklkaddiomhaaGreatDoor.Pt


namespace Go.Proofs.YtocklkaddiomhaaGreatDoor.E
open Go.RowKit Go.Proofs.YtocklkaddiomhaaGreatDoorW.PrintWords Go.Proofs.YtocklkaddiomhaaGreatDoorW.PrintLast
set_option linter.unusedVariables false
set_option linter.unusedSimpArgs false
theorem parts_data (s : ByteArray) : (parts s).map (·.data.toList) = Pt.cutOn 46 s.data.toList := by
  unfold parts
  rw [Lib.splitB_data, ← Pt.splitK_cutOn]
  first | done | rfl
theorem sumAt_eq (l : List ByteArray) : ∀ a, sumAt a l = a + Pt.tot (l.map (·.data.toList)) := by
  induction l with
  | nil => intro a; rfl
  | cons p r ih =>
    intro a
    rw [sumAt, ih]
    have : (p.data.toList).length = p.size := (Lib.size_eq p).symm
    simp only [Pt.tot, List.map_cons, List.sum_cons, this]; omega
theorem sumAt_parts (s : ByteArray) : sumAt 0 (parts s) = s.size + 1 := by
  rw [sumAt_eq, parts_data, Pt.tot_cutOn, Lib.size_eq]; omega
theorem sumAt_take (l : List ByteArray) (k : Nat) : sumAt 0 (l.take k) ≤ sumAt 0 l := by
  rw [sumAt_eq, sumAt_eq]
  conv => rhs; rw [← List.take_append_drop k l]
  simp only [Pt.tot, List.map_append, List.sum_append]; omega
theorem size_mem (l : List ByteArray) (p : ByteArray) (h : p ∈ l) : p.size + 1 ≤ sumAt 0 l := by
  rw [sumAt_eq]
  induction l with
  | nil => cases h
  | cons q r ih =>
    have hq : (q.data.toList).length = q.size := (Lib.size_eq q).symm
    simp only [Pt.tot, List.map_cons, List.sum_cons, hq] at ih ⊢
    rcases List.mem_cons.1 h with rfl | h
    · omega
    · have := ih h; omega
theorem badAt_none (l : List ByteArray) : ∀ a, badAt a l = none ↔ ∀ p ∈ l, lblOk p.data.toList = true := by
  induction l with
  | nil => intro a; simp [badAt]
  | cons q r ih =>
    intro a
    unfold badAt
    split
    · rename_i h; rw [ih]; simp [h]
    · rename_i h; simp [h]
theorem kind_ascii (c : UInt8) (h : ([2, 3, 4] : List Int).contains (kindZ (c.toNat : Int)) = true) : c.toNat < 128 := by
  unfold kindZ at h
  split at h
  · simp at h
  · split at h
    · omega
    · split at h
      · omega
      · split at h
        · omega
        · split at h
          · omega
          · simp at h
theorem ok_ascii (s : ByteArray) (h : badAt 0 (parts s) = none) : s.data.toList.all (fun b => decide (b.toNat < 128)) = true := by
  refine Pt.cutOn_all 46 _ (by decide) _ fun p hp => ?_
  rw [← parts_data] at hp
  obtain ⟨q, hq, rfl⟩ := List.mem_map.1 hp
  have := (badAt_none _ 0).1 h q hq
  unfold lblOk at this
  simp only [Bool.and_eq_true] at this
  have h2 := this.2.2.1
  unfold onlyZ at h2
  rw [List.all_eq_true] at h2 ⊢
  intro c hc
  exact decide_eq_true (kind_ascii c (h2 c hc))
theorem parseName_any (s : ByteArray) (hs : s.size ≤ 281474976710656) (w : World) (hS : StdW w) :
    Calls Tryz.prog 111 #[.string s] w (PNPost (pnRes s) w) := by
  by_cases h : s.size ≤ 253
  · refine parseName_short s h (ok_ascii s) (fun p hp => ?_) (fun k => ?_) w hS
    · have := size_mem _ p hp; rw [sumAt_parts] at this; omega
    · have := sumAt_take (parts s) k; rw [sumAt_parts] at this; omega
  · refine (parseName_long s (by omega) hs w).mono ?_
    rintro e w' ⟨v, rfl, he, hb⟩
    refine ⟨hb, ?_⟩
    have : pnRes s = .inl (253, 3) := by unfold pnRes; rw [if_pos (by omega)]
    rw [this]
    exact ⟨v, rfl, he⟩
theorem boxCell {w w1 : World} {C : Array Value} {T : TypeId} (hb : Below (w.alloc (.cells C T)).heap.size (w.alloc (.cells C T)) w1) (j : Nat) (v : Value) (h : C[j]? = some v) : w1.cell? ⟨w.heap.size, j, none⟩ = some v :=
  (hb.cell (p := ⟨w.heap.size, j, none⟩) (by simp)).trans ((World.cell?_alloc_new ..).trans h)
def checkB (a b c d : Int) (n : ByteArray) : Bool :=
  if n.size = 0 then true else match pnRes n with
    | .inr t => (t.toList == n.toList) && (a == 0 && (b == 0 && (c == 0 && d == 0)))
    | .inl _ => false
set_option maxRecDepth 100000 in
set_option maxHeartbeats 2000000 in
theorem check_any (a b c d : Int) (n : ByteArray) (hs : n.size ≤ 281474976710656) (w : World) (hS : StdW w) :
    Calls Tryz.prog 128 #[.agg #[.int .u8 a, .int .u8 b, .int .u8 c, .int .u8 d, .string n]] w fun e w' => e = .returned (.bool (checkB a b c d n)) ∧ Below w.heap.size w w' := by
  unfold checkB
  by_cases h0 : n.size = 0
  · have h1 : n.toList.isEmpty = true := by rw [size_zero]; simpa using h0
    rw [if_pos h0]
    go_enter Tryz.func128, Tryz.ntmps128
    go_wp2_with fail
    go_ret
    exact ⟨rfl, below_alloc (Below.refl _ _) _⟩
  · have h1 : n.toList.isEmpty = false := by rw [size_zero]; simpa using h0
    rw [if_neg h0]
    have HPN := Lib.hid (parseName_any n hs)
    have HS := Lib.hid hS
    clear hS
    cases hr : pnRes n with
    | inl x =>
      obtain ⟨xa, xc⟩ := x
      rw [hr] at HPN
      clear hr
      go_enter Tryz.func128, Tryz.ntmps128
      go_wp2_with (go_at_call 111; refine (HPN.out _ (StdW.below HS.out (below_alloc (Below.refl _ _) _))).mono ?_; rintro e w1 ⟨hb, v, rfl, b, u, rfl, -⟩)
      go_ret
      exact ⟨rfl, below_then (below_alloc (Below.refl _ _) _) (below_alloc (Below.refl _ _) _).size hb⟩
    | inr t =>
      rw [hr] at HPN
      clear hr
      go_enter Tryz.func128, Tryz.ntmps128
      go_wp2_with (go_at_call 111; refine (HPN.out _ (StdW.below HS.out (below_alloc (Below.refl _ _) _))).mono ?_; rintro e w1 ⟨hb, rfl⟩; have c0 := boxCell hb 0 _ rfl; have c1 := boxCell hb 1 _ rfl; have c2 := boxCell hb 2 _ rfl; have c3 := boxCell hb 3 _ rfl; have c4 := boxCell hb 4 _ rfl)
      all_goals
        clear c0 c1 c2 c3 c4
        go_ret
        refine ⟨?_, below_then (below_alloc (Below.refl _ _) _) (below_alloc (Below.refl _ _) _).size hb⟩
        clear hb
        first | rfl | (simp [*]; done) | (simp_all; done)
end Go.Proofs.YtocklkaddiomhaaGreatDoor.E


namespace Go.Proofs.YtocklkaddiomhaaGreatDoor.E
open Go.RowKit Go.Proofs.YtocklkaddiomhaaGreatDoorW.PrintWords Go.Proofs.YtocklkaddiomhaaGreatDoorW.PrintLast
set_option linter.unusedVariables false
set_option linter.unusedSimpArgs false
theorem info_str : (Tryz.prog.info? 9).map (fun i => (i.zero, i.size, i.bytes)) = some (some (.string ⟨#[]⟩), 1, 16) := by kernel_rfl
def it (a : Int) : ByteArray := ⟨(Lib.itoa a).toArray⟩
def addrS (a b c d : Int) : ByteArray := ⟨(Lib.join ([it a, it b, it c, it d].map (·.data.toList)) [46]).toArray⟩
def printB (a b c d : Int) (n : ByteArray) : ByteArray := if checkB a b c d n then (if n.size = 0 then addrS a b c d else n) else ⟨#[]⟩
theorem it_len (a : Int) (h0 : 0 ≤ a) (h1 : a ≤ 255) : (Lib.itoa a).length ≤ 3 := by
  unfold Lib.itoa
  rw [if_neg (by omega), Lib.decDigits_length]
  exact Num.nDigits_le 3 _ (by omega) (by decide)
theorem it_calls (a : Int) (h0 : 0 ≤ a) (h1 : a ≤ 255) (w : World) (hS : StdW w) :
    Calls Tryz.prog 91 #[.int .i64 a] w fun e w' => e = .returned (.string (it a)) ∧ Below w.heap.size w w' :=
  Itoa.calls a (it a) w hS (by unfold Itoa.f; rw [if_pos ⟨by omega, by omega⟩]; rfl)
set_option maxRecDepth 100000 in
set_option maxHeartbeats 4000000 in
theorem print_addr (a b c d : Int) (n : ByteArray) (ha0 : 0 ≤ a) (ha1 : a ≤ 255) (hb0 : 0 ≤ b) (hb1 : b ≤ 255) (hc0 : 0 ≤ c) (hc1 : c ≤ 255) (hd0 : 0 ≤ d) (hd1 : d ≤ 255) (hn : n.size = 0) (w : World) (hS : StdW w) :
    Calls Tryz.prog 92 #[.agg #[.int .u8 a, .int .u8 b, .int .u8 c, .int .u8 d, .string n]] w fun e w' => e = .returned (.string (addrS a b c d)) ∧ Below w.heap.size w w' := by
  have HCK := Lib.hid (fun W (h : StdW W) => check_any a b c d n (by omega) W h)
  have hck : checkB a b c d n = true := by unfold checkB; rw [if_pos hn]
  rw [hck] at HCK
  have hn1 : n.toList.isEmpty = true := by rw [size_zero]; simpa using hn
  have HS := Lib.hid hS
  clear hS hck hn
  have HA := Lib.hid (it_calls a ha0 ha1)
  have HB := Lib.hid (it_calls b hb0 hb1)
  have HC := Lib.hid (it_calls c hc0 hc1)
  have HD := Lib.hid (it_calls d hd0 hd1)
  have i0 : ∀ w, (Instr.index 179 (.agg #[.int .u8 a, .int .u8 b, .int .u8 c, .int .u8 d]) (.int .i64 0)).run Tryz.prog w = .ok (.int .u8 a) w := fun _ => by kernel_rfl
  have i1 : ∀ w, (Instr.index 179 (.agg #[.int .u8 a, .int .u8 b, .int .u8 c, .int .u8 d]) (.int .i64 1)).run Tryz.prog w = .ok (.int .u8 b) w := fun _ => by kernel_rfl
  have i2 : ∀ w, (Instr.index 179 (.agg #[.int .u8 a, .int .u8 b, .int .u8 c, .int .u8 d]) (.int .i64 2)).run Tryz.prog w = .ok (.int .u8 c) w := fun _ => by kernel_rfl
  have i3 : ∀ w, (Instr.index 179 (.agg #[.int .u8 a, .int .u8 b, .int .u8 c, .int .u8 d]) (.int .i64 3)).run Tryz.prog w = .ok (.int .u8 d) w := fun _ => by kernel_rfl
  go_enter Tryz.func92, Tryz.ntmps92
  go_wp2_with (go_at_call 128; refine (HCK.out _ (StdW.below HS.out (below_alloc (Below.refl _ _) _))).mono ?_; rintro e w1 ⟨rfl, hb⟩; have c0 := boxCell hb 0 _ rfl; have c1 := boxCell hb 1 _ rfl; have c2 := boxCell hb 2 _ rfl; have c3 := boxCell hb 3 _ rfl; have c4 := boxCell hb 4 _ rfl)
  have HW1 : Hid (Below w.heap.size w w1) := Lib.hid (below_then (below_alloc (Below.refl _ _) _) (below_alloc (Below.refl _ _) _).size hb)
  clear hb c0 c1 c2 c3 c4
  go_loopw [3, 29] (fun l i wr => ∃ k : Int, 0 ≤ k ∧ k ≤ 4 ∧ i = .int .i64 k ∧ Hid (Kd.R Kd.string 9 wr w.heap.size (fun _ => True) l ([it a, it b, it c, it d].take k.toNat)) ∧ Hid (Below w.heap.size w wr)) (fun _ i _ => 4 - (intOf i).toNat)
  case atStart => exact ⟨0, by omega, by omega, rfl, Lib.hid (Kd.R_nil _ _ _ _ _), HW1⟩
  case round =>
    obtain ⟨k, hk0, hk4, rfl, HR, HWR⟩ := hrel
    by_cases hlt : k < 4
    · have hkk : k = 0 ∨ k = 1 ∨ k = 2 ∨ k = 3 := by omega
      clear hk0 hk4 hlt
      rcases hkk with rfl | rfl | rfl | rfl
      · go_wp2_with (first | (go_at_call 91; refine (HA.out _ (StdW.below HS.out HWR.out)).mono ?_; rintro e w2 ⟨rfl, hb2⟩) | (at_builtin; refine Kd.R_append Kd.string (w0 := w) w.heap.size rfl (.tmp 32) (.tmp 36) 81 9 (.string ⟨#[]⟩) 16 rfl Tryz.underlying81 info_str rfl (by decide) (by omega) u3 ([it a, it b, it c, it d].take 0) (it a) [.string (it a)] (fun _ => True) (fun _ => False) rfl rfl ?aP0 (fun _ hk => hk.elim) ?aF0 ?aO0 ?aB0 ?aS0 ?aL0 ?_; (case aP0 => exact rfl); (case aF0 => exact (fun _ _ => trivial)); (case aO0 => exact Kd.R_below HR.out hb2); (case aB0 => exact below_then HWR.out HWR.out.size hb2); (case aS0 => exact (below_then HWR.out HWR.out.size hb2).size); (case aL0 => simp); intro v3 w3 ho hb3 hg3 hat3))
        go_roundw
        case rel => exact ⟨0 + 1, by omega, by omega, by go_num, Lib.hid (by simpa using ho), Lib.hid hb3⟩
        case measure => simp [intOf]
      · go_wp2_with (first | (go_at_call 91; refine (HB.out _ (StdW.below HS.out HWR.out)).mono ?_; rintro e w2 ⟨rfl, hb2⟩) | (at_builtin; refine Kd.R_append Kd.string (w0 := w) w.heap.size rfl (.tmp 32) (.tmp 36) 81 9 (.string ⟨#[]⟩) 16 rfl Tryz.underlying81 info_str rfl (by decide) (by omega) u3 ([it a, it b, it c, it d].take 1) (it b) [.string (it b)] (fun _ => True) (fun _ => False) rfl rfl ?aP1 (fun _ hk => hk.elim) ?aF1 ?aO1 ?aB1 ?aS1 ?aL1 ?_; (case aP1 => exact rfl); (case aF1 => exact (fun _ _ => trivial)); (case aO1 => exact Kd.R_below HR.out hb2); (case aB1 => exact below_then HWR.out HWR.out.size hb2); (case aS1 => exact (below_then HWR.out HWR.out.size hb2).size); (case aL1 => simp); intro v3 w3 ho hb3 hg3 hat3))
        go_roundw
        case rel => exact ⟨1 + 1, by omega, by omega, by go_num, Lib.hid (by simpa using ho), Lib.hid hb3⟩
        case measure => simp [intOf]
      · go_wp2_with (first | (go_at_call 91; refine (HC.out _ (StdW.below HS.out HWR.out)).mono ?_; rintro e w2 ⟨rfl, hb2⟩) | (at_builtin; refine Kd.R_append Kd.string (w0 := w) w.heap.size rfl (.tmp 32) (.tmp 36) 81 9 (.string ⟨#[]⟩) 16 rfl Tryz.underlying81 info_str rfl (by decide) (by omega) u3 ([it a, it b, it c, it d].take 2) (it c) [.string (it c)] (fun _ => True) (fun _ => False) rfl rfl ?aP2 (fun _ hk => hk.elim) ?aF2 ?aO2 ?aB2 ?aS2 ?aL2 ?_; (case aP2 => exact rfl); (case aF2 => exact (fun _ _ => trivial)); (case aO2 => exact Kd.R_below HR.out hb2); (case aB2 => exact below_then HWR.out HWR.out.size hb2); (case aS2 => exact (below_then HWR.out HWR.out.size hb2).size); (case aL2 => simp); intro v3 w3 ho hb3 hg3 hat3))
        go_roundw
        case rel => exact ⟨2 + 1, by omega, by omega, by go_num, Lib.hid (by simpa using ho), Lib.hid hb3⟩
        case measure => simp [intOf]
      · go_wp2_with (first | (go_at_call 91; refine (HD.out _ (StdW.below HS.out HWR.out)).mono ?_; rintro e w2 ⟨rfl, hb2⟩) | (at_builtin; refine Kd.R_append Kd.string (w0 := w) w.heap.size rfl (.tmp 32) (.tmp 36) 81 9 (.string ⟨#[]⟩) 16 rfl Tryz.underlying81 info_str rfl (by decide) (by omega) u3 ([it a, it b, it c, it d].take 3) (it d) [.string (it d)] (fun _ => True) (fun _ => False) rfl rfl ?aP3 (fun _ hk => hk.elim) ?aF3 ?aO3 ?aB3 ?aS3 ?aL3 ?_; (case aP3 => exact rfl); (case aF3 => exact (fun _ _ => trivial)); (case aO3 => exact Kd.R_below HR.out hb2); (case aB3 => exact below_then HWR.out HWR.out.size hb2); (case aS3 => exact (below_then HWR.out HWR.out.size hb2).size); (case aL3 => simp); intro v3 w3 ho hb3 hg3 hat3))
        go_roundw
        case rel => exact ⟨3 + 1, by omega, by omega, by go_num, Lib.hid (by simpa using ho), Lib.hid hb3⟩
        case measure => simp [intOf]
    · have hk : k = 4 := by omega
      subst hk
      obtain ⟨A0, c0, rfl, hlc, hC⟩ := Kd.R_reads HR.out
      clear HR
      have HCC := Lib.hid hC
      clear hC
      have hx : ([it a, it b, it c, it d].take (4 : Int).toNat) = [it a, it b, it c, it d] := rfl
      rw [hx] at HCC hlc ⊢
      have HJ := Lib.hid (Join.calls A0 c0 [it a, it b, it c, it d] ⟨#[46]⟩ (addrS a b c d))
      have HF := Lib.hid (show Join.f [it a, it b, it c, it d] ⟨#[46]⟩ = some (addrS a b c d) by
        unfold Join.f
        have la := it_len a ha0 ha1
        have lb := it_len b hb0 hb1
        have lc := it_len c hc0 hc1
        have ld := it_len d hd0 hd1
        rw [if_pos]
        · rfl
        · refine ⟨?_, by simp⟩
          simp only [Lib.join, List.intercalate, List.map_cons, List.map_nil, List.intersperse, List.flatten_cons, List.flatten_nil, List.length_append, it, List.append_nil]
          simp only [List.length_cons, List.length_nil]
          omega)
      clear i0 i1 i2 i3 hx
      go_wp2_with (go_at_call 129; refine (HJ.out _ HCC.out hlc (StdW.below HS.out HWR.out) HF.out).mono ?_; rintro e w2 ⟨rfl, hb2⟩)
      go_ret
      exact ⟨rfl, below_then HWR.out HWR.out.size hb2⟩
set_option maxRecDepth 100000 in
set_option maxHeartbeats 4000000 in
theorem print_any (a b c d : Int) (n : ByteArray) (ha0 : 0 ≤ a) (ha1 : a ≤ 255) (hb0 : 0 ≤ b) (hb1 : b ≤ 255) (hc0 : 0 ≤ c) (hc1 : c ≤ 255) (hd0 : 0 ≤ d) (hd1 : d ≤ 255) (hs : n.size ≤ 281474976710656) (w : World) (hS : StdW w) :
    Calls Tryz.prog 92 #[.agg #[.int .u8 a, .int .u8 b, .int .u8 c, .int .u8 d, .string n]] w fun e w' => e = .returned (.string (printB a b c d n)) ∧ Below w.heap.size w w' := by
  by_cases hn : n.size = 0
  · have : printB a b c d n = addrS a b c d := by unfold printB checkB; rw [if_pos hn, if_pos hn]; rfl
    rw [this]
    exact print_addr a b c d n ha0 ha1 hb0 hb1 hc0 hc1 hd0 hd1 hn w hS
  · have hn1 : n.toList.isEmpty = false := by rw [size_zero]; simpa using hn
    have HCK := Lib.hid (fun W (h : StdW W) => check_any a b c d n hs W h)
    have HS := Lib.hid hS
    have HP := Lib.hid (show printB a b c d n = if checkB a b c d n then n else ⟨#[]⟩ by unfold printB; rw [if_neg hn])
    clear hS hn
    cases hb : checkB a b c d n
    all_goals
      rw [hb] at HCK HP
      clear hb
      go_enter Tryz.func92, Tryz.ntmps92
      go_wp2_with (go_at_call 128; refine (HCK.out _ (StdW.below HS.out (below_alloc (Below.refl _ _) _))).mono ?_; rintro e w1 ⟨rfl, hb⟩; have c0 := boxCell hb 0 _ rfl; have c1 := boxCell hb 1 _ rfl; have c2 := boxCell hb 2 _ rfl; have c3 := boxCell hb 3 _ rfl; have c4 := boxCell hb 4 _ rfl)
      go_ret
      exact ⟨by rw [HP.out]; rfl, below_then (below_alloc (Below.refl _ _) _) (below_alloc (Below.refl _ _) _).size hb⟩
end Go.Proofs.YtocklkaddiomhaaGreatDoor.E


namespace Go.Proofs.YtocklkaddiomhaaGreatDoor.E
open Go.RowKit Go.Proofs.YtocklkaddiomhaaGreatDoorW.PrintWords Go.Proofs.YtocklkaddiomhaaGreatDoorW.PrintLast
set_option linter.unusedVariables false
set_option linter.unusedSimpArgs false
theorem setCell_id (w : World) (b j : Nat) (v : Value) (h : w.cell? ⟨b, j, none⟩ = some v) : w.setCell ⟨b, j, none⟩ v = w := by
  have hh : w.heap.modify b (fun o => match o with
      | .cells c elem frozen => .cells (c.setIfInBounds j v) elem frozen
      | o => o) = w.heap := by
    apply Array.ext_getElem?
    intro k
    rw [Array.getElem?_modify]
    split
    · rename_i e
      subst e
      unfold World.cell? at h
      cases hk : w.heap[b]? with
      | none => rfl
      | some o =>
        rw [hk] at h
        cases o with
        | cells c t fr =>
          simp only [Option.isSome_none, Bool.false_eq_true, if_false] at h
          simp only [Option.map_some, Option.some.injEq, Obj.cells.injEq, and_true]
          apply Array.ext_getElem?
          intro i
          rw [Array.getElem?_setIfInBounds]
          split
          · rename_i e; subst e
            split
            · exact h.symm
            · rename_i hb
              rw [Array.getElem?_eq_none (by omega)] at h; cases h
          · rfl
        | _ => rfl
    · rfl
  exact congrArg (fun h => ({ w with heap := h } : World)) hh
theorem boxFree {w w1 : World} {C : Array Value} {T : TypeId} (hb : Below (w.alloc (.cells C T)).heap.size (w.alloc (.cells C T)) w1) (j : Nat) : w1.frozen? ⟨w.heap.size, j, none⟩ = false :=
  (hb.frozen (p := ⟨w.heap.size, j, none⟩) (by simp)).trans (by simp)
set_option maxRecDepth 100000 in
set_option maxHeartbeats 2000000 in
theorem parseAddr_long (s : ByteArray) (hs : 253 < s.size) (hs2 : s.size ≤ 281474976710656) (w : World) :
    Calls Tryz.prog 110 #[.string s] w fun e w' => ∃ v, e = .returned (.tuple #[.agg #[.int .u8 0, .int .u8 0, .int .u8 0, .int .u8 0], v]) ∧ ErrIs w' v [(hostS, 253)] 3 ∧ Below w.heap.size w w' := by
  have HE : ∀ W, ErrIs W (.iface 45 (.int .i64 3)) [] 3 := fun W => rfl
  have HW := Lib.hid (fun W => wrong_any 253 _ [] 3 W (HE W))
  clear HE
  go_enter Tryz.func110, Tryz.ntmps110
  go_wp2_with (first | (go_at_call 104; refine (HW.out _).mono ?_; rintro e w1 ⟨v, rfl, he, hb⟩; have c0 := boxCell hb 0 (.int .u8 0) rfl; have c1 := boxCell hb 1 (.int .u8 0) rfl; have c2 := boxCell hb 2 (.int .u8 0) rfl; have c3 := boxCell hb 3 (.int .u8 0) rfl; have f0 := boxFree hb 0; have f1 := boxFree hb 1; have f2 := boxFree hb 2; have f3 := boxFree hb 3; have s0 := setCell_id _ _ _ _ c0; have s1 := setCell_id _ _ _ _ c1; have s2 := setCell_id _ _ _ _ c2; have s3 := setCell_id _ _ _ _ c3))
  refine bodyPost_ret (v := .tuple #[.agg #[.int .u8 0, .int .u8 0, .int .u8 0, .int .u8 0], v]) (by simp [results, Tryz.results110, go_sem, c0, c1, c2, c3]) rfl ⟨v, rfl, ?_, ?_⟩
  · exact he
  · exact below_then (below_alloc (Below.refl _ _) _) (below_alloc (Below.refl _ _) _).size hb
def paLoop (sz : Int) : Int → Int → List ByteArray → List Int → (Int × Int) ⊕ List Int
  | _, _, [], acc => .inr acc
  | i, a, p :: r, acc => if i = 4 then .inl (a, 63) else if numOk p.data.toList 255 = false then .inl (a, 60)
    else if sz < a + p.size + 1 ∧ i < 3 then .inl (sz, 63) else paLoop sz (i + 1) (a + p.size + 1) r (acc ++ [atoiV p.data.toList])
def paRes (s : ByteArray) : (Int × Int) ⊕ List Int := if 253 < s.size then .inl (253, 3) else paLoop s.size 0 0 (parts s) []
def PAPost (r : (Int × Int) ⊕ List Int) (w : World) (e : Ending) (w' : World) : Prop :=
  Below w.heap.size w w' ∧ match r with
    | .inl (a, c) => ∃ v, e = .returned (.tuple #[.agg #[.int .u8 0, .int .u8 0, .int .u8 0, .int .u8 0], v]) ∧ ErrIs w' v [(hostS, a)] c
    | .inr l => l.length = 4 ∧ e = .returned (.tuple #[.agg #[.int .u8 (l.getD 0 0), .int .u8 (l.getD 1 0), .int .u8 (l.getD 2 0), .int .u8 (l.getD 3 0)], .nilIface])
def Mem (w wr : World) (acc : List Int) : Prop :=
  (∀ j, j < 4 → wr.cell? ⟨w.heap.size, j, none⟩ = some (.int .u8 0) ∧ wr.frozen? ⟨w.heap.size, j, none⟩ = false) ∧
  (∀ j, j < 4 → wr.cell? ⟨w.heap.size + 1, j, none⟩ = some (.int .u8 (acc.getD j 0)) ∧ wr.frozen? ⟨w.heap.size + 1, j, none⟩ = false) ∧ w.heap.size + 1 < wr.heap.size
theorem Mem.below {w wr w1 : World} {acc : List Int} (h : Mem w wr acc) (hb : Below wr.heap.size wr w1) : Mem w w1 acc := by
  obtain ⟨h0, h1, h2⟩ := h
  refine ⟨fun j hj => ?_, fun j hj => ?_, Nat.lt_of_lt_of_le h2 hb.size⟩
  · obtain ⟨a, b⟩ := h0 j hj
    exact ⟨pw_cell_below hb a, (hb.frozen (p := ⟨w.heap.size, j, none⟩) (by show w.heap.size < _; omega)).trans b⟩
  · obtain ⟨a, b⟩ := h1 j hj
    exact ⟨pw_cell_below hb a, (hb.frozen (p := ⟨w.heap.size + 1, j, none⟩) (by show w.heap.size + 1 < _; omega)).trans b⟩
theorem Mem.put {w wr : World} {acc : List Int} {k : Nat} (h : Mem w wr acc) (hk : acc.length = k) (h4 : k < 4) (v : Int) : Mem w (wr.setCell ⟨w.heap.size + 1, k, none⟩ (.int .u8 v)) (acc ++ [v]) := by
  obtain ⟨h0, h1, h2⟩ := h
  refine ⟨fun j hj => ?_, fun j hj => ?_, by simpa [World.setCell] using h2⟩
  · obtain ⟨a, b⟩ := h0 j hj
    rw [World.frozen?_setCell, World.cell?_setCell_other _ _ _ _ (by intro e; injection e with e; omega)]
    exact ⟨a, b⟩
  · obtain ⟨a, b⟩ := h1 j hj
    rw [World.frozen?_setCell]
    refine ⟨?_, b⟩
    by_cases e : j = k
    · subst e
      rw [World.cell?_setCell_same _ _ _ a]
      simp [List.getD_eq_getElem?_getD, ← hk]
    · rw [World.cell?_setCell_other _ _ _ _ (by intro e2; injection e2 with _ e2; omega), a]
      have : acc.getD j 0 = (acc ++ [v]).getD j 0 := by
        rw [List.getD_eq_getElem?_getD, List.getD_eq_getElem?_getD]
        by_cases hl : j < acc.length
        · rw [List.getElem?_append_left hl]
        · rw [List.getElem?_append_right (by omega), List.getElem?_eq_none (by omega), List.getElem?_eq_none (by simp; omega)]
      rw [this]
theorem Mem.zero {w wr : World} {acc : List Int} (h : Mem w wr acc) :
    wr.cell? ⟨w.heap.size, 0, none⟩ = some (.int .u8 0) ∧ wr.cell? ⟨w.heap.size, 1, none⟩ = some (.int .u8 0) ∧ wr.cell? ⟨w.heap.size, 2, none⟩ = some (.int .u8 0) ∧ wr.cell? ⟨w.heap.size, 3, none⟩ = some (.int .u8 0) ∧
    wr.frozen? ⟨w.heap.size, 0, none⟩ = false ∧ wr.frozen? ⟨w.heap.size, 1, none⟩ = false ∧ wr.frozen? ⟨w.heap.size, 2, none⟩ = false ∧ wr.frozen? ⟨w.heap.size, 3, none⟩ = false ∧
    wr.setCell ⟨w.heap.size, 0, none⟩ (.int .u8 0) = wr ∧ wr.setCell ⟨w.heap.size, 1, none⟩ (.int .u8 0) = wr ∧ wr.setCell ⟨w.heap.size, 2, none⟩ (.int .u8 0) = wr ∧ wr.setCell ⟨w.heap.size, 3, none⟩ (.int .u8 0) = wr := by
  have g := h.1
  exact ⟨(g 0 (by decide)).1, (g 1 (by decide)).1, (g 2 (by decide)).1, (g 3 (by decide)).1, (g 0 (by decide)).2, (g 1 (by decide)).2, (g 2 (by decide)).2, (g 3 (by decide)).2,
    setCell_id _ _ _ _ (g 0 (by decide)).1, setCell_id _ _ _ _ (g 1 (by decide)).1, setCell_id _ _ _ _ (g 2 (by decide)).1, setCell_id _ _ _ _ (g 3 (by decide)).1⟩
set_option maxRecDepth 100000 in
set_option maxHeartbeats 8000000 in
theorem parseAddr_short (s : ByteArray) (hs : s.size ≤ 253) (hsz : ∀ p ∈ parts s, p.size ≤ 253) (hsum : ∀ k, sumAt 0 ((parts s).take k) ≤ 254) (hlast : ∀ k, k < (parts s).length → ((s.size : Int) < sumAt 0 ((parts s).take (k + 1)) ↔ k + 1 = (parts s).length)) (w : World) (hS : StdW w) :
    Calls Tryz.prog 110 #[.string s] w (PAPost (paRes s) w) := by
  have HSP := Lib.hid (fun W (h : StdW W) => split_dots s (by omega) W h)
  have HS := Lib.hid hS
  have HPA := Lib.hid (show paRes s = _ by unfold paRes; rw [if_neg (show ¬ 253 < s.size by omega)])
  have HSZ := Lib.hid hsz
  have HSUM := Lib.hid hsum
  have HLAST := Lib.hid hlast
  clear hS hsz hsum hlast
  have HW := Lib.hid (fun a c W => wrong_any a _ [] c W (show ErrIs W (.iface 45 (.int .i64 c)) [] c from rfl))
  have hn0 := parts_pos s
  have hn1 := parts_le s
  go_enter Tryz.func110, Tryz.ntmps110
  go_wp2_with (go_at_call 36; refine (HSP.out _ (StdW.below HS.out (below_alloc (below_alloc (Below.refl _ _) _) _))).mono ?_; rintro e w1 ⟨rfl, hc, hlt1, hb1⟩)
  have HB1 : Hid (Below w.heap.size w w1) := Lib.hid (below_then (below_alloc (below_alloc (Below.refl _ _) _) _) (below_alloc (below_alloc (Below.refl _ _) _) _).size hb1)
  have HM : Hid (Mem w w1 []) := by
    refine Mem.below (wr := (w.alloc (.cells #[.int .u8 0, .int .u8 0, .int .u8 0, .int .u8 0] 29)).alloc (.cells #[.int .u8 0, .int .u8 0, .int .u8 0, .int .u8 0] 179)) ⟨fun j hj => ?_, fun j hj => ?_, by simp⟩ hb1
    · rw [World.cell?_alloc_lt _ _ _ (by simp), World.cell?_alloc_new]
      refine ⟨?_, by simp⟩
      match j, hj with
      | 0, _ => rfl
      | 1, _ => rfl
      | 2, _ => rfl
      | 3, _ => rfl
    · refine ⟨(World.cell?_alloc_at _ _ _ _ (by simp)).trans ?_, by simp⟩
      match j, hj with
      | 0, _ => rfl
      | 1, _ => rfl
      | 2, _ => rfl
      | 3, _ => rfl
  have HC := Lib.hid hc
  have hlt1' : w.heap.size + 1 + 1 < w1.heap.size := by simpa using hlt1
  clear hc hb1 hlt1
  generalize hl : parts s = l at HC hn0 hn1 HPA HSZ HSUM HLAST ⊢
  have HL := Lib.hid hl
  clear hl
  have HC2 : Hid (∀ j, (h : j < l.length) → w1.cell? ⟨w.heap.size + 1 + 1, j, none⟩ = some (.string l[j])) := Lib.hid (fun j hj => by have h := HC.out j hj; simp only [World.size_alloc] at h; exact h)
  clear HC
  go_loopw [5, 19] (fun a i wr => ∃ (k q : Nat) (acc : List Int), k ≤ l.length ∧ k ≤ 4 ∧ i = .int .i64 k ∧ a = .int .i64 q ∧ q ≤ 254 ∧ Hid (acc.length = k) ∧ Hid (q = sumAt 0 (l.take k)) ∧ Hid (k = l.length → k = 4) ∧ Hid (paRes s = paLoop s.size k q (l.drop k) acc) ∧ Hid (Mem w wr acc) ∧ Hid (Below w.heap.size w wr) ∧ Hid (∀ j, (h : j < l.length) → wr.cell? ⟨w.heap.size + 1 + 1, j, none⟩ = some (.string l[j]))) (fun _ i _ => l.length - (intOf i).toNat)
  case atStart => exact ⟨0, 0, [], Nat.zero_le _, by omega, rfl, rfl, by omega, rfl, rfl, Lib.hid (by omega), Lib.hid (by rw [HPA.out]; rfl), HM, HB1, HC2⟩
  case round =>
    obtain ⟨k, q, acc, hk, hk4, rfl, rfl, hq, HAL, HQ, HKL, HP, HMR, HBR, HCR⟩ := hrel
    by_cases hlt : k < l.length
    · have hk0 : (0 : Int) ≤ (k : Int) := Int.natCast_nonneg _
      have hk1 : (k : Int) < (l.length : Int) := by omega
      have hcell := HCR.out k hlt
      have hpsz : l[k].size ≤ 253 := HSZ.out _ (List.getElem_mem _)
      have hq1 := HSUM.out (k + 1)
      rw [List.take_succ_eq_append_getElem hlt, sumAt_append, ← HQ.out] at hq1
      have HLA := Lib.hid (HLAST.out k hlt)
      rw [List.take_succ_eq_append_getElem hlt, sumAt_append, ← HQ.out] at HLA
      rw [List.drop_eq_getElem_cons hlt] at HP
      have HQ1 : Hid (q + l[k].size + 1 = sumAt 0 (l.take (k + 1))) := by
        rw [List.take_succ_eq_append_getElem hlt, sumAt_append, ← HQ.out]; exact rfl
      generalize l[k] = p at hcell hpsz hq1 HLA HP HQ1
      have HN := Lib.hid (fun W h => hnumber_any p 255 (by omega) W h)
      have hBK : w.heap.size + 1 + 1 < w.heap.size + 1 + 1 + 1 := by omega
      unfold paLoop at HP
      by_cases h4 : k = 4
      · subst h4
        have HP4 : Hid (paRes s = .inl ((q : Int), 63)) := by rw [if_pos (show ((4 : Nat) : Int) = 4 from rfl)] at HP; exact HP
        clear HP
        generalize atoiV p.data.toList = v at HN
        generalize numOk p.data.toList 255 = ok at HN
        go_wp2_with (first | (go_at_call 138; refine (HN.out _ (StdW.below HS.out HBR.out)).mono ?_; rintro e w2 ⟨rfl, hb2⟩) | (go_at_call 104; refine (HW.out _ _ _).mono ?_; rintro e w3 ⟨u, rfl, he, hb3⟩; obtain ⟨c0, c1, c2, c3, f0, f1, f2, f3, s0, s1, s2, s3⟩ := ((HMR.out.below hb2).below hb3).zero))
        refine bodyPost_ret (v := .tuple #[.agg #[.int .u8 0, .int .u8 0, .int .u8 0, .int .u8 0], u]) (by simp [results, Tryz.results110, go_sem, c0, c1, c2, c3]) rfl ⟨?_, ?_⟩
        · exact below_then (below_then HBR.out HBR.out.size hb2) (below_then HBR.out HBR.out.size hb2).size hb3
        · rw [HP4.out]
          exact ⟨u, rfl, he⟩
      · have h4' : ((k : Int) == 4) = false := by rw [beq_eq_false_iff_ne]; omega
        have hk3 : (k : Int) < 4 := by omega
        rw [if_neg (show ¬ (k : Int) = 4 by omega)] at HP
        cases hok : numOk p.data.toList 255
        · have HPE : Hid (paRes s = .inl ((q : Int), 60)) := by rw [if_pos hok] at HP; exact HP
          rw [hok] at HN
          clear HP hok
          generalize atoiV p.data.toList = v at HN
          go_wp2_with (first | (go_at_call 138; refine (HN.out _ (StdW.below HS.out HBR.out)).mono ?_; rintro e w2 ⟨rfl, hb2⟩; have HB5 : Hid (Below w.heap.size w w2) := Lib.hid (below_then HBR.out HBR.out.size hb2)) | (go_at_call 104; refine (HW.out _ _ _).mono ?_; rintro e w3 ⟨u, rfl, he, hb3⟩; obtain ⟨c0, c1, c2, c3, f0, f1, f2, f3, s0, s1, s2, s3⟩ := ((HMR.out.below hb2).below hb3).zero))
          refine bodyPost_ret (v := .tuple #[.agg #[.int .u8 0, .int .u8 0, .int .u8 0, .int .u8 0], u]) (by simp [results, Tryz.results110, go_sem, c0, c1, c2, c3]) rfl ⟨?_, ?_⟩
          · exact below_then HB5.out HB5.out.size hb3
          · rw [HPE.out]
            exact ⟨u, rfl, he⟩
        · have hvb := numOk_bounds _ _ hok
          obtain ⟨hv0, hv1, -, -⟩ := hvb
          rw [if_neg (show ¬ numOk p.data.toList 255 = false by rw [hok]; simp)] at HP
          rw [hok] at HN
          clear hok
          generalize atoiV p.data.toList = v at HN HP hv0 hv1
          by_cases hlst : k + 1 = l.length
          · have hgt : (s.size : Int) < (q : Int) + ((p.size : Int) + 1) := by have := HLA.out.2 hlst; omega
            by_cases hk2 : k < 3
            · have hk2' : (k : Int) < 3 := by omega
              have HPE : Hid (paRes s = .inl ((s.size : Int), 63)) := by rw [if_pos ⟨by omega, hk2'⟩] at HP; exact HP
              clear HP
              have HLS := Lib.hid hlst
              clear hlst
              go_wp2_with (first | (go_at_call 138; refine (HN.out _ (StdW.below HS.out HBR.out)).mono ?_; rintro e w2 ⟨rfl, hb2⟩; have hm2 := HMR.out.below hb2; have HB4 : Hid (Below w.heap.size w w2) := Lib.hid (below_then HBR.out HBR.out.size hb2); have hcb := (hm2.2.1 k (by omega)).1; have hfb := (hm2.2.1 k (by omega)).2; have HM2 := Lib.hid hm2; clear hm2) | (go_at_call 104; have HB5 : Hid (Below w.heap.size w (w2.setCell ⟨w.heap.size + 1, k, none⟩ (.int .u8 v))) := Lib.hid (HB4.out.setCell (by simp) _); refine (HW.out _ _ _).mono ?_; rintro e w3 ⟨u, rfl, he, hb3⟩; obtain ⟨c0, c1, c2, c3, f0, f1, f2, f3, s0, s1, s2, s3⟩ := ((HM2.out.put HAL.out (by omega) v).below hb3).zero))
              refine bodyPost_ret (v := .tuple #[.agg #[.int .u8 0, .int .u8 0, .int .u8 0, .int .u8 0], u]) (by simp [results, Tryz.results110, go_sem, c0, c1, c2, c3]) rfl ⟨?_, ?_⟩
              · exact below_then HB5.out HB5.out.size hb3
              · rw [HPE.out]
                exact ⟨u, rfl, he⟩
            · have hk2' : ¬ (k : Int) < 3 := by omega
              have hk2'' : decide ((k : Int) < 3) = false := decide_eq_false hk2'
              rw [if_neg (by rintro ⟨_, h⟩; exact hk2' h)] at HP
              have HLS := Lib.hid hlst
              clear hlst
              go_wp2_with (first | (go_at_call 138; refine (HN.out _ (StdW.below HS.out HBR.out)).mono ?_; rintro e w2 ⟨rfl, hb2⟩; have hm2 := HMR.out.below hb2; have HB4 : Hid (Below w.heap.size w w2) := Lib.hid (below_then HBR.out HBR.out.size hb2); have hcb := (hm2.2.1 k (by omega)).1; have hfb := (hm2.2.1 k (by omega)).2; have HM2 := Lib.hid hm2; clear hm2))
              go_roundw
              case rel => exact ⟨k + 1, q + p.size + 1, acc ++ [v], by omega, by omega, by go_num, by go_num, by omega, Lib.hid (by rw [List.length_append, HAL.out]; rfl), HQ1, Lib.hid (fun _ => by omega), HP, Lib.hid (HM2.out.put HAL.out (by omega) v), Lib.hid (HB4.out.setCell (by simp) _), Lib.hid (fun j hj => (World.cell?_setCell_other _ _ _ _ (by intro e; injection e with e; omega)).trans (pw_cell_below hb2 (HCR.out j hj)))⟩
              case measure => simp [intOf]; omega
          · have hgt : ¬ (s.size : Int) < (q : Int) + ((p.size : Int) + 1) := by
              intro h
              exact hlst (HLA.out.1 (by omega))
            rw [if_neg (by rintro ⟨h, _⟩; omega)] at HP
            go_wp2_with (first | (go_at_call 138; refine (HN.out _ (StdW.below HS.out HBR.out)).mono ?_; rintro e w2 ⟨rfl, hb2⟩; have hm2 := HMR.out.below hb2; have HB4 : Hid (Below w.heap.size w w2) := Lib.hid (below_then HBR.out HBR.out.size hb2); have hcb := (hm2.2.1 k (by omega)).1; have hfb := (hm2.2.1 k (by omega)).2; have HM2 := Lib.hid hm2; clear hm2))
            go_roundw
            case rel => exact ⟨k + 1, q + p.size + 1, acc ++ [v], by omega, by omega, by go_num, by go_num, by omega, Lib.hid (by rw [List.length_append, HAL.out]; rfl), HQ1, Lib.hid (fun h => absurd h hlst), HP, Lib.hid (HM2.out.put HAL.out (by omega) v), Lib.hid (HB4.out.setCell (by simp) _), Lib.hid (fun j hj => (World.cell?_setCell_other _ _ _ _ (by intro e; injection e with e; omega)).trans (pw_cell_below hb2 (HCR.out j hj)))⟩
            case measure => simp [intOf]; omega
    · have hkl : k = l.length := by omega
      have h4 : k = 4 := HKL.out hkl
      rw [hkl, List.drop_length] at HP
      have HPE : Hid (paRes s = .inr acc) := HP
      have HA4 : Hid (acc.length = 4) := Lib.hid (HAL.out.trans h4)
      obtain ⟨c0, c1, c2, c3, f0, f1, f2, f3, -, -, -, -⟩ := HMR.out.zero
      have d0 := (HMR.out.2.1 0 (by decide)).1
      have d1 := (HMR.out.2.1 1 (by decide)).1
      have d2 := (HMR.out.2.1 2 (by decide)).1
      have d3 := (HMR.out.2.1 3 (by decide)).1
      clear HP h4 hkl
      have HEND : Hid (∀ wx, Below w.heap.size w wx → PAPost (paRes s) w (.returned (.tuple #[.agg #[.int .u8 (acc.getD 0 0), .int .u8 (acc.getD 1 0), .int .u8 (acc.getD 2 0), .int .u8 (acc.getD 3 0)], .nilIface])) wx) := Lib.hid (fun wx hb => ⟨hb, by rw [HPE.out]; exact ⟨HA4.out, rfl⟩⟩)
      generalize acc.getD 0 0 = x0 at d0 HEND
      generalize acc.getD 1 0 = x1 at d1 HEND
      generalize acc.getD 2 0 = x2 at d2 HEND
      generalize acc.getD 3 0 = x3 at d3 HEND
      go_wp2
      refine bodyPost_ret (v := .tuple #[.agg #[.int .u8 x0, .int .u8 x1, .int .u8 x2, .int .u8 x3], .nilIface]) (by simp [results, Tryz.results110, go_sem, c0, c1, c2, c3]) rfl (HEND.out _ ?_)
      exact (((HBR.out.setCell (Nat.le_refl _) _).setCell (Nat.le_refl _) _).setCell (Nat.le_refl _) _).setCell (Nat.le_refl _) _
theorem sumAt_last (l : List ByteArray) (k : Nat) (hk : k < l.length) (n : Nat) (hn : sumAt 0 l = n + 1) : ((n : Int) < sumAt 0 (l.take (k + 1)) ↔ k + 1 = l.length) := by
  constructor
  · intro h
    by_cases e : k + 1 = l.length
    · exact e
    · exfalso
      have hlt : k + 1 < l.length := by omega
      have h1 := sumAt_take l (k + 1 + 1)
      rw [List.take_succ_eq_append_getElem hlt, sumAt_append] at h1
      omega
  · intro e
    rw [e, List.take_length, hn]; omega
theorem parseAddr_any (s : ByteArray) (hs : s.size ≤ 281474976710656) (w : World) (hS : StdW w) :
    Calls Tryz.prog 110 #[.string s] w (PAPost (paRes s) w) := by
  by_cases h : s.size ≤ 253
  · refine parseAddr_short s h (fun p hp => ?_) (fun k => ?_) (fun k hk => sumAt_last _ k hk _ (sumAt_parts s)) w hS
    · have := size_mem _ p hp; rw [sumAt_parts] at this; omega
    · have := sumAt_take (parts s) k; rw [sumAt_parts] at this; omega
  · refine (parseAddr_long s (by omega) hs w).mono ?_
    rintro e w' ⟨v, rfl, he, hb⟩
    refine ⟨hb, ?_⟩
    have : paRes s = .inl (253, 3) := by unfold paRes; rw [if_pos (by omega)]
    rw [this]
    exact ⟨v, rfl, he⟩
end Go.Proofs.YtocklkaddiomhaaGreatDoor.E


namespace Go.Proofs.YtocklkaddiomhaaGreatDoor.E
open Go.RowKit Go.Proofs.YtocklkaddiomhaaGreatDoorW.PrintWords Go.Proofs.YtocklkaddiomhaaGreatDoorW.PrintLast
set_option linter.unusedVariables false
set_option linter.unusedSimpArgs false
def printDestB (a b c d : Int) (n : ByteArray) (po : Int) : ByteArray := if (printB a b c d n).size = 0 ∨ po < 1 ∨ 65535 < po then ⟨#[]⟩ else printB a b c d n ++ ⟨#[58]⟩ ++ it po
set_option maxRecDepth 100000 in
set_option maxHeartbeats 4000000 in
theorem printDest_any (a b c d : Int) (n : ByteArray) (po : Int) (ha0 : 0 ≤ a) (ha1 : a ≤ 255) (hb0 : 0 ≤ b) (hb1 : b ≤ 255) (hc0 : 0 ≤ c) (hc1 : c ≤ 255) (hd0 : 0 ≤ d) (hd1 : d ≤ 255) (hs : n.size ≤ 281474976710656) (hps : (printB a b c d n).size ≤ 281474976710656) (w : World) (hS : StdW w) :
    Calls Tryz.prog 62 #[.agg #[.int .u8 a, .int .u8 b, .int .u8 c, .int .u8 d, .string n, .int .i64 po]] w fun e w' => e = .returned (.string (printDestB a b c d n po)) ∧ Below w.heap.size w w' := by
  have HP := Lib.hid (fun W h => print_any a b c d n ha0 ha1 hb0 hb1 hc0 hc1 hd0 hd1 hs W h)
  have HS := Lib.hid hS
  clear hS hs ha0 ha1 hb0 hb1 hc0 hc1 hd0 hd1
  unfold printDestB
  generalize printB a b c d n = t at HP hps
  by_cases h0 : t.size = 0
  · have h1 : t.toList.isEmpty = true := by rw [size_zero]; simpa using h0
    rw [if_pos (.inl h0)]
    go_enter Tryz.func62, Tryz.ntmps62
    go_wp2_with (go_at_call 92; refine (HP.out _ (StdW.below HS.out (below_alloc (Below.refl _ _) _))).mono ?_; rintro e w1 ⟨rfl, hb⟩)
    go_ret
    exact ⟨rfl, below_then (below_alloc (Below.refl _ _) _) (below_alloc (Below.refl _ _) _).size hb⟩
  · have h1 : t.toList.isEmpty = false := by rw [size_zero]; simpa using h0
    by_cases h2 : po < 1
    · rw [if_pos (.inr (.inl h2))]
      go_enter Tryz.func62, Tryz.ntmps62
      go_wp2_with (go_at_call 92; refine (HP.out _ (StdW.below HS.out (below_alloc (Below.refl _ _) _))).mono ?_; rintro e w1 ⟨rfl, hb⟩; have c5 := boxCell hb 5 _ rfl)
      go_ret
      exact ⟨rfl, below_then (below_alloc (Below.refl _ _) _) (below_alloc (Below.refl _ _) _).size hb⟩
    · by_cases h3 : 65535 < po
      · rw [if_pos (.inr (.inr h3))]
        have h2' : decide (po < 1) = false := decide_eq_false h2
        go_enter Tryz.func62, Tryz.ntmps62
        go_wp2_with (go_at_call 92; refine (HP.out _ (StdW.below HS.out (below_alloc (Below.refl _ _) _))).mono ?_; rintro e w1 ⟨rfl, hb⟩; have c5 := boxCell hb 5 _ rfl)
        go_ret
        exact ⟨rfl, below_then (below_alloc (Below.refl _ _) _) (below_alloc (Below.refl _ _) _).size hb⟩
      · rw [if_neg (fun h => h.elim h0 (fun h => h.elim h2 h3))]
        have h2' : decide (po < 1) = false := decide_eq_false h2
        have h3' : decide (65535 < po) = false := decide_eq_false h3
        have HI := Lib.hid (Itoa.calls po (it po))
        have HF := Lib.hid (show Itoa.f po = some (it po) by unfold Itoa.f; rw [if_pos ⟨by omega, by omega⟩]; rfl)
        have hil : (it po).size ≤ 5 := by
          show (Lib.itoa po).length ≤ 5
          unfold Lib.itoa
          rw [if_neg (by omega), Lib.decDigits_length]
          exact Num.nDigits_le 5 _ (by omega) (by decide)
        go_enter Tryz.func62, Tryz.ntmps62
        go_wp2_with (first | (go_at_call 92; refine (HP.out _ (StdW.below HS.out (below_alloc (Below.refl _ _) _))).mono ?_; rintro e w1 ⟨rfl, hb⟩; have c5 := boxCell hb 5 _ rfl) | (go_at_call 91; refine (HI.out _ (StdW.below (StdW.below HS.out (below_alloc (Below.refl _ _) _)) hb) HF.out).mono ?_; rintro e w2 ⟨rfl, hb2⟩))
        go_ret
        exact ⟨rfl, below_then (below_then (below_alloc (Below.refl _ _) _) (below_alloc (Below.refl _ _) _).size hb) (below_then (below_alloc (Below.refl _ _) _) (below_alloc (Below.refl _ _) _).size hb).size hb2⟩
theorem addrS_size (a b c d : Int) (ha0 : 0 ≤ a) (ha1 : a ≤ 255) (hb0 : 0 ≤ b) (hb1 : b ≤ 255) (hc0 : 0 ≤ c) (hc1 : c ≤ 255) (hd0 : 0 ≤ d) (hd1 : d ≤ 255) : (addrS a b c d).size ≤ 15 := by
  have la := it_len a ha0 ha1
  have lb := it_len b hb0 hb1
  have lc := it_len c hc0 hc1
  have ld := it_len d hd0 hd1
  show (Lib.join ([it a, it b, it c, it d].map (·.data.toList)) [46]).length ≤ 15
  simp only [Lib.join, List.intercalate, List.map_cons, List.map_nil, List.intersperse, List.flatten_cons, List.flatten_nil, List.length_append, it, List.append_nil]
  simp only [List.length_cons, List.length_nil]
  omega
theorem printB_size (a b c d : Int) (n : ByteArray) (ha0 : 0 ≤ a) (ha1 : a ≤ 255) (hb0 : 0 ≤ b) (hb1 : b ≤ 255) (hc0 : 0 ≤ c) (hc1 : c ≤ 255) (hd0 : 0 ≤ d) (hd1 : d ≤ 255) (hs : n.size ≤ 281474976710656) : (printB a b c d n).size ≤ 281474976710656 := by
  have := addrS_size a b c d ha0 ha1 hb0 hb1 hc0 hc1 hd0 hd1
  unfold printB
  split
  · split
    · omega
    · exact hs
  · decide
def hPrintDest.f (a b c d : Int) (n : ByteArray) (po : Int) : Option ByteArray := if (0 ≤ a ∧ a ≤ 255) ∧ (0 ≤ b ∧ b ≤ 255) ∧ (0 ≤ c ∧ c ≤ 255) ∧ (0 ≤ d ∧ d ≤ 255) ∧ n.size ≤ 281474976710656 then some (printDestB a b c d n po) else none
theorem hPrintDest.calls (a b c d : Int) (n : ByteArray) (po : Int) (r : ByteArray) (w : World) (hS_ : StdW w) (h : hPrintDest.f a b c d n po = some r) :
    Calls Tryz.prog 62 #[.agg #[.int .u8 a, .int .u8 b, .int .u8 c, .int .u8 d, .string n, .int .i64 po]] w fun e w' => e = .returned (.string r) ∧ Below w.heap.size w w' := by
  unfold hPrintDest.f at h
  split at h
  · rename_i hc
    obtain rfl := Option.some.inj h
    exact printDest_any a b c d n po hc.1.1 hc.1.2 hc.2.1.1 hc.2.1.2 hc.2.2.1.1 hc.2.2.1.2 hc.2.2.2.1.1 hc.2.2.2.1.2 hc.2.2.2.2 (printB_size a b c d n hc.1.1 hc.1.2 hc.2.1.1 hc.2.1.2 hc.2.2.1.1 hc.2.2.1.2 hc.2.2.2.1.1 hc.2.2.2.1.2 hc.2.2.2.2) w hS_
  · cases h
end Go.Proofs.YtocklkaddiomhaaGreatDoor.E


namespace Go.Proofs.YtocklkaddiomhaaGreatDoor.E
open Go.RowKit Go.Proofs.YtocklkaddiomhaaGreatDoorW.PrintWords Go.Proofs.YtocklkaddiomhaaGreatDoorW.PrintLast
set_option linter.unusedVariables false
set_option linter.unusedSimpArgs false
def Blk (w : World) (R : Nat) (C : Array Value) (T : TypeId) : Prop := w.heap[R]? = some (.cells C T (0, 0))
theorem Blk.cell {w : World} {R : Nat} {C : Array Value} {T : TypeId} (h : Blk w R C T) (j : Nat) (v : Value) (hj : C[j]? = some v) : w.cell? ⟨R, j, none⟩ = some v := by
  unfold World.cell?; rw [show w.heap[R]? = _ from h]; exact hj
theorem Blk.free {w : World} {R : Nat} {C : Array Value} {T : TypeId} (h : Blk w R C T) (j : Nat) : w.frozen? ⟨R, j, none⟩ = false := by
  unfold World.frozen?; rw [show w.heap[R]? = _ from h]; simp
theorem Blk.lt {w : World} {R : Nat} {C : Array Value} {T : TypeId} (h : Blk w R C T) : R < w.heap.size := (Array.getElem?_eq_some_iff.1 h).1
theorem Blk.below {w w1 : World} {R : Nat} {C : Array Value} {T : TypeId} (h : Blk w R C T) (hb : Below w.heap.size w w1) : Blk w1 R C T := (hb.block R h.lt).trans h
theorem Blk.set {w : World} {R : Nat} {C : Array Value} {T : TypeId} (h : Blk w R C T) (j : Nat) (v : Value) : Blk (w.setCell ⟨R, j, none⟩ v) R (C.setIfInBounds j v) T := by
  unfold Blk World.setCell
  simp only [Option.isSome_none, Bool.false_eq_true, if_false]
  rw [Array.getElem?_modify, if_pos rfl, show w.heap[R]? = _ from h]; rfl
theorem Blk.other {w : World} {R : Nat} {C : Array Value} {T : TypeId} (h : Blk w R C T) (p : Addr) (hp : R ≠ p.block) (v : Value) : Blk (w.setCell p v) R C T := (Below.heap_setCell _ _ _ _ hp).trans h
theorem Blk.new (w : World) (C : Array Value) (T : TypeId) : Blk (w.alloc (.cells C T)) w.heap.size C T := heap_alloc_new w _
theorem Blk.old {w : World} {R : Nat} {C : Array Value} {T : TypeId} (h : Blk w R C T) (o : Obj) : Blk (w.alloc o) R C T := (Below.heap_alloc _ _ _ h.lt).trans h
end Go.Proofs.YtocklkaddiomhaaGreatDoor.E


namespace Go.Proofs.YtocklkaddiomhaaGreatDoor.E
open Go.RowKit Go.Proofs.YtocklkaddiomhaaGreatDoorW.PrintWords Go.Proofs.YtocklkaddiomhaaGreatDoorW.PrintLast
set_option linter.unusedVariables false
set_option linter.unusedSimpArgs false
def hC (a b c d : Int) (n : ByteArray) : Array Value := #[.int .u8 a, .int .u8 b, .int .u8 c, .int .u8 d, .string n]
theorem Blk.hids {w : World} {R : Nat} {T : TypeId} (h : Blk w R (hC 0 0 0 0 ⟨#[]⟩) T) :
    w.cell? ⟨R, 0, none⟩ = some (.int .u8 0) ∧ w.cell? ⟨R, 1, none⟩ = some (.int .u8 0) ∧ w.cell? ⟨R, 2, none⟩ = some (.int .u8 0) ∧ w.cell? ⟨R, 3, none⟩ = some (.int .u8 0) ∧ w.cell? ⟨R, 4, none⟩ = some (.string ⟨#[]⟩) ∧
    w.frozen? ⟨R, 0, none⟩ = false ∧ w.frozen? ⟨R, 1, none⟩ = false ∧ w.frozen? ⟨R, 2, none⟩ = false ∧ w.frozen? ⟨R, 3, none⟩ = false ∧ w.frozen? ⟨R, 4, none⟩ = false ∧
    w.setCell ⟨R, 0, none⟩ (.int .u8 0) = w ∧ w.setCell ⟨R, 1, none⟩ (.int .u8 0) = w ∧ w.setCell ⟨R, 2, none⟩ (.int .u8 0) = w ∧ w.setCell ⟨R, 3, none⟩ (.int .u8 0) = w ∧ w.setCell ⟨R, 4, none⟩ (.string ⟨#[]⟩) = w :=
  ⟨h.cell 0 _ rfl, h.cell 1 _ rfl, h.cell 2 _ rfl, h.cell 3 _ rfl, h.cell 4 _ rfl, h.free 0, h.free 1, h.free 2, h.free 3, h.free 4,
    setCell_id _ _ _ _ (h.cell 0 _ rfl), setCell_id _ _ _ _ (h.cell 1 _ rfl), setCell_id _ _ _ _ (h.cell 2 _ rfl), setCell_id _ _ _ _ (h.cell 3 _ rfl), setCell_id _ _ _ _ (h.cell 4 _ rfl)⟩
theorem Blk.five {w : World} {R : Nat} {T : TypeId} {a b c d : Int} {n : ByteArray} (h : Blk w R (hC a b c d n) T) :
    w.cell? ⟨R, 0, none⟩ = some (.int .u8 a) ∧ w.cell? ⟨R, 1, none⟩ = some (.int .u8 b) ∧ w.cell? ⟨R, 2, none⟩ = some (.int .u8 c) ∧ w.cell? ⟨R, 3, none⟩ = some (.int .u8 d) ∧ w.cell? ⟨R, 4, none⟩ = some (.string n) ∧
    w.frozen? ⟨R, 0, none⟩ = false ∧ w.frozen? ⟨R, 1, none⟩ = false ∧ w.frozen? ⟨R, 2, none⟩ = false ∧ w.frozen? ⟨R, 3, none⟩ = false ∧ w.frozen? ⟨R, 4, none⟩ = false :=
  ⟨h.cell 0 _ rfl, h.cell 1 _ rfl, h.cell 2 _ rfl, h.cell 3 _ rfl, h.cell 4 _ rfl, h.free 0, h.free 1, h.free 2, h.free 3, h.free 4⟩
theorem only2 (p : ByteArray) (hp : p.size ≤ 281474976710656) (W : World) (b : Nat) (hb : W.heap.size = b) :
    Calls Tryz.prog 109 #[.string p, .slice (some ⟨b, 0, none⟩) 2 2] (W.alloc (.cells #[.int .i64 2, .int .i64 1] 3)) fun e w' => e = .returned (.bool (onlyZ [2, 1] p.data.toList)) ∧ W.alloc (.cells #[.int .i64 2, .int .i64 1] 3) = w' := by
  subst hb
  exact only_any p [2, 1] W.heap.size 2 _ hp (by decide) (fun j hj => by
    rw [World.cell?_alloc_new]
    match j, hj with
    | 0, _ => rfl
    | 1, _ => rfl)
theorem pa_err (s : ByteArray) (a c : Int) (hs : s.size ≤ 281474976710656) (hr : paRes s = .inl (a, c)) (w : World) (hS : StdW w) :
    Calls Tryz.prog 110 #[.string s] w fun e w' => ∃ v, e = .returned (.tuple #[.agg #[.int .u8 0, .int .u8 0, .int .u8 0, .int .u8 0], v]) ∧ ErrIs w' v [(hostS, a)] c ∧ Below w.heap.size w w' := by
  have h := parseAddr_any s hs w hS
  rw [hr] at h
  exact h.mono (fun e w' ⟨hb, v, he, h⟩ => ⟨v, he, h, hb⟩)
theorem pa_ok (s : ByteArray) (l : List Int) (hs : s.size ≤ 281474976710656) (hr : paRes s = .inr l) (w : World) (hS : StdW w) :
    Calls Tryz.prog 110 #[.string s] w fun e w' => e = .returned (.tuple #[.agg #[.int .u8 (l.getD 0 0), .int .u8 (l.getD 1 0), .int .u8 (l.getD 2 0), .int .u8 (l.getD 3 0)], .nilIface]) ∧ Below w.heap.size w w' := by
  have h := parseAddr_any s hs w hS
  rw [hr] at h
  exact h.mono (fun e w' ⟨hb, _, he⟩ => ⟨he, hb⟩)
theorem pn_err (s : ByteArray) (a c : Int) (hs : s.size ≤ 281474976710656) (hr : pnRes s = .inl (a, c)) (w : World) (hS : StdW w) :
    Calls Tryz.prog 111 #[.string s] w fun e w' => ∃ v, e = .returned (.tuple #[.string ⟨#[]⟩, v]) ∧ ErrIs w' v [(hostS, a)] c ∧ Below w.heap.size w w' := by
  have h := parseName_any s hs w hS
  rw [hr] at h
  exact h.mono (fun e w' ⟨hb, v, he, h⟩ => ⟨v, he, h, hb⟩)
theorem pn_ok (s n : ByteArray) (hs : s.size ≤ 281474976710656) (hr : pnRes s = .inr n) (w : World) (hS : StdW w) :
    Calls Tryz.prog 111 #[.string s] w fun e w' => e = .returned (.tuple #[.string n, .nilIface]) ∧ Below w.heap.size w w' := by
  have h := parseName_any s hs w hS
  rw [hr] at h
  exact h.mono (fun e w' ⟨hb, he⟩ => ⟨he, hb⟩)
def hpRes (s : ByteArray) : (Int × Int) ⊕ (List Int × ByteArray) :=
  if 253 < s.size then .inl (253, 3) else if s.size = 0 then .inl (0, 63) else if onlyZ [2, 1] s.data.toList then (match paRes s with
    | .inl x => .inl x
    | .inr l => .inr (l, ⟨#[]⟩)) else (match pnRes s with
    | .inl x => .inl x
    | .inr n => .inr ([0, 0, 0, 0], n))
def HPPost (r : (Int × Int) ⊕ (List Int × ByteArray)) (w : World) (e : Ending) (w' : World) : Prop :=
  Below w.heap.size w w' ∧ match r with
    | .inl (a, c) => ∃ v, e = .returned (.tuple #[.agg #[.int .u8 0, .int .u8 0, .int .u8 0, .int .u8 0, .string ⟨#[]⟩], v]) ∧ ErrIs w' v [(hostS, a)] c
    | .inr (l, n) => e = .returned (.tuple #[.agg #[.int .u8 (l.getD 0 0), .int .u8 (l.getD 1 0), .int .u8 (l.getD 2 0), .int .u8 (l.getD 3 0), .string n], .nilIface])
set_option maxRecDepth 100000 in
set_option maxHeartbeats 4000000 in
theorem hparse_long (s : ByteArray) (hs : 253 < s.size) (hs2 : s.size ≤ 281474976710656) (w : World) :
    Calls Tryz.prog 77 #[.string s] w fun e w' => ∃ v, e = .returned (.tuple #[.agg #[.int .u8 0, .int .u8 0, .int .u8 0, .int .u8 0, .string ⟨#[]⟩], v]) ∧ ErrIs w' v [(hostS, 253)] 3 ∧ Below w.heap.size w w' := by
  have HE : ∀ W, ErrIs W (.iface 45 (.int .i64 3)) [] 3 := fun W => rfl
  have HW := Lib.hid (fun W => wrong_any 253 _ [] 3 W (HE W))
  clear HE
  have hs1 : (253 : Int) < (s.size : Int) := by omega
  go_enter Tryz.func77, Tryz.ntmps77
  go_wp2_with (first | (go_at_call 104; refine (HW.out _).mono ?_; rintro e w1 ⟨v, rfl, he, hb⟩; obtain ⟨c0, c1, c2, c3, c4, f0, f1, f2, f3, f4, s0, s1, s2, s3, s4⟩ := ((Blk.new w (hC 0 0 0 0 ⟨#[]⟩) 31).below hb).hids))
  refine bodyPost_ret (v := .tuple #[.agg #[.int .u8 0, .int .u8 0, .int .u8 0, .int .u8 0, .string ⟨#[]⟩], v]) (by simp [results, Tryz.results77, go_sem, c0, c1, c2, c3, c4]) rfl ⟨v, rfl, ?_, ?_⟩
  · exact he
  · exact below_then (below_alloc (Below.refl _ _) _) (below_alloc (Below.refl _ _) _).size hb
set_option maxRecDepth 100000 in
set_option maxHeartbeats 4000000 in
theorem hparse_empty (s : ByteArray) (hs : s.size = 0) (w : World) :
    Calls Tryz.prog 77 #[.string s] w fun e w' => ∃ v, e = .returned (.tuple #[.agg #[.int .u8 0, .int .u8 0, .int .u8 0, .int .u8 0, .string ⟨#[]⟩], v]) ∧ ErrIs w' v [(hostS, 0)] 63 ∧ Below w.heap.size w w' := by
  have HE : ∀ W, ErrIs W (.iface 45 (.int .i64 63)) [] 63 := fun W => rfl
  have HW := Lib.hid (fun W => wrong_any 0 _ [] 63 W (HE W))
  clear HE
  have hs1 : (s.size : Int) ≤ 253 := by omega
  have h1 : s.toList.isEmpty = true := by rw [size_zero]; simpa using hs
  go_enter Tryz.func77, Tryz.ntmps77
  go_wp2_with (first | (go_at_call 104; refine (HW.out _).mono ?_; rintro e w1 ⟨v, rfl, he, hb⟩; obtain ⟨c0, c1, c2, c3, c4, f0, f1, f2, f3, f4, s0, s1, s2, s3, s4⟩ := ((Blk.new w (hC 0 0 0 0 ⟨#[]⟩) 31).below hb).hids))
  refine bodyPost_ret (v := .tuple #[.agg #[.int .u8 0, .int .u8 0, .int .u8 0, .int .u8 0, .string ⟨#[]⟩], v]) (by simp [results, Tryz.results77, go_sem, c0, c1, c2, c3, c4]) rfl ⟨v, rfl, ?_, ?_⟩
  · exact he
  · exact below_then (below_alloc (Below.refl _ _) _) (below_alloc (Below.refl _ _) _).size hb
set_option maxRecDepth 100000 in
set_option maxHeartbeats 4000000 in
theorem hparse_addr_err (s : ByteArray) (a c : Int) (hs : s.size ≤ 253) (hs0 : s.size ≠ 0) (ho : onlyZ [2, 1] s.data.toList = true) (hr : paRes s = .inl (a, c)) (w : World) (hS : StdW w) :
    Calls Tryz.prog 77 #[.string s] w fun e w' => ∃ v, e = .returned (.tuple #[.agg #[.int .u8 0, .int .u8 0, .int .u8 0, .int .u8 0, .string ⟨#[]⟩], v]) ∧ ErrIs w' v [(hostS, a)] c ∧ Below w.heap.size w w' := by
  have HPA := Lib.hid (fun W h => pa_err s a c (by omega) hr W h)
  have HO := Lib.hid (only2 s (by omega))
  rw [ho] at HO
  have HS := Lib.hid hS
  have hs1 : (s.size : Int) ≤ 253 := by omega
  have h1 : s.toList.isEmpty = false := by rw [size_zero]; simpa using hs0
  clear hS hr ho
  go_enter Tryz.func77, Tryz.ntmps77
  go_wp2_with (first | (go_at_call 109; refine (HO.out _ _ (by simp)).mono ?_; rintro e w2 ⟨rfl, rfl⟩) | (go_at_call 110; refine (HPA.out _ (StdW.below HS.out (below_alloc (below_alloc (Below.refl _ _) _) _))).mono ?_; rintro e w1 ⟨v, rfl, he, hb⟩; have hz := ((Blk.new w (hC 0 0 0 0 ⟨#[]⟩) 31).old (.cells #[.int .i64 2, .int .i64 1] 3)).below hb; obtain ⟨c0, c1, c2, c3, c4, f0, f1, f2, f3, f4, s0, s1, s2, s3, s4⟩ := hz.hids; obtain ⟨d0, d1, d2, d3, d4, g0, g1, g2, g3, g4, t0, t1, t2, t3, t4⟩ := (hz.old (.cells #[.int .u8 0, .int .u8 0, .int .u8 0, .int .u8 0] 29)).hids; clear hz))
  refine bodyPost_ret (v := .tuple #[.agg #[.int .u8 0, .int .u8 0, .int .u8 0, .int .u8 0, .string ⟨#[]⟩], v]) (by simp [results, Tryz.results77, go_sem, c0, c1, c2, c3, c4, d0, d1, d2, d3, d4]) rfl ⟨v, rfl, ?_, ?_⟩
  · exact ErrIs.below (below_alloc (Below.refl _ _) _) he
  · exact below_alloc (below_then (below_alloc (below_alloc (Below.refl _ _) _) _) (below_alloc (below_alloc (Below.refl _ _) _) _).size hb) _
set_option maxRecDepth 100000 in
set_option maxHeartbeats 4000000 in
theorem hparse_addr_ok (s : ByteArray) (l : List Int) (hs : s.size ≤ 253) (hs0 : s.size ≠ 0) (ho : onlyZ [2, 1] s.data.toList = true) (hr : paRes s = .inr l) (w : World) (hS : StdW w) :
    Calls Tryz.prog 77 #[.string s] w fun e w' => e = .returned (.tuple #[.agg #[.int .u8 (l.getD 0 0), .int .u8 (l.getD 1 0), .int .u8 (l.getD 2 0), .int .u8 (l.getD 3 0), .string ⟨#[]⟩], .nilIface]) ∧ Below w.heap.size w w' := by
  have HPA := Lib.hid (fun W h => pa_ok s l (by omega) hr W h)
  have HO := Lib.hid (only2 s (by omega))
  rw [ho] at HO
  have HS := Lib.hid hS
  have hs1 : (s.size : Int) ≤ 253 := by omega
  have h1 : s.toList.isEmpty = false := by rw [size_zero]; simpa using hs0
  clear hS hr ho
  generalize l.getD 0 0 = l0 at HPA ⊢
  generalize l.getD 1 0 = l1 at HPA ⊢
  generalize l.getD 2 0 = l2 at HPA ⊢
  generalize l.getD 3 0 = l3 at HPA ⊢
  go_enter Tryz.func77, Tryz.ntmps77
  go_wp2_with (first | (go_at_call 109; refine (HO.out _ _ (by simp)).mono ?_; rintro e w2 ⟨rfl, rfl⟩) | (go_at_call 110; refine (HPA.out _ (StdW.below HS.out (below_alloc (below_alloc (Below.refl _ _) _) _))).mono ?_; rintro e w1 ⟨rfl, hb⟩; have hz := ((Blk.new w (hC 0 0 0 0 ⟨#[]⟩) 31).old (.cells #[.int .i64 2, .int .i64 1] 3)).below hb; have HZ := Lib.hid hz; have hlt := hz.lt; obtain ⟨c0, c1, c2, c3, c4, f0, f1, f2, f3, f4⟩ := hz.five; clear hz))
  obtain ⟨e0, e1, e2, e3, e4, -⟩ := (show Blk _ _ (hC l0 l1 l2 l3 ⟨#[]⟩) _ from ((((((HZ.out.set 0 (.int .u8 l0)).set 1 (.int .u8 l1)).set 2 (.int .u8 l2)).set 3 (.int .u8 l3)).set 4 (.string ⟨#[]⟩)).old (.cells #[.int .u8 l0, .int .u8 l1, .int .u8 l2, .int .u8 l3] 29))).five
  refine bodyPost_ret (v := .tuple #[.agg #[.int .u8 l0, .int .u8 l1, .int .u8 l2, .int .u8 l3, .string ⟨#[]⟩], .nilIface]) (by simp [results, Tryz.results77, go_sem, e0, e1, e2, e3, e4]) rfl ⟨rfl, ?_⟩
  repeat (refine Below.setCell ?_ (by first | exact Nat.le_refl _ | exact Nat.le_of_lt hlt) _)
  first
    | exact below_alloc (below_then (below_alloc (below_alloc (Below.refl _ _) _) _) (below_alloc (below_alloc (Below.refl _ _) _) _).size hb) _
    | (refine below_alloc ?_ _
       repeat (refine Below.setCell ?_ (by first | exact Nat.le_refl _ | exact Nat.le_of_lt hlt) _)
       exact below_then (below_alloc (below_alloc (Below.refl _ _) _) _) (below_alloc (below_alloc (Below.refl _ _) _) _).size hb)
set_option maxRecDepth 100000 in
set_option maxHeartbeats 4000000 in
theorem hparse_name_err (s : ByteArray) (a c : Int) (hs : s.size ≤ 253) (hs0 : s.size ≠ 0) (ho : onlyZ [2, 1] s.data.toList = false) (hr : pnRes s = .inl (a, c)) (w : World) (hS : StdW w) :
    Calls Tryz.prog 77 #[.string s] w fun e w' => ∃ v, e = .returned (.tuple #[.agg #[.int .u8 0, .int .u8 0, .int .u8 0, .int .u8 0, .string ⟨#[]⟩], v]) ∧ ErrIs w' v [(hostS, a)] c ∧ Below w.heap.size w w' := by
  have HPN := Lib.hid (fun W h => pn_err s a c (by omega) hr W h)
  have HO := Lib.hid (only2 s (by omega))
  rw [ho] at HO
  have HS := Lib.hid hS
  have hs1 : (s.size : Int) ≤ 253 := by omega
  have h1 : s.toList.isEmpty = false := by rw [size_zero]; simpa using hs0
  clear hS hr ho
  go_enter Tryz.func77, Tryz.ntmps77
  go_wp2_with (first | (go_at_call 109; refine (HO.out _ _ (by simp)).mono ?_; rintro e w2 ⟨rfl, rfl⟩) | (go_at_call 111; refine (HPN.out _ (StdW.below HS.out (below_alloc (below_alloc (Below.refl _ _) _) _))).mono ?_; rintro e w1 ⟨v, rfl, he, hb⟩; have hz := ((Blk.new w (hC 0 0 0 0 ⟨#[]⟩) 31).old (.cells #[.int .i64 2, .int .i64 1] 3)).below hb; obtain ⟨c0, c1, c2, c3, c4, f0, f1, f2, f3, f4, s0, s1, s2, s3, s4⟩ := hz.hids; clear hz))
  refine bodyPost_ret (v := .tuple #[.agg #[.int .u8 0, .int .u8 0, .int .u8 0, .int .u8 0, .string ⟨#[]⟩], v]) (by simp [results, Tryz.results77, go_sem, c0, c1, c2, c3, c4]) rfl ⟨v, rfl, ?_, ?_⟩
  · exact he
  · exact below_then (below_alloc (below_alloc (Below.refl _ _) _) _) (below_alloc (below_alloc (Below.refl _ _) _) _).size hb
set_option maxRecDepth 100000 in
set_option maxHeartbeats 4000000 in
theorem hparse_name_ok (s n : ByteArray) (hs : s.size ≤ 253) (hs0 : s.size ≠ 0) (ho : onlyZ [2, 1] s.data.toList = false) (hr : pnRes s = .inr n) (w : World) (hS : StdW w) :
    Calls Tryz.prog 77 #[.string s] w fun e w' => e = .returned (.tuple #[.agg #[.int .u8 0, .int .u8 0, .int .u8 0, .int .u8 0, .string n], .nilIface]) ∧ Below w.heap.size w w' := by
  have HPN := Lib.hid (fun W h => pn_ok s n (by omega) hr W h)
  have HO := Lib.hid (only2 s (by omega))
  rw [ho] at HO
  have HS := Lib.hid hS
  have hs1 : (s.size : Int) ≤ 253 := by omega
  have h1 : s.toList.isEmpty = false := by rw [size_zero]; simpa using hs0
  clear hS hr ho
  go_enter Tryz.func77, Tryz.ntmps77
  go_wp2_with (first | (go_at_call 109; refine (HO.out _ _ (by simp)).mono ?_; rintro e w2 ⟨rfl, rfl⟩) | (go_at_call 111; refine (HPN.out _ (StdW.below HS.out (below_alloc (below_alloc (Below.refl _ _) _) _))).mono ?_; rintro e w1 ⟨rfl, hb⟩; have hz := ((Blk.new w (hC 0 0 0 0 ⟨#[]⟩) 31).old (.cells #[.int .i64 2, .int .i64 1] 3)).below hb; have hlt := hz.lt; obtain ⟨c0, c1, c2, c3, c4, f0, f1, f2, f3, f4, s0, s1, s2, s3, s4⟩ := hz.hids; clear hz s4))
  refine bodyPost_ret (v := .tuple #[.agg #[.int .u8 0, .int .u8 0, .int .u8 0, .int .u8 0, .string n], .nilIface]) (by simp [results, Tryz.results77, go_sem, c0, c1, c2, c3, c4]) rfl ⟨rfl, ?_⟩
  repeat (refine Below.setCell ?_ (by first | exact Nat.le_refl _ | exact Nat.le_of_lt hlt) _)
  exact below_then (below_alloc (below_alloc (Below.refl _ _) _) _) (below_alloc (below_alloc (Below.refl _ _) _) _).size hb
theorem hparse_any (s : ByteArray) (hs : s.size ≤ 281474976710656) (w : World) (hS : StdW w) : Calls Tryz.prog 77 #[.string s] w (HPPost (hpRes s) w) := by
  unfold hpRes
  by_cases h1 : 253 < s.size
  · rw [if_pos h1]
    exact (hparse_long s h1 hs w).mono (fun e w' ⟨v, he, h, hb⟩ => ⟨hb, v, he, h⟩)
  rw [if_neg h1]
  by_cases h2 : s.size = 0
  · rw [if_pos h2]
    exact (hparse_empty s h2 w).mono (fun e w' ⟨v, he, h, hb⟩ => ⟨hb, v, he, h⟩)
  rw [if_neg h2]
  cases ho : onlyZ [2, 1] s.data.toList
  · rw [if_neg (by simp)]
    cases hr : pnRes s with
    | inl x =>
      obtain ⟨a, c⟩ := x
      exact (hparse_name_err s a c (by omega) h2 ho hr w hS).mono (fun e w' ⟨v, he, h, hb⟩ => ⟨hb, v, he, h⟩)
    | inr n => exact (hparse_name_ok s n (by omega) h2 ho hr w hS).mono (fun e w' ⟨he, hb⟩ => ⟨hb, he⟩)
  · rw [if_pos rfl]
    cases hr : paRes s with
    | inl x =>
      obtain ⟨a, c⟩ := x
      exact (hparse_addr_err s a c (by omega) h2 ho hr w hS).mono (fun e w' ⟨v, he, h, hb⟩ => ⟨hb, v, he, h⟩)
    | inr l => exact (hparse_addr_ok s l (by omega) h2 ho hr w hS).mono (fun e w' ⟨he, hb⟩ => ⟨hb, he⟩)
def ppoRes (s : ByteArray) : Option Int := if numOk s.data.toList 65535 = true ∧ atoiV s.data.toList ≠ 0 then some (atoiV s.data.toList) else none
def PPPost (r : Option Int) (w : World) (e : Ending) (w' : World) : Prop :=
  Below w.heap.size w w' ∧ match r with
    | none => ∃ v, e = .returned (.tuple #[.int .i64 0, v]) ∧ ErrIs w' v [(hostS, 0)] 62
    | some n => e = .returned (.tuple #[.int .i64 n, .nilIface])
set_option maxRecDepth 100000 in
set_option maxHeartbeats 4000000 in
theorem hport_any (s : ByteArray) (hs : s.size ≤ 281474976710656) (w : World) (hS : StdW w) : Calls Tryz.prog 106 #[.string s] w (PPPost (ppoRes s) w) := by
  have HN := Lib.hid (fun W h => hnumber_any s 65535 hs W h)
  have HS := Lib.hid hS
  have HE : ∀ W, ErrIs W (.iface 45 (.int .i64 62)) [] 62 := fun W => rfl
  have HW := Lib.hid (fun W => wrong_any 0 _ [] 62 W (HE W))
  clear HE hS
  unfold ppoRes
  generalize atoiV s.data.toList = v at HN
  cases hok : numOk s.data.toList 65535
  · rw [hok] at HN
    clear hok
    rw [if_neg (by simp)]
    go_enter Tryz.func106, Tryz.ntmps106
    go_wp2_with (first | (go_at_call 138; refine (HN.out _ HS.out).mono ?_; rintro e w2 ⟨rfl, hb2⟩) | (go_at_call 104; refine (HW.out _).mono ?_; rintro e w3 ⟨u, rfl, he, hb3⟩))
    go_ret2
    exact ⟨below_then hb2 hb2.size hb3, u, rfl, he⟩
  · rw [hok] at HN
    clear hok
    by_cases hv : v = 0
    · subst hv
      rw [if_neg (by simp)]
      go_enter Tryz.func106, Tryz.ntmps106
      go_wp2_with (first | (go_at_call 138; refine (HN.out _ HS.out).mono ?_; rintro e w2 ⟨rfl, hb2⟩) | (go_at_call 104; refine (HW.out _).mono ?_; rintro e w3 ⟨u, rfl, he, hb3⟩))
      go_ret2
      exact ⟨below_then hb2 hb2.size hb3, u, rfl, he⟩
    · rw [if_pos ⟨rfl, hv⟩]
      have hv' : (v == 0) = false := beq_eq_false_iff_ne.2 hv
      clear hv
      go_enter Tryz.func106, Tryz.ntmps106
      go_wp2_with (first | (go_at_call 138; refine (HN.out _ HS.out).mono ?_; rintro e w2 ⟨rfl, hb2⟩) | (go_at_call 104; refine (HW.out _).mono ?_; rintro e w3 ⟨u, rfl, he, hb3⟩))
      go_ret2
      exact ⟨hb2, rfl⟩
end Go.Proofs.YtocklkaddiomhaaGreatDoor.E
