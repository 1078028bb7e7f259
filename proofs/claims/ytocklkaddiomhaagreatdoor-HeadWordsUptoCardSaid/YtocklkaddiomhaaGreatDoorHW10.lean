/- What the cards of this seat rest on: the walks and plain laws, part 10. -/
import Derived.Test.YtocklkaddiomhaaGreatDoorHW9
import Derived.Test.YtocklkaddiomhaaGreatDoorHW6
import Derived.Lib.SmallJoins
import Derived.Test.YtocklkaddiomhaaGreatDoorHW2
import Derived.Test.YtocklkaddiomhaaGreatDoorRows
import Derived.Deep.Slices
import Derived.Deep.Fields
import Derived.ChangeSame
import Derived.SizedLaws
import Derived.OpenShut
import Derived.Stop.LaidErr
import Derived.Lib.LaidTab
import Derived.LaidHandle
import Derived.LaidLaws
import Derived.Lay
import Derived.Deep.DeepHandedRow
import Derived.Stop.Joined
import Derived.JoinedOf


namespace Go.Proofs.YtocklkaddiomhaaGreatDoor.E
open Go.RowKit Go.Proofs.YtocklkaddiomhaaGreatDoorW.PrintWords Go.Proofs.YtocklkaddiomhaaGreatDoorW.PrintLast Go.Proofs.YtocklkaddiomhaaGreatDoor.XK Go.Proofs.YtocklkaddiomhaaGreatDoor.XA Go.Proofs.YtocklkaddiomhaaGreatDoor.XD
set_option linter.unusedVariables false
set_option linter.unusedSimpArgs false
theorem is8_one (v : Value) (w0 w : World) (h : ErrIs w0 v [(headS, 4)] 82) (hb : Below w0.heap.size w0 w) : Calls Tryz.prog 13 #[v, .agg (bad 1 headS ⟨#[]⟩ 4 0 82)] w fun e w' => e = .returned (.bool true) ∧ Below w.heap.size w w' :=
  is_same v 1 headS ⟨#[]⟩ 4 0 82 (fun W => by kernel_rfl) (fun W => by kernel_rfl) w (fun W hW => of_one v headS 4 82 W (ErrIs.below hW (ErrIs.below hb h)))
theorem is8_two (v : Value) (w0 w : World) (h : ErrIs w0 v [(headS, 11), (hostS, 0)] 61) (hb : Below w0.heap.size w0 w) : Calls Tryz.prog 13 #[v, .agg (bad 2 headS hostS 11 0 61)] w fun e w' => e = .returned (.bool true) ∧ Below w.heap.size w w' :=
  is_same v 2 headS hostS 11 0 61 (fun W => by kernel_rfl) (fun W => by kernel_rfl) w (fun W hW => of_two v headS hostS 11 0 61 W (ErrIs.below hW (ErrIs.below hb h)))
set_option maxRecDepth 100000 in
set_option maxHeartbeats 8000000 in
theorem works08_any (w : World) (hS : StdE w) : Calls Tryz.prog 7 #[] w fun e w' => e = .returned (.bool true) ∧ Below w.heap.size w w' := by
  have HS := Lib.hid hS
  have P0 := Lib.hid ex80_c
  have P1 := Lib.hid ex81_c
  have P2 := Lib.hid ex82_c
  have B1 := Lib.hid (fun W => fail_any headS 4 82 W)
  have B2 := Lib.hid (fun W => fail_any hostS 0 61 W)
  have W1 := Lib.hid (fun W => wrap_one headS hostS 11 0 61 W)
  have I1 := Lib.hid is8_one
  have I2 := Lib.hid is8_two
  have kc := fun (w : World) (C : Array Value) (n c : Nat) => Lib.run_convert_bytes_const (P := Tryz.prog) w 22 5 C n c Tryz.underlying22 Tryz.underlying5
  have kc1 := fun (w : World) (o : Obj) (C : Array Value) (n c : Nat) => Go.Joins.run_convert_bytes_const_at (P := Tryz.prog) (w.alloc o) 22 5 C n c (w.heap.size + 1) (World.size_alloc w o).symm Tryz.underlying22 Tryz.underlying5
  clear hS
  unfold bad hostS headS at *
  go_enter Tryz.func7, Tryz.ntmps7
  go_wp2_with (go_at_call 9; (with_reducible refine (P0.out _ _ _ rfl HS.out).mono ?_); rintro e w1 ⟨fA, fc, rfl, hb⟩; have HB := Lib.hid hb; have HT := Lib.hid (Blk.new w1 #[.string ⟨#[71, 69, 84]⟩, .int .u8 0, .int .u8 0, .int .u8 0, .int .u8 0, .string ⟨#[97, 46, 98]⟩, .int .i64 80, .string ⟨#[47, 120]⟩, .slice fA 1 fc] 36); clear hb)
  go_wp2_with (go_at_call 9; (with_reducible refine (P1.out _ _ _ (World.size_alloc _ _).symm (StdE.below HS.out (below_alloc HB.out (.cells #[.string ⟨#[71, 69, 84]⟩, .int .u8 0, .int .u8 0, .int .u8 0, .int .u8 0, .string ⟨#[97, 46, 98]⟩, .int .i64 80, .string ⟨#[47, 120]⟩, .slice fA 1 fc] 36)))).mono ?_); rintro e w2 ⟨v2, rfl, he2, hb⟩; have HT := Lib.hid (HT.out.below hb); have HB := Lib.hid (below_then (below_alloc HB.out (.cells #[.string ⟨#[71, 69, 84]⟩, .int .u8 0, .int .u8 0, .int .u8 0, .int .u8 0, .string ⟨#[97, 46, 98]⟩, .int .i64 80, .string ⟨#[47, 120]⟩, .slice fA 1 fc] 36)) (below_alloc HB.out (.cells #[.string ⟨#[71, 69, 84]⟩, .int .u8 0, .int .u8 0, .int .u8 0, .int .u8 0, .string ⟨#[97, 46, 98]⟩, .int .i64 80, .string ⟨#[47, 120]⟩, .slice fA 1 fc] 36)).size hb); have HE2 := Lib.hid he2; clear hb he2)
  go_wp2_with (go_at_call 9; (with_reducible refine (P2.out _ _ _ (World.size_alloc _ _).symm (StdE.below HS.out (below_alloc HB.out (.cells #[.string ⟨#[]⟩, .int .u8 0, .int .u8 0, .int .u8 0, .int .u8 0, .string ⟨#[]⟩, .int .i64 0, .string ⟨#[]⟩, .slice none 0 0] 36)))).mono ?_); rintro e w3 ⟨v3, rfl, he3, hb⟩; have HE2 := Lib.hid (ErrIs.below hb (ErrIs.below (below_alloc (Below.refl _ _) _) HE2.out)); have HT := Lib.hid ((HT.out.old (.cells #[.string ⟨#[]⟩, .int .u8 0, .int .u8 0, .int .u8 0, .int .u8 0, .string ⟨#[]⟩, .int .i64 0, .string ⟨#[]⟩, .slice none 0 0] 36)).below hb); have HB := Lib.hid (below_then (below_alloc HB.out (.cells #[.string ⟨#[]⟩, .int .u8 0, .int .u8 0, .int .u8 0, .int .u8 0, .string ⟨#[]⟩, .int .i64 0, .string ⟨#[]⟩, .slice none 0 0] 36)) (below_alloc HB.out (.cells #[.string ⟨#[]⟩, .int .u8 0, .int .u8 0, .int .u8 0, .int .u8 0, .string ⟨#[]⟩, .int .i64 0, .string ⟨#[]⟩, .slice none 0 0] 36)).size hb); have HE3 := Lib.hid he3; have hlt := HT.out.lt; obtain ⟨c0, c1, c2, c3, c4, c5, c6, c7, c8, -⟩ := (show Blk _ _ (rqC ⟨#[71, 69, 84]⟩ 0 0 0 0 ⟨#[97, 46, 98]⟩ 80 ⟨#[47, 120]⟩ (.slice fA 1 fc)) _ from HT.out).rq; have HB3 := Lib.hid (Below.refl w3.heap.size w3); clear hb he3)
  go_wp2_with (go_at_call 14; (with_reducible refine (B1.out _).mono ?_); rintro e w4 ⟨rfl, hb⟩; have HB := Lib.hid (below_alloc HB.out (.cells #[.string ⟨#[]⟩, .int .u8 0, .int .u8 0, .int .u8 0, .int .u8 0, .string ⟨#[]⟩, .int .i64 0, .string ⟨#[]⟩, .slice none 0 0] 36)); have HB3 := Lib.hid (below_alloc HB3.out (.cells #[.string ⟨#[]⟩, .int .u8 0, .int .u8 0, .int .u8 0, .int .u8 0, .string ⟨#[]⟩, .int .i64 0, .string ⟨#[]⟩, .slice none 0 0] 36)); have HB := Lib.hid (below_then HB.out HB.out.size hb); have HB3 := Lib.hid (below_then HB3.out HB3.out.size hb); clear hb)
  go_wp2_with (go_at_call 13; (with_reducible refine (I1.out _ _ _ HE2.out HB3.out).mono ?_); rintro e w5 ⟨rfl, hb⟩; have HB := Lib.hid (below_then HB.out HB.out.size hb); have HB3 := Lib.hid (below_then HB3.out HB3.out.size hb); clear hb)
  go_wp2_with (go_at_call 14; (with_reducible refine (B2.out _).mono ?_); rintro e w6 ⟨rfl, hb⟩; have HB := Lib.hid (below_then HB.out HB.out.size hb); have HB3 := Lib.hid (below_then HB3.out HB3.out.size hb); clear hb)
  go_wp2_with (go_at_call 30; (with_reducible refine (W1.out _).mono ?_); rintro e w7 ⟨rfl, hb⟩; have HB := Lib.hid (below_then HB.out HB.out.size hb); have HB3 := Lib.hid (below_then HB3.out HB3.out.size hb); clear hb)
  go_wp2_with (go_at_call 13; (with_reducible refine (I2.out _ _ _ HE3.out HB3.out).mono ?_); rintro e w8 ⟨rfl, hb⟩; have HB := Lib.hid (below_then HB.out HB.out.size hb); have HB3 := Lib.hid (below_then HB3.out HB3.out.size hb); clear hb)
  go_ret
  exact ⟨rfl, HB.out⟩
end Go.Proofs.YtocklkaddiomhaaGreatDoor.E


namespace Go.Proofs.YtocklkaddiomhaaGreatDoor.E
open Go.RowKit Go.Proofs.YtocklkaddiomhaaGreatDoorW.PrintWords Go.Proofs.YtocklkaddiomhaaGreatDoorW.PrintLast Go.Proofs.YtocklkaddiomhaaGreatDoor.XK Go.Proofs.YtocklkaddiomhaaGreatDoor.XA Go.Proofs.YtocklkaddiomhaaGreatDoor.XD Go.Proofs.YtocklkaddiomhaaGreatDoor.XZ Go.Proofs.YtocklkaddiomhaaGreatDoor.XGt
set_option linter.unusedVariables false
set_option linter.unusedSimpArgs false
def lowQ (s : ByteArray) : ByteArray := ⟨(Lib.toLowerA s.data.toList).toArray⟩
def getA (nm : ByteArray) : List S72 → ByteArray → Nat → ByteArray × Nat
  | [], v, n => (v, n)
  | f :: r, v, n => if (lowQ f.f0).toList = (lowQ nm).toList then getA nm r (if n = 0 then f.f1 else v) (n + 1) else getA nm r v n
theorem rd_fld (l : List S72) (i : Nat) (h : i < l.length) : rd_T72 l (i : Int) = l[i] := by
  unfold rd_T72
  rw [show ((i : Int)).toNat = i by omega, List.getD_eq_getElem?_getD, List.getElem?_eq_getElem h]; rfl
theorem hlow_f (s : ByteArray) (h : s.size ≤ 281474976710656) : hLower.f s = some (lowQ s) := by unfold hLower.f; rw [if_pos h]; rfl
theorem rlow_f (s : ByteArray) (h : s.size ≤ 281474976710656) : Lower.f s = some (lowQ s) := by unfold Lower.f; rw [if_pos h]; rfl
theorem hget_loop (nm : ByteArray) (hn : nm.size ≤ 281474976710656) (l : List S72) (hl : l.length ≤ 281474976710656) (hf : ∀ f ∈ l, f.f0.size ≤ 281474976710656) : ∀ (m k i : Nat) (v : ByteArray) (n : Nat), i + m = l.length → m < k → n ≤ i →
    head_Get.l0 k nm v (n : Int) l (l.length : Int) (i : Int) = some ((getA nm (l.drop i) v n).1, ((getA nm (l.drop i) v n).2 : Int)) := by
  intro m
  induction m with
  | zero =>
    intro k i v n hi hk hni
    obtain ⟨k, rfl⟩ : ∃ j, k = j + 1 := ⟨k - 1, by omega⟩
    simp only [head_Get.l0]
    rw [if_neg (by omega), List.drop_of_length_le (by omega)]
    rfl
  | succ m ih =>
    intro k i v n hi hk hni
    obtain ⟨k, rfl⟩ : ∃ j, k = j + 1 := ⟨k - 1, by omega⟩
    have hlt : i < l.length := by omega
    have hw1 : wrap64 ((n : Int) + 1) = ((n + 1 : Nat) : Int) := by rw [wrap64_id _ (by omega) (by omega)]; omega
    have hw2 : wrap64 ((i : Int) + 1) = ((i + 1 : Nat) : Int) := by rw [wrap64_id _ (by omega) (by omega)]; omega
    simp only [head_Get.l0]
    rw [if_pos (by omega), if_pos (by omega), if_pos (by omega), rd_fld l i hlt, hlow_f _ (hf _ (List.getElem_mem hlt)), hlow_f _ hn, Option.bind_some, Option.bind_some, List.drop_eq_getElem_cons hlt, hw1, hw2]
    conv => rhs; unfold getA
    by_cases hq : (lowQ l[i].f0).toList = (lowQ nm).toList
    · rw [if_pos hq]
      simp only [if_pos hq]
      by_cases h0 : n = 0
      · rw [if_pos (by omega), ih k (i + 1) _ (n + 1) (by omega) (by omega) (by omega), if_pos h0]
      · rw [if_neg (by omega), ih k (i + 1) _ (n + 1) (by omega) (by omega) (by omega), if_neg h0]
    · rw [if_neg hq]
      simp only [if_neg hq]
      exact ih k (i + 1) v n (by omega) (by omega) (by omega)
theorem rget_loop (nm : ByteArray) (hn : nm.size ≤ 281474976710656) (l : List S72) (hl : l.length ≤ 281474976710656) (hf : ∀ f ∈ l, f.f0.size ≤ 281474976710656) : ∀ (m k i : Nat) (v : ByteArray) (n : Nat), i + m = l.length → m < k → n ≤ i →
    sallyportref08_Get.l0 k l nm v (n : Int) (i : Int) = some ((getA nm (l.drop i) v n).1, ((getA nm (l.drop i) v n).2 : Int)) := by
  intro m
  induction m with
  | zero =>
    intro k i v n hi hk hni
    obtain ⟨k, rfl⟩ : ∃ j, k = j + 1 := ⟨k - 1, by omega⟩
    simp only [sallyportref08_Get.l0]
    rw [if_neg (by omega), List.drop_of_length_le (by omega)]
    rfl
  | succ m ih =>
    intro k i v n hi hk hni
    obtain ⟨k, rfl⟩ : ∃ j, k = j + 1 := ⟨k - 1, by omega⟩
    have hlt : i < l.length := by omega
    have hw1 : wrap64 ((n : Int) + 1) = ((n + 1 : Nat) : Int) := by rw [wrap64_id _ (by omega) (by omega)]; omega
    have hw2 : wrap64 ((i : Int) + 1) = ((i + 1 : Nat) : Int) := by rw [wrap64_id _ (by omega) (by omega)]; omega
    simp only [sallyportref08_Get.l0]
    rw [if_pos (by omega), if_pos (by omega), rd_fld l i hlt, rlow_f _ (hf _ (List.getElem_mem hlt)), rlow_f _ hn, Option.bind_some, Option.bind_some, List.drop_eq_getElem_cons hlt, hw1, hw2]
    conv => rhs; unfold getA
    by_cases hq : (lowQ l[i].f0).toList = (lowQ nm).toList
    · rw [if_pos hq]
      simp only [if_pos hq]
      by_cases h0 : n = 0
      · rw [if_pos (by omega), ih k (i + 1) _ (n + 1) (by omega) (by omega) (by omega), if_pos h0]
      · rw [if_neg (by omega), ih k (i + 1) _ (n + 1) (by omega) (by omega) (by omega), if_neg h0]
    · rw [if_neg hq]
      simp only [if_neg hq]
      exact ih k (i + 1) v n (by omega) (by omega) (by omega)
def okWd (l : List S72) : Prop := l.length ≤ 281474976710656 ∧ ∀ f ∈ l, f.f0.size ≤ 281474976710656
theorem hget_any (A0 : Option Addr) (c0 : Nat) (l : List S72) (nm : ByteArray) (hn : nm.size ≤ 281474976710656) (hl : okWd l) (w : World) (hr : Kd.C k72 w A0 l.length l) (hc : l.length ≤ c0) (hS : StdW w) :
    Calls Tryz.prog 16 #[.slice A0 l.length c0, .string nm] w fun e w' => e = .returned (.tuple #[.string (getA nm l ⟨#[]⟩ 0).1, .int .i64 ((getA nm l ⟨#[]⟩ 0).2 : Int)]) ∧ Below w.heap.size w w' :=
  head_Get.calls (l.length + 1) A0 c0 l nm _ _ w hr hc hS (by unfold head_Get.f; exact hget_loop nm hn l hl.1 hl.2 l.length (l.length + 1) 0 ⟨#[]⟩ 0 (by omega) (by omega) (Nat.le_refl _))
theorem rget_any (A0 : Option Addr) (c0 : Nat) (l : List S72) (nm : ByteArray) (hn : nm.size ≤ 281474976710656) (hl : okWd l) (w : World) (hr : Kd.C k72 w A0 l.length l) (hc : l.length ≤ c0) (hS : StdW w) :
    Calls Tryz.prog 17 #[.slice A0 l.length c0, .string nm] w fun e w' => e = .returned (.tuple #[.string (getA nm l ⟨#[]⟩ 0).1, .int .i64 ((getA nm l ⟨#[]⟩ 0).2 : Int)]) ∧ Below w.heap.size w w' :=
  sallyportref08_Get.calls (l.length + 1) A0 c0 l nm _ _ w hr hc hS (by unfold sallyportref08_Get.f; exact rget_loop nm hn l hl.1 hl.2 l.length (l.length + 1) 0 ⟨#[]⟩ 0 (by omega) (by omega) (Nat.le_refl _))
end Go.Proofs.YtocklkaddiomhaaGreatDoor.E


namespace Go.Proofs.YtocklkaddiomhaaGreatDoor.E
open Go.RowKit Go.Proofs.YtocklkaddiomhaaGreatDoorW.PrintWords Go.Proofs.YtocklkaddiomhaaGreatDoorW.PrintLast Go.Proofs.YtocklkaddiomhaaGreatDoor.XK Go.Proofs.YtocklkaddiomhaaGreatDoor.XA Go.Proofs.YtocklkaddiomhaaGreatDoor.XD Go.Proofs.YtocklkaddiomhaaGreatDoor.XZ Go.Proofs.YtocklkaddiomhaaGreatDoor.XGt
set_option linter.unusedVariables false
set_option linter.unusedSimpArgs false
theorem rtoken_c (s : ByteArray) (hs : s.size ≤ 281474976710656) (w : World) : Calls Tryz.prog 19 #[.string s] w fun e w' => e = .returned (.bool (tokB s)) ∧ Below w.heap.size w w' :=
  (sallyportref08_Token.calls (s.size + 21) s (tokB s) w (rtoken_f s hs _ (by omega))).mono fun e w' ⟨h, d⟩ => ⟨h, d.below⟩
theorem rvalue_c (s : ByteArray) (hs : s.size ≤ 281474976710656) (w : World) : Calls Tryz.prog 21 #[.string s] w fun e w' => e = .returned (.bool (valB s)) ∧ Below w.heap.size w w' :=
  (sallyportref08_Value.calls (s.size + 1) s (valB s) w (rvalue_f s hs _ (by omega))).mono fun e w' ⟨h, d⟩ => ⟨h, d.below⟩
set_option maxRecDepth 100000 in
set_option maxHeartbeats 4000000 in
theorem words_walk (s : ByteArray) (A0 : Option Addr) (c0 n : Nat) (nm v : ByteArray) (k : Int) (tk vl : Bool) (w : World)
    (H1 : ∀ W, Below w.heap.size w W → Calls Tryz.prog 16 #[.slice A0 n c0, .string nm] W fun e w' => e = .returned (.tuple #[.string v, .int .i64 k]) ∧ Below W.heap.size W w')
    (H2 : ∀ W, Below w.heap.size w W → Calls Tryz.prog 17 #[.slice A0 n c0, .string nm] W fun e w' => e = .returned (.tuple #[.string v, .int .i64 k]) ∧ Below W.heap.size W w')
    (H3 : ∀ W, Below w.heap.size w W → Calls Tryz.prog 18 #[.string s] W fun e w' => e = .returned (.bool tk) ∧ Below W.heap.size W w')
    (H4 : ∀ W, Below w.heap.size w W → Calls Tryz.prog 19 #[.string s] W fun e w' => e = .returned (.bool tk) ∧ Below W.heap.size W w')
    (H5 : ∀ W, Below w.heap.size w W → Calls Tryz.prog 20 #[.string s] W fun e w' => e = .returned (.bool vl) ∧ Below W.heap.size W w')
    (H6 : ∀ W, Below w.heap.size w W → Calls Tryz.prog 21 #[.string s] W fun e w' => e = .returned (.bool vl) ∧ Below W.heap.size W w')
    (H7 : ∀ W, Below w.heap.size w W → Calls Tryz.prog 7 #[] W fun e w' => e = .returned (.bool true) ∧ Below W.heap.size W w') :
    Calls Tryz.prog 4 #[.string s, .slice A0 n c0, .string nm] w fun e w' => e = .returned (.bool true) ∧ Below w.heap.size w w' := by
  have HB := Lib.hid (Below.refl w.heap.size w)
  have X1 := Lib.hid H1
  have X2 := Lib.hid H2
  have X3 := Lib.hid H3
  have X4 := Lib.hid H4
  have X5 := Lib.hid H5
  have X6 := Lib.hid H6
  have X7 := Lib.hid H7
  clear H1 H2 H3 H4 H5 H6 H7
  go_enter Tryz.func4, Tryz.ntmps4
  go_wp2_with (first | (go_at_call 16; (with_reducible refine (X1.out _ HB.out).mono ?_); rintro e w1 ⟨rfl, hb⟩; have HB := Lib.hid (below_then HB.out HB.out.size hb); clear hb) | (go_at_call 17; (with_reducible refine (X2.out _ HB.out).mono ?_); rintro e w1 ⟨rfl, hb⟩; have HB := Lib.hid (below_then HB.out HB.out.size hb); clear hb) | (go_at_call 18; (with_reducible refine (X3.out _ HB.out).mono ?_); rintro e w1 ⟨rfl, hb⟩; have HB := Lib.hid (below_then HB.out HB.out.size hb); clear hb) | (go_at_call 19; (with_reducible refine (X4.out _ HB.out).mono ?_); rintro e w1 ⟨rfl, hb⟩; have HB := Lib.hid (below_then HB.out HB.out.size hb); clear hb) | (go_at_call 20; (with_reducible refine (X5.out _ HB.out).mono ?_); rintro e w1 ⟨rfl, hb⟩; have HB := Lib.hid (below_then HB.out HB.out.size hb); clear hb) | (go_at_call 21; (with_reducible refine (X6.out _ HB.out).mono ?_); rintro e w1 ⟨rfl, hb⟩; have HB := Lib.hid (below_then HB.out HB.out.size hb); clear hb) | (go_at_call 7; (with_reducible refine (X7.out _ HB.out).mono ?_); rintro e w1 ⟨rfl, hb⟩; have HB := Lib.hid (below_then HB.out HB.out.size hb); clear hb))
  go_ret
  exact ⟨rfl, HB.out⟩
def okWdB (s : ByteArray) (l : List S72) (nm : ByteArray) : Bool := decide (s.size < 4294967281) && (decide (nm.size ≤ 281474976710656) && (decide (l.length ≤ 281474976710656) && l.all (fun f => decide (f.f0.size ≤ 281474976710656))))
def pWords.f (s : ByteArray) (l : List S72) (nm : ByteArray) : Option Bool := if okWdB s l nm then some true else none
theorem pWords.calls (s : ByteArray) (A0 : Option Addr) (c0 : Nat) (l : List S72) (nm : ByteArray) (r : Bool) (w : World) (hr : Kd.C k72 w A0 l.length l) (hc : l.length ≤ c0) (hS : StdE w) (h : pWords.f s l nm = some r) :
    Calls Tryz.prog 4 #[.string s, .slice A0 l.length c0, .string nm] w fun e w' => e = .returned (.bool r) ∧ Below w.heap.size w w' := by
  unfold pWords.f at h
  split at h
  · rename_i hh
    obtain rfl := Option.some.inj h
    unfold okWdB at hh
    simp only [Bool.and_eq_true, decide_eq_true_eq, List.all_eq_true] at hh
    obtain ⟨h1, h2, h3, h4⟩ := hh
    exact words_walk s A0 c0 l.length nm _ _ (tokB s) (valB s) w (fun W hb => hget_any A0 c0 l nm h2 ⟨h3, h4⟩ W (Kd.C_below hr hb) hc (StdW.below hS.std hb)) (fun W hb => rget_any A0 c0 l nm h2 ⟨h3, h4⟩ W (Kd.C_below hr hb) hc (StdW.below hS.std hb)) (fun W hb => token_any s (by omega) W (StdW.below hS.std hb)) (fun W _ => rtoken_c s (by omega) W) (fun W hb => value_any s h1 W (StdW.below hS.std hb)) (fun W _ => rvalue_c s (by omega) W) (fun W hb => works08_any W (StdE.below hS hb))
  · cases h
theorem headWords_law (s : ByteArray) (hs : s.size ≤ 281474976710656) (hs2 : s.size < 4294967281) (l : List S72) (hl : l.length ≤ 281474976710656 ∧ ∀ r ∈ l, r.f0.size ≤ 281474976710656) (hl2 : l.length ≤ 281474976710656) (nm : ByteArray) (hn : nm.size ≤ 281474976710656) (hn2 : nm.size < 4294967281) : pWords.f s l nm = some true := by
  unfold pWords.f okWdB
  rw [if_pos]
  simp only [Bool.and_eq_true, decide_eq_true_eq, List.all_eq_true]
  exact ⟨hs2, hn, hl.1, hl.2⟩
end Go.Proofs.YtocklkaddiomhaaGreatDoor.E


namespace Go.Proofs.YtocklkaddiomhaaGreatDoor.E
open Go.RowKit Go.ChangeShapes Go.WideShapes Go.Deep Go.Proofs.YtocklkaddiomhaaGreatDoorW.PrintWords Go.Proofs.YtocklkaddiomhaaGreatDoorW.PrintLast Go.Proofs.YtocklkaddiomhaaGreatDoor.XK
set_option linter.unusedVariables false
set_option linter.unusedSimpArgs false
section
variable {H : Type} {enc : TypeId × Value → H} {w : World} {base : Nat} {spare : Nat → Bool} {held : Bool}
theorem cellsFld : Tryz.prog.cellsOf 72 = 2 := by kernel_rfl
theorem cellsStr : Tryz.prog.cellsOf 9 = 1 := by kernel_rfl
theorem bulk_pos (d : DataW H) : 1 ≤ Rows.uptoBulk d := by
  cases d with
  | lit l => cases l <;> simp [Rows.uptoBulk]
  | _ => simp [Rows.uptoBulk]
theorem bulk_mem : ∀ {ds : List (DataW H)} {d : DataW H}, d ∈ ds → Rows.uptoBulk d ≤ Rows.uptoBulkAll ds
  | d0 :: ds, d, h => by
    simp only [Rows.uptoBulkAll]
    rcases List.mem_cons.1 h with rfl | h
    · omega
    · have := bulk_mem h; omega
theorem bulk_len : ∀ ds : List (DataW H), ds.length ≤ Rows.uptoBulkAll ds
  | [] => Nat.zero_le _
  | d :: ds => by
    simp only [Rows.uptoBulkAll, List.length_cons]
    have := bulk_pos d; have := bulk_len ds; omega
theorem two_of {α : Type} {l : List α} (h : l.length = 2) : ∃ a b, l = [a, b] := by
  match l, h with
  | [a, b], _ => exact ⟨a, b, rfl⟩
theorem open_field {fuel : Nat} {cs : List Value} {x : DataW H × List MemPlace} (h : DataW.trod enc Tryz.prog w base spare held fuel 72 cs = some x) :
    ∃ r : S72, cs = [.string r.f0, .string r.f1] ∧ r.f0.size ≤ Rows.uptoBulk x.1 ∧ r.f1.size ≤ Rows.uptoBulk x.1 := by
  obtain ⟨xs, n, -, hx, hl, hxl, hf⟩ := DataW.trod_struct Tryz.underlying72 h
  obtain ⟨v0, v1, rfl⟩ := two_of (hl.trans cellsFld)
  obtain ⟨y0, y1, rfl⟩ := two_of (show xs.length = 2 from hxl)
  have g0 : DataW.trod enc Tryz.prog w base spare held n 9 ((([v0, v1] : List Value).drop 0).take (Tryz.prog.cellsOf 9)) = some y0 := hf 0 _ rfl
  have g1 : DataW.trod enc Tryz.prog w base spare held n 9 ((([v0, v1] : List Value).drop 1).take (Tryz.prog.cellsOf 9)) = some y1 := hf 1 _ rfl
  simp only [cellsStr, List.drop_zero, List.drop_succ_cons, List.take_succ_cons, List.take_zero] at g0 g1
  obtain ⟨a, ea, ha, -⟩ := DataW.trod_string Tryz.underlying9 g0
  obtain ⟨b, eb, hb, -⟩ := DataW.trod_string Tryz.underlying9 g1
  cases ea; cases eb
  refine ⟨⟨a, b⟩, rfl, ?_⟩
  have e0 : Rows.uptoBulk y0.1 = a.size + 1 := by rw [ha]; simp only [Rows.uptoBulk]; rw [Lib.size_eq]
  have e1 : Rows.uptoBulk y1.1 = b.size + 1 := by rw [hb]; simp only [Rows.uptoBulk]; rw [Lib.size_eq]
  rw [hx]
  simp only [Rows.uptoBulk, Rows.uptoBulkAll, List.map_cons, List.map_nil, e0, e1]
  omega
theorem open_fields {t : TypeId} (ht : Tryz.prog.underlying t = some (.slice 72)) {fuel : Nat} {cs : List Value} {x : DataW H × List MemPlace} (h : DataW.trod enc Tryz.prog w base spare held fuel t cs = some x) :
    ∃ (A : Option Addr) (c : Nat) (l : List S72), cs = [.slice A l.length c] ∧ l.length ≤ c ∧ Kd.C k72 w A l.length l ∧ l.length ≤ Rows.uptoBulk x.1 ∧ ∀ r ∈ l, r.f0.size ≤ Rows.uptoBulk x.1 ∧ r.f1.size ≤ Rows.uptoBulk x.1 := by
  rcases open_slice ht h with ⟨rfl, rfl⟩ | ⟨a, len, cap, m, n, D, Pl, rfl, hb, hl, hm, hmm, hx, hi⟩
  · exact ⟨none, 0, [], rfl, Nat.le_refl _, Kd.C_nil _ _, Nat.zero_le _, fun r hr => by cases hr⟩
  · have hlm : len ≤ m := by rw [hmm]; split <;> omega
    have hi' : ∀ i : Fin len, ∃ r : S72, (r.f0.size ≤ Rows.uptoBulk (D i.1) ∧ r.f1.size ≤ Rows.uptoBulk (D i.1)) ∧ ∀ j, j < 2 → w.cell? (a.add (i.1 * 2 + j)) = ([.string r.f0, .string r.f1] : List Value)[j]? := by
      intro i
      obtain ⟨cs', hc, ht2⟩ := hi i.1 (by omega)
      obtain ⟨r, rfl, hw⟩ := open_field ht2
      obtain ⟨_, _, hat⟩ := World.cells?_some hc
      rw [cellsFld] at hat
      exact ⟨r, hw, fun j hj => by rw [← Go.Deep.add_add]; exact hat j hj⟩
    have hlen : (List.ofFn fun i : Fin len => (hi' i).choose).length = len := List.length_ofFn
    have hbk : ∀ i : Fin len, Rows.uptoBulk (D i.1) ≤ Rows.uptoBulk x.1 := fun i => by
      rw [hx]
      simp only [Rows.uptoBulk]
      have := bulk_mem (ds := (List.range len).map D) (d := D i.1) (List.mem_map.2 ⟨i.1, List.mem_range.2 i.2, rfl⟩)
      omega
    refine ⟨some a, cap, List.ofFn fun i : Fin len => (hi' i).choose, by rw [hlen], by rw [hlen]; exact hl, ?_, ?_, ?_⟩
    · refine ⟨rfl, by rw [hlen]; unfold maxLen at hm; omega, fun _ => ⟨a, rfl, fun j p hj => ?_⟩⟩
      have hjl : j < len := by rw [← hlen]; exact (List.getElem?_eq_some_iff.1 hj).1
      have hp : (hi' ⟨j, hjl⟩).choose = p := by
        rw [List.getElem?_ofFn, dif_pos hjl] at hj
        exact Option.some.inj hj
      subst hp
      refine ⟨_, rfl, k72_mk w _, fun i u hu => ?_⟩
      have hi9 : i < 2 := (List.getElem?_eq_some_iff.1 hu).1
      exact ((hi' ⟨j, hjl⟩).choose_spec.2 i hi9).trans hu
    · rw [hlen, hx]
      simp only [Rows.uptoBulk]
      have := bulk_len ((List.range len).map D)
      rw [List.length_map, List.length_range] at this
      omega
    · intro r hr
      obtain ⟨i, rfl⟩ := List.mem_ofFn.1 hr
      have h1 := (hi' i).choose_spec.1
      have h2 := hbk i
      exact ⟨Nat.le_trans h1.1 h2, Nat.le_trans h1.2 h2⟩
end
end Go.Proofs.YtocklkaddiomhaaGreatDoor.E


namespace Go.Proofs.YtocklkaddiomhaaGreatDoor
open Go.RowKit Go.Lib
set_option linter.unusedVariables false
theorem laidMet_tail {P : Program} {x : String × DataW Unit} {r : List (String × DataW Unit)} {W : World} (h : laidMet P (x :: r) W) : laidMet P r W := by
  obtain ⟨ps, ⟨g, t, cs, fuel, p, q, _, _, _, _, hr, rfl⟩, hn, hh⟩ := h
  exact ⟨q, hr, (List.nodup_append.1 hn).2.1, fun b off hb => hh b off (List.mem_append_right _ hb)⟩
theorem gSyn : Tryz.prog.globalNamed "strconv.ErrSyntax" = some 5 := by kernel_rfl
theorem gRng : Tryz.prog.globalNamed "strconv.ErrRange" = some 6 := by kernel_rfl
theorem gPowT : (Tryz.prog.globals[7]?).map (·.type) = some 251 := by kernel_rfl
theorem gSynT : (Tryz.prog.globals[5]?).map (·.type) = some 25 := by kernel_rfl
theorem gRngT : (Tryz.prog.globals[6]?).map (·.type) = some 25 := by kernel_rfl
theorem cellsTab : Tryz.prog.cellsOf 251 = 20 := by kernel_rfl
theorem cellsU64 : Tryz.prog.cellsOf 89 = 1 := by kernel_rfl
theorem cellsES : Tryz.prog.cellsOf 249 = 1 := by kernel_rfl
theorem cellsSt : Tryz.prog.cellsOf 9 = 1 := by kernel_rfl
theorem starES : "*" ++ "errors.errorString" = "*errors.errorString" := by decide
theorem rowES (u : TypeId) (h : Tryz.prog.typeName? 3 u = some "*errors.errorString") : u = 247 :=
  typeName_ptr_named (nm := "errors.errorString") (by rw [starES]; kernel_rfl) (by kernel_rfl) (by decide) u (by rw [starES]; exact h)
def lTab : String × DataW Unit := ("internal/strconv.uint64pow10", Rows.laid_internal_strconv_uint64pow10)
def lAcc : String × DataW Unit := ("unicode/utf8.acceptRanges", Rows.laid_unicode_utf8_acceptRanges)
def lRng : String × DataW Unit := ("strconv.ErrRange", Rows.laid_strconv_ErrRange)
def lSyn : String × DataW Unit := ("strconv.ErrSyntax", Rows.laid_strconv_ErrSyntax)
theorem stdW_of {x0 x1 : String × DataW Unit} {r : List (String × DataW Unit)} {W : World} (hL : laidMet Tryz.prog (x0 :: x1 :: lTab :: lAcc :: lRng :: lSyn :: r) W) (hsh : W.ShapedOpen Tryz.prog) : StdW W := by
  have h2 := laidMet_tail (laidMet_tail hL)
  have ht : TabIs Tryz.prog W "internal/strconv.uint64pow10" .u64 pow10Tab := tabIs_of_head gPow gPowT Tryz.underlying251 Tryz.underlying89 cellsU64 cellsTab h2
  have h4 := laidMet_tail (laidMet_tail h2)
  obtain ⟨a0, s0, hr, -, -, -⟩ := laid_sentinel h4 gRng gRngT Tryz.underlying25 rowES Tryz.underlying247 Tryz.underlying249 rfl rfl Tryz.underlying9 cellsES cellsSt
  obtain ⟨a1, s1, hs, -, -, -⟩ := laid_sentinel (laidMet_tail h4) gSyn gSynT Tryz.underlying25 rowES Tryz.underlying247 Tryz.underlying249 rfl rfl Tryz.underlying9 cellsES cellsSt
  have cr := World.var?_cell gRng hr 0
  have cs := World.var?_cell gSyn hs 0
  refine ⟨Go.Proofs.cell_of_shapedOpen_int (zero := #[.int .i64 0]) (t := 3) hsh (of_decide_eq_true (by kernel_rfl)) (by kernel_rfl) rfl (by kernel_rfl) (by kernel_rfl) Tryz.underlying3, ht, ⟨_, _, by simpa using cs⟩, ⟨_, _, by simpa using cr⟩, ?_⟩
  have c0 := ht.cell gPow 0 (by decide)
  exact World.block_lt_of_cell? _ _ c0
end Go.Proofs.YtocklkaddiomhaaGreatDoor


namespace Go.Proofs.YtocklkaddiomhaaGreatDoor
open Go.RowKit Go.Lib Go.Proofs.YtocklkaddiomhaaGreatDoor.E
set_option linter.unusedVariables false
theorem gEt : Tryz.prog.globalNamed "errors.errorType" = some 1 := by kernel_rfl
theorem rtRow : (Tryz.prog.cutTypes.find? (·.1 == "internal/reflectlite.rtype")).map (·.2) = some 210 := by kernel_rfl
theorem errRow : ((List.range 294).filter fun t => Tryz.prog.rowNamed t [101, 114, 114, 111, 114]) = [25] := by kernel_rfl
theorem typesN : Tryz.prog.types.size = 294 := by kernel_rfl
def lEt : String × DataW Unit := ("errors.errorType", Rows.laid_errors_errorType)
def plainLaid : List (String × DataW Unit) := [("math/bits.deBruijn32tab", Rows.laid_math_bits_deBruijn32tab), ("math/bits.deBruijn64tab", Rows.laid_math_bits_deBruijn64tab), lTab, lAcc, lRng, lSyn, ("unicode.CaseRanges", Rows.laid_unicode_CaseRanges), ("unicode/utf8.first", Rows.laid_unicode_utf8_first)]
theorem laidH_parts {W : World} (hL : laidMetH Tryz.prog Rows.headWordsRow.laid W) : laidMet Tryz.prog plainLaid W ∧ handlesMet Tryz.prog [lEt] W := hL
theorem etW_of {W : World} (h : handlesMet Tryz.prog [lEt] W) : EtW W := by
  obtain ⟨name, u, ty, e1, e2, e3, e4, e5⟩ := h _ (List.mem_singleton.2 rfl)
  have en : name = [101, 114, 114, 111, 114] := (Option.some.inj e1).symm
  subst en
  obtain rfl := Option.some.inj (rtRow.symm.trans e2)
  have hm : ty ∈ (List.range 294).filter fun t => Tryz.prog.rowNamed t [101, 114, 114, 111, 114] := List.mem_filter.2 ⟨List.mem_range.2 (by rw [← typesN]; exact e3), e4⟩
  rw [errRow] at hm
  obtain rfl := List.mem_singleton.1 hm
  have hh : typeHandle Tryz.prog 25 = .pointer (some ⟨11, 25, none⟩) := by kernel_rfl
  rw [hh] at e5
  exact (by simpa using World.var?_cell gEt e5 0 : W.cell? ⟨1, 0, none⟩ = some (.iface 210 (.agg #[.pointer (some ⟨11, 25, none⟩)])))
theorem stdE_of {W : World} (hL : laidMetH Tryz.prog Rows.headWordsRow.laid W) (hsh : W.ShapedOpen Tryz.prog) : StdE W := ⟨stdW_of (laidH_parts hL).1 hsh, etW_of (laidH_parts hL).2⟩
theorem laidMet_on (w0 : World) {laid : List (String × DataW Unit)} (args : Array Value) (hf : w0.layFits Tryz.prog laid [] = true) (hi : w0.layIfaces Tryz.prog laid (w0.layVars Tryz.prog laid) = true) :
    laidMet Tryz.prog laid ((w0.layVars Tryz.prog laid).forCall (fun _ _ => 0) ⟨#[], args, []⟩).memory := by
  have e1 : (laid.filter fun x => (laid.map (·.1)).contains x.1) = laid := List.filter_eq_self.2 fun x hx => List.contains_iff_mem.2 (List.mem_map.2 ⟨x, hx, rfl⟩)
  have e2 : (laid.filter fun x => !(laid.map (·.1)).contains x.1) = [] := List.filter_eq_nil_iff.2 fun x hx => by rw [List.contains_iff_mem.2 (List.mem_map.2 ⟨x, hx, rfl⟩)]; simp
  have h : laidMet Tryz.prog laid (w0.layVars Tryz.prog laid) := laidMet_layVars (w0 := w0) (laid.map (·.1)) [] (by rw [e1]) (by rw [e1]; exact hf) (by rw [e1]; exact hi) (by rw [e2]; exact LaidIn.none)
  exact h.of_heap (by simp [World.memory, World.forCall, Input.heap])
noncomputable def handleWorld (os : Os) : World :=
  let w0 := World.holding Tryz.prog os ⟨#[], #[], []⟩
  { w0 with heap := w0.heap.modify 1 fun
      | .cells _ t frozen => .cells #[.iface 210 (.agg #[.pointer (some ⟨11, 25, none⟩)])] t frozen
      | o => o }
noncomputable def hostWorld (os : Os) : World := (handleWorld os).layVars Tryz.prog plainLaid
theorem hostWorld_os (os : Os) : (hostWorld os).os = os := World.layVars_os _ _ _
theorem hostLaid (os : Os) (args : Array Value) : laidMetH Tryz.prog Rows.headWordsRow.laid ((hostWorld os).forCall (fun _ _ => 0) ⟨#[], args, []⟩).memory :=
  laidMetH_of_parts (laidMet_on (handleWorld os) (laid := plainLaid) args (by kernel_rfl) (by kernel_rfl)) (by kernel_rfl)
end Go.Proofs.YtocklkaddiomhaaGreatDoor


namespace Go.Proofs.YtocklkaddiomhaaGreatDoor
open Go
section
variable {H : Type} {enc : TypeId × Value → H}
theorem witness_zip {C : Checked} {os : Os} {f : FuncId} {fn : Func} {s : OpenSpec} {conds : List PathCond} {apart : Bool} {laid : List (String × DataW Unit)} (w0 : World) (args : Array Value) (hos : w0.os = os)
    (hsh : (w0.forCall (fun _ _ => 0) ⟨#[], args, []⟩).Shaped C.prog)
    (hok : Input.okWideB C.prog (w0.forCall (fun _ _ => 0) ⟨#[], args, []⟩) f ⟨#[], args, []⟩ = true)
    (hrow : s.preRow enc C.prog fn conds apart laid (w0.forCall (fun _ _ => 0) ⟨#[], args, []⟩).memory args) :
    ∃ (w : World) (tape : Tape) (i : Input), w.os = os ∧ (w.forCall tape i).Shaped C.prog ∧ i.vars = [] ∧ Input.okWide C.prog (w.forCall tape i) .any w.heap.size f i ∧
      s.preRow enc C.prog fn conds apart laid (w.forCall tape i).memory i.args ∧ ({} : Assume).holds C.prog (lone (Frame.enter C.prog f i.args .normal) [] (w.forCall tape i)) :=
  ⟨w0, fun _ _ => 0, ⟨#[], args, []⟩, hos, hsh, (Input.okWide_of_okWideB (base := 0) hok).1, (Input.okWide_of_okWideB hok).2, hrow, by
    simp only [Assume.holds]
    exact ⟨by simp, by simp, fun _ => Modest.zero, by simp, by simp⟩⟩
end
end Go.Proofs.YtocklkaddiomhaaGreatDoor


namespace Go.Proofs.YtocklkaddiomhaaGreatDoor
open Go
theorem jf_of {P : Program} {f : FuncId} {fn : Func} {s : ChangeSpec} {c : OpenClaim}
    (a1 : (c.wf (OpenSpec.ofChange s) && laidOutB P && mapsRowed P && fn.params.all (P.readableRec ·) && namedTie P c.named s.vars && (c.stops == []) && (P.stops == []) && (c.knobs == []) && (P.stopKnobs == [])) = true)
    (a2 : (c.inPlace == P.inPlace f) = true) (a3 : (c.unfollowed == P.unfollowed f) = true) (a4 : (c.recurses == P.recurses f) = true) (a5 : (c.named == P.varsNamed f) = true)
    (a6 : ((c.maps == (fn.params.toList ++ s.plain.varTypes P).any (P.mapsRec ·)) && (c.ifaces == (fn.params.toList ++ s.plain.varTypes P).any (P.ifacesRec ·)) && (c.mapsOut == P.mapsAmong fn.resultTypes.toList) && (c.loops == (fn.params.toList ++ s.plain.varTypes P).any (P.loopsFrom ·)) && (c.wideKeys == (fn.params.toList ++ s.plain.varTypes P ++ fn.resultTypes.toList).any (P.wideKeysFrom ·))) = true)
    (a7 : (s.vars.all (P.varReadable ·) && fn.resultTypes.all (fun t => P.readableRec t && decide (t < P.types.size)) && (c.ifacesOut == fn.resultTypes.toList.any (P.ifacesRec ·)) && (c.loopsOut == fn.resultTypes.toList.any (P.loopsFrom ·))) = true)
    (a8 : (c.plainKeys == P.plainKeys) = true) (a9 : (c.shortTexts.isNone && P.stopsHeard) = true) (a10 : P.mayEnter = true) (a11 : (c.lifted == P.liftsFinal) = true) (a12 : (P.make == some c.make) = true)
    (a13 : ((c.kinds == (if c.domain.isEmpty then [] else fn.params.toList.map fun t => match P.underlying t with | some (.int k) => some k | _ => none)) && (c.pinned == c.pinnedBy)) = true)
    (a14 : ((c.veiled == (fn.params.toList ++ s.plain.varTypes P ++ fn.resultTypes.toList).any (P.veiledRec ·)) && c.veiledFits P fn.params.toList (fn.params.toList ++ s.plain.varTypes P ++ fn.resultTypes.toList)) = true) : joinedFacts P f fn s c = true := by
  unfold joinedFacts
  simp only [Bool.and_eq_true] at a1 a6 a7 a9 a13 a14 ⊢
  obtain ⟨⟨⟨⟨⟨⟨⟨⟨b1, b2⟩, b3⟩, b4⟩, b5⟩, b6⟩, b7⟩, b8⟩, b9⟩ := a1
  obtain ⟨⟨⟨⟨c1, c2⟩, c3⟩, c4⟩, c5⟩ := a6
  obtain ⟨⟨⟨d1, d2⟩, d3⟩, d4⟩ := a7
  obtain ⟨e1, e2⟩ := a9
  obtain ⟨f1, f2⟩ := a13
  obtain ⟨g1, g2⟩ := a14
  exact ⟨⟨⟨⟨⟨⟨⟨⟨⟨⟨⟨⟨⟨⟨⟨⟨⟨⟨⟨⟨⟨⟨⟨⟨⟨⟨⟨⟨⟨⟨⟨b1, b2⟩, b3⟩, b4⟩, b5⟩, b6⟩, b7⟩, b8⟩, b9⟩, a2⟩, a3⟩, a4⟩, a5⟩, c1⟩, c2⟩, c3⟩, c4⟩, c5⟩, d1⟩, d2⟩, d3⟩, d4⟩, a8⟩, e1⟩, e2⟩, a10⟩, a11⟩, a12⟩, f1⟩, f2⟩, g1⟩, g2⟩
end Go.Proofs.YtocklkaddiomhaaGreatDoor
