/- What the cards of this seat rest on: the walks and plain laws, part 7. -/
import Derived.Test.YteondnhokgmakaaGreatDoorS3
import Derived.Test.YteondnhokgmakaaGreatDoorProg
import Derived.Test.YteondnhokgmakaaGreatDoorS2
import Derived.WalkKit
import Derived.LaidEql
import Derived.Stop.Asserts
import Derived.RowKitTokens
import Derived.Deep.RegionWith
import Derived.RegionTactic
import Derived.BigRegion
import Derived.ChangeAlike
import Derived.Deep.QuietTactic
import Derived.BigQuiet
import Derived.Test.YteondnhokgmakaaGreatDoorS5
import Derived.Below
import Derived.Deep.Draws
import Derived.Deep.AppendLies
import Derived.Maps.AppendAt
import Derived.OwnWalk
import Derived.Laws.BytesArg
import Derived.Laws.MakeOwn
import Derived.Laws.OwnMore
import Derived.Deep.OwnRows
import Derived.Tactics
import Derived.Lib.ConvBytes
import Derived.Laws.Slices
import Derived.KernelRfl
import Derived.RowKit3
import Derived.Deep.LoopGhost
import Derived.WideLaws
import Derived.Deep.DeepCutAuto
import Derived.Deep.CutBlock
import Derived.Deep.RegionHeld3
import Derived.Laws.Rows
import Derived.Lib.AppendStr
import Derived.ArgAppend
import Derived.Laws.IdiomCopy
import Derived.OrdersHeld
import Derived.Laws.BitsLemmas
import Derived.RowKit
import Derived.Test.YteondnhokgmakaaGreatDoorS1
import Derived.Test.YteondnhokgmakaaGreatDoorS6
import Derived.LaidHandle
import Derived.LaidLaws
import Derived.Lay


namespace Go.Proofs.YteondnhokgmakaaGreatDoor.E
open Go.RowKit Go.Proofs.YteondnhokgmakaaGreatDoorW.PrintWords Go.Proofs.YteondnhokgmakaaGreatDoorW.PrintLast
set_option linter.unusedVariables false
set_option linter.unusedSimpArgs false
def hC (a b c d : Int) (n : ByteArray) : Array Value := #[.int .u8 a, .int .u8 b, .int .u8 c, .int .u8 d, .string n]
theorem Blk.hids {w : World} {R : Nat} {T : TypeId} (h : Blk w R (hC 0 0 0 0 ⟨#[]⟩) T) :
    w.cell? ⟨R, 0, none⟩ = some (.int .u8 0) ∧ w.cell? ⟨R, 1, none⟩ = some (.int .u8 0) ∧ w.cell? ⟨R, 2, none⟩ = some (.int .u8 0) ∧ w.cell? ⟨R, 3, none⟩ = some (.int .u8 0) ∧ w.cell? ⟨R, 4, none⟩ = some (.string ⟨#[]⟩) ∧
    w.frozen? ⟨R, 0, none⟩ = false ∧ w.frozen? ⟨R, 1, none⟩ = false ∧ w.frozen? ⟨R, 2, none⟩ = false ∧ w.frozen? ⟨R, 3, none⟩ = false ∧ w.frozen? ⟨R, 4, none⟩ = false ∧
    w.setCell ⟨R, 0, none⟩ (.int .u8 0) = w ∧ w.setCell ⟨R, 1, none⟩ (.int .u8 0) = w ∧ w.setCell ⟨R, 2, none⟩ (.int .u8 0) = w ∧ w.setCell ⟨R, 3, none⟩ (.int .u8 0) = w ∧ w.setCell ⟨R, 4, none⟩ (.string ⟨#[]⟩) = w :=
  ⟨h.cell 0 _ rfl, h.cell 1 _ rfl, h.cell 2 _ rfl, h.cell 3 _ rfl, h.cell 4 _ rfl, h.free 0, h.free 1, h.free 2, h.free 3, h.free 4,
    setCell_id _ _ _ _ (h.cell 0 _ rfl), setCell_id _ _ _ _ (h.cell 1 _ rfl), setCell_id _ _ _ _ (h.cell 2 _ rfl), setCell_id _ _ _ _ (h.cell 3 _ rfl), setCell_id _ _ _ _ (h.cell 4 _ rfl)⟩
theorem Blk.five {w : World} {R : Nat} {T : TypeId} {a b c d : Int} {n : ByteArray} (h : Blk w R (hC a b c d n) T) :
    w.cell? ⟨R, 0, none⟩ = some (.int .u8 a) ∧ w.cell? ⟨R, 1, none⟩ = some (.int .u8 b) ∧ w.cell? ⟨R, 2, none⟩ = some (.int .u8 c) ∧ w.cell? ⟨R, 3, none⟩ = some (.int .u8 d) ∧ w.cell? ⟨R, 4, none⟩ = some (.string n) ∧
    w.frozen? ⟨R, 0, none⟩ = false ∧ w.frozen? ⟨R, 1, none⟩ = false ∧ w.frozen? ⟨R, 2, none⟩ = false ∧ w.frozen? ⟨R, 3, none⟩ = false ∧ w.frozen? ⟨R, 4, none⟩ = false :=
  ⟨h.cell 0 _ rfl, h.cell 1 _ rfl, h.cell 2 _ rfl, h.cell 3 _ rfl, h.cell 4 _ rfl, h.free 0, h.free 1, h.free 2, h.free 3, h.free 4⟩
theorem only2 (p : ByteArray) (hp : p.size ≤ 281474976710656) (W : World) (b : Nat) (hb : W.heap.size = b) :
    Calls Tryz.prog 80 #[.string p, .slice (some ⟨b, 0, none⟩) 2 2] (W.alloc (.cells #[.int .i64 2, .int .i64 1] 3)) fun e w' => e = .returned (.bool (onlyZ [2, 1] p.data.toList)) ∧ W.alloc (.cells #[.int .i64 2, .int .i64 1] 3) = w' := by
  subst hb
  exact only_any p [2, 1] W.heap.size 2 _ hp (by decide) (fun j hj => by
    rw [World.cell?_alloc_new]
    match j, hj with
    | 0, _ => rfl
    | 1, _ => rfl)
theorem pa_err (s : ByteArray) (a c : Int) (hs : s.size ≤ 281474976710656) (hr : paRes s = .inl (a, c)) (w : World) (hS : StdW w) :
    Calls Tryz.prog 48 #[.string s] w fun e w' => ∃ v, e = .returned (.tuple #[.agg #[.int .u8 0, .int .u8 0, .int .u8 0, .int .u8 0], v]) ∧ ErrIs w' v [(hostS, a)] c ∧ Below w.heap.size w w' := by
  have h := parseAddr_any s hs w hS
  rw [hr] at h
  exact h.mono (fun e w' ⟨hb, v, he, h⟩ => ⟨v, he, h, hb⟩)
theorem pa_ok (s : ByteArray) (l : List Int) (hs : s.size ≤ 281474976710656) (hr : paRes s = .inr l) (w : World) (hS : StdW w) :
    Calls Tryz.prog 48 #[.string s] w fun e w' => e = .returned (.tuple #[.agg #[.int .u8 (l.getD 0 0), .int .u8 (l.getD 1 0), .int .u8 (l.getD 2 0), .int .u8 (l.getD 3 0)], .nilIface]) ∧ Below w.heap.size w w' := by
  have h := parseAddr_any s hs w hS
  rw [hr] at h
  exact h.mono (fun e w' ⟨hb, _, he⟩ => ⟨he, hb⟩)
theorem pn_err (s : ByteArray) (a c : Int) (hs : s.size ≤ 281474976710656) (hr : pnRes s = .inl (a, c)) (w : World) (hS : StdW w) :
    Calls Tryz.prog 61 #[.string s] w fun e w' => ∃ v, e = .returned (.tuple #[.string ⟨#[]⟩, v]) ∧ ErrIs w' v [(hostS, a)] c ∧ Below w.heap.size w w' := by
  have h := parseName_any s hs w hS
  rw [hr] at h
  exact h.mono (fun e w' ⟨hb, v, he, h⟩ => ⟨v, he, h, hb⟩)
theorem pn_ok (s n : ByteArray) (hs : s.size ≤ 281474976710656) (hr : pnRes s = .inr n) (w : World) (hS : StdW w) :
    Calls Tryz.prog 61 #[.string s] w fun e w' => e = .returned (.tuple #[.string n, .nilIface]) ∧ Below w.heap.size w w' := by
  have h := parseName_any s hs w hS
  rw [hr] at h
  exact h.mono (fun e w' ⟨hb, he⟩ => ⟨he, hb⟩)
def hpRes (s : ByteArray) : (Int × Int) ⊕ (List Int × ByteArray) :=
  if 253 < s.size then .inl (253, 3) else if s.size = 0 then .inl (0, 63) else if onlyZ [2, 1] s.data.toList then (match paRes s with
    | .inl x => .inl x
    | .inr l => .inr (l, ⟨#[]⟩)) else (match pnRes s with
    | .inl x => .inl x
    | .inr n => .inr ([0, 0, 0, 0], n))
def HPPost (r : (Int × Int) ⊕ (List Int × ByteArray)) (w : World) (e : Ending) (w' : World) : Prop :=
  Below w.heap.size w w' ∧ match r with
    | .inl (a, c) => ∃ v, e = .returned (.tuple #[.agg #[.int .u8 0, .int .u8 0, .int .u8 0, .int .u8 0, .string ⟨#[]⟩], v]) ∧ ErrIs w' v [(hostS, a)] c
    | .inr (l, n) => e = .returned (.tuple #[.agg #[.int .u8 (l.getD 0 0), .int .u8 (l.getD 1 0), .int .u8 (l.getD 2 0), .int .u8 (l.getD 3 0), .string n], .nilIface])
set_option maxRecDepth 100000 in
set_option maxHeartbeats 4000000 in
theorem hparse_long (s : ByteArray) (hs : 253 < s.size) (hs2 : s.size ≤ 281474976710656) (w : World) :
    Calls Tryz.prog 57 #[.string s] w fun e w' => ∃ v, e = .returned (.tuple #[.agg #[.int .u8 0, .int .u8 0, .int .u8 0, .int .u8 0, .string ⟨#[]⟩], v]) ∧ ErrIs w' v [(hostS, 253)] 3 ∧ Below w.heap.size w w' := by
  have HE : ∀ W, ErrIs W (.iface 30 (.int .i64 3)) [] 3 := fun W => rfl
  have HW := Lib.hid (fun W => wrong_any 253 _ [] 3 W (HE W))
  clear HE
  have hs1 : (253 : Int) < (s.size : Int) := by omega
  go_enter Tryz.func57, Tryz.ntmps57
  go_wp2_with (first | (go_at_call 63; refine (HW.out _).mono ?_; rintro e w1 ⟨v, rfl, he, hb⟩; obtain ⟨c0, c1, c2, c3, c4, f0, f1, f2, f3, f4, s0, s1, s2, s3, s4⟩ := ((Blk.new w (hC 0 0 0 0 ⟨#[]⟩) 26).below hb).hids))
  refine bodyPost_ret (v := .tuple #[.agg #[.int .u8 0, .int .u8 0, .int .u8 0, .int .u8 0, .string ⟨#[]⟩], v]) (by simp [results, Tryz.results57, go_sem, c0, c1, c2, c3, c4]) rfl ⟨v, rfl, ?_, ?_⟩
  · exact he
  · exact below_then (below_alloc (Below.refl _ _) _) (below_alloc (Below.refl _ _) _).size hb
set_option maxRecDepth 100000 in
set_option maxHeartbeats 4000000 in
theorem hparse_empty (s : ByteArray) (hs : s.size = 0) (w : World) :
    Calls Tryz.prog 57 #[.string s] w fun e w' => ∃ v, e = .returned (.tuple #[.agg #[.int .u8 0, .int .u8 0, .int .u8 0, .int .u8 0, .string ⟨#[]⟩], v]) ∧ ErrIs w' v [(hostS, 0)] 63 ∧ Below w.heap.size w w' := by
  have HE : ∀ W, ErrIs W (.iface 30 (.int .i64 63)) [] 63 := fun W => rfl
  have HW := Lib.hid (fun W => wrong_any 0 _ [] 63 W (HE W))
  clear HE
  have hs1 : (s.size : Int) ≤ 253 := by omega
  have h1 : s.toList.isEmpty = true := by rw [size_zero]; simpa using hs
  go_enter Tryz.func57, Tryz.ntmps57
  go_wp2_with (first | (go_at_call 63; refine (HW.out _).mono ?_; rintro e w1 ⟨v, rfl, he, hb⟩; obtain ⟨c0, c1, c2, c3, c4, f0, f1, f2, f3, f4, s0, s1, s2, s3, s4⟩ := ((Blk.new w (hC 0 0 0 0 ⟨#[]⟩) 26).below hb).hids))
  refine bodyPost_ret (v := .tuple #[.agg #[.int .u8 0, .int .u8 0, .int .u8 0, .int .u8 0, .string ⟨#[]⟩], v]) (by simp [results, Tryz.results57, go_sem, c0, c1, c2, c3, c4]) rfl ⟨v, rfl, ?_, ?_⟩
  · exact he
  · exact below_then (below_alloc (Below.refl _ _) _) (below_alloc (Below.refl _ _) _).size hb
set_option maxRecDepth 100000 in
set_option maxHeartbeats 4000000 in
theorem hparse_addr_err (s : ByteArray) (a c : Int) (hs : s.size ≤ 253) (hs0 : s.size ≠ 0) (ho : onlyZ [2, 1] s.data.toList = true) (hr : paRes s = .inl (a, c)) (w : World) (hS : StdW w) :
    Calls Tryz.prog 57 #[.string s] w fun e w' => ∃ v, e = .returned (.tuple #[.agg #[.int .u8 0, .int .u8 0, .int .u8 0, .int .u8 0, .string ⟨#[]⟩], v]) ∧ ErrIs w' v [(hostS, a)] c ∧ Below w.heap.size w w' := by
  have HPA := Lib.hid (fun W h => pa_err s a c (by omega) hr W h)
  have HO := Lib.hid (only2 s (by omega))
  rw [ho] at HO
  have HS := Lib.hid hS
  have hs1 : (s.size : Int) ≤ 253 := by omega
  have h1 : s.toList.isEmpty = false := by rw [size_zero]; simpa using hs0
  clear hS hr ho
  go_enter Tryz.func57, Tryz.ntmps57
  go_wp2_with (first | (go_at_call 80; refine (HO.out _ _ (by simp)).mono ?_; rintro e w2 ⟨rfl, rfl⟩) | (go_at_call 48; refine (HPA.out _ (StdW.below HS.out (below_alloc (below_alloc (Below.refl _ _) _) _))).mono ?_; rintro e w1 ⟨v, rfl, he, hb⟩; have hz := ((Blk.new w (hC 0 0 0 0 ⟨#[]⟩) 26).old (.cells #[.int .i64 2, .int .i64 1] 3)).below hb; obtain ⟨c0, c1, c2, c3, c4, f0, f1, f2, f3, f4, s0, s1, s2, s3, s4⟩ := hz.hids; obtain ⟨d0, d1, d2, d3, d4, g0, g1, g2, g3, g4, t0, t1, t2, t3, t4⟩ := (hz.old (.cells #[.int .u8 0, .int .u8 0, .int .u8 0, .int .u8 0] 24)).hids; clear hz))
  refine bodyPost_ret (v := .tuple #[.agg #[.int .u8 0, .int .u8 0, .int .u8 0, .int .u8 0, .string ⟨#[]⟩], v]) (by simp [results, Tryz.results57, go_sem, c0, c1, c2, c3, c4, d0, d1, d2, d3, d4]) rfl ⟨v, rfl, ?_, ?_⟩
  · exact ErrIs.below (below_alloc (Below.refl _ _) _) he
  · exact below_alloc (below_then (below_alloc (below_alloc (Below.refl _ _) _) _) (below_alloc (below_alloc (Below.refl _ _) _) _).size hb) _
set_option maxRecDepth 100000 in
set_option maxHeartbeats 4000000 in
theorem hparse_addr_ok (s : ByteArray) (l : List Int) (hs : s.size ≤ 253) (hs0 : s.size ≠ 0) (ho : onlyZ [2, 1] s.data.toList = true) (hr : paRes s = .inr l) (w : World) (hS : StdW w) :
    Calls Tryz.prog 57 #[.string s] w fun e w' => e = .returned (.tuple #[.agg #[.int .u8 (l.getD 0 0), .int .u8 (l.getD 1 0), .int .u8 (l.getD 2 0), .int .u8 (l.getD 3 0), .string ⟨#[]⟩], .nilIface]) ∧ Below w.heap.size w w' := by
  have HPA := Lib.hid (fun W h => pa_ok s l (by omega) hr W h)
  have HO := Lib.hid (only2 s (by omega))
  rw [ho] at HO
  have HS := Lib.hid hS
  have hs1 : (s.size : Int) ≤ 253 := by omega
  have h1 : s.toList.isEmpty = false := by rw [size_zero]; simpa using hs0
  clear hS hr ho
  generalize l.getD 0 0 = l0 at HPA ⊢
  generalize l.getD 1 0 = l1 at HPA ⊢
  generalize l.getD 2 0 = l2 at HPA ⊢
  generalize l.getD 3 0 = l3 at HPA ⊢
  go_enter Tryz.func57, Tryz.ntmps57
  go_wp2_with (first | (go_at_call 80; refine (HO.out _ _ (by simp)).mono ?_; rintro e w2 ⟨rfl, rfl⟩) | (go_at_call 48; refine (HPA.out _ (StdW.below HS.out (below_alloc (below_alloc (Below.refl _ _) _) _))).mono ?_; rintro e w1 ⟨rfl, hb⟩; have hz := ((Blk.new w (hC 0 0 0 0 ⟨#[]⟩) 26).old (.cells #[.int .i64 2, .int .i64 1] 3)).below hb; have HZ := Lib.hid hz; have hlt := hz.lt; obtain ⟨c0, c1, c2, c3, c4, f0, f1, f2, f3, f4⟩ := hz.five; clear hz))
  obtain ⟨e0, e1, e2, e3, e4, -⟩ := (show Blk _ _ (hC l0 l1 l2 l3 ⟨#[]⟩) _ from ((((((HZ.out.set 0 (.int .u8 l0)).set 1 (.int .u8 l1)).set 2 (.int .u8 l2)).set 3 (.int .u8 l3)).set 4 (.string ⟨#[]⟩)).old (.cells #[.int .u8 l0, .int .u8 l1, .int .u8 l2, .int .u8 l3] 24))).five
  refine bodyPost_ret (v := .tuple #[.agg #[.int .u8 l0, .int .u8 l1, .int .u8 l2, .int .u8 l3, .string ⟨#[]⟩], .nilIface]) (by simp [results, Tryz.results57, go_sem, e0, e1, e2, e3, e4]) rfl ⟨rfl, ?_⟩
  repeat (refine Below.setCell ?_ (by first | exact Nat.le_refl _ | exact Nat.le_of_lt hlt) _)
  first
    | exact below_alloc (below_then (below_alloc (below_alloc (Below.refl _ _) _) _) (below_alloc (below_alloc (Below.refl _ _) _) _).size hb) _
    | (refine below_alloc ?_ _
       repeat (refine Below.setCell ?_ (by first | exact Nat.le_refl _ | exact Nat.le_of_lt hlt) _)
       exact below_then (below_alloc (below_alloc (Below.refl _ _) _) _) (below_alloc (below_alloc (Below.refl _ _) _) _).size hb)
set_option maxRecDepth 100000 in
set_option maxHeartbeats 4000000 in
theorem hparse_name_err (s : ByteArray) (a c : Int) (hs : s.size ≤ 253) (hs0 : s.size ≠ 0) (ho : onlyZ [2, 1] s.data.toList = false) (hr : pnRes s = .inl (a, c)) (w : World) (hS : StdW w) :
    Calls Tryz.prog 57 #[.string s] w fun e w' => ∃ v, e = .returned (.tuple #[.agg #[.int .u8 0, .int .u8 0, .int .u8 0, .int .u8 0, .string ⟨#[]⟩], v]) ∧ ErrIs w' v [(hostS, a)] c ∧ Below w.heap.size w w' := by
  have HPN := Lib.hid (fun W h => pn_err s a c (by omega) hr W h)
  have HO := Lib.hid (only2 s (by omega))
  rw [ho] at HO
  have HS := Lib.hid hS
  have hs1 : (s.size : Int) ≤ 253 := by omega
  have h1 : s.toList.isEmpty = false := by rw [size_zero]; simpa using hs0
  clear hS hr ho
  go_enter Tryz.func57, Tryz.ntmps57
  go_wp2_with (first | (go_at_call 80; refine (HO.out _ _ (by simp)).mono ?_; rintro e w2 ⟨rfl, rfl⟩) | (go_at_call 61; refine (HPN.out _ (StdW.below HS.out (below_alloc (below_alloc (Below.refl _ _) _) _))).mono ?_; rintro e w1 ⟨v, rfl, he, hb⟩; have hz := ((Blk.new w (hC 0 0 0 0 ⟨#[]⟩) 26).old (.cells #[.int .i64 2, .int .i64 1] 3)).below hb; obtain ⟨c0, c1, c2, c3, c4, f0, f1, f2, f3, f4, s0, s1, s2, s3, s4⟩ := hz.hids; clear hz))
  refine bodyPost_ret (v := .tuple #[.agg #[.int .u8 0, .int .u8 0, .int .u8 0, .int .u8 0, .string ⟨#[]⟩], v]) (by simp [results, Tryz.results57, go_sem, c0, c1, c2, c3, c4]) rfl ⟨v, rfl, ?_, ?_⟩
  · exact he
  · exact below_then (below_alloc (below_alloc (Below.refl _ _) _) _) (below_alloc (below_alloc (Below.refl _ _) _) _).size hb
set_option maxRecDepth 100000 in
set_option maxHeartbeats 4000000 in
theorem hparse_name_ok (s n : ByteArray) (hs : s.size ≤ 253) (hs0 : s.size ≠ 0) (ho : onlyZ [2, 1] s.data.toList = false) (hr : pnRes s = .inr n) (w : World) (hS : StdW w) :
    Calls Tryz.prog 57 #[.string s] w fun e w' => e = .returned (.tuple #[.agg #[.int .u8 0, .int .u8 0, .int .u8 0, .int .u8 0, .string n], .nilIface]) ∧ Below w.heap.size w w' := by
  have HPN := Lib.hid (fun W h => pn_ok s n (by omega) hr W h)
  have HO := Lib.hid (only2 s (by omega))
  rw [ho] at HO
  have HS := Lib.hid hS
  have hs1 : (s.size : Int) ≤ 253 := by omega
  have h1 : s.toList.isEmpty = false := by rw [size_zero]; simpa using hs0
  clear hS hr ho
  go_enter Tryz.func57, Tryz.ntmps57
  go_wp2_with (first | (go_at_call 80; refine (HO.out _ _ (by simp)).mono ?_; rintro e w2 ⟨rfl, rfl⟩) | (go_at_call 61; refine (HPN.out _ (StdW.below HS.out (below_alloc (below_alloc (Below.refl _ _) _) _))).mono ?_; rintro e w1 ⟨rfl, hb⟩; have hz := ((Blk.new w (hC 0 0 0 0 ⟨#[]⟩) 26).old (.cells #[.int .i64 2, .int .i64 1] 3)).below hb; have hlt := hz.lt; obtain ⟨c0, c1, c2, c3, c4, f0, f1, f2, f3, f4, s0, s1, s2, s3, s4⟩ := hz.hids; clear hz s4))
  refine bodyPost_ret (v := .tuple #[.agg #[.int .u8 0, .int .u8 0, .int .u8 0, .int .u8 0, .string n], .nilIface]) (by simp [results, Tryz.results57, go_sem, c0, c1, c2, c3, c4]) rfl ⟨rfl, ?_⟩
  repeat (refine Below.setCell ?_ (by first | exact Nat.le_refl _ | exact Nat.le_of_lt hlt) _)
  exact below_then (below_alloc (below_alloc (Below.refl _ _) _) _) (below_alloc (below_alloc (Below.refl _ _) _) _).size hb
theorem hparse_any (s : ByteArray) (hs : s.size ≤ 281474976710656) (w : World) (hS : StdW w) : Calls Tryz.prog 57 #[.string s] w (HPPost (hpRes s) w) := by
  unfold hpRes
  by_cases h1 : 253 < s.size
  · rw [if_pos h1]
    exact (hparse_long s h1 hs w).mono (fun e w' ⟨v, he, h, hb⟩ => ⟨hb, v, he, h⟩)
  rw [if_neg h1]
  by_cases h2 : s.size = 0
  · rw [if_pos h2]
    exact (hparse_empty s h2 w).mono (fun e w' ⟨v, he, h, hb⟩ => ⟨hb, v, he, h⟩)
  rw [if_neg h2]
  cases ho : onlyZ [2, 1] s.data.toList
  · rw [if_neg (by simp)]
    cases hr : pnRes s with
    | inl x =>
      obtain ⟨a, c⟩ := x
      exact (hparse_name_err s a c (by omega) h2 ho hr w hS).mono (fun e w' ⟨v, he, h, hb⟩ => ⟨hb, v, he, h⟩)
    | inr n => exact (hparse_name_ok s n (by omega) h2 ho hr w hS).mono (fun e w' ⟨he, hb⟩ => ⟨hb, he⟩)
  · rw [if_pos rfl]
    cases hr : paRes s with
    | inl x =>
      obtain ⟨a, c⟩ := x
      exact (hparse_addr_err s a c (by omega) h2 ho hr w hS).mono (fun e w' ⟨v, he, h, hb⟩ => ⟨hb, v, he, h⟩)
    | inr l => exact (hparse_addr_ok s l (by omega) h2 ho hr w hS).mono (fun e w' ⟨he, hb⟩ => ⟨hb, he⟩)
def ppoRes (s : ByteArray) : Option Int := if numOk s.data.toList 65535 = true ∧ atoiV s.data.toList ≠ 0 then some (atoiV s.data.toList) else none
def PPPost (r : Option Int) (w : World) (e : Ending) (w' : World) : Prop :=
  Below w.heap.size w w' ∧ match r with
    | none => ∃ v, e = .returned (.tuple #[.int .i64 0, v]) ∧ ErrIs w' v [(hostS, 0)] 62
    | some n => e = .returned (.tuple #[.int .i64 n, .nilIface])
set_option maxRecDepth 100000 in
set_option maxHeartbeats 4000000 in
theorem hport_any (s : ByteArray) (hs : s.size ≤ 281474976710656) (w : World) (hS : StdW w) : Calls Tryz.prog 65 #[.string s] w (PPPost (ppoRes s) w) := by
  have HN := Lib.hid (fun W h => hnumber_any s 65535 hs W h)
  have HS := Lib.hid hS
  have HE : ∀ W, ErrIs W (.iface 30 (.int .i64 62)) [] 62 := fun W => rfl
  have HW := Lib.hid (fun W => wrong_any 0 _ [] 62 W (HE W))
  clear HE hS
  unfold ppoRes
  generalize atoiV s.data.toList = v at HN
  cases hok : numOk s.data.toList 65535
  · rw [hok] at HN
    clear hok
    rw [if_neg (by simp)]
    go_enter Tryz.func65, Tryz.ntmps65
    go_wp2_with (first | (go_at_call 75; refine (HN.out _ HS.out).mono ?_; rintro e w2 ⟨rfl, hb2⟩) | (go_at_call 63; refine (HW.out _).mono ?_; rintro e w3 ⟨u, rfl, he, hb3⟩))
    go_ret2
    exact ⟨below_then hb2 hb2.size hb3, u, rfl, he⟩
  · rw [hok] at HN
    clear hok
    by_cases hv : v = 0
    · subst hv
      rw [if_neg (by simp)]
      go_enter Tryz.func65, Tryz.ntmps65
      go_wp2_with (first | (go_at_call 75; refine (HN.out _ HS.out).mono ?_; rintro e w2 ⟨rfl, hb2⟩) | (go_at_call 63; refine (HW.out _).mono ?_; rintro e w3 ⟨u, rfl, he, hb3⟩))
      go_ret2
      exact ⟨below_then hb2 hb2.size hb3, u, rfl, he⟩
    · rw [if_pos ⟨rfl, hv⟩]
      have hv' : (v == 0) = false := beq_eq_false_iff_ne.2 hv
      clear hv
      go_enter Tryz.func65, Tryz.ntmps65
      go_wp2_with (first | (go_at_call 75; refine (HN.out _ HS.out).mono ?_; rintro e w2 ⟨rfl, hb2⟩) | (go_at_call 63; refine (HW.out _).mono ?_; rintro e w3 ⟨u, rfl, he, hb3⟩))
      go_ret2
      exact ⟨hb2, rfl⟩
end Go.Proofs.YteondnhokgmakaaGreatDoor.E


namespace Go.Proofs.YteondnhokgmakaaGreatDoor.E
open Go.RowKit Go.Extern.Stop Go.Stop Go.Extern
set_option linter.unusedVariables false
set_option linter.unusedSimpArgs false
theorem As.valueOf27 (t : Addr) (w : World) : (ReflectliteValue.unpack (.iface 104 (.pointer (some t)))).run Tryz.prog w
    = .ok (.agg #[.pointer (some ⟨10, 104, none⟩), .pointer (some ⟨w.heap.size, 0, none⟩), .int .u64 150]) (w.alloc (.cells #[.pointer (some t)] 104)) := by kernel_rfl
theorem As.type27 (a : Addr) (w : World) : (ReflectliteValue.methodAny (ReflectliteValue.valueError "reflectlite.Value.Type" 0) (fun t _ _ _ => ReflectliteType.toType t) #[.agg #[.pointer (some ⟨10, 104, none⟩), .pointer (some a), .int .u64 150]]).run Tryz.prog w
    = .ok (.iface 148 (.agg #[.pointer (some ⟨10, 104, none⟩)])) w := by kernel_rfl
theorem As.methodKind (h : Value) (w : World) : (Go.method 343 148 (.agg #[h]) "Kind").run Tryz.prog w = .ok (162, h) w := by kernel_rfl
theorem As.kind27 (w : World) : ((ReflectliteType.abiMethod fun t => (fun a : Nat => Value.int IntKind.u8 (a : Int)) <$> Rtype.kind t) #[.pointer (some ⟨10, 104, none⟩)]).run Tryz.prog w = .ok (.int .u8 22) w := by kernel_rfl
theorem As.kind25 (w : World) : ((ReflectliteType.abiMethod fun t => (fun a : Nat => Value.int IntKind.u8 (a : Int)) <$> Rtype.kind t) #[.pointer (some ⟨10, 102, none⟩)]).run Tryz.prog w = .ok (.int .u8 22) w := by kernel_rfl
theorem rlm (z : Sem Value) (f : TypeId → Addr → Nat → Nat → Sem Value) (v : Value) :
    ReflectliteValue.method z f #[v] = (do match ← ReflectliteValue.parts v with | none => z | some (t, a, fl) => f t a fl (fl % 32)) := rfl
theorem As.parts27 (a : Addr) (w : World) : (ReflectliteValue.parts (.agg #[.pointer (some ⟨10, 104, none⟩), .pointer (some a), .int .u64 150])).run Tryz.prog w = .ok (some (104, a, 150)) w := by kernel_rfl
theorem As.isNil27 (a p : Addr) (W : World) (ha : W.cell? a = some (.pointer (some p))) :
    (ReflectliteValue.method (ReflectliteValue.valueError "reflectlite.Value.IsNil" 0) ReflectliteValue.isNil #[.agg #[.pointer (some ⟨10, 104, none⟩), .pointer (some a), .int .u64 150]]).run Tryz.prog W = .ok (.bool false) W := by
  rw [rlm]
  simp only [Sem.run_bind, As.parts27, Result.andThen]
  simp [ReflectliteValue.isNil, loadVar, isAgg, underlying, Tryz.underlying104, ha, Result.andThen]
theorem As.methodElem (h : Value) (w : World) : (Go.method 343 148 (.agg #[h]) "Elem").run Tryz.prog w = .ok (175, .agg #[h]) w := by kernel_rfl
theorem As.methodImplements (h : Value) (w : World) : (Go.method 343 148 (.agg #[h]) "Implements").run Tryz.prog w = .ok (176, .agg #[h]) w := by kernel_rfl
theorem As.methodAssignableTo (h : Value) (w : World) : (Go.method 343 148 (.agg #[h]) "AssignableTo").run Tryz.prog w = .ok (173, .agg #[h]) w := by kernel_rfl
theorem As.elem27 (w : World) : (ReflectliteType.method ReflectliteType.elem #[.agg #[.pointer (some ⟨10, 104, none⟩)]]).run Tryz.prog w = .ok (.iface 148 (.agg #[.pointer (some ⟨10, 102, none⟩)])) w := by kernel_rfl
theorem As.implements25 (w : World) : (ReflectliteType.relation "Implements" ReflectliteType.implements_ #[.agg #[.pointer (some ⟨10, 102, none⟩)], .iface 148 (.agg #[.pointer (some ⟨10, 56, none⟩)])]).run Tryz.prog w = .ok (.bool true) w := by kernel_rfl
theorem As.typeOf25 (v : Value) (w : World) : (ReflectliteType.typeOf #[.iface 102 v]).run Tryz.prog w = .ok (.iface 148 (.agg #[.pointer (some ⟨10, 102, none⟩)])) w := by kernel_rfl
theorem As.assignable25 (w : World) : (ReflectliteType.relation "AssignableTo" ReflectliteType.assignableTo #[.agg #[.pointer (some ⟨10, 102, none⟩)], .iface 148 (.agg #[.pointer (some ⟨10, 102, none⟩)])]).run Tryz.prog w = .ok (.bool true) w := by kernel_rfl
theorem As.valueOf25 (e : Addr) (w : World) : (ReflectliteValue.unpack (.iface 102 (.pointer (some e)))).run Tryz.prog w
    = .ok (.agg #[.pointer (some ⟨10, 102, none⟩), .pointer (some ⟨w.heap.size, 0, none⟩), .int .u64 150]) (w.alloc (.cells #[.pointer (some e)] 102)) := by kernel_rfl
theorem As.elemOf27 (w : World) : (Rtype.elem? 104).run Tryz.prog w = .ok (some 102) w := by kernel_rfl
theorem As.mk25 (p : Addr) (w : World) : (ReflectliteValue.mk 102 p ReflectliteValue.flagAddr).run Tryz.prog w = .ok (.agg #[.pointer (some ⟨10, 102, none⟩), .pointer (some p), .int .u64 406]) w := by kernel_rfl
theorem As.elemV27 (a p : Addr) (W : World) (ha : W.cell? a = some (.pointer (some p))) :
    (ReflectliteValue.method (ReflectliteValue.valueError "reflectlite.Value.Elem" 0) ReflectliteValue.elem #[.agg #[.pointer (some ⟨10, 104, none⟩), .pointer (some a), .int .u64 150]]).run Tryz.prog W
      = .ok (.agg #[.pointer (some ⟨10, 102, none⟩), .pointer (some p), .int .u64 406]) W := by
  rw [rlm]
  simp only [Sem.run_bind, As.parts27, Result.andThen]
  simp [ReflectliteValue.elem, loadVar, isAgg, underlying, Tryz.underlying104, ha, Result.andThen, As.elemOf27, As.mk25]
theorem rls (v x : Value) : ReflectliteValue.set #[v, x] = (do
    let (some (dst, a, fl), some (src, b, _)) := (← ReflectliteValue.parts v, ← ReflectliteValue.parts x)
      | unsupported (.noEntry "extern/(internal/reflectlite.Value).Set.zeroValue")
    if fl / ReflectliteValue.flagAddr % 2 == 0 then unsupported (.noEntry "extern/(internal/reflectlite.Value).Set.unaddressable")
    let val ← loadVar src b
    if ← Rtype.directlyAssignable dst src then storeVar dst a val
    else if ← Rtype.implements dst src then
      if (← Rtype.kind src) == 20 then
        match val with
        | .nilIface => unsupported (.noEntry "extern/reflectlite: a nil value of one interface type handed on as a value of another")
        | _ => storeVar dst a val
      else storeVar dst a (.iface src val)
    else panicString ("reflectlite.Set: value of type " ++ (← Rtype.spelt src) ++ " is not assignable to type " ++ (← Rtype.spelt dst))
    pure (.tuple #[])) := rfl
theorem As.parts25a (a : Addr) (w : World) : (ReflectliteValue.parts (.agg #[.pointer (some ⟨10, 102, none⟩), .pointer (some a), .int .u64 406])).run Tryz.prog w = .ok (some (102, a, 406)) w := by kernel_rfl
theorem As.parts25 (a : Addr) (w : World) : (ReflectliteValue.parts (.agg #[.pointer (some ⟨10, 102, none⟩), .pointer (some a), .int .u64 150])).run Tryz.prog w = .ok (some (102, a, 150)) w := by kernel_rfl
theorem As.direct25 (w : World) : (Rtype.directlyAssignable 102 102).run Tryz.prog w = .ok true w := by kernel_rfl
theorem As.set25 (ta b e : Addr) (old : Value) (W : World) (hb : W.cell? b = some (.pointer (some e))) (ht : W.cell? ta = some old) (hf : W.frozen? ta = false) :
    (ReflectliteValue.set #[.agg #[.pointer (some ⟨10, 102, none⟩), .pointer (some ta), .int .u64 406], .agg #[.pointer (some ⟨10, 102, none⟩), .pointer (some b), .int .u64 150]]).run Tryz.prog W
      = .ok (.tuple #[]) (W.setCell ta (.pointer (some e))) := by
  rw [rls]
  simp only [Sem.run_bind, As.parts25a, As.parts25, Result.andThen]
  simp [ReflectliteValue.flagAddr, loadVar, isAgg, underlying, Tryz.underlying102, hb, Result.andThen, As.direct25, storeVar, Value.cells, storeCells, Addr.add]
  rw [run_store Tryz.prog W ta _ _ (by rfl)]
  simp [ht, hf]
set_option maxHeartbeats 4000000 in
theorem as_hit (e t : Addr) (old : Value) (w : World) (hg : w.cell? ⟨0, 0, none⟩ = some (.iface 148 (.agg #[.pointer (some ⟨10, 56, none⟩)]))) (ht0 : w.cell? t = some old) (hf0 : w.frozen? t = false) :
    Calls Tryz.prog 66 #[.iface 102 (.pointer (some e)), .iface 104 (.pointer (some t))] w fun ev w' => ev = .returned (.bool true) ∧ w' = ((((w.alloc (.cells #[.pointer (some t)] 104)).alloc (.cells #[.pointer (some ⟨10, 104, none⟩), .pointer (some ⟨w.heap.size, 0, none⟩), .int .u64 150] 127)).alloc (.cells #[.pointer (some ⟨10, 104, none⟩), .pointer (some ⟨w.heap.size, 0, none⟩), .int .u64 150] 127)).alloc (.cells #[.pointer (some e)] 102)).setCell t (.pointer (some e)) := by
  have h6 := @run_callFunc_extern Tryz.prog 86 _ (fun args => ReflectliteValue.unpack (args.getD 0 (.tuple #[]))) Tryz.func86 (by kernel_rfl) (by kernel_rfl) (by kernel_rfl) (by kernel_rfl)
  have h7 := @run_callFunc_extern Tryz.prog 87 _ (ReflectliteValue.methodAny (ReflectliteValue.valueError "reflectlite.Value.Type" 0) (fun t _ _ _ => ReflectliteType.toType t)) Tryz.func87 (by kernel_rfl) (by kernel_rfl) (by kernel_rfl) (by kernel_rfl)
  have h8 := @run_callFunc_extern Tryz.prog 88 _ (ReflectliteValue.method (ReflectliteValue.valueError "reflectlite.Value.IsNil" 0) ReflectliteValue.isNil) Tryz.func88 (by kernel_rfl) (by kernel_rfl) (by kernel_rfl) (by kernel_rfl)
  have h27 := @run_callFunc_extern Tryz.prog 162 _ (ReflectliteType.abiMethod fun t => do pure (.int .u8 (← Rtype.kind t))) Tryz.func162 (by kernel_rfl) (by kernel_rfl) (by kernel_rfl) (by kernel_rfl)
  have h37 := @run_callFunc_extern Tryz.prog 175 _ (ReflectliteType.method ReflectliteType.elem) Tryz.func175 (by kernel_rfl) (by kernel_rfl) (by kernel_rfl) (by kernel_rfl)
  have h38 := @run_callFunc_extern Tryz.prog 176 _ (ReflectliteType.relation "Implements" ReflectliteType.implements_) Tryz.func176 (by kernel_rfl) (by kernel_rfl) (by kernel_rfl) (by kernel_rfl)
  have h10 := @run_callFunc_extern Tryz.prog 103 _ ReflectliteType.typeOf Tryz.func103 (by kernel_rfl) (by kernel_rfl) (by kernel_rfl) (by kernel_rfl)
  have h35 := @run_callFunc_extern Tryz.prog 173 _ (ReflectliteType.relation "AssignableTo" ReflectliteType.assignableTo) Tryz.func173 (by kernel_rfl) (by kernel_rfl) (by kernel_rfl) (by kernel_rfl)
  have h11 := @run_callFunc_extern Tryz.prog 104 _ (ReflectliteValue.method (ReflectliteValue.valueError "reflectlite.Value.Elem" 0) ReflectliteValue.elem) Tryz.func104 (by kernel_rfl) (by kernel_rfl) (by kernel_rfl) (by kernel_rfl)
  have h12 := @run_callFunc_extern Tryz.prog 105 _ ReflectliteValue.set Tryz.func105 (by kernel_rfl) (by kernel_rfl) (by kernel_rfl) (by kernel_rfl)
  have tO := As.typeOf25
  have mA := As.methodAssignableTo
  have a25 := As.assignable25
  have v25 := As.valueOf25
  have f6 := As.valueOf27
  have f7 := As.type27
  have mK := As.methodKind
  have mE := As.methodElem
  have mI := As.methodImplements
  have k27 := As.kind27
  have k25 := As.kind25
  have e27 := As.elem27
  have i25 := As.implements25
  have n8 := As.isNil27 ⟨w.heap.size, 0, none⟩ t ((w.alloc (.cells #[.pointer (some t)] 104)).alloc (.cells #[.pointer (some ⟨10, 104, none⟩), .pointer (some ⟨w.heap.size, 0, none⟩), .int .u64 150] 127)) (by simp)
  have hlt : 0 < w.heap.size := World.block_lt_of_cell? _ _ hg
  have hg2 : ((w.alloc (.cells #[.pointer (some t)] 104)).alloc (.cells #[.pointer (some ⟨10, 104, none⟩), .pointer (some ⟨w.heap.size, 0, none⟩), .int .u64 150] 127)).cell? ⟨0, 0, none⟩ = some (.iface 148 (.agg #[.pointer (some ⟨10, 56, none⟩)])) := by
    rw [World.cell?_alloc_lt _ _ ⟨0, 0, none⟩ (by simp), World.cell?_alloc_lt _ _ ⟨0, 0, none⟩ hlt]; exact hg
  have htl : t.block < w.heap.size := by
    rcases Nat.lt_or_ge t.block w.heap.size with h | h
    · exact h
    · simp [World.cell?, Array.getElem?_eq_none h] at ht0
  have el := As.elemV27 ⟨w.heap.size, 0, none⟩ t (((w.alloc (.cells #[.pointer (some t)] 104)).alloc (.cells #[.pointer (some ⟨10, 104, none⟩), .pointer (some ⟨w.heap.size, 0, none⟩), .int .u64 150] 127)).alloc (.cells #[.pointer (some ⟨10, 104, none⟩), .pointer (some ⟨w.heap.size, 0, none⟩), .int .u64 150] 127)) (by rw [World.cell?_alloc_lt _ _ ⟨w.heap.size, 0, none⟩ (by simp; omega)]; simp)
  have st := As.set25 t ⟨w.heap.size + 1 + 1 + 1, 0, none⟩ e old ((((w.alloc (.cells #[.pointer (some t)] 104)).alloc (.cells #[.pointer (some ⟨10, 104, none⟩), .pointer (some ⟨w.heap.size, 0, none⟩), .int .u64 150] 127)).alloc (.cells #[.pointer (some ⟨10, 104, none⟩), .pointer (some ⟨w.heap.size, 0, none⟩), .int .u64 150] 127)).alloc (.cells #[.pointer (some e)] 102))
    (by rw [World.cell?_alloc_at _ _ _ _ (by simp)]; rfl)
    (by rw [World.cell?_alloc_lt _ _ t (by simp; omega), World.cell?_alloc_lt _ _ t (by simp; omega), World.cell?_alloc_lt _ _ t (by simp; omega), World.cell?_alloc_lt _ _ t htl]; exact ht0)
    (by rw [World.frozen?_alloc_old _ _ t (by simp; omega), World.frozen?_alloc_old _ _ t (by simp; omega), World.frozen?_alloc_old _ _ t (by simp; omega), World.frozen?_alloc_old _ _ t (Nat.ne_of_lt htl)]; exact hf0)
  go_enter Tryz.func66, Tryz.ntmps66
  go_wp2
  refine wp_loop_rounds 1 ?_
  rw [rounds_succ]
  go_wp2
  go_ret
  exact ⟨rfl, rfl⟩
def EtW (w : World) : Prop := w.cell? ⟨0, 0, none⟩ = some (.iface 148 (.agg #[.pointer (some ⟨10, 56, none⟩)]))
theorem EtW.below {w w' : World} (h : EtW w) (hb : Below w.heap.size w w') : EtW w' := (hb.cell (World.block_lt_of_cell? _ _ h)).trans h
theorem as_fault (b t : Nat) (w : World) (hg : EtW w) (ht : w.cell? ⟨t, 0, none⟩ = some (.pointer none)) (hf : w.frozen? ⟨t, 0, none⟩ = false) :
    Calls Tryz.prog 66 #[.iface 102 (.pointer (some ⟨b, 0, none⟩)), .iface 104 (.pointer (some ⟨t, 0, none⟩))] w fun e w' => e = .returned (.bool true) ∧ w'.cell? ⟨t, 0, none⟩ = some (.pointer (some ⟨b, 0, none⟩)) ∧ Below t w w' := by
  refine (as_hit ⟨b, 0, none⟩ ⟨t, 0, none⟩ (.pointer none) w hg ht hf).mono ?_
  rintro e w' ⟨rfl, rfl⟩
  have hl : t < w.heap.size := World.block_lt_of_cell? _ _ ht
  refine ⟨rfl, ?_, ?_⟩
  · refine World.cell?_setCell_same _ _ _ (u := .pointer none) ?_
    rw [World.cell?_alloc_lt _ _ _ (by simp; omega), World.cell?_alloc_lt _ _ _ (by simp; omega), World.cell?_alloc_lt _ _ _ (by simp; omega), World.cell?_alloc_lt _ _ _ hl]; exact ht
  · refine Below.setCell (p := ⟨t, 0, none⟩) ?_ (show t ≤ t from Nat.le_refl _) _
    exact ((((Below.refl _ _).alloc (Nat.le_of_lt hl) _).alloc (by simp; omega) _).alloc (by simp; omega) _).alloc (by simp; omega) _
end Go.Proofs.YteondnhokgmakaaGreatDoor.E


namespace Go.Proofs.YteondnhokgmakaaGreatDoor.E
open Go.RowKit Go.Proofs.YteondnhokgmakaaGreatDoorW.PrintWords Go.Proofs.YteondnhokgmakaaGreatDoorW.PrintLast
set_option linter.unusedVariables false
set_option linter.unusedSimpArgs false
def dC (a b c d : Int) (n : ByteArray) (po : Int) : Array Value := #[.int .u8 a, .int .u8 b, .int .u8 c, .int .u8 d, .string n, .int .i64 po]
theorem Blk.dids {w : World} {R : Nat} {T : TypeId} (h : Blk w R (dC 0 0 0 0 ⟨#[]⟩ 0) T) :
    w.cell? ⟨R, 0, none⟩ = some (.int .u8 0) ∧ w.cell? ⟨R, 1, none⟩ = some (.int .u8 0) ∧ w.cell? ⟨R, 2, none⟩ = some (.int .u8 0) ∧ w.cell? ⟨R, 3, none⟩ = some (.int .u8 0) ∧ w.cell? ⟨R, 4, none⟩ = some (.string ⟨#[]⟩) ∧ w.cell? ⟨R, 5, none⟩ = some (.int .i64 0) ∧
    w.frozen? ⟨R, 0, none⟩ = false ∧ w.frozen? ⟨R, 1, none⟩ = false ∧ w.frozen? ⟨R, 2, none⟩ = false ∧ w.frozen? ⟨R, 3, none⟩ = false ∧ w.frozen? ⟨R, 4, none⟩ = false ∧ w.frozen? ⟨R, 5, none⟩ = false ∧
    w.setCell ⟨R, 0, none⟩ (.int .u8 0) = w ∧ w.setCell ⟨R, 1, none⟩ (.int .u8 0) = w ∧ w.setCell ⟨R, 2, none⟩ (.int .u8 0) = w ∧ w.setCell ⟨R, 3, none⟩ (.int .u8 0) = w ∧ w.setCell ⟨R, 4, none⟩ (.string ⟨#[]⟩) = w ∧ w.setCell ⟨R, 5, none⟩ (.int .i64 0) = w :=
  ⟨h.cell 0 _ rfl, h.cell 1 _ rfl, h.cell 2 _ rfl, h.cell 3 _ rfl, h.cell 4 _ rfl, h.cell 5 _ rfl, h.free 0, h.free 1, h.free 2, h.free 3, h.free 4, h.free 5,
    setCell_id _ _ _ _ (h.cell 0 _ rfl), setCell_id _ _ _ _ (h.cell 1 _ rfl), setCell_id _ _ _ _ (h.cell 2 _ rfl), setCell_id _ _ _ _ (h.cell 3 _ rfl), setCell_id _ _ _ _ (h.cell 4 _ rfl), setCell_id _ _ _ _ (h.cell 5 _ rfl)⟩
def zDest : Value := .agg #[.int .u8 0, .int .u8 0, .int .u8 0, .int .u8 0, .string ⟨#[]⟩, .int .i64 0]
set_option maxRecDepth 100000 in
set_option maxHeartbeats 8000000 in
theorem pdest_port (s : ByteArray) (hs : s.size ≤ 259) (i : Nat) (hi : i < s.size) (a b c d : Int) (n : ByteArray) (co : Int) (HL : ∀ W, StdW W → Calls Tryz.prog 64 #[.string s, .int .u8 58] W fun e w' => e = .returned (.int .i64 i) ∧ Below W.heap.size W w')
    (HP : ∀ W, StdW W → Calls Tryz.prog 57 #[.string (s.extract 0 i)] W fun e w' => e = .returned (.tuple #[.agg #[.int .u8 a, .int .u8 b, .int .u8 c, .int .u8 d, .string n], .nilIface]) ∧ Below W.heap.size W w')
    (HQ : ∀ W, StdW W → Calls Tryz.prog 65 #[.string (s.extract (i + 1) s.size)] W fun e w' => ∃ v, e = .returned (.tuple #[.int .i64 0, v]) ∧ ErrIs w' v [(hostS, 0)] co ∧ Below W.heap.size W w') (w : World) (hS : StdW w) (hG : EtW w) :
    Calls Tryz.prog 36 #[.string s] w fun e w' => ∃ v, e = .returned (.tuple #[zDest, v]) ∧ ErrIs w' v [(hostS, (i : Int) + 1), (hostS, 0)] co ∧ Below w.heap.size w w' := by
  have HL' := Lib.hid HL
  have HP' := Lib.hid HP
  have HQ' := Lib.hid HQ
  have HS := Lib.hid hS
  have HG := Lib.hid hG
  have HW := Lib.hid (fun W v r c h => wrong_any ((i : Int) + 1) v r c W h)
  clear HL HP HQ hS hG
  unfold zDest
  have hs1 : (s.size : Int) ≤ 259 := by omega
  have hi0 : (0 : Int) ≤ (i : Int) := Int.natCast_nonneg _
  have hi1 : (i : Int) + 1 ≤ (s.size : Int) := by omega
  have hi2 : (i : Int) ≤ (s.size : Int) := by omega
  go_enter Tryz.func36, Tryz.ntmps36
  go_wp2_with (first | (go_at_call 64; refine (HL'.out _ (StdW.below HS.out (below_alloc (Below.refl _ _) _))).mono ?_; rintro e w2 ⟨rfl, hb2⟩; have HB2 : Hid (Below w.heap.size w w2) := Lib.hid (below_then (below_alloc (Below.refl _ _) _) (below_alloc (Below.refl _ _) _).size hb2); have HZ2 := Lib.hid ((Blk.new w (dC 0 0 0 0 ⟨#[]⟩ 0) 28).below hb2); clear hb2) | (go_at_call 57; refine (HP'.out _ (StdW.below HS.out HB2.out)).mono ?_; rintro e w3 ⟨rfl, hb3⟩; have HB3 : Hid (Below w.heap.size w (w3.alloc (.cells #[.int .u8 a, .int .u8 b, .int .u8 c, .int .u8 d, .string n] 26))) := Lib.hid (below_alloc (below_then HB2.out HB2.out.size hb3) _); have HZ3 := Lib.hid ((HZ2.out.below hb3).old (.cells #[.int .u8 a, .int .u8 b, .int .u8 c, .int .u8 d, .string n] 26)); have HH3 := Lib.hid (Blk.new w3 (hC a b c d n) 26); clear hb3) | (go_at_call 65; refine (HQ'.out _ (StdW.below HS.out HB3.out)).mono ?_; rintro e w4 ⟨v, rfl, he, hb4⟩; have HB4 : Hid (Below w.heap.size w w4) := Lib.hid (below_then HB3.out HB3.out.size hb4); have HZ4 := Lib.hid (HZ3.out.below hb4); obtain ⟨eb, eu, rfl, -⟩ := id he; have HER := Lib.hid he; clear he hb4) | (go_at_call 66; refine (as_fault eb w4.heap.size _ (EtW.below HG.out (below_alloc HB4.out _)) (by simp) (by simp)).mono ?_; rintro e w5 ⟨rfl, hc5, hb5⟩; have HB45 : Hid (Below w4.heap.size w4 w5) := Lib.hid ((below_alloc (Below.refl _ _) _).trans hb5); clear hb5) | (go_at_call 63; refine (HW.out _ _ _ _ (ErrIs.below HB45.out HER.out)).mono ?_; rintro e w6 ⟨v6, rfl, he6, hb6⟩; obtain ⟨c0, c1, c2, c3, c4, c5, f0, f1, f2, f3, f4, f5, s0, s1, s2, s3, s4, s5⟩ := ((HZ4.out.below HB45.out).below hb6).dids))
  refine bodyPost_ret (v := .tuple #[.agg #[.int .u8 0, .int .u8 0, .int .u8 0, .int .u8 0, .string ⟨#[]⟩, .int .i64 0], v6]) (by simp [results, Tryz.results36, go_sem, c0, c1, c2, c3, c4, c5]) rfl ⟨v6, rfl, ?_, ?_⟩
  · exact he6
  · exact below_then (below_then HB4.out HB4.out.size HB45.out) (below_then HB4.out HB4.out.size HB45.out).size hb6
end Go.Proofs.YteondnhokgmakaaGreatDoor.E


namespace Go.Proofs.YteondnhokgmakaaGreatDoor.E
open Go.RowKit Go.Proofs.YteondnhokgmakaaGreatDoorW.PrintWords Go.Proofs.YteondnhokgmakaaGreatDoorW.PrintLast
set_option linter.unusedVariables false
set_option linter.unusedSimpArgs false
def bad (k : Int) (l0 l1 : ByteArray) (a0 a1 c : Int) : Array Value := #[.int .i64 k, .string l0, .string l1, .string ⟨#[]⟩, .string ⟨#[]⟩, .int .i64 a0, .int .i64 a1, .int .i64 0, .int .i64 0, .int .i64 c]
set_option maxRecDepth 100000 in
set_option maxHeartbeats 8000000 in
theorem of_one (v : Value) (l : ByteArray) (a c : Int) (w : World) (h : ErrIs w v [(l, a)] c) :
    Calls Tryz.prog 81 #[v] w fun e w' => e = .returned (.tuple #[.agg (bad 1 l ⟨#[]⟩ a 0 c), .bool true]) ∧ Below w.heap.size w w' := by
  obtain ⟨b, u, rfl, h0, h1, h2, hu⟩ := h
  obtain rfl : u = .iface 30 (.int .i64 c) := hu
  have hbl : b < w.heap.size := World.block_lt_of_cell? _ _ h0
  have ta0 : ∀ (x : Value) (W : World), (Instr.typeAssert (.iface 102 x) 56 30 true).run Tryz.prog W = .ok (.tuple #[.int .i64 0, .bool false]) W := fun x W => by kernel_rfl
  have ta1 : ∀ (x : Value) (W : World), (Instr.typeAssert (.iface 102 x) 56 102 true).run Tryz.prog W = .ok (.tuple #[x, .bool true]) W := fun x W => by kernel_rfl
  have ta2 : ∀ (x : Value) (W : World), (Instr.typeAssert (.iface 30 x) 56 30 true).run Tryz.prog W = .ok (.tuple #[x, .bool true]) W := fun x W => by kernel_rfl
  go_enter Tryz.func81, Tryz.ntmps81
  go_wp2
  refine wp_loop_rounds 2 ?_
  rw [rounds_succ]
  go_wp2
  go_region
  go_wp2
  rw [rounds_succ]
  go_wp2
  go_region
  go_wp2
  unfold bad
  refine bodyPost_ret (v := .tuple #[.agg #[.int .i64 1, .string l, .string ⟨#[]⟩, .string ⟨#[]⟩, .string ⟨#[]⟩, .int .i64 a, .int .i64 0, .int .i64 0, .int .i64 0, .int .i64 c], .bool true]) (by simp [results, Tryz.results81, go_sem]) rfl ⟨rfl, ?_⟩
  repeat (first | exact Below.refl _ _ | apply below_drew1 | apply below_alloc)
set_option maxRecDepth 100000 in
set_option maxHeartbeats 8000000 in
theorem of_two (v : Value) (l l' : ByteArray) (a a' c : Int) (w : World) (h : ErrIs w v [(l, a), (l', a')] c) :
    Calls Tryz.prog 81 #[v] w fun e w' => e = .returned (.tuple #[.agg (bad 2 l l' a a' c), .bool true]) ∧ Below w.heap.size w w' := by
  obtain ⟨b, u, rfl, h0, h1, h2, hu⟩ := h
  obtain ⟨b', u', rfl, h0', h1', h2', hu'⟩ := hu
  obtain rfl : u' = .iface 30 (.int .i64 c) := hu'
  have hbl : b < w.heap.size := World.block_lt_of_cell? _ _ h0
  have hbl' : b' < w.heap.size := World.block_lt_of_cell? _ _ h0'
  have ta0 : ∀ (x : Value) (W : World), (Instr.typeAssert (.iface 102 x) 56 30 true).run Tryz.prog W = .ok (.tuple #[.int .i64 0, .bool false]) W := fun x W => by kernel_rfl
  have ta1 : ∀ (x : Value) (W : World), (Instr.typeAssert (.iface 102 x) 56 102 true).run Tryz.prog W = .ok (.tuple #[x, .bool true]) W := fun x W => by kernel_rfl
  have ta2 : ∀ (x : Value) (W : World), (Instr.typeAssert (.iface 30 x) 56 30 true).run Tryz.prog W = .ok (.tuple #[x, .bool true]) W := fun x W => by kernel_rfl
  go_enter Tryz.func81, Tryz.ntmps81
  go_wp2
  refine wp_loop_rounds 3 ?_
  rw [rounds_succ]
  go_wp2
  go_region
  go_wp2
  rw [rounds_succ]
  go_wp2
  go_region
  go_wp2
  rw [rounds_succ]
  go_wp2
  go_region
  go_wp2
  unfold bad
  refine bodyPost_ret (v := .tuple #[.agg #[.int .i64 2, .string l, .string l', .string ⟨#[]⟩, .string ⟨#[]⟩, .int .i64 a, .int .i64 a', .int .i64 0, .int .i64 0, .int .i64 c], .bool true]) (by simp [results, Tryz.results81, go_sem]) rfl ⟨rfl, ?_⟩
  repeat (first | exact Below.refl _ _ | apply below_drew1 | apply below_alloc)
set_option maxRecDepth 100000 in
set_option maxHeartbeats 8000000 in
theorem wrap_one (l l' : ByteArray) (a a' c : Int) (w : World) :
    Calls Tryz.prog 60 #[.string l, .int .i64 a, .agg (bad 1 l' ⟨#[]⟩ a' 0 c)] w fun e w' => e = .returned (.agg (bad 2 l l' a a' c)) ∧ Below w.heap.size w w' := by
  unfold bad
  go_enter Tryz.func60, Tryz.ntmps60
  go_wp2
  refine wp_loop_rounds 2 ?_
  rw [rounds_succ]
  go_wp2
  go_region
  go_wp2
  rw [rounds_succ]
  go_wp2
  refine bodyPost_ret (v := .agg #[.int .i64 2, .string l, .string l', .string ⟨#[]⟩, .string ⟨#[]⟩, .int .i64 a, .int .i64 a', .int .i64 0, .int .i64 0, .int .i64 c]) (by simp [results, Tryz.results60, go_sem]) rfl ⟨rfl, ?_⟩
  repeat (first | exact Below.refl _ _ | apply below_drew1 | apply below_alloc)
set_option maxRecDepth 100000 in
set_option maxHeartbeats 8000000 in
theorem is_same (v : Value) (k : Int) (l0 l1 : ByteArray) (a0 a1 c : Int)
    (H1 : ∀ W : World, (Op.equalIn 9999 76 (.agg #[.string l0, .string l1, .string ⟨#[]⟩, .string ⟨#[]⟩]) (.agg #[.string l0, .string l1, .string ⟨#[]⟩, .string ⟨#[]⟩])).run Tryz.prog W = .ok true W)
    (H2 : ∀ W : World, (Op.equalIn 9999 77 (.agg #[.int .i64 a0, .int .i64 a1, .int .i64 0, .int .i64 0]) (.agg #[.int .i64 a0, .int .i64 a1, .int .i64 0, .int .i64 0])).run Tryz.prog W = .ok true W) (w : World)
    (HO : ∀ W, Below w.heap.size w W → Calls Tryz.prog 81 #[v] W fun e w' => e = .returned (.tuple #[.agg (bad k l0 l1 a0 a1 c), .bool true]) ∧ Below W.heap.size W w') :
    Calls Tryz.prog 58 #[v, .agg (bad k l0 l1 a0 a1 c)] w fun e w' => e = .returned (.bool true) ∧ Below w.heap.size w w' := by
  have XO := Lib.hid HO
  clear HO
  unfold bad at *
  go_enter Tryz.func58, Tryz.ntmps58
  go_wp2_with (go_at_call 81; refine (XO.out _ (below_alloc (Below.refl _ _) _)).mono ?_; rintro e w1 ⟨rfl, hb⟩; have c0 := boxCell hb 0 (.int .i64 k) rfl; have c1 := boxCell hb 1 (.string l0) rfl; have c2 := boxCell hb 2 (.string l1) rfl; have c3 := boxCell hb 3 (.string ⟨#[]⟩) rfl; have c4 := boxCell hb 4 (.string ⟨#[]⟩) rfl; have c5 := boxCell hb 5 (.int .i64 a0) rfl; have c6 := boxCell hb 6 (.int .i64 a1) rfl; have c7 := boxCell hb 7 (.int .i64 0) rfl; have c8 := boxCell hb 8 (.int .i64 0) rfl; have c9 := boxCell hb 9 (.int .i64 c) rfl; have hlt : w.heap.size < w1.heap.size := (by have := hb.size; simp at this; omega); have HB := Lib.hid (below_then (below_alloc (Below.refl w.heap.size w) _) (below_alloc (Below.refl w.heap.size w) _).size hb); clear hb)
  go_ret
  exact ⟨rfl, below_alloc HB.out _⟩
end Go.Proofs.YteondnhokgmakaaGreatDoor.E


namespace Go.Proofs.YteondnhokgmakaaGreatDoor.E
open Go.RowKit Go.Proofs.YteondnhokgmakaaGreatDoorW.PrintWords Go.Proofs.YteondnhokgmakaaGreatDoorW.PrintLast Go.Proofs.YteondnhokgmakaaGreatDoor.XC
set_option linter.unusedVariables false
set_option linter.unusedSimpArgs false
def exT1 : ByteArray := ⟨#[69, 120, 97, 109, 112, 108, 101, 46, 67, 79, 77]⟩
def exT2 : ByteArray := ⟨#[49, 48, 46, 48, 46, 48, 46, 50, 53, 54]⟩
def exT3 : ByteArray := ⟨#[97, 46, 98, 58, 48]⟩
def exN1 : ByteArray := ⟨#[101, 120, 97, 109, 112, 108, 101, 46, 99, 111, 109]⟩
theorem hp1 : hpRes exT1 = .inr ([0, 0, 0, 0], exN1) := by kernel_rfl
theorem hp2 : hpRes exT2 = .inl (7, 60) := by kernel_rfl
theorem hp3 : hpRes (exT3.extract 0 3) = .inr ([0, 0, 0, 0], ⟨#[97, 46, 98]⟩) := by kernel_rfl
theorem po3 : ppoRes (exT3.extract 4 5) = none := by kernel_rfl
theorem co3 : Lib.lastIndexByte exT3 58 = 3 := by kernel_rfl
theorem in3 : host_In.f 10 1 0 0 10 0 0 0 8 = some true := by kernel_rfl
theorem un3 : host_Under.f ⟨#[97, 98]⟩ ⟨#[98]⟩ = some false := by kernel_rfl
theorem w_parse1 (w : World) (hS : StdW w) : Calls Tryz.prog 57 #[.string exT1] w fun e w' => e = .returned (.tuple #[.agg #[.int .u8 0, .int .u8 0, .int .u8 0, .int .u8 0, .string exN1], .nilIface]) ∧ Below w.heap.size w w' := by
  have h := hparse_any exT1 (by decide) w hS
  rw [hp1] at h
  exact h.mono (fun e w' ⟨hb, he⟩ => ⟨he, hb⟩)
theorem w_parse2 (w : World) (hS : StdW w) : Calls Tryz.prog 57 #[.string exT2] w fun e w' => ∃ v, e = .returned (.tuple #[.agg #[.int .u8 0, .int .u8 0, .int .u8 0, .int .u8 0, .string ⟨#[]⟩], v]) ∧ ErrIs w' v [(hostS, 7)] 60 ∧ Below w.heap.size w w' := by
  have h := hparse_any exT2 (by decide) w hS
  rw [hp2] at h
  exact h.mono (fun e w' ⟨hb, v, he, hi⟩ => ⟨v, he, hi, hb⟩)
theorem lastIx (s : ByteArray) (hs : s.size ≤ 281474976710656) (W : World) : Calls Tryz.prog 64 #[.string s, .int .u8 58] W fun e w' => e = .returned (.int .i64 (Lib.lastIndexByte s 58)) ∧ Below W.heap.size W w' :=
  (Tryz.strings_LastIndexByte s 58 (by omega) W).mono (fun e w' ⟨he, hw⟩ => ⟨he, hw ▸ Below.refl _ _⟩)
theorem w_dest3 (w : World) (hS : StdW w) (hG : EtW w) : Calls Tryz.prog 36 #[.string exT3] w fun e w' => ∃ v, e = .returned (.tuple #[zDest, v]) ∧ ErrIs w' v [(hostS, 4), (hostS, 0)] 62 ∧ Below w.heap.size w w' := by
  refine pdest_port exT3 (by decide) 3 (by decide) 0 0 0 0 ⟨#[97, 46, 98]⟩ 62 (fun W _ => ?_) (fun W h => ?_) (fun W h => ?_) w hS hG
  · have := lastIx exT3 (by decide) W
    rw [co3] at this
    exact this
  · have h := hparse_any (exT3.extract 0 3) (by decide) W h
    rw [hp3] at h
    exact h.mono (fun e w' ⟨hb, he⟩ => ⟨he, hb⟩)
  · have h := hport_any (exT3.extract 4 5) (by decide) W h
    rw [po3] at h
    exact h.mono (fun e w' ⟨hb, v, he, hi⟩ => ⟨v, he, hi, hb⟩)
theorem bad_w1 (w : World) : Calls Tryz.prog 59 #[.string hostS, .int .i64 7, .int .i64 60] w fun e w' => e = .returned (.agg (bad 1 hostS ⟨#[]⟩ 7 0 60)) ∧ Below w.heap.size w w' := fail_any hostS 7 60 w
theorem bad_w2 (w : World) : Calls Tryz.prog 59 #[.string hostS, .int .i64 0, .int .i64 62] w fun e w' => e = .returned (.agg (bad 1 hostS ⟨#[]⟩ 0 0 62)) ∧ Below w.heap.size w w' := fail_any hostS 0 62 w
theorem is_w1 (v : Value) (w0 w : World) (h : ErrIs w0 v [(hostS, 7)] 60) (hb : Below w0.heap.size w0 w) : Calls Tryz.prog 58 #[v, .agg (bad 1 hostS ⟨#[]⟩ 7 0 60)] w fun e w' => e = .returned (.bool true) ∧ Below w.heap.size w w' :=
  is_same v 1 hostS ⟨#[]⟩ 7 0 60 (fun W => by kernel_rfl) (fun W => by kernel_rfl) w (fun W hW => of_one v hostS 7 60 W (ErrIs.below hW (ErrIs.below hb h)))
theorem is_w2 (v : Value) (w0 w : World) (h : ErrIs w0 v [(hostS, 4), (hostS, 0)] 62) (hb : Below w0.heap.size w0 w) : Calls Tryz.prog 58 #[v, .agg (bad 2 hostS hostS 4 0 62)] w fun e w' => e = .returned (.bool true) ∧ Below w.heap.size w w' :=
  is_same v 2 hostS hostS 4 0 62 (fun W => by kernel_rfl) (fun W => by kernel_rfl) w (fun W hW => of_two v hostS hostS 4 0 62 W (ErrIs.below hW (ErrIs.below hb h)))
set_option maxRecDepth 100000 in
set_option maxHeartbeats 8000000 in
theorem works06_any (w : World) (hS : StdW w) (hG : EtW w) : Calls Tryz.prog 29 #[] w fun e w' => e = .returned (.bool true) ∧ Below w.heap.size w w' := by
  have HS := Lib.hid hS
  have HG := Lib.hid hG
  have P1 := Lib.hid w_parse1
  have P2 := Lib.hid w_parse2
  have P3 := Lib.hid w_dest3
  have B1 := Lib.hid bad_w1
  have B2 := Lib.hid bad_w2
  have W1 := Lib.hid (fun W => wrap_one hostS hostS 4 0 62 W)
  have I1 := Lib.hid is_w1
  have I2 := Lib.hid is_w2
  have IN := Lib.hid (fun W => host_In.calls 10 1 0 0 10 0 0 0 8 true W in3)
  have UN := Lib.hid (fun W => host_Under.calls ⟨#[97, 98]⟩ ⟨#[98]⟩ false W un3)
  clear hS hG
  unfold bad hostS exT1 exT2 exT3 exN1 zDest at *
  go_enter Tryz.func29, Tryz.ntmps29
  go_wp2_with (go_at_call 57; (with_reducible refine (P1.out _ HS.out).mono ?_); rintro e w1 ⟨rfl, hb1⟩; have HB1 : Hid (Below w.heap.size w (w1.alloc (.cells #[.int .u8 0, .int .u8 0, .int .u8 0, .int .u8 0, .string ⟨#[101, 120, 97, 109, 112, 108, 101, 46, 99, 111, 109]⟩] 26))) := Lib.hid (below_alloc hb1 _); have HT1 := Lib.hid (Blk.new w1 (hC 0 0 0 0 ⟨#[101, 120, 97, 109, 112, 108, 101, 46, 99, 111, 109]⟩) 26); clear hb1)
  go_wp2_with (go_at_call 57; (with_reducible refine (P2.out _ (StdW.below HS.out HB1.out)).mono ?_); rintro e w2 ⟨v2, rfl, he2, hb2⟩; have HB2 : Hid (Below w.heap.size w w2) := Lib.hid (below_then HB1.out HB1.out.size hb2); have HE2 := Lib.hid he2; have HT2 := Lib.hid ((HT1.out.below hb2).old (.cells #[.int .u8 0, .int .u8 0, .int .u8 0, .int .u8 0, .string ⟨#[]⟩] 26)); clear hb2 he2)
  go_wp2_with (go_at_call 36; (with_reducible refine (P3.out _ (StdW.below HS.out (below_alloc HB2.out _)) (EtW.below HG.out (below_alloc HB2.out _))).mono ?_); rintro e w3 ⟨v3, rfl, he3, hb3⟩; have HB3 : Hid (Below w.heap.size w w3) := Lib.hid (below_then (below_alloc HB2.out _) (below_alloc HB2.out _).size hb3); have HE3 := Lib.hid he3; have HB23 : Hid (Below w2.heap.size w2 w3) := Lib.hid (below_then (below_alloc (Below.refl _ _) _) (below_alloc (Below.refl _ _) _).size hb3); have HT3 := HT2.out.below hb3; have hlt := HT3.lt; obtain ⟨c0, c1, c2, c3, c4, -⟩ := HT3.five; clear hb3 he3 HT3)
  go_wp2_with (go_at_call 59; (with_reducible refine (B1.out _).mono ?_); rintro e w4 ⟨rfl, hb4⟩; have HB4 : Hid (Below w.heap.size w w4) := Lib.hid (below_then (below_alloc HB3.out _) (below_alloc HB3.out _).size hb4); have HB34 : Hid (Below w3.heap.size w3 w4) := Lib.hid (below_then (below_alloc (Below.refl _ _) _) (below_alloc (Below.refl _ _) _).size hb4); clear hb4)
  go_wp2_with (go_at_call 58; (with_reducible refine (I1.out _ _ _ HE2.out (below_then HB23.out HB23.out.size HB34.out)).mono ?_); rintro e w5 ⟨rfl, hb5⟩; have HB5 : Hid (Below w.heap.size w w5) := Lib.hid (below_then HB4.out HB4.out.size hb5); have HB35 : Hid (Below w3.heap.size w3 w5) := Lib.hid (below_then HB34.out HB34.out.size hb5); clear hb5)
  go_wp2_with (go_at_call 59; (with_reducible refine (B2.out _).mono ?_); rintro e w6 ⟨rfl, hb6⟩; have HB6 : Hid (Below w.heap.size w w6) := Lib.hid (below_then HB5.out HB5.out.size hb6); have HB36 : Hid (Below w3.heap.size w3 w6) := Lib.hid (below_then HB35.out HB35.out.size hb6); clear hb6)
  go_wp2_with (go_at_call 60; (with_reducible refine (W1.out _).mono ?_); rintro e w7 ⟨rfl, hb7⟩; have HB7 : Hid (Below w.heap.size w w7) := Lib.hid (below_then HB6.out HB6.out.size hb7); have HB37 : Hid (Below w3.heap.size w3 w7) := Lib.hid (below_then HB36.out HB36.out.size hb7); clear hb7)
  go_wp2_with (go_at_call 58; (with_reducible refine (I2.out _ _ _ HE3.out HB37.out).mono ?_); rintro e w8 ⟨rfl, hb8⟩; have HB8 : Hid (Below w.heap.size w w8) := Lib.hid (below_then HB7.out HB7.out.size hb8); clear hb8)
  go_wp2_with (go_at_call 25; (with_reducible refine (IN.out _).mono ?_); rintro e w9 ⟨rfl, hb9⟩; have HB9 : Hid (Below w.heap.size w w9) := Lib.hid (below_then HB8.out HB8.out.size hb9); clear hb9)
  go_wp2_with (go_at_call 27; (with_reducible refine (UN.out _).mono ?_); rintro e w10 ⟨rfl, hb10⟩; have HB10 : Hid (Below w.heap.size w w10) := Lib.hid (below_then HB9.out HB9.out.size hb10.below); clear hb10)
  go_ret
  exact ⟨rfl, HB10.out⟩
end Go.Proofs.YteondnhokgmakaaGreatDoor.E


namespace Go.Proofs.YteondnhokgmakaaGreatDoor
open Go.RowKit Go.Proofs.YteondnhokgmakaaGreatDoorW.PrintWords Go.Proofs.YteondnhokgmakaaGreatDoorW.PrintLast Go.Proofs.YteondnhokgmakaaGreatDoor.XC Go.Proofs.YteondnhokgmakaaGreatDoor.XG Go.Proofs.YteondnhokgmakaaGreatDoor.E
set_option linter.unusedVariables false
set_option linter.unusedSimpArgs false
structure StdE (w : World) : Prop where
  std : StdW w
  et : EtW w
theorem StdE.below {w w' : World} (h : StdE w) (hb : Below w.heap.size w w') : StdE w' := ⟨StdW.below h.std hb, EtW.below h.et hb⟩
namespace EE
def okB (a b c d : Int) (n : ByteArray) : Prop := (0 ≤ a ∧ a ≤ 255) ∧ (0 ≤ b ∧ b ≤ 255) ∧ (0 ≤ c ∧ c ≤ 255) ∧ (0 ≤ d ∧ d ≤ 255) ∧ n.size ≤ 281474976710656
instance (a b c d : Int) (n : ByteArray) : Decidable (okB a b c d n) := by unfold okB; exact inferInstance
def refIn.f (a b c d e f g h bi : Int) : Option Bool := if okB a b c d ⟨#[]⟩ ∧ okB e f g h ⟨#[]⟩ then some (inB a b c d e f g h bi) else none
theorem refIn.calls (a b c d e f g h bi : Int) (r : Bool) (w : World) (hS_ : StdE w) (hh : refIn.f a b c d e f g h bi = some r) :
    Calls Tryz.prog 26 #[.agg #[.int .u8 a, .int .u8 b, .int .u8 c, .int .u8 d], .agg #[.int .u8 e, .int .u8 f, .int .u8 g, .int .u8 h], .int .i64 bi] w fun e w' => e = .returned (.bool r) ∧ Below w.heap.size w w' := by
  unfold refIn.f at hh
  split at hh
  · rename_i hc
    obtain rfl := Option.some.inj hh
    exact sallyportref06_In.calls 50 a b c d e f g h bi _ w hS_.std (refIn_f 50 (by decide) a b c d e f g h bi hc.1.1 hc.1.2.1 hc.1.2.2.1 hc.1.2.2.2.1 hc.2.1 hc.2.2.1 hc.2.2.2.1 hc.2.2.2.2.1)
  · cases hh
def hCheck.f (a b c d : Int) (n : ByteArray) : Option Bool := if okB a b c d n then some (checkB a b c d n) else none
theorem hCheck.calls (a b c d : Int) (n : ByteArray) (r : Bool) (w : World) (hS_ : StdE w) (h : hCheck.f a b c d n = some r) :
    Calls Tryz.prog 30 #[.agg #[.int .u8 a, .int .u8 b, .int .u8 c, .int .u8 d, .string n]] w fun e w' => e = .returned (.bool r) ∧ Below w.heap.size w w' := by
  unfold hCheck.f at h
  split at h
  · rename_i hc
    obtain rfl := Option.some.inj h
    exact E.hCheck.calls a b c d n _ w hS_.std (by unfold E.hCheck.f; rw [if_pos hc.2.2.2.2])
  · cases h
def refCheck.f (a b c d : Int) (n : ByteArray) : Option Bool := if okB a b c d n then some (checkB a b c d n) else none
theorem refCheck.calls (a b c d : Int) (n : ByteArray) (r : Bool) (w : World) (hS_ : StdE w) (h : refCheck.f a b c d n = some r) :
    Calls Tryz.prog 31 #[.agg #[.int .u8 a, .int .u8 b, .int .u8 c, .int .u8 d, .string n]] w fun e w' => e = .returned (.bool r) ∧ Below w.heap.size w w' := by
  unfold refCheck.f at h
  split at h
  · rename_i hc
    obtain rfl := Option.some.inj h
    exact E.refCheck.calls a b c d n _ w hS_.std (by unfold E.refCheck.f; rw [if_pos hc.2.2.2.2])
  · cases h
def hPrint.f (a b c d : Int) (n : ByteArray) : Option ByteArray := if okB a b c d n then some (printB a b c d n) else none
theorem hPrint.calls (a b c d : Int) (n : ByteArray) (r : ByteArray) (w : World) (hS_ : StdE w) (h : hPrint.f a b c d n = some r) :
    Calls Tryz.prog 32 #[.agg #[.int .u8 a, .int .u8 b, .int .u8 c, .int .u8 d, .string n]] w fun e w' => e = .returned (.string r) ∧ Below w.heap.size w w' := by
  unfold hPrint.f at h
  split at h
  · rename_i hc
    obtain rfl := Option.some.inj h
    exact E.hPrint.calls a b c d n _ w hS_.std (by unfold E.hPrint.f; exact if_pos hc)
  · cases h
def refPrint.f (a b c d : Int) (n : ByteArray) : Option ByteArray := if okB a b c d n then some (printB a b c d n) else none
theorem refPrint.calls (a b c d : Int) (n : ByteArray) (r : ByteArray) (w : World) (hS_ : StdE w) (h : refPrint.f a b c d n = some r) :
    Calls Tryz.prog 33 #[.agg #[.int .u8 a, .int .u8 b, .int .u8 c, .int .u8 d, .string n]] w fun e w' => e = .returned (.string r) ∧ Below w.heap.size w w' := by
  unfold refPrint.f at h
  split at h
  · rename_i hc
    obtain rfl := Option.some.inj h
    exact sallyportref06_Print.calls 50 a b c d n _ w hS_.std (refPrint_f 50 (by decide) a b c d n hc.1 hc.2.1 hc.2.2.1 hc.2.2.2.1 hc.2.2.2.2)
  · cases h
def hPrintDest.f (a b c d : Int) (n : ByteArray) (po : Int) : Option ByteArray := if okB a b c d n then some (printDestB a b c d n po) else none
theorem hPrintDest.calls (a b c d : Int) (n : ByteArray) (po : Int) (r : ByteArray) (w : World) (hS_ : StdE w) (h : hPrintDest.f a b c d n po = some r) :
    Calls Tryz.prog 34 #[.agg #[.int .u8 a, .int .u8 b, .int .u8 c, .int .u8 d, .string n, .int .i64 po]] w fun e w' => e = .returned (.string r) ∧ Below w.heap.size w w' := by
  unfold hPrintDest.f at h
  split at h
  · rename_i hc
    obtain rfl := Option.some.inj h
    exact E.hPrintDest.calls a b c d n po _ w hS_.std (by unfold E.hPrintDest.f; exact if_pos hc)
  · cases h
def refPrintDest.f (a b c d : Int) (n : ByteArray) (po : Int) : Option ByteArray := if okB a b c d n then some (printDestB a b c d n po) else none
theorem refPrintDest.calls (a b c d : Int) (n : ByteArray) (po : Int) (r : ByteArray) (w : World) (hS_ : StdE w) (h : refPrintDest.f a b c d n po = some r) :
    Calls Tryz.prog 35 #[.agg #[.int .u8 a, .int .u8 b, .int .u8 c, .int .u8 d, .string n, .int .i64 po]] w fun e w' => e = .returned (.string r) ∧ Below w.heap.size w w' := by
  unfold refPrintDest.f at h
  split at h
  · rename_i hc
    obtain rfl := Option.some.inj h
    exact sallyportref06_PrintDest.calls 50 a b c d n po _ w hS_.std (refPrintDest_f 50 (by decide) a b c d n po hc.1 hc.2.1 hc.2.2.1 hc.2.2.2.1 hc.2.2.2.2)
  · cases h
def works06.f : Option Bool := some true
theorem works06.calls (r : Bool) (w : World) (hS_ : StdE w) (h : works06.f = some r) :
    Calls Tryz.prog 29 #[] w fun e w' => e = .returned (.bool r) ∧ Below w.heap.size w w' := by
  obtain rfl := Option.some.inj h
  exact works06_any w hS_.std hS_.et
end EE
end Go.Proofs.YteondnhokgmakaaGreatDoor


namespace Go.Proofs.YteondnhokgmakaaGreatDoor.XNets
open Go.Proofs.YteondnhokgmakaaGreatDoor.XC Go.Proofs.YteondnhokgmakaaGreatDoor.XG
open Go.RowKit Go.Proofs.YteondnhokgmakaaGreatDoorW.PrintWords Go.Proofs.YteondnhokgmakaaGreatDoorW.PrintLast Go.Proofs.YteondnhokgmakaaGreatDoorW.PrintMore
attribute [local go_sem] max2_int min2_int max_two min_two max_three min_three max_four min_four
set_option linter.unusedVariables false
set_option linter.unusedSimpArgs false
end Go.Proofs.YteondnhokgmakaaGreatDoor.XNets


namespace Go.Proofs.YteondnhokgmakaaGreatDoor.XNets
open Go.Proofs.YteondnhokgmakaaGreatDoor.XC Go.Proofs.YteondnhokgmakaaGreatDoor.XG
open Go.RowKit Go.Proofs.YteondnhokgmakaaGreatDoorW.PrintWords Go.Proofs.YteondnhokgmakaaGreatDoorW.PrintLast Go.Proofs.YteondnhokgmakaaGreatDoorW.PrintMore
attribute [local go_sem] max2_int min2_int max_two min_two max_three min_three max_four min_four
set_option linter.unusedVariables false
set_option linter.unusedSimpArgs false
def sallyportlaw06_HostNets.f (a0_0 : Int) (a0_1 : Int) (a0_2 : Int) (a0_3 : Int) (a1_0 : Int) (a1_1 : Int) (a1_2 : Int) (a1_3 : Int) (a2 : Int) (a3 : ByteArray) (a4 : ByteArray) : Option (Bool) := (XC.host_In.f a0_0 a0_1 a0_2 a0_3 a1_0 a1_1 a1_2 a1_3 a2).bind fun t103 => ((EE.refIn.f a0_0 a0_1 a0_2 a0_3 a1_0 a1_1 a1_2 a1_3 a2).bind fun t104 => (if (t103 == t104) = true then ((XC.host_Under.f a3 a4).bind fun t105 => ((XG.sallyportref06_Under.f a3 a4).bind fun t106 => (if (t105 == t106) = true then ((EE.works06.f).bind fun t107 => (some t107)) else (some false)))) else (some false)))
def sallyportlaw06_HostNets.T1 : Bool × List (List Nat × List Nat) := (true, [([], []), ([], []), ([], []), ([0, 1, 2], [0, 1, 2]), ([], []), ([], []), ([], []), ([4, 5, 6, 3], [4, 5, 6]), ([3, 7], [3, 7]), ([8, 7], [8]), ([9], [9]), ([9], [9]), ([10, 11, 9, 9], [9, 10, 11]), ([9], [9]), ([9], [9]), ([13, 14, 12, 9], [9, 13, 14]), ([12, 15, 9], [9, 12, 15]), ([9, 16], [9, 16]), ([17, 15], [17]), ([18, 18], [18]), ([18, 19], [18, 19]), ([20, 19, 0, 1, 2, 3, 4, 5, 6, 7, 8, 9, 10, 11, 12, 13, 14, 15, 16, 17, 18, 19, 20], [20])])
def sallyportlaw06_HostNets.B1 : List Nat := [0, 0, 0, 7, 0, 0, 0, 127, 255, 511, 1023, 1023, 4095, 1023, 1023, 32767, 65535, 131071, 262143, 524287, 1048575, 2097151]
theorem sallyportlaw06_HostNets.tab1 : rtab .any (opsOf Tryz.f6 1) = sallyportlaw06_HostNets.T1 := by kernel_rfl
theorem sallyportlaw06_HostNets.bits1 : waitsOk sallyportlaw06_HostNets.T1.2 sallyportlaw06_HostNets.B1 = true := by kernel_rfl
set_option maxHeartbeats 8000000 in
set_option maxRecDepth 100000 in
theorem sallyportlaw06_HostNets.calls (a0_0 : Int) (a0_1 : Int) (a0_2 : Int) (a0_3 : Int) (a1_0 : Int) (a1_1 : Int) (a1_2 : Int) (a1_3 : Int) (a2 : Int) (a3 : ByteArray) (a4 : ByteArray) (r : Bool) (w : World) (hS_ : StdE w) (h : sallyportlaw06_HostNets.f a0_0 a0_1 a0_2 a0_3 a1_0 a1_1 a1_2 a1_3 a2 a3 a4 = some r) (hr_ : r = true) :
    Calls Tryz.prog 6 #[.agg #[.int .u8 a0_0, .int .u8 a0_1, .int .u8 a0_2, .int .u8 a0_3], .agg #[.int .u8 a1_0, .int .u8 a1_1, .int .u8 a1_2, .int .u8 a1_3], .int .i64 a2, .string a3, .string a4] w fun e w' => e = .returned (.bool r) ∧ Below w.heap.size w w' := by
  have hu24 := Tryz.underlying24
  have HS_ := Aside0.mk hS_
  clear hS_
  have HB := Aside0.mk (Below.refl w.heap.size w)
  have H : ((XC.host_In.f a0_0 a0_1 a0_2 a0_3 a1_0 a1_1 a1_2 a1_3 a2).bind fun t103 => ((EE.refIn.f a0_0 a0_1 a0_2 a0_3 a1_0 a1_1 a1_2 a1_3 a2).bind fun t104 => (if (t103 == t104) = true then ((XC.host_Under.f a3 a4).bind fun t105 => ((XG.sallyportref06_Under.f a3 a4).bind fun t106 => (if (t105 == t106) = true then ((EE.works06.f).bind fun t107 => (some t107)) else (some false)))) else (some false)))) = some r := h
  clear h
  have HRT_ := Aside0.mk hr_
  clear hr_
  replace H := Option.bind_eq_some_iff.mp H
  obtain ⟨t103, A60, H⟩ := H
  replace H : ((EE.refIn.f a0_0 a0_1 a0_2 a0_3 a1_0 a1_1 a1_2 a1_3 a2).bind fun t104 => (if (t103 == t104) = true then ((XC.host_Under.f a3 a4).bind fun t105 => ((XG.sallyportref06_Under.f a3 a4).bind fun t106 => (if (t105 == t106) = true then ((EE.works06.f).bind fun t107 => (some t107)) else (some false)))) else (some false))) = some r := H
  have A6 := Aside0.mk A60
  clear A60
  replace H := Option.bind_eq_some_iff.mp H
  obtain ⟨t104, A70, H⟩ := H
  replace H : (if (t103 == t104) = true then ((XC.host_Under.f a3 a4).bind fun t105 => ((XG.sallyportref06_Under.f a3 a4).bind fun t106 => (if (t105 == t106) = true then ((EE.works06.f).bind fun t107 => (some t107)) else (some false)))) else (some false)) = some r := H
  have A7 := Aside0.mk A70
  clear A70
  by_cases c8 : (t103 == t104) = true
  · rw [if_pos c8] at H
    have c8b0 : (t103 == t104) = true := c8
    (try (have c8b1 : decide (t103 = t104) = true := by simpa using c8))
    (try (have c8b2 : (t103 == t104) = true := by simpa using c8))
    clear c8
    replace H := Option.bind_eq_some_iff.mp H
    obtain ⟨t105, A90, H⟩ := H
    replace H : ((XG.sallyportref06_Under.f a3 a4).bind fun t106 => (if (t105 == t106) = true then ((EE.works06.f).bind fun t107 => (some t107)) else (some false))) = some r := H
    have A9 := Aside0.mk A90
    clear A90
    replace H := Option.bind_eq_some_iff.mp H
    obtain ⟨t106, A100, H⟩ := H
    replace H : (if (t105 == t106) = true then ((EE.works06.f).bind fun t107 => (some t107)) else (some false)) = some r := H
    have A10 := Aside0.mk A100
    clear A100
    by_cases c11 : (t105 == t106) = true
    · rw [if_pos c11] at H
      have c11b0 : (t105 == t106) = true := c11
      (try (have c11b1 : decide (t105 = t106) = true := by simpa using c11))
      (try (have c11b2 : (t105 == t106) = true := by simpa using c11))
      clear c11
      replace H := Option.bind_eq_some_iff.mp H
      obtain ⟨t107, A120, H⟩ := H
      replace H : (some t107) = some r := H
      have A12 := Aside0.mk A120
      clear A120
      obtain rfl := Option.some.inj H
      go_enter Tryz.func6, Tryz.ntmps6
      try go_wp2_with (first | ((with_reducible refine gate_dst (N := 5) rfl ?_); refine box_event ?hg (N := 5) ?hd (cs := #[.int .u8 a0_0, .int .u8 a0_1, .int .u8 a0_2, .int .u8 a0_3]) (t := 24) ?hr ?_; (case hd => rfl); (case hg => rfl); (case hr => first | (go_simp; done) | (go_simp; rfl)); intro gb101 hg w13 hbox hb; have n0_ := Aside0.mk (below_step (by repeat (first | (with_reducible first | exact HB.out | apply below_alloc | apply pw_below_drewN | apply below_drew1) | exact HB.out)) hb); have n1_ := Aside0.mk (hbox); have n2_ := Aside0.mk ((by rw [hg]; exact (below_size (by repeat (first | (with_reducible first | exact HB.out | apply below_alloc | apply pw_below_drewN | apply below_drew1) | exact HB.out))) : w.heap.size ≤ gb101)); have n3_ := Aside0.mk ((by rw [hg]; exact (below_size (by repeat (first | (with_reducible first | exact HB.out | apply below_alloc | apply pw_below_drewN | apply below_drew1) | exact HB.out))) : w.heap.size ≤ gb101)); clear HB; have HB := n0_; have BK101 := n1_; have GW101 := n2_; have GE101 := n3_; clear n0_ n1_ n2_ n3_; clear hb hbox hg) | ((with_reducible refine gate_dst (N := 6) rfl ?_); refine box_event ?hg (N := 6) ?hd (cs := #[.int .u8 a1_0, .int .u8 a1_1, .int .u8 a1_2, .int .u8 a1_3]) (t := 24) ?hr ?_; (case hd => rfl); (case hg => rfl); (case hr => first | (go_simp; done) | (go_simp; rfl)); intro gb102 hg w14 hbox hb; have n0_ := Aside0.mk (blk_below (g := gb101) (o := .cells #[.int .u8 a0_0, .int .u8 a0_1, .int .u8 a0_2, .int .u8 a0_3] 24 (0, 0)) (by (with_reducible repeat (first | refine blk_drewN ?_ _ | refine blk_drew ?_ | refine blk_alloc ?_ _)); exact BK101.out) hb); have n1_ := Aside0.mk (below_step (by repeat (first | (with_reducible first | exact HB.out | apply below_alloc | apply pw_below_drewN | apply below_drew1 | refine below_set ?_ GE101.out) | exact HB.out)) hb); have n2_ := Aside0.mk (hbox); have n3_ := Aside0.mk ((by rw [hg]; exact (below_size (by repeat (first | (with_reducible first | exact HB.out | apply below_alloc | apply pw_below_drewN | apply below_drew1 | refine below_set ?_ GE101.out) | exact HB.out))) : w.heap.size ≤ gb102)); have n4_ := Aside0.mk ((by rw [hg]; exact (below_size (by repeat (first | (with_reducible first | exact HB.out | apply below_alloc | apply pw_below_drewN | apply below_drew1 | refine below_set ?_ GE101.out) | exact HB.out))) : w.heap.size ≤ gb102)); have n5_ := Aside0.mk ((by rw [hg]; exact Nat.ne_of_lt (blk_lt (g := gb101) (o := .cells #[.int .u8 a0_0, .int .u8 a0_1, .int .u8 a0_2, .int .u8 a0_3] 24 (0, 0)) (by (with_reducible repeat (first | refine blk_drewN ?_ _ | refine blk_drew ?_ | refine blk_alloc ?_ _)); exact BK101.out)) : gb101 ≠ gb102)); have n6_ := Aside0.mk ((by rw [hg]; exact Nat.ne_of_gt (blk_lt (g := gb101) (o := .cells #[.int .u8 a0_0, .int .u8 a0_1, .int .u8 a0_2, .int .u8 a0_3] 24 (0, 0)) (by (with_reducible repeat (first | refine blk_drewN ?_ _ | refine blk_drew ?_ | refine blk_alloc ?_ _)); exact BK101.out)) : gb102 ≠ gb101)); clear BK101; clear HB; have BK101 := n0_; have HB := n1_; have BK102 := n2_; have GW102 := n3_; have GE102 := n4_; have NB101_102 := n5_; have NB102_101 := n6_; clear n0_ n1_ n2_ n3_ n4_ n5_ n6_; clear hb hbox hg))
      have n0_ := Aside0.mk (blk_drew BK101.out)
      have n1_ := Aside0.mk (blk_drew BK102.out)
      have n2_ := Aside0.mk (below_drew1 HB.out)
      clear BK101
      clear BK102
      clear HB
      have BK101 := n0_
      have BK102 := n1_
      have HB := n2_
      clear n0_ n1_ n2_
      refine start_ (n := 22) (S := fun w' => w'.cell? ⟨gb101, 0, none⟩ = some (.int .u8 a0_0) ∧ w'.cell? ⟨gb101, 1, none⟩ = some (.int .u8 a0_1) ∧ w'.cell? ⟨gb101, 2, none⟩ = some (.int .u8 a0_2) ∧ w'.cell? ⟨gb101, 3, none⟩ = some (.int .u8 a0_3) ∧ w'.cell? ⟨gb102, 0, none⟩ = some (.int .u8 a1_0) ∧ w'.cell? ⟨gb102, 1, none⟩ = some (.int .u8 a1_1) ∧ w'.cell? ⟨gb102, 2, none⟩ = some (.int .u8 a1_2) ∧ w'.cell? ⟨gb102, 3, none⟩ = some (.int .u8 a1_3)) (ds := []) #[false, false, false, false, false, false, false, false, false, false, false, false, false, false, false, false, false, false, false, false, false, false] (by kernel_rfl) rfl rfl ⟨(blk_cell BK101.out 0).trans rfl, (blk_cell BK101.out 1).trans rfl, (blk_cell BK101.out 2).trans rfl, (blk_cell BK101.out 3).trans rfl, (blk_cell BK102.out 0).trans rfl, (blk_cell BK102.out 1).trans rfl, (blk_cell BK102.out 2).trans rfl, (blk_cell BK102.out 3).trans rfl⟩ (fun hHeld => ?_); refine with_tabW sallyportlaw06_HostNets.tab1 sallyportlaw06_HostNets.bits1 (fun HT_ HW_ => ?_)
      generalize w14.drew = w15 at BK101 BK102 HB hHeld ⊢
      refine pure_ (i := 2) (N := some 13) (v := ?_) (a' := ?_) #[false, false, true, false, false, false, false, false, false, false, false, false, false, false, false, false, false, false, false, false, false, false] rfl rfl (any_of HT_.out (by kernel_rfl)) (fun _ _ _ h => h) (Or.inl ⟨by rfl, ?_⟩) ?_ ?_
      rotate_left
      · intro w'
        go_simp
        with_reducible rfl
      rotate_left
      · simp only [Act.put, List.setIfInBounds_toArray, List.set_cons_zero, List.set_cons_succ, i64_w, i32_w]
        rfl
      refine pure_ (i := 6) (N := some 17) (v := ?_) (a' := ?_) #[false, false, true, false, false, false, true, false, false, false, false, false, false, false, false, false, false, false, false, false, false, false] rfl rfl (any_of HT_.out (by kernel_rfl)) (fun _ _ _ h => h) (Or.inl ⟨by rfl, ?_⟩) ?_ ?_
      rotate_left
      · intro w'
        go_simp
        with_reducible rfl
      rotate_left
      · simp only [Act.put, List.setIfInBounds_toArray, List.set_cons_zero, List.set_cons_succ, i64_w, i32_w]
        rfl
      refine take_ (i := 0) (N := some 11) (v := ?_) (a' := ?_) #[true, false, true, false, false, false, true, false, false, false, false, false, false, false, false, false, false, false, false, false, false, false] rfl rfl (take_ofW HT_.out HW_.out (by kernel_rfl)) (fun _ _ _ h => h) (Or.inl ⟨by rfl, ?_⟩) hHeld ?_ ?_
      rotate_left
      · rintro w' ⟨s0, s1, s2, s3, s4, s5, s6, s7⟩
        go_simp
        with_reducible rfl
      rotate_left
      · simp only [Act.put, List.setIfInBounds_toArray, List.set_cons_zero, List.set_cons_succ, i64_w, i32_w]
        rfl
      refine take_ (i := 1) (N := some 12) (v := ?_) (a' := ?_) #[true, true, true, false, false, false, true, false, false, false, false, false, false, false, false, false, false, false, false, false, false, false] rfl rfl (take_ofW HT_.out HW_.out (by kernel_rfl)) (fun _ _ _ h => h) (Or.inl ⟨by rfl, ?_⟩) hHeld ?_ ?_
      rotate_left
      · rintro w' ⟨s0, s1, s2, s3, s4, s5, s6, s7⟩
        go_simp
        with_reducible rfl
      rotate_left
      · simp only [Act.put, List.setIfInBounds_toArray, List.set_cons_zero, List.set_cons_succ, i64_w, i32_w]
        rfl
      refine take_ (i := 4) (N := some 15) (v := ?_) (a' := ?_) #[true, true, true, false, true, false, true, false, false, false, false, false, false, false, false, false, false, false, false, false, false, false] rfl rfl (take_ofW HT_.out HW_.out (by kernel_rfl)) (fun _ _ _ h => h) (Or.inl ⟨by rfl, ?_⟩) hHeld ?_ ?_
      rotate_left
      · rintro w' ⟨s0, s1, s2, s3, s4, s5, s6, s7⟩
        go_simp
        with_reducible rfl
      rotate_left
      · simp only [Act.put, List.setIfInBounds_toArray, List.set_cons_zero, List.set_cons_succ, i64_w, i32_w]
        rfl
      refine take_ (i := 5) (N := some 16) (v := ?_) (a' := ?_) #[true, true, true, false, true, true, true, false, false, false, false, false, false, false, false, false, false, false, false, false, false, false] rfl rfl (take_ofW HT_.out HW_.out (by kernel_rfl)) (fun _ _ _ h => h) (Or.inl ⟨by rfl, ?_⟩) hHeld ?_ ?_
      rotate_left
      · rintro w' ⟨s0, s1, s2, s3, s4, s5, s6, s7⟩
        go_simp
        with_reducible rfl
      rotate_left
      · simp only [Act.put, List.setIfInBounds_toArray, List.set_cons_zero, List.set_cons_succ, i64_w, i32_w]
        rfl
      refine one_ (i := 3) (N := some 14) #[true, true, true, true, true, true, true, false, false, false, false, false, false, false, false, false, false, false, false, false, false, false] rfl rfl (one_of HT_.out (by kernel_rfl)) (by decide) (fun K hK => ?_)
      refine goes_ Tryz.func25 (by kernel_rfl) rfl #[.agg #[.int .u8 a0_0, .int .u8 a0_1, .int .u8 a0_2, .int .u8 a0_3], .agg #[.int .u8 a1_0, .int .u8 a1_1, .int .u8 a1_2, .int .u8 a1_3], .int .i64 a2] (by rfl) rfl rfl (by (try simp only [List.map_toArray, List.map_cons, List.map_nil]); first | done | rfl | (simp only [List.length_drop, List.length_take]; rfl)) ?_
      with_reducible refine (XC.host_In.calls a0_0 a0_1 a0_2 a0_3 a1_0 a1_1 a1_2 a1_3 a2 t103 _ A6.out).mono ?_
      rintro e w16 ⟨rfl, hb⟩
      refine ⟨_, rfl, ?_⟩
      have n0_ := Aside0.mk (blk_below (g := gb101) (o := .cells #[.int .u8 a0_0, .int .u8 a0_1, .int .u8 a0_2, .int .u8 a0_3] 24 (0, 0)) (by (with_reducible repeat (first | refine blk_drewN ?_ _ | refine blk_drew ?_ | refine blk_alloc ?_ _)); exact BK101.out) hb)
      have n1_ := Aside0.mk (blk_below (g := gb102) (o := .cells #[.int .u8 a1_0, .int .u8 a1_1, .int .u8 a1_2, .int .u8 a1_3] 24 (0, 0)) (by (with_reducible repeat (first | refine blk_drewN ?_ _ | refine blk_drew ?_ | refine blk_alloc ?_ _)); exact BK102.out) hb)
      have n2_ := Aside0.mk (below_step (by repeat (first | (with_reducible first | exact HB.out | apply below_alloc | apply pw_below_drewN | apply below_drew1 | refine below_set ?_ GE101.out | refine below_set ?_ GE102.out) | exact HB.out)) hb)
      clear BK101
      clear BK102
      clear HB
      have BK101 := n0_
      have BK102 := n1_
      have HB := n2_
      clear n0_ n1_ n2_
      (try clear hb)
      (try clear hb2)
      (try clear hk)
      (try clear hi)
      refine hK.out _ _ ⟨(blk_cell BK101.out 0).trans rfl, (blk_cell BK101.out 1).trans rfl, (blk_cell BK101.out 2).trans rfl, (blk_cell BK101.out 3).trans rfl, (blk_cell BK102.out 0).trans rfl, (blk_cell BK102.out 1).trans rfl, (blk_cell BK102.out 2).trans rfl, (blk_cell BK102.out 3).trans rfl⟩ (fun hHeld => ?_)
      clear hK K
      refine norm_ (a' := ?_) ?_ ?_
      rotate_left
      · show Act.put _ (some 14) _ = _
        simp only [Act.put, List.setIfInBounds_toArray, List.set_cons_zero, List.set_cons_succ, i64_w, i32_w]
        rfl
      refine one_ (i := 7) (N := some 18) #[true, true, true, true, true, true, true, true, false, false, false, false, false, false, false, false, false, false, false, false, false, false] rfl rfl (one_of HT_.out (by kernel_rfl)) (by decide) (fun K hK => ?_)
      refine goes_ Tryz.func26 (by kernel_rfl) rfl #[.agg #[.int .u8 a0_0, .int .u8 a0_1, .int .u8 a0_2, .int .u8 a0_3], .agg #[.int .u8 a1_0, .int .u8 a1_1, .int .u8 a1_2, .int .u8 a1_3], .int .i64 a2] (by rfl) rfl rfl (by (try simp only [List.map_toArray, List.map_cons, List.map_nil]); first | done | rfl | (simp only [List.length_drop, List.length_take]; rfl)) ?_
      with_reducible refine (EE.refIn.calls a0_0 a0_1 a0_2 a0_3 a1_0 a1_1 a1_2 a1_3 a2 t104 _ ?side1 A7.out).mono ?_
      (case side1 => exact StdE.below HS_.out (by repeat (first | (with_reducible first | exact HB.out | apply below_alloc | apply pw_below_drewN | apply below_drew1 | refine below_set ?_ GE101.out | refine below_set ?_ GE102.out) | exact HB.out)))
      rintro e w17 ⟨rfl, hb⟩
      refine ⟨_, rfl, ?_⟩
      have n0_ := Aside0.mk (blk_below (g := gb101) (o := .cells #[.int .u8 a0_0, .int .u8 a0_1, .int .u8 a0_2, .int .u8 a0_3] 24 (0, 0)) (by (with_reducible repeat (first | refine blk_drewN ?_ _ | refine blk_drew ?_ | refine blk_alloc ?_ _)); exact BK101.out) hb)
      have n1_ := Aside0.mk (blk_below (g := gb102) (o := .cells #[.int .u8 a1_0, .int .u8 a1_1, .int .u8 a1_2, .int .u8 a1_3] 24 (0, 0)) (by (with_reducible repeat (first | refine blk_drewN ?_ _ | refine blk_drew ?_ | refine blk_alloc ?_ _)); exact BK102.out) hb)
      have n2_ := Aside0.mk (below_step (by repeat (first | (with_reducible first | exact HB.out | apply below_alloc | apply pw_below_drewN | apply below_drew1 | refine below_set ?_ GE101.out | refine below_set ?_ GE102.out) | exact HB.out)) hb)
      clear BK101
      clear BK102
      clear HB
      have BK101 := n0_
      have BK102 := n1_
      have HB := n2_
      clear n0_ n1_ n2_
      (try clear hb)
      (try clear hb2)
      (try clear hk)
      (try clear hi)
      refine hK.out _ _ ⟨(blk_cell BK101.out 0).trans rfl, (blk_cell BK101.out 1).trans rfl, (blk_cell BK101.out 2).trans rfl, (blk_cell BK101.out 3).trans rfl, (blk_cell BK102.out 0).trans rfl, (blk_cell BK102.out 1).trans rfl, (blk_cell BK102.out 2).trans rfl, (blk_cell BK102.out 3).trans rfl⟩ (fun hHeld => ?_)
      clear hK K
      refine norm_ (a' := ?_) ?_ ?_
      rotate_left
      · show Act.put _ (some 18) _ = _
        simp only [Act.put, List.setIfInBounds_toArray, List.set_cons_zero, List.set_cons_succ, i64_w, i32_w]
        rfl
      refine pure_ (i := 8) (N := some 19) (v := ?_) (a' := ?_) #[true, true, true, true, true, true, true, true, true, false, false, false, false, false, false, false, false, false, false, false, false, false] rfl rfl (any_of HT_.out (by kernel_rfl)) (fun _ _ _ h => h) (Or.inl ⟨by rfl, ?_⟩) ?_ ?_
      rotate_left
      · intro w'
        go_simp
        with_reducible rfl
      rotate_left
      · simp only [Act.put, List.setIfInBounds_toArray, List.set_cons_zero, List.set_cons_succ, i64_w, i32_w]
        rfl
      refine pure_ (i := 9) (N := some 20) (v := ?_) (a' := ?_) #[true, true, true, true, true, true, true, true, true, true, false, false, false, false, false, false, false, false, false, false, false, false] rfl rfl (any_of HT_.out (by kernel_rfl)) (fun _ _ _ h => h) (Or.inl ⟨by rfl, ?_⟩) ?_ ?_
      rotate_left
      · intro w'
        go_simp
        with_reducible rfl
      rotate_left
      · simp only [Act.put, List.setIfInBounds_toArray, List.set_cons_zero, List.set_cons_succ, i64_w, i32_w]
        rfl
      refine pure_ (i := 10) (N := some 21) (v := ?_) (a' := ?_) #[true, true, true, true, true, true, true, true, true, true, true, false, false, false, false, false, false, false, false, false, false, false] rfl rfl (any_of HT_.out (by kernel_rfl)) (fun _ _ _ h => h) (Or.inl ⟨by rfl, ?_⟩) ?_ ?_
      rotate_left
      · intro w'
        go_simp
        with_reducible rfl
      rotate_left
      · simp only [Act.put, List.setIfInBounds_toArray, List.set_cons_zero, List.set_cons_succ, i64_w, i32_w]
        rfl
      refine pure_ (i := 11) (N := some 22) (v := ?_) (a' := ?_) #[true, true, true, true, true, true, true, true, true, true, true, true, false, false, false, false, false, false, false, false, false, false] rfl rfl (any_of HT_.out (by kernel_rfl)) (fun _ _ _ h => h) (Or.inl ⟨by rfl, ?_⟩) ?_ ?_
      rotate_left
      · intro w'
        go_simp
        with_reducible rfl
      rotate_left
      · simp only [Act.put, List.setIfInBounds_toArray, List.set_cons_zero, List.set_cons_succ, i64_w, i32_w]
        rfl
      refine pure_ (i := 13) (N := some 24) (v := ?_) (a' := ?_) #[true, true, true, true, true, true, true, true, true, true, true, true, false, true, false, false, false, false, false, false, false, false] rfl rfl (any_of HT_.out (by kernel_rfl)) (fun _ _ _ h => h) (Or.inl ⟨by rfl, ?_⟩) ?_ ?_
      rotate_left
      · intro w'
        go_simp
        with_reducible rfl
      rotate_left
      · simp only [Act.put, List.setIfInBounds_toArray, List.set_cons_zero, List.set_cons_succ, i64_w, i32_w]
        rfl
      refine pure_ (i := 14) (N := some 25) (v := ?_) (a' := ?_) #[true, true, true, true, true, true, true, true, true, true, true, true, false, true, true, false, false, false, false, false, false, false] rfl rfl (any_of HT_.out (by kernel_rfl)) (fun _ _ _ h => h) (Or.inl ⟨by rfl, ?_⟩) ?_ ?_
      rotate_left
      · intro w'
        go_simp
        with_reducible rfl
      rotate_left
      · simp only [Act.put, List.setIfInBounds_toArray, List.set_cons_zero, List.set_cons_succ, i64_w, i32_w]
        rfl
      refine one_ (i := 12) (N := some 23) #[true, true, true, true, true, true, true, true, true, true, true, true, true, true, true, false, false, false, false, false, false, false] rfl rfl (one_of HT_.out (by kernel_rfl)) (by decide) (fun K hK => ?_)
      refine goes_ Tryz.func27 (by kernel_rfl) rfl #[.string a3, .string a4] (by rfl) rfl rfl (by (try simp only [List.map_toArray, List.map_cons, List.map_nil]); first | done | rfl | (simp only [List.length_drop, List.length_take]; rfl)) ?_
      with_reducible refine (XC.host_Under.calls a3 a4 t105 _ A9.out).mono ?_
      rintro e w' ⟨rfl, ⟨nd, rfl⟩⟩
      refine ⟨_, rfl, ?_⟩
      refine hK.out _ _ ⟨(blk_cell BK101.out 0).trans rfl, (blk_cell BK101.out 1).trans rfl, (blk_cell BK101.out 2).trans rfl, (blk_cell BK101.out 3).trans rfl, (blk_cell BK102.out 0).trans rfl, (blk_cell BK102.out 1).trans rfl, (blk_cell BK102.out 2).trans rfl, (blk_cell BK102.out 3).trans rfl⟩ (fun hHeld => ?_)
      clear hK K
      refine norm_ (a' := ?_) ?_ ?_
      rotate_left
      · show Act.put _ (some 23) _ = _
        simp only [Act.put, List.setIfInBounds_toArray, List.set_cons_zero, List.set_cons_succ, i64_w, i32_w]
        rfl
      refine one_ (i := 15) (N := some 26) #[true, true, true, true, true, true, true, true, true, true, true, true, true, true, true, true, false, false, false, false, false, false] rfl rfl (one_of HT_.out (by kernel_rfl)) (by decide) (fun K hK => ?_)
      refine goes_ Tryz.func28 (by kernel_rfl) rfl #[.string a3, .string a4] (by rfl) rfl rfl (by (try simp only [List.map_toArray, List.map_cons, List.map_nil]); first | done | rfl | (simp only [List.length_drop, List.length_take]; rfl)) ?_
      with_reducible refine (XG.sallyportref06_Under.calls a3 a4 t106 _ A10.out).mono ?_
      rintro e w' ⟨rfl, ⟨nd, rfl⟩⟩
      refine ⟨_, rfl, ?_⟩
      refine hK.out _ _ ⟨(blk_cell BK101.out 0).trans rfl, (blk_cell BK101.out 1).trans rfl, (blk_cell BK101.out 2).trans rfl, (blk_cell BK101.out 3).trans rfl, (blk_cell BK102.out 0).trans rfl, (blk_cell BK102.out 1).trans rfl, (blk_cell BK102.out 2).trans rfl, (blk_cell BK102.out 3).trans rfl⟩ (fun hHeld => ?_)
      clear hK K
      refine norm_ (a' := ?_) ?_ ?_
      rotate_left
      · show Act.put _ (some 26) _ = _
        simp only [Act.put, List.setIfInBounds_toArray, List.set_cons_zero, List.set_cons_succ, i64_w, i32_w]
        rfl
      refine pure_ (i := 16) (N := some 27) (v := ?_) (a' := ?_) #[true, true, true, true, true, true, true, true, true, true, true, true, true, true, true, true, true, false, false, false, false, false] rfl rfl (any_of HT_.out (by kernel_rfl)) (fun _ _ _ h => h) (Or.inl ⟨by rfl, ?_⟩) ?_ ?_
      rotate_left
      · intro w'
        go_simp
        with_reducible rfl
      rotate_left
      · simp only [Act.put, List.setIfInBounds_toArray, List.set_cons_zero, List.set_cons_succ, i64_w, i32_w]
        rfl
      refine pure_ (i := 17) (N := some 28) (v := ?_) (a' := ?_) #[true, true, true, true, true, true, true, true, true, true, true, true, true, true, true, true, true, true, false, false, false, false] rfl rfl (any_of HT_.out (by kernel_rfl)) (fun _ _ _ h => h) (Or.inl ⟨by rfl, ?_⟩) ?_ ?_
      rotate_left
      · intro w'
        go_simp
        with_reducible rfl
      rotate_left
      · simp only [Act.put, List.setIfInBounds_toArray, List.set_cons_zero, List.set_cons_succ, i64_w, i32_w]
        rfl
      refine pure_ (i := 18) (N := some 29) (v := ?_) (a' := ?_) #[true, true, true, true, true, true, true, true, true, true, true, true, true, true, true, true, true, true, true, false, false, false] rfl rfl (any_of HT_.out (by kernel_rfl)) (fun _ _ _ h => h) (Or.inl ⟨by rfl, ?_⟩) ?_ ?_
      rotate_left
      · intro w'
        go_simp
        with_reducible rfl
      rotate_left
      · simp only [Act.put, List.setIfInBounds_toArray, List.set_cons_zero, List.set_cons_succ, i64_w, i32_w]
        rfl
      refine one_ (i := 19) (N := some 30) #[true, true, true, true, true, true, true, true, true, true, true, true, true, true, true, true, true, true, true, true, false, false] rfl rfl (one_of HT_.out (by kernel_rfl)) (by decide) (fun K hK => ?_)
      refine goes_ Tryz.func29 (by kernel_rfl) rfl #[] (by rfl) rfl rfl (by (try simp only [List.map_toArray, List.map_cons, List.map_nil]); first | done | rfl | (simp only [List.length_drop, List.length_take]; rfl)) ?_
      with_reducible refine (EE.works06.calls  t107 _ ?side1 A12.out).mono ?_
      (case side1 => exact StdE.below HS_.out (by repeat (first | (with_reducible first | exact HB.out | apply below_alloc | apply pw_below_drewN | apply below_drew1 | refine below_set ?_ GE101.out | refine below_set ?_ GE102.out) | exact HB.out)))
      rintro e w18 ⟨rfl, hb⟩
      refine ⟨_, rfl, ?_⟩
      have n0_ := Aside0.mk (blk_below (g := gb101) (o := .cells #[.int .u8 a0_0, .int .u8 a0_1, .int .u8 a0_2, .int .u8 a0_3] 24 (0, 0)) (by (with_reducible repeat (first | refine blk_drewN ?_ _ | refine blk_drew ?_ | refine blk_alloc ?_ _)); exact BK101.out) hb)
      have n1_ := Aside0.mk (blk_below (g := gb102) (o := .cells #[.int .u8 a1_0, .int .u8 a1_1, .int .u8 a1_2, .int .u8 a1_3] 24 (0, 0)) (by (with_reducible repeat (first | refine blk_drewN ?_ _ | refine blk_drew ?_ | refine blk_alloc ?_ _)); exact BK102.out) hb)
      have n2_ := Aside0.mk (below_step (by repeat (first | (with_reducible first | exact HB.out | apply below_alloc | apply pw_below_drewN | apply below_drew1 | refine below_set ?_ GE101.out | refine below_set ?_ GE102.out) | exact HB.out)) hb)
      clear BK101
      clear BK102
      clear HB
      have BK101 := n0_
      have BK102 := n1_
      have HB := n2_
      clear n0_ n1_ n2_
      (try clear hb)
      (try clear hb2)
      (try clear hk)
      (try clear hi)
      refine hK.out _ _ ⟨(blk_cell BK101.out 0).trans rfl, (blk_cell BK101.out 1).trans rfl, (blk_cell BK101.out 2).trans rfl, (blk_cell BK101.out 3).trans rfl, (blk_cell BK102.out 0).trans rfl, (blk_cell BK102.out 1).trans rfl, (blk_cell BK102.out 2).trans rfl, (blk_cell BK102.out 3).trans rfl⟩ (fun hHeld => ?_)
      clear hK K
      refine norm_ (a' := ?_) ?_ ?_
      rotate_left
      · show Act.put _ (some 30) _ = _
        simp only [Act.put, List.setIfInBounds_toArray, List.set_cons_zero, List.set_cons_succ, i64_w, i32_w]
        rfl
      refine pure_ (i := 20) (N := some 31) (v := ?_) (a' := ?_) #[true, true, true, true, true, true, true, true, true, true, true, true, true, true, true, true, true, true, true, true, true, false] rfl rfl (any_of HT_.out (by kernel_rfl)) (fun _ _ _ h => h) (Or.inl ⟨by rfl, ?_⟩) ?_ ?_
      rotate_left
      · intro w'
        go_simp
        with_reducible rfl
      rotate_left
      · simp only [Act.put, List.setIfInBounds_toArray, List.set_cons_zero, List.set_cons_succ, i64_w, i32_w]
        rfl
      refine pure_ (i := 21) (N := some 10) (v := ?_) (a' := ?_) #[true, true, true, true, true, true, true, true, true, true, true, true, true, true, true, true, true, true, true, true, true, true] rfl rfl (any_of HT_.out (by kernel_rfl)) (fun _ _ _ h => h) (Or.inl ⟨by rfl, ?_⟩) ?_ ?_
      rotate_left
      · intro w'
        go_simp
        with_reducible rfl
      rotate_left
      · simp only [Act.put, List.setIfInBounds_toArray, List.set_cons_zero, List.set_cons_succ, i64_w, i32_w]
        rfl
      refine done_ (done_of HT_.out (by kernel_rfl)) ?_
      try go_wp2
      go_ret
      exact ⟨by first | rfl | (simp [errW_none, errW_some] <;> rfl) | (simp [*, errW_none, errW_some] <;> rfl), by repeat (first | (with_reducible first | exact HB.out | apply below_alloc | apply pw_below_drewN | apply below_drew1 | refine below_set ?_ GE101.out | refine below_set ?_ GE102.out) | exact HB.out)⟩
    · rw [if_neg c11] at H
      have c11b0 : (t105 == t106) = false := by simpa using c11
      (try (have c11b1 : decide (t105 = t106) = false := by simpa using c11))
      (try (have c11b2 : (t105 == t106) = false := by simpa using c11))
      (try (have c11b3 : ¬ (t105 = t106) := by simpa using c11))
      clear c11
      exact absurd (Option.some.inj H) (by rw [HRT_.out]; simp)
  · rw [if_neg c8] at H
    have c8b0 : (t103 == t104) = false := by simpa using c8
    (try (have c8b1 : decide (t103 = t104) = false := by simpa using c8))
    (try (have c8b2 : (t103 == t104) = false := by simpa using c8))
    (try (have c8b3 : ¬ (t103 = t104) := by simpa using c8))
    clear c8
    exact absurd (Option.some.inj H) (by rw [HRT_.out]; simp)
end Go.Proofs.YteondnhokgmakaaGreatDoor.XNets


namespace Go.Proofs.YteondnhokgmakaaGreatDoor.XNets
open Go.Proofs.YteondnhokgmakaaGreatDoor.XC Go.Proofs.YteondnhokgmakaaGreatDoor.XG
open Go.RowKit Go.Proofs.YteondnhokgmakaaGreatDoorW.PrintWords Go.Proofs.YteondnhokgmakaaGreatDoorW.PrintLast Go.Proofs.YteondnhokgmakaaGreatDoorW.PrintMore
attribute [local go_sem] max2_int min2_int max_two min_two max_three min_three max_four min_four
set_option linter.unusedVariables false
set_option linter.unusedSimpArgs false
end Go.Proofs.YteondnhokgmakaaGreatDoor.XNets


namespace Go.Proofs.YteondnhokgmakaaGreatDoor.XPrints
open Go.Proofs.YteondnhokgmakaaGreatDoor.XC Go.Proofs.YteondnhokgmakaaGreatDoor.XG
open Go.RowKit Go.Proofs.YteondnhokgmakaaGreatDoorW.PrintWords Go.Proofs.YteondnhokgmakaaGreatDoorW.PrintLast Go.Proofs.YteondnhokgmakaaGreatDoorW.PrintMore
attribute [local go_sem] max2_int min2_int max_two min_two max_three min_three max_four min_four
set_option linter.unusedVariables false
set_option linter.unusedSimpArgs false
end Go.Proofs.YteondnhokgmakaaGreatDoor.XPrints


namespace Go.Proofs.YteondnhokgmakaaGreatDoor.XPrints
open Go.Proofs.YteondnhokgmakaaGreatDoor.XC Go.Proofs.YteondnhokgmakaaGreatDoor.XG
open Go.RowKit Go.Proofs.YteondnhokgmakaaGreatDoorW.PrintWords Go.Proofs.YteondnhokgmakaaGreatDoorW.PrintLast Go.Proofs.YteondnhokgmakaaGreatDoorW.PrintMore
attribute [local go_sem] max2_int min2_int max_two min_two max_three min_three max_four min_four
set_option linter.unusedVariables false
set_option linter.unusedSimpArgs false
end Go.Proofs.YteondnhokgmakaaGreatDoor.XPrints


namespace Go.Proofs.YteondnhokgmakaaGreatDoor.XPrints
open Go.Proofs.YteondnhokgmakaaGreatDoor.XC Go.Proofs.YteondnhokgmakaaGreatDoor.XG
open Go.RowKit Go.Proofs.YteondnhokgmakaaGreatDoorW.PrintWords Go.Proofs.YteondnhokgmakaaGreatDoorW.PrintLast Go.Proofs.YteondnhokgmakaaGreatDoorW.PrintMore
attribute [local go_sem] max2_int min2_int max_two min_two max_three min_three max_four min_four
set_option linter.unusedVariables false
set_option linter.unusedSimpArgs false
def sallyportlaw06_HostPrints.f (a0_0 : Int) (a0_1 : Int) (a0_2 : Int) (a0_3 : Int) (a0_4 : ByteArray) (a0_5 : Int) : Option (Bool) := (EE.hCheck.f a0_0 a0_1 a0_2 a0_3 a0_4).bind fun t102 => ((EE.refCheck.f a0_0 a0_1 a0_2 a0_3 a0_4).bind fun t103 => (if (t102 == t103) = true then ((EE.hPrint.f a0_0 a0_1 a0_2 a0_3 a0_4).bind fun t104 => ((EE.refPrint.f a0_0 a0_1 a0_2 a0_3 a0_4).bind fun t105 => (if t104.toList = t105.toList then ((EE.hPrintDest.f a0_0 a0_1 a0_2 a0_3 a0_4 a0_5).bind fun t106 => ((EE.refPrintDest.f a0_0 a0_1 a0_2 a0_3 a0_4 a0_5).bind fun t107 => (if t106.toList = t107.toList then ((EE.works06.f).bind fun t108 => (some t108)) else (some false)))) else (some false)))) else (some false)))
def sallyportlaw06_HostPrints.T1 : Bool × List (List Nat × List Nat) := (true, [([], []), ([0], [0]), ([1], [1]), ([], []), ([3], [3]), ([4, 2], [4]), ([2, 5], [2, 5]), ([6, 5], [6]), ([7], [7]), ([8, 7], [7, 8]), ([9, 7, 7], [7, 9]), ([7], [7]), ([11, 7], [7, 11]), ([12, 10, 7], [7, 12]), ([10, 13, 7], [7, 10, 13]), ([7, 14], [7, 14]), ([15, 13], [15]), ([16], [16]), ([17, 16, 16], [16, 17]), ([16], [16]), ([19, 18, 16], [16, 19]), ([18, 20, 16], [16, 18, 20]), ([16, 21], [16, 21]), ([22, 20], [22]), ([23, 23], [23]), ([23, 24], [23, 24]), ([25, 24, 0, 1, 2, 3, 4, 5, 6, 7, 8, 9, 10, 11, 12, 13, 14, 15, 16, 17, 18, 19, 20, 21, 22, 23, 24, 25], [25])])
def sallyportlaw06_HostPrints.B1 : List Nat := [0, 1, 3, 0, 8, 31, 63, 127, 255, 511, 1023, 255, 2303, 8191, 16383, 32767, 65535, 131071, 262143, 131071, 1048575, 2097151, 4194303, 8388607, 16777215, 33554431, 67108863]
theorem sallyportlaw06_HostPrints.tab1 : rtab .any (opsOf Tryz.f8 1) = sallyportlaw06_HostPrints.T1 := by kernel_rfl
theorem sallyportlaw06_HostPrints.bits1 : waitsOk sallyportlaw06_HostPrints.T1.2 sallyportlaw06_HostPrints.B1 = true := by kernel_rfl
set_option maxHeartbeats 8000000 in
set_option maxRecDepth 100000 in
theorem sallyportlaw06_HostPrints.calls (a0_0 : Int) (a0_1 : Int) (a0_2 : Int) (a0_3 : Int) (a0_4 : ByteArray) (a0_5 : Int) (r : Bool) (w : World) (hS_ : StdE w) (h : sallyportlaw06_HostPrints.f a0_0 a0_1 a0_2 a0_3 a0_4 a0_5 = some r) (hr_ : r = true) :
    Calls Tryz.prog 8 #[.agg #[.int .u8 a0_0, .int .u8 a0_1, .int .u8 a0_2, .int .u8 a0_3, .string a0_4, .int .i64 a0_5]] w fun e w' => e = .returned (.bool r) ∧ Below w.heap.size w w' := by
  have hu28 := Tryz.underlying28
  have hu26 := Tryz.underlying26
  have HS_ := Aside0.mk hS_
  clear hS_
  have HB := Aside0.mk (Below.refl w.heap.size w)
  have H : ((EE.hCheck.f a0_0 a0_1 a0_2 a0_3 a0_4).bind fun t102 => ((EE.refCheck.f a0_0 a0_1 a0_2 a0_3 a0_4).bind fun t103 => (if (t102 == t103) = true then ((EE.hPrint.f a0_0 a0_1 a0_2 a0_3 a0_4).bind fun t104 => ((EE.refPrint.f a0_0 a0_1 a0_2 a0_3 a0_4).bind fun t105 => (if t104.toList = t105.toList then ((EE.hPrintDest.f a0_0 a0_1 a0_2 a0_3 a0_4 a0_5).bind fun t106 => ((EE.refPrintDest.f a0_0 a0_1 a0_2 a0_3 a0_4 a0_5).bind fun t107 => (if t106.toList = t107.toList then ((EE.works06.f).bind fun t108 => (some t108)) else (some false)))) else (some false)))) else (some false)))) = some r := h
  clear h
  have HRT_ := Aside0.mk hr_
  clear hr_
  replace H := Option.bind_eq_some_iff.mp H
  obtain ⟨t102, A20, H⟩ := H
  replace H : ((EE.refCheck.f a0_0 a0_1 a0_2 a0_3 a0_4).bind fun t103 => (if (t102 == t103) = true then ((EE.hPrint.f a0_0 a0_1 a0_2 a0_3 a0_4).bind fun t104 => ((EE.refPrint.f a0_0 a0_1 a0_2 a0_3 a0_4).bind fun t105 => (if t104.toList = t105.toList then ((EE.hPrintDest.f a0_0 a0_1 a0_2 a0_3 a0_4 a0_5).bind fun t106 => ((EE.refPrintDest.f a0_0 a0_1 a0_2 a0_3 a0_4 a0_5).bind fun t107 => (if t106.toList = t107.toList then ((EE.works06.f).bind fun t108 => (some t108)) else (some false)))) else (some false)))) else (some false))) = some r := H
  have A2 := Aside0.mk A20
  clear A20
  replace H := Option.bind_eq_some_iff.mp H
  obtain ⟨t103, A30, H⟩ := H
  replace H : (if (t102 == t103) = true then ((EE.hPrint.f a0_0 a0_1 a0_2 a0_3 a0_4).bind fun t104 => ((EE.refPrint.f a0_0 a0_1 a0_2 a0_3 a0_4).bind fun t105 => (if t104.toList = t105.toList then ((EE.hPrintDest.f a0_0 a0_1 a0_2 a0_3 a0_4 a0_5).bind fun t106 => ((EE.refPrintDest.f a0_0 a0_1 a0_2 a0_3 a0_4 a0_5).bind fun t107 => (if t106.toList = t107.toList then ((EE.works06.f).bind fun t108 => (some t108)) else (some false)))) else (some false)))) else (some false)) = some r := H
  have A3 := Aside0.mk A30
  clear A30
  by_cases c4 : (t102 == t103) = true
  · rw [if_pos c4] at H
    have c4b0 : (t102 == t103) = true := c4
    (try (have c4b1 : decide (t102 = t103) = true := by simpa using c4))
    (try (have c4b2 : (t102 == t103) = true := by simpa using c4))
    clear c4
    replace H := Option.bind_eq_some_iff.mp H
    obtain ⟨t104, A50, H⟩ := H
    replace H : ((EE.refPrint.f a0_0 a0_1 a0_2 a0_3 a0_4).bind fun t105 => (if t104.toList = t105.toList then ((EE.hPrintDest.f a0_0 a0_1 a0_2 a0_3 a0_4 a0_5).bind fun t106 => ((EE.refPrintDest.f a0_0 a0_1 a0_2 a0_3 a0_4 a0_5).bind fun t107 => (if t106.toList = t107.toList then ((EE.works06.f).bind fun t108 => (some t108)) else (some false)))) else (some false))) = some r := H
    have A5 := Aside0.mk A50
    clear A50
    replace H := Option.bind_eq_some_iff.mp H
    obtain ⟨t105, A60, H⟩ := H
    replace H : (if t104.toList = t105.toList then ((EE.hPrintDest.f a0_0 a0_1 a0_2 a0_3 a0_4 a0_5).bind fun t106 => ((EE.refPrintDest.f a0_0 a0_1 a0_2 a0_3 a0_4 a0_5).bind fun t107 => (if t106.toList = t107.toList then ((EE.works06.f).bind fun t108 => (some t108)) else (some false)))) else (some false)) = some r := H
    have A6 := Aside0.mk A60
    clear A60
    by_cases c7 : t104.toList = t105.toList
    · rw [if_pos c7] at H
      have c7b0 : (t104.toList == t105.toList) = true := beq_iff_eq.mpr c7
      have c7b1 : (t104.toList != t105.toList) = false := bne_eq_false_iff_eq.mpr c7
      clear c7
      replace H := Option.bind_eq_some_iff.mp H
      obtain ⟨t106, A80, H⟩ := H
      replace H : ((EE.refPrintDest.f a0_0 a0_1 a0_2 a0_3 a0_4 a0_5).bind fun t107 => (if t106.toList = t107.toList then ((EE.works06.f).bind fun t108 => (some t108)) else (some false))) = some r := H
      have A8 := Aside0.mk A80
      clear A80
      replace H := Option.bind_eq_some_iff.mp H
      obtain ⟨t107, A90, H⟩ := H
      replace H : (if t106.toList = t107.toList then ((EE.works06.f).bind fun t108 => (some t108)) else (some false)) = some r := H
      have A9 := Aside0.mk A90
      clear A90
      by_cases c10 : t106.toList = t107.toList
      · rw [if_pos c10] at H
        have c10b0 : (t106.toList == t107.toList) = true := beq_iff_eq.mpr c10
        have c10b1 : (t106.toList != t107.toList) = false := bne_eq_false_iff_eq.mpr c10
        clear c10
        replace H := Option.bind_eq_some_iff.mp H
        obtain ⟨t108, A110, H⟩ := H
        replace H : (some t108) = some r := H
        have A11 := Aside0.mk A110
        clear A110
        obtain rfl := Option.some.inj H
        go_enter Tryz.func8, Tryz.ntmps8
        try go_wp2_with (first | ((with_reducible refine gate_dst (N := 1) rfl ?_); refine box_event ?hg (N := 1) ?hd (cs := #[.int .u8 a0_0, .int .u8 a0_1, .int .u8 a0_2, .int .u8 a0_3, .string a0_4, .int .i64 a0_5]) (t := 28) ?hr ?_; (case hd => rfl); (case hg => rfl); (case hr => first | (go_simp; done) | (go_simp; rfl)); intro gb101 hg w12 hbox hb; have n0_ := Aside0.mk (below_step (by repeat (first | (with_reducible first | exact HB.out | apply below_alloc | apply pw_below_drewN | apply below_drew1) | exact HB.out)) hb); have n1_ := Aside0.mk (hbox); have n2_ := Aside0.mk ((by rw [hg]; exact (below_size (by repeat (first | (with_reducible first | exact HB.out | apply below_alloc | apply pw_below_drewN | apply below_drew1) | exact HB.out))) : w.heap.size ≤ gb101)); have n3_ := Aside0.mk ((by rw [hg]; exact (below_size (by repeat (first | (with_reducible first | exact HB.out | apply below_alloc | apply pw_below_drewN | apply below_drew1) | exact HB.out))) : w.heap.size ≤ gb101)); clear HB; have HB := n0_; have BK101 := n1_; have GW101 := n2_; have GE101 := n3_; clear n0_ n1_ n2_ n3_; clear hb hbox hg))
        have n0_ := Aside0.mk (blk_drew BK101.out)
        have n1_ := Aside0.mk (below_drew1 HB.out)
        clear BK101
        clear HB
        have BK101 := n0_
        have HB := n1_
        clear n0_ n1_
        refine start_ (n := 27) (S := fun w' => w'.cell? ⟨gb101, 0, none⟩ = some (.int .u8 a0_0) ∧ w'.cell? ⟨gb101, 1, none⟩ = some (.int .u8 a0_1) ∧ w'.cell? ⟨gb101, 2, none⟩ = some (.int .u8 a0_2) ∧ w'.cell? ⟨gb101, 3, none⟩ = some (.int .u8 a0_3) ∧ w'.cell? ⟨gb101, 4, none⟩ = some (.string a0_4) ∧ w'.cell? ⟨gb101, 5, none⟩ = some (.int .i64 a0_5)) (ds := []) #[false, false, false, false, false, false, false, false, false, false, false, false, false, false, false, false, false, false, false, false, false, false, false, false, false, false, false] (by kernel_rfl) rfl rfl ⟨(blk_cell BK101.out 0).trans rfl, (blk_cell BK101.out 1).trans rfl, (blk_cell BK101.out 2).trans rfl, (blk_cell BK101.out 3).trans rfl, (blk_cell BK101.out 4).trans rfl, (blk_cell BK101.out 5).trans rfl⟩ (fun hHeld => ?_); refine with_tabW sallyportlaw06_HostPrints.tab1 sallyportlaw06_HostPrints.bits1 (fun HT_ HW_ => ?_)
        generalize w12.drew = w13 at BK101 HB hHeld ⊢
        refine pure_ (i := 0) (N := some 3) (v := ?_) (a' := ?_) #[true, false, false, false, false, false, false, false, false, false, false, false, false, false, false, false, false, false, false, false, false, false, false, false, false, false, false] rfl rfl (any_of HT_.out (by kernel_rfl)) (fun _ _ _ h => h) (Or.inl ⟨by rfl, ?_⟩) ?_ ?_
        rotate_left
        · intro w'
          go_simp
          with_reducible rfl
        rotate_left
        · simp only [Act.put, List.setIfInBounds_toArray, List.set_cons_zero, List.set_cons_succ, i64_w, i32_w]
          rfl
        refine pure_ (i := 3) (N := some 6) (v := ?_) (a' := ?_) #[true, false, false, true, false, false, false, false, false, false, false, false, false, false, false, false, false, false, false, false, false, false, false, false, false, false, false] rfl rfl (any_of HT_.out (by kernel_rfl)) (fun _ _ _ h => h) (Or.inl ⟨by rfl, ?_⟩) ?_ ?_
        rotate_left
        · intro w'
          go_simp
          with_reducible rfl
        rotate_left
        · simp only [Act.put, List.setIfInBounds_toArray, List.set_cons_zero, List.set_cons_succ, i64_w, i32_w]
          rfl
        refine take_ (i := 1) (N := some 4) (v := ?_) (a' := ?_) #[true, true, false, true, false, false, false, false, false, false, false, false, false, false, false, false, false, false, false, false, false, false, false, false, false, false, false] rfl rfl (take_ofW HT_.out HW_.out (by kernel_rfl)) (fun _ _ _ h => h) (Or.inl ⟨by rfl, ?_⟩) hHeld ?_ ?_
        rotate_left
        · rintro w' ⟨s0, s1, s2, s3, s4, s5⟩
          go_simp
          with_reducible rfl
        rotate_left
        · simp only [Act.put, List.setIfInBounds_toArray, List.set_cons_zero, List.set_cons_succ, i64_w, i32_w]
          rfl
        refine take_ (i := 4) (N := some 7) (v := ?_) (a' := ?_) #[true, true, false, true, true, false, false, false, false, false, false, false, false, false, false, false, false, false, false, false, false, false, false, false, false, false, false] rfl rfl (take_ofW HT_.out HW_.out (by kernel_rfl)) (fun _ _ _ h => h) (Or.inl ⟨by rfl, ?_⟩) hHeld ?_ ?_
        rotate_left
        · rintro w' ⟨s0, s1, s2, s3, s4, s5⟩
          go_simp
          with_reducible rfl
        rotate_left
        · simp only [Act.put, List.setIfInBounds_toArray, List.set_cons_zero, List.set_cons_succ, i64_w, i32_w]
          rfl
        refine one_ (i := 2) (N := some 5) #[true, true, true, true, true, false, false, false, false, false, false, false, false, false, false, false, false, false, false, false, false, false, false, false, false, false, false] rfl rfl (one_of HT_.out (by kernel_rfl)) (by decide) (fun K hK => ?_)
        refine goes_ Tryz.func30 (by kernel_rfl) rfl #[.agg #[.int .u8 a0_0, .int .u8 a0_1, .int .u8 a0_2, .int .u8 a0_3, .string a0_4]] (by rfl) rfl rfl (by (try simp only [List.map_toArray, List.map_cons, List.map_nil]); first | done | rfl | (simp only [List.length_drop, List.length_take]; rfl)) ?_
        with_reducible refine (EE.hCheck.calls a0_0 a0_1 a0_2 a0_3 a0_4 t102 _ ?side1 A2.out).mono ?_
        (case side1 => exact StdE.below HS_.out (by repeat (first | (with_reducible first | exact HB.out | apply below_alloc | apply pw_below_drewN | apply below_drew1 | refine below_set ?_ GE101.out) | exact HB.out)))
        rintro e w14 ⟨rfl, hb⟩
        refine ⟨_, rfl, ?_⟩
        have n0_ := Aside0.mk (blk_below (g := gb101) (o := .cells #[.int .u8 a0_0, .int .u8 a0_1, .int .u8 a0_2, .int .u8 a0_3, .string a0_4, .int .i64 a0_5] 28 (0, 0)) (by (with_reducible repeat (first | refine blk_drewN ?_ _ | refine blk_drew ?_ | refine blk_alloc ?_ _)); exact BK101.out) hb)
        have n1_ := Aside0.mk (below_step (by repeat (first | (with_reducible first | exact HB.out | apply below_alloc | apply pw_below_drewN | apply below_drew1 | refine below_set ?_ GE101.out) | exact HB.out)) hb)
        clear BK101
        clear HB
        have BK101 := n0_
        have HB := n1_
        clear n0_ n1_
        (try clear hb)
        (try clear hb2)
        (try clear hk)
        (try clear hi)
        refine hK.out _ _ ⟨(blk_cell BK101.out 0).trans rfl, (blk_cell BK101.out 1).trans rfl, (blk_cell BK101.out 2).trans rfl, (blk_cell BK101.out 3).trans rfl, (blk_cell BK101.out 4).trans rfl, (blk_cell BK101.out 5).trans rfl⟩ (fun hHeld => ?_)
        clear hK K
        refine norm_ (a' := ?_) ?_ ?_
        rotate_left
        · show Act.put _ (some 5) _ = _
          simp only [Act.put, List.setIfInBounds_toArray, List.set_cons_zero, List.set_cons_succ, i64_w, i32_w]
          rfl
        refine one_ (i := 5) (N := some 8) #[true, true, true, true, true, true, false, false, false, false, false, false, false, false, false, false, false, false, false, false, false, false, false, false, false, false, false] rfl rfl (one_of HT_.out (by kernel_rfl)) (by decide) (fun K hK => ?_)
        refine goes_ Tryz.func31 (by kernel_rfl) rfl #[.agg #[.int .u8 a0_0, .int .u8 a0_1, .int .u8 a0_2, .int .u8 a0_3, .string a0_4]] (by rfl) rfl rfl (by (try simp only [List.map_toArray, List.map_cons, List.map_nil]); first | done | rfl | (simp only [List.length_drop, List.length_take]; rfl)) ?_
        with_reducible refine (EE.refCheck.calls a0_0 a0_1 a0_2 a0_3 a0_4 t103 _ ?side1 A3.out).mono ?_
        (case side1 => exact StdE.below HS_.out (by repeat (first | (with_reducible first | exact HB.out | apply below_alloc | apply pw_below_drewN | apply below_drew1 | refine below_set ?_ GE101.out) | exact HB.out)))
        rintro e w15 ⟨rfl, hb⟩
        refine ⟨_, rfl, ?_⟩
        have n0_ := Aside0.mk (blk_below (g := gb101) (o := .cells #[.int .u8 a0_0, .int .u8 a0_1, .int .u8 a0_2, .int .u8 a0_3, .string a0_4, .int .i64 a0_5] 28 (0, 0)) (by (with_reducible repeat (first | refine blk_drewN ?_ _ | refine blk_drew ?_ | refine blk_alloc ?_ _)); exact BK101.out) hb)
        have n1_ := Aside0.mk (below_step (by repeat (first | (with_reducible first | exact HB.out | apply below_alloc | apply pw_below_drewN | apply below_drew1 | refine below_set ?_ GE101.out) | exact HB.out)) hb)
        clear BK101
        clear HB
        have BK101 := n0_
        have HB := n1_
        clear n0_ n1_
        (try clear hb)
        (try clear hb2)
        (try clear hk)
        (try clear hi)
        refine hK.out _ _ ⟨(blk_cell BK101.out 0).trans rfl, (blk_cell BK101.out 1).trans rfl, (blk_cell BK101.out 2).trans rfl, (blk_cell BK101.out 3).trans rfl, (blk_cell BK101.out 4).trans rfl, (blk_cell BK101.out 5).trans rfl⟩ (fun hHeld => ?_)
        clear hK K
        refine norm_ (a' := ?_) ?_ ?_
        rotate_left
        · show Act.put _ (some 8) _ = _
          simp only [Act.put, List.setIfInBounds_toArray, List.set_cons_zero, List.set_cons_succ, i64_w, i32_w]
          rfl
        refine pure_ (i := 6) (N := some 9) (v := ?_) (a' := ?_) #[true, true, true, true, true, true, true, false, false, false, false, false, false, false, false, false, false, false, false, false, false, false, false, false, false, false, false] rfl rfl (any_of HT_.out (by kernel_rfl)) (fun _ _ _ h => h) (Or.inl ⟨by rfl, ?_⟩) ?_ ?_
        rotate_left
        · intro w'
          go_simp
          with_reducible rfl
        rotate_left
        · simp only [Act.put, List.setIfInBounds_toArray, List.set_cons_zero, List.set_cons_succ, i64_w, i32_w]
          rfl
        refine pure_ (i := 7) (N := some 10) (v := ?_) (a' := ?_) #[true, true, true, true, true, true, true, true, false, false, false, false, false, false, false, false, false, false, false, false, false, false, false, false, false, false, false] rfl rfl (any_of HT_.out (by kernel_rfl)) (fun _ _ _ h => h) (Or.inl ⟨by rfl, ?_⟩) ?_ ?_
        rotate_left
        · intro w'
          go_simp
          with_reducible rfl
        rotate_left
        · simp only [Act.put, List.setIfInBounds_toArray, List.set_cons_zero, List.set_cons_succ, i64_w, i32_w]
          rfl
        refine pure_ (i := 8) (N := some 11) (v := ?_) (a' := ?_) #[true, true, true, true, true, true, true, true, true, false, false, false, false, false, false, false, false, false, false, false, false, false, false, false, false, false, false] rfl rfl (any_of HT_.out (by kernel_rfl)) (fun _ _ _ h => h) (Or.inl ⟨by rfl, ?_⟩) ?_ ?_
        rotate_left
        · intro w'
          go_simp
          with_reducible rfl
        rotate_left
        · simp only [Act.put, List.setIfInBounds_toArray, List.set_cons_zero, List.set_cons_succ, i64_w, i32_w]
          rfl
        refine pure_ (i := 11) (N := some 14) (v := ?_) (a' := ?_) #[true, true, true, true, true, true, true, true, true, false, false, true, false, false, false, false, false, false, false, false, false, false, false, false, false, false, false] rfl rfl (any_of HT_.out (by kernel_rfl)) (fun _ _ _ h => h) (Or.inl ⟨by rfl, ?_⟩) ?_ ?_
        rotate_left
        · intro w'
          go_simp
          with_reducible rfl
        rotate_left
        · simp only [Act.put, List.setIfInBounds_toArray, List.set_cons_zero, List.set_cons_succ, i64_w, i32_w]
          rfl
        refine take_ (i := 9) (N := some 12) (v := ?_) (a' := ?_) #[true, true, true, true, true, true, true, true, true, true, false, true, false, false, false, false, false, false, false, false, false, false, false, false, false, false, false] rfl rfl (take_ofW HT_.out HW_.out (by kernel_rfl)) (fun _ _ _ h => h) (Or.inl ⟨by rfl, ?_⟩) hHeld ?_ ?_
        rotate_left
        · rintro w' ⟨s0, s1, s2, s3, s4, s5⟩
          go_simp
          with_reducible rfl
        rotate_left
        · simp only [Act.put, List.setIfInBounds_toArray, List.set_cons_zero, List.set_cons_succ, i64_w, i32_w]
          rfl
        refine take_ (i := 12) (N := some 15) (v := ?_) (a' := ?_) #[true, true, true, true, true, true, true, true, true, true, false, true, true, false, false, false, false, false, false, false, false, false, false, false, false, false, false] rfl rfl (take_ofW HT_.out HW_.out (by kernel_rfl)) (fun _ _ _ h => h) (Or.inl ⟨by rfl, ?_⟩) hHeld ?_ ?_
        rotate_left
        · rintro w' ⟨s0, s1, s2, s3, s4, s5⟩
          go_simp
          with_reducible rfl
        rotate_left
        · simp only [Act.put, List.setIfInBounds_toArray, List.set_cons_zero, List.set_cons_succ, i64_w, i32_w]
          rfl
        refine one_ (i := 10) (N := some 13) #[true, true, true, true, true, true, true, true, true, true, true, true, true, false, false, false, false, false, false, false, false, false, false, false, false, false, false] rfl rfl (one_of HT_.out (by kernel_rfl)) (by decide) (fun K hK => ?_)
        refine goes_ Tryz.func32 (by kernel_rfl) rfl #[.agg #[.int .u8 a0_0, .int .u8 a0_1, .int .u8 a0_2, .int .u8 a0_3, .string a0_4]] (by rfl) rfl rfl (by (try simp only [List.map_toArray, List.map_cons, List.map_nil]); first | done | rfl | (simp only [List.length_drop, List.length_take]; rfl)) ?_
        with_reducible refine (EE.hPrint.calls a0_0 a0_1 a0_2 a0_3 a0_4 t104 _ ?side1 A5.out).mono ?_
        (case side1 => exact StdE.below HS_.out (by repeat (first | (with_reducible first | exact HB.out | apply below_alloc | apply pw_below_drewN | apply below_drew1 | refine below_set ?_ GE101.out) | exact HB.out)))
        rintro e w16 ⟨rfl, hb⟩
        refine ⟨_, rfl, ?_⟩
        have n0_ := Aside0.mk (blk_below (g := gb101) (o := .cells #[.int .u8 a0_0, .int .u8 a0_1, .int .u8 a0_2, .int .u8 a0_3, .string a0_4, .int .i64 a0_5] 28 (0, 0)) (by (with_reducible repeat (first | refine blk_drewN ?_ _ | refine blk_drew ?_ | refine blk_alloc ?_ _)); exact BK101.out) hb)
        have n1_ := Aside0.mk (below_step (by repeat (first | (with_reducible first | exact HB.out | apply below_alloc | apply pw_below_drewN | apply below_drew1 | refine below_set ?_ GE101.out) | exact HB.out)) hb)
        clear BK101
        clear HB
        have BK101 := n0_
        have HB := n1_
        clear n0_ n1_
        (try clear hb)
        (try clear hb2)
        (try clear hk)
        (try clear hi)
        refine hK.out _ _ ⟨(blk_cell BK101.out 0).trans rfl, (blk_cell BK101.out 1).trans rfl, (blk_cell BK101.out 2).trans rfl, (blk_cell BK101.out 3).trans rfl, (blk_cell BK101.out 4).trans rfl, (blk_cell BK101.out 5).trans rfl⟩ (fun hHeld => ?_)
        clear hK K
        refine norm_ (a' := ?_) ?_ ?_
        rotate_left
        · show Act.put _ (some 13) _ = _
          simp only [Act.put, List.setIfInBounds_toArray, List.set_cons_zero, List.set_cons_succ, i64_w, i32_w]
          rfl
        refine one_ (i := 13) (N := some 16) #[true, true, true, true, true, true, true, true, true, true, true, true, true, true, false, false, false, false, false, false, false, false, false, false, false, false, false] rfl rfl (one_of HT_.out (by kernel_rfl)) (by decide) (fun K hK => ?_)
        refine goes_ Tryz.func33 (by kernel_rfl) rfl #[.agg #[.int .u8 a0_0, .int .u8 a0_1, .int .u8 a0_2, .int .u8 a0_3, .string a0_4]] (by rfl) rfl rfl (by (try simp only [List.map_toArray, List.map_cons, List.map_nil]); first | done | rfl | (simp only [List.length_drop, List.length_take]; rfl)) ?_
        with_reducible refine (EE.refPrint.calls a0_0 a0_1 a0_2 a0_3 a0_4 t105 _ ?side1 A6.out).mono ?_
        (case side1 => exact StdE.below HS_.out (by repeat (first | (with_reducible first | exact HB.out | apply below_alloc | apply pw_below_drewN | apply below_drew1 | refine below_set ?_ GE101.out) | exact HB.out)))
        rintro e w17 ⟨rfl, hb⟩
        refine ⟨_, rfl, ?_⟩
        have n0_ := Aside0.mk (blk_below (g := gb101) (o := .cells #[.int .u8 a0_0, .int .u8 a0_1, .int .u8 a0_2, .int .u8 a0_3, .string a0_4, .int .i64 a0_5] 28 (0, 0)) (by (with_reducible repeat (first | refine blk_drewN ?_ _ | refine blk_drew ?_ | refine blk_alloc ?_ _)); exact BK101.out) hb)
        have n1_ := Aside0.mk (below_step (by repeat (first | (with_reducible first | exact HB.out | apply below_alloc | apply pw_below_drewN | apply below_drew1 | refine below_set ?_ GE101.out) | exact HB.out)) hb)
        clear BK101
        clear HB
        have BK101 := n0_
        have HB := n1_
        clear n0_ n1_
        (try clear hb)
        (try clear hb2)
        (try clear hk)
        (try clear hi)
        refine hK.out _ _ ⟨(blk_cell BK101.out 0).trans rfl, (blk_cell BK101.out 1).trans rfl, (blk_cell BK101.out 2).trans rfl, (blk_cell BK101.out 3).trans rfl, (blk_cell BK101.out 4).trans rfl, (blk_cell BK101.out 5).trans rfl⟩ (fun hHeld => ?_)
        clear hK K
        refine norm_ (a' := ?_) ?_ ?_
        rotate_left
        · show Act.put _ (some 16) _ = _
          simp only [Act.put, List.setIfInBounds_toArray, List.set_cons_zero, List.set_cons_succ, i64_w, i32_w]
          rfl
        refine pure_ (i := 14) (N := some 17) (v := ?_) (a' := ?_) #[true, true, true, true, true, true, true, true, true, true, true, true, true, true, true, false, false, false, false, false, false, false, false, false, false, false, false] rfl rfl (any_of HT_.out (by kernel_rfl)) (fun _ _ _ h => h) (Or.inl ⟨by rfl, ?_⟩) ?_ ?_
        rotate_left
        · intro w'
          go_simp
          with_reducible rfl
        rotate_left
        · simp only [Act.put, List.setIfInBounds_toArray, List.set_cons_zero, List.set_cons_succ, i64_w, i32_w]
          rfl
        refine pure_ (i := 15) (N := some 18) (v := ?_) (a' := ?_) #[true, true, true, true, true, true, true, true, true, true, true, true, true, true, true, true, false, false, false, false, false, false, false, false, false, false, false] rfl rfl (any_of HT_.out (by kernel_rfl)) (fun _ _ _ h => h) (Or.inl ⟨by rfl, ?_⟩) ?_ ?_
        rotate_left
        · intro w'
          go_simp
          with_reducible rfl
        rotate_left
        · simp only [Act.put, List.setIfInBounds_toArray, List.set_cons_zero, List.set_cons_succ, i64_w, i32_w]
          rfl
        refine pure_ (i := 16) (N := some 19) (v := ?_) (a' := ?_) #[true, true, true, true, true, true, true, true, true, true, true, true, true, true, true, true, true, false, false, false, false, false, false, false, false, false, false] rfl rfl (any_of HT_.out (by kernel_rfl)) (fun _ _ _ h => h) (Or.inl ⟨by rfl, ?_⟩) ?_ ?_
        rotate_left
        · intro w'
          go_simp
          with_reducible rfl
        rotate_left
        · simp only [Act.put, List.setIfInBounds_toArray, List.set_cons_zero, List.set_cons_succ, i64_w, i32_w]
          rfl
        refine take_ (i := 17) (N := some 20) (v := ?_) (a' := ?_) #[true, true, true, true, true, true, true, true, true, true, true, true, true, true, true, true, true, true, false, false, false, false, false, false, false, false, false] rfl rfl (take_ofW HT_.out HW_.out (by kernel_rfl)) (fun _ _ _ h => h) (Or.inl ⟨by rfl, ?_⟩) hHeld ?_ ?_
        rotate_left
        · rintro w' ⟨s0, s1, s2, s3, s4, s5⟩
          go_simp
          with_reducible rfl
        rotate_left
        · simp only [Act.put, List.setIfInBounds_toArray, List.set_cons_zero, List.set_cons_succ, i64_w, i32_w]
          rfl
        refine take_ (i := 19) (N := some 22) (v := ?_) (a' := ?_) #[true, true, true, true, true, true, true, true, true, true, true, true, true, true, true, true, true, true, false, true, false, false, false, false, false, false, false] rfl rfl (take_ofW HT_.out HW_.out (by kernel_rfl)) (fun _ _ _ h => h) (Or.inl ⟨by rfl, ?_⟩) hHeld ?_ ?_
        rotate_left
        · rintro w' ⟨s0, s1, s2, s3, s4, s5⟩
          go_simp
          with_reducible rfl
        rotate_left
        · simp only [Act.put, List.setIfInBounds_toArray, List.set_cons_zero, List.set_cons_succ, i64_w, i32_w]
          rfl
        refine one_ (i := 18) (N := some 21) #[true, true, true, true, true, true, true, true, true, true, true, true, true, true, true, true, true, true, true, true, false, false, false, false, false, false, false] rfl rfl (one_of HT_.out (by kernel_rfl)) (by decide) (fun K hK => ?_)
        refine goes_ Tryz.func34 (by kernel_rfl) rfl #[.agg #[.int .u8 a0_0, .int .u8 a0_1, .int .u8 a0_2, .int .u8 a0_3, .string a0_4, .int .i64 a0_5]] (by rfl) rfl rfl (by (try simp only [List.map_toArray, List.map_cons, List.map_nil]); first | done | rfl | (simp only [List.length_drop, List.length_take]; rfl)) ?_
        with_reducible refine (EE.hPrintDest.calls a0_0 a0_1 a0_2 a0_3 a0_4 a0_5 t106 _ ?side1 A8.out).mono ?_
        (case side1 => exact StdE.below HS_.out (by repeat (first | (with_reducible first | exact HB.out | apply below_alloc | apply pw_below_drewN | apply below_drew1 | refine below_set ?_ GE101.out) | exact HB.out)))
        rintro e w18 ⟨rfl, hb⟩
        refine ⟨_, rfl, ?_⟩
        have n0_ := Aside0.mk (blk_below (g := gb101) (o := .cells #[.int .u8 a0_0, .int .u8 a0_1, .int .u8 a0_2, .int .u8 a0_3, .string a0_4, .int .i64 a0_5] 28 (0, 0)) (by (with_reducible repeat (first | refine blk_drewN ?_ _ | refine blk_drew ?_ | refine blk_alloc ?_ _)); exact BK101.out) hb)
        have n1_ := Aside0.mk (below_step (by repeat (first | (with_reducible first | exact HB.out | apply below_alloc | apply pw_below_drewN | apply below_drew1 | refine below_set ?_ GE101.out) | exact HB.out)) hb)
        clear BK101
        clear HB
        have BK101 := n0_
        have HB := n1_
        clear n0_ n1_
        (try clear hb)
        (try clear hb2)
        (try clear hk)
        (try clear hi)
        refine hK.out _ _ ⟨(blk_cell BK101.out 0).trans rfl, (blk_cell BK101.out 1).trans rfl, (blk_cell BK101.out 2).trans rfl, (blk_cell BK101.out 3).trans rfl, (blk_cell BK101.out 4).trans rfl, (blk_cell BK101.out 5).trans rfl⟩ (fun hHeld => ?_)
        clear hK K
        refine norm_ (a' := ?_) ?_ ?_
        rotate_left
        · show Act.put _ (some 21) _ = _
          simp only [Act.put, List.setIfInBounds_toArray, List.set_cons_zero, List.set_cons_succ, i64_w, i32_w]
          rfl
        refine one_ (i := 20) (N := some 23) #[true, true, true, true, true, true, true, true, true, true, true, true, true, true, true, true, true, true, true, true, true, false, false, false, false, false, false] rfl rfl (one_of HT_.out (by kernel_rfl)) (by decide) (fun K hK => ?_)
        refine goes_ Tryz.func35 (by kernel_rfl) rfl #[.agg #[.int .u8 a0_0, .int .u8 a0_1, .int .u8 a0_2, .int .u8 a0_3, .string a0_4, .int .i64 a0_5]] (by rfl) rfl rfl (by (try simp only [List.map_toArray, List.map_cons, List.map_nil]); first | done | rfl | (simp only [List.length_drop, List.length_take]; rfl)) ?_
        with_reducible refine (EE.refPrintDest.calls a0_0 a0_1 a0_2 a0_3 a0_4 a0_5 t107 _ ?side1 A9.out).mono ?_
        (case side1 => exact StdE.below HS_.out (by repeat (first | (with_reducible first | exact HB.out | apply below_alloc | apply pw_below_drewN | apply below_drew1 | refine below_set ?_ GE101.out) | exact HB.out)))
        rintro e w19 ⟨rfl, hb⟩
        refine ⟨_, rfl, ?_⟩
        have n0_ := Aside0.mk (blk_below (g := gb101) (o := .cells #[.int .u8 a0_0, .int .u8 a0_1, .int .u8 a0_2, .int .u8 a0_3, .string a0_4, .int .i64 a0_5] 28 (0, 0)) (by (with_reducible repeat (first | refine blk_drewN ?_ _ | refine blk_drew ?_ | refine blk_alloc ?_ _)); exact BK101.out) hb)
        have n1_ := Aside0.mk (below_step (by repeat (first | (with_reducible first | exact HB.out | apply below_alloc | apply pw_below_drewN | apply below_drew1 | refine below_set ?_ GE101.out) | exact HB.out)) hb)
        clear BK101
        clear HB
        have BK101 := n0_
        have HB := n1_
        clear n0_ n1_
        (try clear hb)
        (try clear hb2)
        (try clear hk)
        (try clear hi)
        refine hK.out _ _ ⟨(blk_cell BK101.out 0).trans rfl, (blk_cell BK101.out 1).trans rfl, (blk_cell BK101.out 2).trans rfl, (blk_cell BK101.out 3).trans rfl, (blk_cell BK101.out 4).trans rfl, (blk_cell BK101.out 5).trans rfl⟩ (fun hHeld => ?_)
        clear hK K
        refine norm_ (a' := ?_) ?_ ?_
        rotate_left
        · show Act.put _ (some 23) _ = _
          simp only [Act.put, List.setIfInBounds_toArray, List.set_cons_zero, List.set_cons_succ, i64_w, i32_w]
          rfl
        refine pure_ (i := 21) (N := some 24) (v := ?_) (a' := ?_) #[true, true, true, true, true, true, true, true, true, true, true, true, true, true, true, true, true, true, true, true, true, true, false, false, false, false, false] rfl rfl (any_of HT_.out (by kernel_rfl)) (fun _ _ _ h => h) (Or.inl ⟨by rfl, ?_⟩) ?_ ?_
        rotate_left
        · intro w'
          go_simp
          with_reducible rfl
        rotate_left
        · simp only [Act.put, List.setIfInBounds_toArray, List.set_cons_zero, List.set_cons_succ, i64_w, i32_w]
          rfl
        refine pure_ (i := 22) (N := some 25) (v := ?_) (a' := ?_) #[true, true, true, true, true, true, true, true, true, true, true, true, true, true, true, true, true, true, true, true, true, true, true, false, false, false, false] rfl rfl (any_of HT_.out (by kernel_rfl)) (fun _ _ _ h => h) (Or.inl ⟨by rfl, ?_⟩) ?_ ?_
        rotate_left
        · intro w'
          go_simp
          with_reducible rfl
        rotate_left
        · simp only [Act.put, List.setIfInBounds_toArray, List.set_cons_zero, List.set_cons_succ, i64_w, i32_w]
          rfl
        refine pure_ (i := 23) (N := some 26) (v := ?_) (a' := ?_) #[true, true, true, true, true, true, true, true, true, true, true, true, true, true, true, true, true, true, true, true, true, true, true, true, false, false, false] rfl rfl (any_of HT_.out (by kernel_rfl)) (fun _ _ _ h => h) (Or.inl ⟨by rfl, ?_⟩) ?_ ?_
        rotate_left
        · intro w'
          go_simp
          with_reducible rfl
        rotate_left
        · simp only [Act.put, List.setIfInBounds_toArray, List.set_cons_zero, List.set_cons_succ, i64_w, i32_w]
          rfl
        refine one_ (i := 24) (N := some 27) #[true, true, true, true, true, true, true, true, true, true, true, true, true, true, true, true, true, true, true, true, true, true, true, true, true, false, false] rfl rfl (one_of HT_.out (by kernel_rfl)) (by decide) (fun K hK => ?_)
        refine goes_ Tryz.func29 (by kernel_rfl) rfl #[] (by rfl) rfl rfl (by (try simp only [List.map_toArray, List.map_cons, List.map_nil]); first | done | rfl | (simp only [List.length_drop, List.length_take]; rfl)) ?_
        with_reducible refine (EE.works06.calls  t108 _ ?side1 A11.out).mono ?_
        (case side1 => exact StdE.below HS_.out (by repeat (first | (with_reducible first | exact HB.out | apply below_alloc | apply pw_below_drewN | apply below_drew1 | refine below_set ?_ GE101.out) | exact HB.out)))
        rintro e w20 ⟨rfl, hb⟩
        refine ⟨_, rfl, ?_⟩
        have n0_ := Aside0.mk (blk_below (g := gb101) (o := .cells #[.int .u8 a0_0, .int .u8 a0_1, .int .u8 a0_2, .int .u8 a0_3, .string a0_4, .int .i64 a0_5] 28 (0, 0)) (by (with_reducible repeat (first | refine blk_drewN ?_ _ | refine blk_drew ?_ | refine blk_alloc ?_ _)); exact BK101.out) hb)
        have n1_ := Aside0.mk (below_step (by repeat (first | (with_reducible first | exact HB.out | apply below_alloc | apply pw_below_drewN | apply below_drew1 | refine below_set ?_ GE101.out) | exact HB.out)) hb)
        clear BK101
        clear HB
        have BK101 := n0_
        have HB := n1_
        clear n0_ n1_
        (try clear hb)
        (try clear hb2)
        (try clear hk)
        (try clear hi)
        refine hK.out _ _ ⟨(blk_cell BK101.out 0).trans rfl, (blk_cell BK101.out 1).trans rfl, (blk_cell BK101.out 2).trans rfl, (blk_cell BK101.out 3).trans rfl, (blk_cell BK101.out 4).trans rfl, (blk_cell BK101.out 5).trans rfl⟩ (fun hHeld => ?_)
        clear hK K
        refine norm_ (a' := ?_) ?_ ?_
        rotate_left
        · show Act.put _ (some 27) _ = _
          simp only [Act.put, List.setIfInBounds_toArray, List.set_cons_zero, List.set_cons_succ, i64_w, i32_w]
          rfl
        refine pure_ (i := 25) (N := some 28) (v := ?_) (a' := ?_) #[true, true, true, true, true, true, true, true, true, true, true, true, true, true, true, true, true, true, true, true, true, true, true, true, true, true, false] rfl rfl (any_of HT_.out (by kernel_rfl)) (fun _ _ _ h => h) (Or.inl ⟨by rfl, ?_⟩) ?_ ?_
        rotate_left
        · intro w'
          go_simp
          with_reducible rfl
        rotate_left
        · simp only [Act.put, List.setIfInBounds_toArray, List.set_cons_zero, List.set_cons_succ, i64_w, i32_w]
          rfl
        refine pure_ (i := 26) (N := some 2) (v := ?_) (a' := ?_) #[true, true, true, true, true, true, true, true, true, true, true, true, true, true, true, true, true, true, true, true, true, true, true, true, true, true, true] rfl rfl (any_of HT_.out (by kernel_rfl)) (fun _ _ _ h => h) (Or.inl ⟨by rfl, ?_⟩) ?_ ?_
        rotate_left
        · intro w'
          go_simp
          with_reducible rfl
        rotate_left
        · simp only [Act.put, List.setIfInBounds_toArray, List.set_cons_zero, List.set_cons_succ, i64_w, i32_w]
          rfl
        refine done_ (done_of HT_.out (by kernel_rfl)) ?_
        try go_wp2
        go_ret
        exact ⟨by first | rfl | (simp [errW_none, errW_some] <;> rfl) | (simp [*, errW_none, errW_some] <;> rfl), by repeat (first | (with_reducible first | exact HB.out | apply below_alloc | apply pw_below_drewN | apply below_drew1 | refine below_set ?_ GE101.out) | exact HB.out)⟩
      · rw [if_neg c10] at H
        have c10b0 : (t106.toList == t107.toList) = false := beq_eq_false_iff_ne.mpr c10
        have c10b1 : (t106.toList != t107.toList) = true := bne_iff_ne.mpr c10
        exact absurd (Option.some.inj H) (by rw [HRT_.out]; simp)
    · rw [if_neg c7] at H
      have c7b0 : (t104.toList == t105.toList) = false := beq_eq_false_iff_ne.mpr c7
      have c7b1 : (t104.toList != t105.toList) = true := bne_iff_ne.mpr c7
      exact absurd (Option.some.inj H) (by rw [HRT_.out]; simp)
  · rw [if_neg c4] at H
    have c4b0 : (t102 == t103) = false := by simpa using c4
    (try (have c4b1 : decide (t102 = t103) = false := by simpa using c4))
    (try (have c4b2 : (t102 == t103) = false := by simpa using c4))
    (try (have c4b3 : ¬ (t102 = t103) := by simpa using c4))
    clear c4
    exact absurd (Option.some.inj H) (by rw [HRT_.out]; simp)
end Go.Proofs.YteondnhokgmakaaGreatDoor.XPrints


namespace Go.Proofs.YteondnhokgmakaaGreatDoor.XPrints
open Go.Proofs.YteondnhokgmakaaGreatDoor.XC Go.Proofs.YteondnhokgmakaaGreatDoor.XG
open Go.RowKit Go.Proofs.YteondnhokgmakaaGreatDoorW.PrintWords Go.Proofs.YteondnhokgmakaaGreatDoorW.PrintLast Go.Proofs.YteondnhokgmakaaGreatDoorW.PrintMore
attribute [local go_sem] max2_int min2_int max_two min_two max_three min_three max_four min_four
set_option linter.unusedVariables false
set_option linter.unusedSimpArgs false
end Go.Proofs.YteondnhokgmakaaGreatDoor.XPrints


namespace Go.Proofs.YteondnhokgmakaaGreatDoor.XWider
open Go.Proofs.YteondnhokgmakaaGreatDoor.XC Go.Proofs.YteondnhokgmakaaGreatDoor.XG
open Go.RowKit Go.Proofs.YteondnhokgmakaaGreatDoorW.PrintWords Go.Proofs.YteondnhokgmakaaGreatDoorW.PrintLast Go.Proofs.YteondnhokgmakaaGreatDoorW.PrintMore
attribute [local go_sem] max2_int min2_int max_two min_two max_three min_three max_four min_four
set_option linter.unusedVariables false
set_option linter.unusedSimpArgs false
end Go.Proofs.YteondnhokgmakaaGreatDoor.XWider


namespace Go.Proofs.YteondnhokgmakaaGreatDoor.XWider
open Go.Proofs.YteondnhokgmakaaGreatDoor.XC Go.Proofs.YteondnhokgmakaaGreatDoor.XG
open Go.RowKit Go.Proofs.YteondnhokgmakaaGreatDoorW.PrintWords Go.Proofs.YteondnhokgmakaaGreatDoorW.PrintLast Go.Proofs.YteondnhokgmakaaGreatDoorW.PrintMore
attribute [local go_sem] max2_int min2_int max_two min_two max_three min_three max_four min_four
set_option linter.unusedVariables false
set_option linter.unusedSimpArgs false
mutual
def sallyportlaw06_HostWider.j0 : Nat → ByteArray → ByteArray → ByteArray → Bool → Option (Bool)
  | 0, _, _, _, _ => none
  | k + 1, x4, x5, x6, x36 => if x36 = true then (some false) else ((XC.host_Under.f x4 x5).bind fun t106 => (if t106 = true then ((XC.host_Under.f x5 x6).bind fun t107 => (if t107 = true then ((XC.host_Under.f x4 x6).bind fun t108 => (sallyportlaw06_HostWider.j1 k x4 x5 x6 (!t108))) else (sallyportlaw06_HostWider.j1 k x4 x5 x6 false))) else (sallyportlaw06_HostWider.j1 k x4 x5 x6 false)))
def sallyportlaw06_HostWider.j1 : Nat → ByteArray → ByteArray → ByteArray → Bool → Option (Bool)
  | 0, _, _, _, _ => none
  | k + 1, x4, x5, x6, x50 => if x50 = true then (some false) else ((XC.host_Under.f x4 x5).bind fun t109 => (if t109 = true then ((XC.host_Under.f x4 x6).bind fun t110 => (sallyportlaw06_HostWider.j2 k x5 x6 t110)) else (sallyportlaw06_HostWider.j2 k x5 x6 false)))
def sallyportlaw06_HostWider.j2 : Nat → ByteArray → ByteArray → Bool → Option (Bool)
  | 0, _, _, _ => none
  | k + 1, x5, x6, x58 => if x58 = true then ((XC.host_Under.f x5 x6).bind fun t111 => (if t111 = true then (some true) else ((XC.host_Under.f x6 x5).bind fun t112 => (some t112)))) else (some true)
end
def sallyportlaw06_HostWider.f (k : Nat) (a0_0 : Int) (a0_1 : Int) (a0_2 : Int) (a0_3 : Int) (a1_0 : Int) (a1_1 : Int) (a1_2 : Int) (a1_3 : Int) (a2 : Int) (a3 : Int) (a4 : ByteArray) (a5 : ByteArray) (a6 : ByteArray) : Option (Bool) := (EE.works06.f).bind fun t103 => (if t103 = true then ((XC.host_In.f a0_0 a0_1 a0_2 a0_3 a1_0 a1_1 a1_2 a1_3 a2).bind fun t104 => (if t104 = true then (if a3 ≥ 0 then (if a3 ≤ a2 then ((XC.host_In.f a0_0 a0_1 a0_2 a0_3 a1_0 a1_1 a1_2 a1_3 a3).bind fun t105 => (sallyportlaw06_HostWider.j0 k a4 a5 a6 (!t105))) else (sallyportlaw06_HostWider.j0 k a4 a5 a6 false)) else (sallyportlaw06_HostWider.j0 k a4 a5 a6 false)) else (sallyportlaw06_HostWider.j0 k a4 a5 a6 false))) else (some false))
theorem sallyportlaw06_HostWider.mono_l : ∀ k, (∀ y0 y1 y2 y3, LeO (sallyportlaw06_HostWider.j0 k y0 y1 y2 y3) (sallyportlaw06_HostWider.j0 (k + 1) y0 y1 y2 y3)) ∧ (∀ y0 y1 y2 y3, LeO (sallyportlaw06_HostWider.j1 k y0 y1 y2 y3) (sallyportlaw06_HostWider.j1 (k + 1) y0 y1 y2 y3)) ∧ (∀ y0 y1 y2, LeO (sallyportlaw06_HostWider.j2 k y0 y1 y2) (sallyportlaw06_HostWider.j2 (k + 1) y0 y1 y2))
  | 0 => ⟨fun _ _ _ _ r h => by simp [sallyportlaw06_HostWider.j0] at h, fun _ _ _ _ r h => by simp [sallyportlaw06_HostWider.j1] at h, fun _ _ _ r h => by simp [sallyportlaw06_HostWider.j2] at h⟩
  | k + 1 => by
    obtain ⟨ih0, ih1, ih2⟩ := sallyportlaw06_HostWider.mono_l k
    refine ⟨?_, ?_, ?_⟩
    · intro y0 y1 y2 y3
      unfold sallyportlaw06_HostWider.j0
      repeat' first
      | (with_reducible exact ih0 _ _ _ _)
      | (with_reducible exact ih1 _ _ _ _)
      | (with_reducible exact ih2 _ _ _)
      | (with_reducible exact LeO.refl _)
      | (with_reducible exact LeO.none _)
      | (with_reducible refine LeO.ite ?_ ?_)
      | (with_reducible refine LeO.bind ?_ (fun _ => ?_))
      | exact ih0 _ _ _ _
      | exact ih1 _ _ _ _
      | exact ih2 _ _ _
      | exact LeO.none _
      | refine LeO.ite ?_ ?_
      | refine LeO.bind ?_ (fun _ => ?_)
    · intro y0 y1 y2 y3
      unfold sallyportlaw06_HostWider.j1
      repeat' first
      | (with_reducible exact ih0 _ _ _ _)
      | (with_reducible exact ih1 _ _ _ _)
      | (with_reducible exact ih2 _ _ _)
      | (with_reducible exact LeO.refl _)
      | (with_reducible exact LeO.none _)
      | (with_reducible refine LeO.ite ?_ ?_)
      | (with_reducible refine LeO.bind ?_ (fun _ => ?_))
      | exact ih0 _ _ _ _
      | exact ih1 _ _ _ _
      | exact ih2 _ _ _
      | exact LeO.none _
      | refine LeO.ite ?_ ?_
      | refine LeO.bind ?_ (fun _ => ?_)
    · intro y0 y1 y2
      unfold sallyportlaw06_HostWider.j2
      repeat' first
      | (with_reducible exact ih0 _ _ _ _)
      | (with_reducible exact ih1 _ _ _ _)
      | (with_reducible exact ih2 _ _ _)
      | (with_reducible exact LeO.refl _)
      | (with_reducible exact LeO.none _)
      | (with_reducible refine LeO.ite ?_ ?_)
      | (with_reducible refine LeO.bind ?_ (fun _ => ?_))
      | exact ih0 _ _ _ _
      | exact ih1 _ _ _ _
      | exact ih2 _ _ _
      | exact LeO.none _
      | refine LeO.ite ?_ ?_
      | refine LeO.bind ?_ (fun _ => ?_)
theorem sallyportlaw06_HostWider.mono : ∀ a0 a1 a2 a3 a4 a5 a6 a7 a8 a9 a10 a11 a12 k, LeO (sallyportlaw06_HostWider.f k a0 a1 a2 a3 a4 a5 a6 a7 a8 a9 a10 a11 a12) (sallyportlaw06_HostWider.f (k + 1) a0 a1 a2 a3 a4 a5 a6 a7 a8 a9 a10 a11 a12) := by
  intro a0 a1 a2 a3 a4 a5 a6 a7 a8 a9 a10 a11 a12 k
  obtain ⟨ih0, ih1, ih2⟩ := sallyportlaw06_HostWider.mono_l k
  unfold sallyportlaw06_HostWider.f
  repeat' first
      | (with_reducible exact ih0 _ _ _ _)
      | (with_reducible exact ih1 _ _ _ _)
      | (with_reducible exact ih2 _ _ _)
      | (with_reducible exact LeO.refl _)
      | (with_reducible exact LeO.none _)
      | (with_reducible refine LeO.ite ?_ ?_)
      | (with_reducible refine LeO.bind ?_ (fun _ => ?_))
      | exact ih0 _ _ _ _
      | exact ih1 _ _ _ _
      | exact ih2 _ _ _
      | exact LeO.none _
      | refine LeO.ite ?_ ?_
      | refine LeO.bind ?_ (fun _ => ?_)
set_option maxHeartbeats 8000000 in
set_option maxRecDepth 100000 in
theorem sallyportlaw06_HostWider.calls (k : Nat) (a0_0 : Int) (a0_1 : Int) (a0_2 : Int) (a0_3 : Int) (a1_0 : Int) (a1_1 : Int) (a1_2 : Int) (a1_3 : Int) (a2 : Int) (a3 : Int) (a4 : ByteArray) (a5 : ByteArray) (a6 : ByteArray) (r : Bool) (w : World) (hS_ : StdE w) (h : sallyportlaw06_HostWider.f k a0_0 a0_1 a0_2 a0_3 a1_0 a1_1 a1_2 a1_3 a2 a3 a4 a5 a6 = some r) :
    Calls Tryz.prog 7 #[.agg #[.int .u8 a0_0, .int .u8 a0_1, .int .u8 a0_2, .int .u8 a0_3], .agg #[.int .u8 a1_0, .int .u8 a1_1, .int .u8 a1_2, .int .u8 a1_3], .int .i64 a2, .int .i64 a3, .string a4, .string a5, .string a6] w fun e w' => e = .returned (.bool r) ∧ Below w.heap.size w w' := by
  have hu24 := Tryz.underlying24
  have HS_ := Aside0.mk hS_
  clear hS_
  have HB := Aside0.mk (Below.refl w.heap.size w)
  have H : ((EE.works06.f).bind fun t103 => (if t103 = true then ((XC.host_In.f a0_0 a0_1 a0_2 a0_3 a1_0 a1_1 a1_2 a1_3 a2).bind fun t104 => (if t104 = true then (if a3 ≥ 0 then (if a3 ≤ a2 then ((XC.host_In.f a0_0 a0_1 a0_2 a0_3 a1_0 a1_1 a1_2 a1_3 a3).bind fun t105 => (sallyportlaw06_HostWider.j0 k a4 a5 a6 (!t105))) else (sallyportlaw06_HostWider.j0 k a4 a5 a6 false)) else (sallyportlaw06_HostWider.j0 k a4 a5 a6 false)) else (sallyportlaw06_HostWider.j0 k a4 a5 a6 false))) else (some false))) = some r := h
  clear h
  replace H := Option.bind_eq_some_iff.mp H
  obtain ⟨t103, A80, H⟩ := H
  replace H : (if t103 = true then ((XC.host_In.f a0_0 a0_1 a0_2 a0_3 a1_0 a1_1 a1_2 a1_3 a2).bind fun t104 => (if t104 = true then (if a3 ≥ 0 then (if a3 ≤ a2 then ((XC.host_In.f a0_0 a0_1 a0_2 a0_3 a1_0 a1_1 a1_2 a1_3 a3).bind fun t105 => (sallyportlaw06_HostWider.j0 k a4 a5 a6 (!t105))) else (sallyportlaw06_HostWider.j0 k a4 a5 a6 false)) else (sallyportlaw06_HostWider.j0 k a4 a5 a6 false)) else (sallyportlaw06_HostWider.j0 k a4 a5 a6 false))) else (some false)) = some r := H
  have A8 := Aside0.mk A80
  clear A80
  by_cases c9 : t103 = true
  · subst c9
    have H1 : ((XC.host_In.f a0_0 a0_1 a0_2 a0_3 a1_0 a1_1 a1_2 a1_3 a2).bind fun t104 => (if t104 = true then (if a3 ≥ 0 then (if a3 ≤ a2 then ((XC.host_In.f a0_0 a0_1 a0_2 a0_3 a1_0 a1_1 a1_2 a1_3 a3).bind fun t105 => (sallyportlaw06_HostWider.j0 k a4 a5 a6 (!t105))) else (sallyportlaw06_HostWider.j0 k a4 a5 a6 false)) else (sallyportlaw06_HostWider.j0 k a4 a5 a6 false)) else (sallyportlaw06_HostWider.j0 k a4 a5 a6 false))) = some r := by rw [if_pos rfl] at H; exact H
    clear H
    have H := H1
    clear H1
    have HC10 := Aside0.mk H
    clear H
    go_enter Tryz.func7, Tryz.ntmps7
    go_upto_region 3 with (first | ((with_reducible refine gate_dst (N := 7) rfl ?_); refine box_event ?hg (N := 7) ?hd (cs := #[.int .u8 a0_0, .int .u8 a0_1, .int .u8 a0_2, .int .u8 a0_3]) (t := 24) ?hr ?_; (case hd => rfl); (case hg => rfl); (case hr => first | (go_simp; done) | (go_simp; rfl)); intro gb101 hg w11 hbox hb; have n0_ := Aside0.mk (below_step (by repeat (first | (with_reducible first | exact HB.out | apply below_alloc | apply pw_below_drewN | apply below_drew1) | exact HB.out)) hb); have n1_ := Aside0.mk (hbox); have n2_ := Aside0.mk ((by rw [hg]; exact (below_size (by repeat (first | (with_reducible first | exact HB.out | apply below_alloc | apply pw_below_drewN | apply below_drew1) | exact HB.out))) : w.heap.size ≤ gb101)); have n3_ := Aside0.mk ((by rw [hg]; exact (below_size (by repeat (first | (with_reducible first | exact HB.out | apply below_alloc | apply pw_below_drewN | apply below_drew1) | exact HB.out))) : w.heap.size ≤ gb101)); clear HB; have HB := n0_; have BK101 := n1_; have GW101 := n2_; have GE101 := n3_; clear n0_ n1_ n2_ n3_; clear hb hbox hg) | ((with_reducible refine gate_dst (N := 8) rfl ?_); refine box_event ?hg (N := 8) ?hd (cs := #[.int .u8 a1_0, .int .u8 a1_1, .int .u8 a1_2, .int .u8 a1_3]) (t := 24) ?hr ?_; (case hd => rfl); (case hg => rfl); (case hr => first | (go_simp; done) | (go_simp; rfl)); intro gb102 hg w12 hbox hb; have n0_ := Aside0.mk (blk_below (g := gb101) (o := .cells #[.int .u8 a0_0, .int .u8 a0_1, .int .u8 a0_2, .int .u8 a0_3] 24 (0, 0)) (by (with_reducible repeat (first | refine blk_drewN ?_ _ | refine blk_drew ?_ | refine blk_alloc ?_ _)); exact BK101.out) hb); have n1_ := Aside0.mk (below_step (by repeat (first | (with_reducible first | exact HB.out | apply below_alloc | apply pw_below_drewN | apply below_drew1 | refine below_set ?_ GE101.out) | exact HB.out)) hb); have n2_ := Aside0.mk (hbox); have n3_ := Aside0.mk ((by rw [hg]; exact (below_size (by repeat (first | (with_reducible first | exact HB.out | apply below_alloc | apply pw_below_drewN | apply below_drew1 | refine below_set ?_ GE101.out) | exact HB.out))) : w.heap.size ≤ gb102)); have n4_ := Aside0.mk ((by rw [hg]; exact (below_size (by repeat (first | (with_reducible first | exact HB.out | apply below_alloc | apply pw_below_drewN | apply below_drew1 | refine below_set ?_ GE101.out) | exact HB.out))) : w.heap.size ≤ gb102)); have n5_ := Aside0.mk ((by rw [hg]; exact Nat.ne_of_lt (blk_lt (g := gb101) (o := .cells #[.int .u8 a0_0, .int .u8 a0_1, .int .u8 a0_2, .int .u8 a0_3] 24 (0, 0)) (by (with_reducible repeat (first | refine blk_drewN ?_ _ | refine blk_drew ?_ | refine blk_alloc ?_ _)); exact BK101.out)) : gb101 ≠ gb102)); have n6_ := Aside0.mk ((by rw [hg]; exact Nat.ne_of_gt (blk_lt (g := gb101) (o := .cells #[.int .u8 a0_0, .int .u8 a0_1, .int .u8 a0_2, .int .u8 a0_3] 24 (0, 0)) (by (with_reducible repeat (first | refine blk_drewN ?_ _ | refine blk_drew ?_ | refine blk_alloc ?_ _)); exact BK101.out)) : gb102 ≠ gb101)); clear BK101; clear HB; have BK101 := n0_; have HB := n1_; have BK102 := n2_; have GW102 := n3_; have GE102 := n4_; have NB101_102 := n5_; have NB102_101 := n6_; clear n0_ n1_ n2_ n3_ n4_ n5_ n6_; clear hb hbox hg) | ((with_reducible refine gate_callee (f := 29) rfl ?_); refine goesL_ (some 15) rfl rfl Tryz.func29 (by kernel_rfl) rfl #[] rfl (by (try simp only [List.map_toArray, List.map_cons, List.map_nil]); first | done | rfl | (simp only [List.length_drop, List.length_take]; rfl)) ?_; (with_reducible refine (EE.works06.calls  true _ ?side1 A8.out).mono ?_); (case side1 => exact StdE.below HS_.out (by repeat (first | (with_reducible first | exact HB.out | apply below_alloc | apply pw_below_drewN | apply below_drew1 | refine below_set ?_ GE101.out | refine below_set ?_ GE102.out) | exact HB.out))); rintro e w13 ⟨rfl, hb⟩; refine ⟨_, rfl, ?_⟩; have n0_ := Aside0.mk (blk_below (g := gb101) (o := .cells #[.int .u8 a0_0, .int .u8 a0_1, .int .u8 a0_2, .int .u8 a0_3] 24 (0, 0)) (by (with_reducible repeat (first | refine blk_drewN ?_ _ | refine blk_drew ?_ | refine blk_alloc ?_ _)); exact BK101.out) hb); have n1_ := Aside0.mk (blk_below (g := gb102) (o := .cells #[.int .u8 a1_0, .int .u8 a1_1, .int .u8 a1_2, .int .u8 a1_3] 24 (0, 0)) (by (with_reducible repeat (first | refine blk_drewN ?_ _ | refine blk_drew ?_ | refine blk_alloc ?_ _)); exact BK102.out) hb); have n2_ := Aside0.mk (below_step (by repeat (first | (with_reducible first | exact HB.out | apply below_alloc | apply pw_below_drewN | apply below_drew1 | refine below_set ?_ GE101.out | refine below_set ?_ GE102.out) | exact HB.out)) hb); clear BK101; clear BK102; clear HB; have BK101 := n0_; have BK102 := n1_; have HB := n2_; clear n0_ n1_ n2_; (try clear hb); (try clear hb2); (try clear hk); (try clear hi)))
    (try simp only [Act.put, List.setIfInBounds_toArray, List.set_cons_zero, List.set_cons_succ])
    go_cut [36] (fun v36 wc => ∃ (kq : Nat) (x36_9 : Bool), v36 = .bool x36_9 ∧ Aside0 (sallyportlaw06_HostWider.j0 kq a4 a5 a6 x36_9 = some r) ∧ Aside0 (kq ≤ k) ∧ Aside0 (wc.heap[gb101]? = some (.cells #[.int .u8 a0_0, .int .u8 a0_1, .int .u8 a0_2, .int .u8 a0_3] 24 (0, 0))) ∧ Aside0 (wc.heap[gb102]? = some (.cells #[.int .u8 a1_0, .int .u8 a1_1, .int .u8 a1_2, .int .u8 a1_3] 24 (0, 0))) ∧ Aside0 (Below w.heap.size w wc))
    case first =>
      have H := HC10.out
      clear HC10
      replace H := Option.bind_eq_some_iff.mp H
      obtain ⟨t104, A140, H⟩ := H
      replace H : (if t104 = true then (if a3 ≥ 0 then (if a3 ≤ a2 then ((XC.host_In.f a0_0 a0_1 a0_2 a0_3 a1_0 a1_1 a1_2 a1_3 a3).bind fun t105 => (sallyportlaw06_HostWider.j0 k a4 a5 a6 (!t105))) else (sallyportlaw06_HostWider.j0 k a4 a5 a6 false)) else (sallyportlaw06_HostWider.j0 k a4 a5 a6 false)) else (sallyportlaw06_HostWider.j0 k a4 a5 a6 false)) = some r := H
      have A14 := Aside0.mk A140
      clear A140
      by_cases c15 : t104 = true
      · subst c15
        have H1 : (if a3 ≥ 0 then (if a3 ≤ a2 then ((XC.host_In.f a0_0 a0_1 a0_2 a0_3 a1_0 a1_1 a1_2 a1_3 a3).bind fun t105 => (sallyportlaw06_HostWider.j0 k a4 a5 a6 (!t105))) else (sallyportlaw06_HostWider.j0 k a4 a5 a6 false)) else (sallyportlaw06_HostWider.j0 k a4 a5 a6 false)) = some r := by rw [if_pos rfl] at H; exact H
        clear H
        have H := H1
        clear H1
        by_cases c16 : a3 ≥ 0
        · rw [if_pos c16] at H
          have c16b0 : decide (0 ≤ a3) = true := decide_eq_true c16
          clear c16
          (first | rw [c16b0] | (simp only [i64_w, i32_w]; rw [c16b0]) | skip)
          by_cases c17 : a3 ≤ a2
          · rw [if_pos c17] at H
            have c17b0 : decide (a3 ≤ a2) = true := decide_eq_true c17
            clear c17
            replace H := Option.bind_eq_some_iff.mp H
            obtain ⟨t105, A180, H⟩ := H
            replace H : (sallyportlaw06_HostWider.j0 k a4 a5 a6 (!t105)) = some r := H
            have A18 := Aside0.mk A180
            clear A180
            have H' := Aside0.mk H
            clear H
            have hnb19 := NB101_102.out
            have hnc19 := NB102_101.out
            have hcz20_0 : w13.cell? ⟨gb101, 0, none⟩ = some (.int .u8 a0_0) := (blk_cell BK101.out 0).trans rfl
            have hcz20_1 : w13.cell? ⟨gb101, 1, none⟩ = some (.int .u8 a0_1) := (blk_cell BK101.out 1).trans rfl
            have hcz20_2 : w13.cell? ⟨gb101, 2, none⟩ = some (.int .u8 a0_2) := (blk_cell BK101.out 2).trans rfl
            have hcz20_3 : w13.cell? ⟨gb101, 3, none⟩ = some (.int .u8 a0_3) := (blk_cell BK101.out 3).trans rfl
            have hfz20_0 := blk_frozen BK101.out 0
            have hfz20_1 := blk_frozen BK101.out 1
            have hfz20_2 := blk_frozen BK101.out 2
            have hfz20_3 := blk_frozen BK101.out 3
            have hcz21_0 : w13.cell? ⟨gb102, 0, none⟩ = some (.int .u8 a1_0) := (blk_cell BK102.out 0).trans rfl
            have hcz21_1 : w13.cell? ⟨gb102, 1, none⟩ = some (.int .u8 a1_1) := (blk_cell BK102.out 1).trans rfl
            have hcz21_2 : w13.cell? ⟨gb102, 2, none⟩ = some (.int .u8 a1_2) := (blk_cell BK102.out 2).trans rfl
            have hcz21_3 : w13.cell? ⟨gb102, 3, none⟩ = some (.int .u8 a1_3) := (blk_cell BK102.out 3).trans rfl
            have hfz21_0 := blk_frozen BK102.out 0
            have hfz21_1 := blk_frozen BK102.out 1
            have hfz21_2 := blk_frozen BK102.out 2
            have hfz21_3 := blk_frozen BK102.out 3
            go_wp2_with (first | ((with_reducible refine gate_callee (f := 25) rfl ?_); refine goesL_ (some 20) rfl rfl Tryz.func25 (by kernel_rfl) rfl #[.agg #[.int .u8 a0_0, .int .u8 a0_1, .int .u8 a0_2, .int .u8 a0_3], .agg #[.int .u8 a1_0, .int .u8 a1_1, .int .u8 a1_2, .int .u8 a1_3], .int .i64 a2] rfl (by (try simp only [List.map_toArray, List.map_cons, List.map_nil]); first | done | rfl | (simp only [List.length_drop, List.length_take]; rfl)) ?_; (with_reducible refine (XC.host_In.calls a0_0 a0_1 a0_2 a0_3 a1_0 a1_1 a1_2 a1_3 a2 true _ A14.out).mono ?_); rintro e w22 ⟨rfl, hb⟩; refine ⟨_, rfl, ?_⟩; have n0_ := Aside0.mk (blk_below (g := gb101) (o := .cells #[.int .u8 a0_0, .int .u8 a0_1, .int .u8 a0_2, .int .u8 a0_3] 24 (0, 0)) (by (with_reducible repeat (first | refine blk_drewN ?_ _ | refine blk_drew ?_ | refine blk_alloc ?_ _)); exact BK101.out) hb); have n1_ := Aside0.mk (blk_below (g := gb102) (o := .cells #[.int .u8 a1_0, .int .u8 a1_1, .int .u8 a1_2, .int .u8 a1_3] 24 (0, 0)) (by (with_reducible repeat (first | refine blk_drewN ?_ _ | refine blk_drew ?_ | refine blk_alloc ?_ _)); exact BK102.out) hb); have n2_ := Aside0.mk (below_step (by repeat (first | (with_reducible first | exact HB.out | apply below_alloc | apply pw_below_drewN | apply below_drew1 | refine below_set ?_ GE101.out | refine below_set ?_ GE102.out) | exact HB.out)) hb); clear BK101; clear BK102; clear HB; have BK101 := n0_; have BK102 := n1_; have HB := n2_; clear n0_ n1_ n2_; (try clear hb); (try clear hb2); (try clear hk); (try clear hi); have hcz23_0 : w22.cell? ⟨gb101, 0, none⟩ = some (.int .u8 a0_0) := (blk_cell BK101.out 0).trans rfl; have hcz23_1 : w22.cell? ⟨gb101, 1, none⟩ = some (.int .u8 a0_1) := (blk_cell BK101.out 1).trans rfl; have hcz23_2 : w22.cell? ⟨gb101, 2, none⟩ = some (.int .u8 a0_2) := (blk_cell BK101.out 2).trans rfl; have hcz23_3 : w22.cell? ⟨gb101, 3, none⟩ = some (.int .u8 a0_3) := (blk_cell BK101.out 3).trans rfl; have hfz23_0 := blk_frozen BK101.out 0; have hfz23_1 := blk_frozen BK101.out 1; have hfz23_2 := blk_frozen BK101.out 2; have hfz23_3 := blk_frozen BK101.out 3; have hcz24_0 : w22.cell? ⟨gb102, 0, none⟩ = some (.int .u8 a1_0) := (blk_cell BK102.out 0).trans rfl; have hcz24_1 : w22.cell? ⟨gb102, 1, none⟩ = some (.int .u8 a1_1) := (blk_cell BK102.out 1).trans rfl; have hcz24_2 : w22.cell? ⟨gb102, 2, none⟩ = some (.int .u8 a1_2) := (blk_cell BK102.out 2).trans rfl; have hcz24_3 : w22.cell? ⟨gb102, 3, none⟩ = some (.int .u8 a1_3) := (blk_cell BK102.out 3).trans rfl; have hfz24_0 := blk_frozen BK102.out 0; have hfz24_1 := blk_frozen BK102.out 1; have hfz24_2 := blk_frozen BK102.out 2; have hfz24_3 := blk_frozen BK102.out 3) | (go_at_call 25; (with_reducible refine (XC.host_In.calls a0_0 a0_1 a0_2 a0_3 a1_0 a1_1 a1_2 a1_3 a3 t105 _ A18.out).mono ?_); rintro e w25 ⟨rfl, hb⟩; have n0_ := Aside0.mk (blk_below (g := gb101) (o := .cells #[.int .u8 a0_0, .int .u8 a0_1, .int .u8 a0_2, .int .u8 a0_3] 24 (0, 0)) (by (with_reducible repeat (first | refine blk_drewN ?_ _ | refine blk_drew ?_ | refine blk_alloc ?_ _)); exact BK101.out) hb); have n1_ := Aside0.mk (blk_below (g := gb102) (o := .cells #[.int .u8 a1_0, .int .u8 a1_1, .int .u8 a1_2, .int .u8 a1_3] 24 (0, 0)) (by (with_reducible repeat (first | refine blk_drewN ?_ _ | refine blk_drew ?_ | refine blk_alloc ?_ _)); exact BK102.out) hb); have n2_ := Aside0.mk (below_step (by repeat (first | (with_reducible first | exact HB.out | apply below_alloc | apply pw_below_drewN | apply below_drew1 | refine below_set ?_ GE101.out | refine below_set ?_ GE102.out) | exact HB.out)) hb); clear BK101; clear BK102; clear HB; have BK101 := n0_; have BK102 := n1_; have HB := n2_; clear n0_ n1_ n2_; (try clear hb); (try clear hb2); (try clear hk); (try clear hi)))
            go_meet
            case rel => exact ⟨_, (!t105), (by first | rfl | (simp; done) | (simp [*]; done)), H', ⟨by first | omega | exact Nat.le_refl _⟩, ⟨by (with_reducible repeat (first | refine blk_drewN ?_ _ | refine blk_drew ?_ | refine blk_alloc ?_ _)); exact BK101.out⟩, ⟨by (with_reducible repeat (first | refine blk_drewN ?_ _ | refine blk_drew ?_ | refine blk_alloc ?_ _)); exact BK102.out⟩, ⟨by repeat (first | (with_reducible first | exact HB.out | apply below_alloc | apply pw_below_drewN | apply below_drew1 | refine below_set ?_ GE101.out | refine below_set ?_ GE102.out) | exact HB.out)⟩⟩
          · rw [if_neg c17] at H
            have c17b0 : decide (a3 ≤ a2) = false := decide_eq_false c17
            clear c17
            have H' := Aside0.mk H
            clear H
            have hnb26 := NB101_102.out
            have hnc26 := NB102_101.out
            have hcz27_0 : w13.cell? ⟨gb101, 0, none⟩ = some (.int .u8 a0_0) := (blk_cell BK101.out 0).trans rfl
            have hcz27_1 : w13.cell? ⟨gb101, 1, none⟩ = some (.int .u8 a0_1) := (blk_cell BK101.out 1).trans rfl
            have hcz27_2 : w13.cell? ⟨gb101, 2, none⟩ = some (.int .u8 a0_2) := (blk_cell BK101.out 2).trans rfl
            have hcz27_3 : w13.cell? ⟨gb101, 3, none⟩ = some (.int .u8 a0_3) := (blk_cell BK101.out 3).trans rfl
            have hfz27_0 := blk_frozen BK101.out 0
            have hfz27_1 := blk_frozen BK101.out 1
            have hfz27_2 := blk_frozen BK101.out 2
            have hfz27_3 := blk_frozen BK101.out 3
            have hcz28_0 : w13.cell? ⟨gb102, 0, none⟩ = some (.int .u8 a1_0) := (blk_cell BK102.out 0).trans rfl
            have hcz28_1 : w13.cell? ⟨gb102, 1, none⟩ = some (.int .u8 a1_1) := (blk_cell BK102.out 1).trans rfl
            have hcz28_2 : w13.cell? ⟨gb102, 2, none⟩ = some (.int .u8 a1_2) := (blk_cell BK102.out 2).trans rfl
            have hcz28_3 : w13.cell? ⟨gb102, 3, none⟩ = some (.int .u8 a1_3) := (blk_cell BK102.out 3).trans rfl
            have hfz28_0 := blk_frozen BK102.out 0
            have hfz28_1 := blk_frozen BK102.out 1
            have hfz28_2 := blk_frozen BK102.out 2
            have hfz28_3 := blk_frozen BK102.out 3
            go_wp2_with (first | ((with_reducible refine gate_callee (f := 25) rfl ?_); refine goesL_ (some 20) rfl rfl Tryz.func25 (by kernel_rfl) rfl #[.agg #[.int .u8 a0_0, .int .u8 a0_1, .int .u8 a0_2, .int .u8 a0_3], .agg #[.int .u8 a1_0, .int .u8 a1_1, .int .u8 a1_2, .int .u8 a1_3], .int .i64 a2] rfl (by (try simp only [List.map_toArray, List.map_cons, List.map_nil]); first | done | rfl | (simp only [List.length_drop, List.length_take]; rfl)) ?_; (with_reducible refine (XC.host_In.calls a0_0 a0_1 a0_2 a0_3 a1_0 a1_1 a1_2 a1_3 a2 true _ A14.out).mono ?_); rintro e w29 ⟨rfl, hb⟩; refine ⟨_, rfl, ?_⟩; have n0_ := Aside0.mk (blk_below (g := gb101) (o := .cells #[.int .u8 a0_0, .int .u8 a0_1, .int .u8 a0_2, .int .u8 a0_3] 24 (0, 0)) (by (with_reducible repeat (first | refine blk_drewN ?_ _ | refine blk_drew ?_ | refine blk_alloc ?_ _)); exact BK101.out) hb); have n1_ := Aside0.mk (blk_below (g := gb102) (o := .cells #[.int .u8 a1_0, .int .u8 a1_1, .int .u8 a1_2, .int .u8 a1_3] 24 (0, 0)) (by (with_reducible repeat (first | refine blk_drewN ?_ _ | refine blk_drew ?_ | refine blk_alloc ?_ _)); exact BK102.out) hb); have n2_ := Aside0.mk (below_step (by repeat (first | (with_reducible first | exact HB.out | apply below_alloc | apply pw_below_drewN | apply below_drew1 | refine below_set ?_ GE101.out | refine below_set ?_ GE102.out) | exact HB.out)) hb); clear BK101; clear BK102; clear HB; have BK101 := n0_; have BK102 := n1_; have HB := n2_; clear n0_ n1_ n2_; (try clear hb); (try clear hb2); (try clear hk); (try clear hi)))
            go_meet
            case rel => exact ⟨_, (false), (by first | rfl | (simp; done) | (simp [*]; done)), H', ⟨by first | omega | exact Nat.le_refl _⟩, ⟨by (with_reducible repeat (first | refine blk_drewN ?_ _ | refine blk_drew ?_ | refine blk_alloc ?_ _)); exact BK101.out⟩, ⟨by (with_reducible repeat (first | refine blk_drewN ?_ _ | refine blk_drew ?_ | refine blk_alloc ?_ _)); exact BK102.out⟩, ⟨by repeat (first | (with_reducible first | exact HB.out | apply below_alloc | apply pw_below_drewN | apply below_drew1 | refine below_set ?_ GE101.out | refine below_set ?_ GE102.out) | exact HB.out)⟩⟩
        · rw [if_neg c16] at H
          have c16b0 : decide (0 ≤ a3) = false := decide_eq_false c16
          clear c16
          (first | rw [c16b0] | (simp only [i64_w, i32_w]; rw [c16b0]) | skip)
          have H' := Aside0.mk H
          clear H
          have hnb30 := NB101_102.out
          have hnc30 := NB102_101.out
          have hcz31_0 : w13.cell? ⟨gb101, 0, none⟩ = some (.int .u8 a0_0) := (blk_cell BK101.out 0).trans rfl
          have hcz31_1 : w13.cell? ⟨gb101, 1, none⟩ = some (.int .u8 a0_1) := (blk_cell BK101.out 1).trans rfl
          have hcz31_2 : w13.cell? ⟨gb101, 2, none⟩ = some (.int .u8 a0_2) := (blk_cell BK101.out 2).trans rfl
          have hcz31_3 : w13.cell? ⟨gb101, 3, none⟩ = some (.int .u8 a0_3) := (blk_cell BK101.out 3).trans rfl
          have hfz31_0 := blk_frozen BK101.out 0
          have hfz31_1 := blk_frozen BK101.out 1
          have hfz31_2 := blk_frozen BK101.out 2
          have hfz31_3 := blk_frozen BK101.out 3
          have hcz32_0 : w13.cell? ⟨gb102, 0, none⟩ = some (.int .u8 a1_0) := (blk_cell BK102.out 0).trans rfl
          have hcz32_1 : w13.cell? ⟨gb102, 1, none⟩ = some (.int .u8 a1_1) := (blk_cell BK102.out 1).trans rfl
          have hcz32_2 : w13.cell? ⟨gb102, 2, none⟩ = some (.int .u8 a1_2) := (blk_cell BK102.out 2).trans rfl
          have hcz32_3 : w13.cell? ⟨gb102, 3, none⟩ = some (.int .u8 a1_3) := (blk_cell BK102.out 3).trans rfl
          have hfz32_0 := blk_frozen BK102.out 0
          have hfz32_1 := blk_frozen BK102.out 1
          have hfz32_2 := blk_frozen BK102.out 2
          have hfz32_3 := blk_frozen BK102.out 3
          go_wp2_with (first | ((with_reducible refine gate_callee (f := 25) rfl ?_); refine goesL_ (some 20) rfl rfl Tryz.func25 (by kernel_rfl) rfl #[.agg #[.int .u8 a0_0, .int .u8 a0_1, .int .u8 a0_2, .int .u8 a0_3], .agg #[.int .u8 a1_0, .int .u8 a1_1, .int .u8 a1_2, .int .u8 a1_3], .int .i64 a2] rfl (by (try simp only [List.map_toArray, List.map_cons, List.map_nil]); first | done | rfl | (simp only [List.length_drop, List.length_take]; rfl)) ?_; (with_reducible refine (XC.host_In.calls a0_0 a0_1 a0_2 a0_3 a1_0 a1_1 a1_2 a1_3 a2 true _ A14.out).mono ?_); rintro e w33 ⟨rfl, hb⟩; refine ⟨_, rfl, ?_⟩; have n0_ := Aside0.mk (blk_below (g := gb101) (o := .cells #[.int .u8 a0_0, .int .u8 a0_1, .int .u8 a0_2, .int .u8 a0_3] 24 (0, 0)) (by (with_reducible repeat (first | refine blk_drewN ?_ _ | refine blk_drew ?_ | refine blk_alloc ?_ _)); exact BK101.out) hb); have n1_ := Aside0.mk (blk_below (g := gb102) (o := .cells #[.int .u8 a1_0, .int .u8 a1_1, .int .u8 a1_2, .int .u8 a1_3] 24 (0, 0)) (by (with_reducible repeat (first | refine blk_drewN ?_ _ | refine blk_drew ?_ | refine blk_alloc ?_ _)); exact BK102.out) hb); have n2_ := Aside0.mk (below_step (by repeat (first | (with_reducible first | exact HB.out | apply below_alloc | apply pw_below_drewN | apply below_drew1 | refine below_set ?_ GE101.out | refine below_set ?_ GE102.out) | exact HB.out)) hb); clear BK101; clear BK102; clear HB; have BK101 := n0_; have BK102 := n1_; have HB := n2_; clear n0_ n1_ n2_; (try clear hb); (try clear hb2); (try clear hk); (try clear hi)))
          go_meet
          case rel => exact ⟨_, (false), (by first | rfl | (simp; done) | (simp [*]; done)), H', ⟨by first | omega | exact Nat.le_refl _⟩, ⟨by (with_reducible repeat (first | refine blk_drewN ?_ _ | refine blk_drew ?_ | refine blk_alloc ?_ _)); exact BK101.out⟩, ⟨by (with_reducible repeat (first | refine blk_drewN ?_ _ | refine blk_drew ?_ | refine blk_alloc ?_ _)); exact BK102.out⟩, ⟨by repeat (first | (with_reducible first | exact HB.out | apply below_alloc | apply pw_below_drewN | apply below_drew1 | refine below_set ?_ GE101.out | refine below_set ?_ GE102.out) | exact HB.out)⟩⟩
      · replace c15 := Bool.eq_false_iff.mpr c15
        subst c15
        have H1 : (sallyportlaw06_HostWider.j0 k a4 a5 a6 false) = some r := by rw [if_neg (show ¬ (false = true) by decide)] at H; exact H
        clear H
        have H := H1
        clear H1
        have H' := Aside0.mk H
        clear H
        have hnb34 := NB101_102.out
        have hnc34 := NB102_101.out
        have hcz35_0 : w13.cell? ⟨gb101, 0, none⟩ = some (.int .u8 a0_0) := (blk_cell BK101.out 0).trans rfl
        have hcz35_1 : w13.cell? ⟨gb101, 1, none⟩ = some (.int .u8 a0_1) := (blk_cell BK101.out 1).trans rfl
        have hcz35_2 : w13.cell? ⟨gb101, 2, none⟩ = some (.int .u8 a0_2) := (blk_cell BK101.out 2).trans rfl
        have hcz35_3 : w13.cell? ⟨gb101, 3, none⟩ = some (.int .u8 a0_3) := (blk_cell BK101.out 3).trans rfl
        have hfz35_0 := blk_frozen BK101.out 0
        have hfz35_1 := blk_frozen BK101.out 1
        have hfz35_2 := blk_frozen BK101.out 2
        have hfz35_3 := blk_frozen BK101.out 3
        have hcz36_0 : w13.cell? ⟨gb102, 0, none⟩ = some (.int .u8 a1_0) := (blk_cell BK102.out 0).trans rfl
        have hcz36_1 : w13.cell? ⟨gb102, 1, none⟩ = some (.int .u8 a1_1) := (blk_cell BK102.out 1).trans rfl
        have hcz36_2 : w13.cell? ⟨gb102, 2, none⟩ = some (.int .u8 a1_2) := (blk_cell BK102.out 2).trans rfl
        have hcz36_3 : w13.cell? ⟨gb102, 3, none⟩ = some (.int .u8 a1_3) := (blk_cell BK102.out 3).trans rfl
        have hfz36_0 := blk_frozen BK102.out 0
        have hfz36_1 := blk_frozen BK102.out 1
        have hfz36_2 := blk_frozen BK102.out 2
        have hfz36_3 := blk_frozen BK102.out 3
        go_wp2_with (first | ((with_reducible refine gate_callee (f := 25) rfl ?_); refine goesL_ (some 20) rfl rfl Tryz.func25 (by kernel_rfl) rfl #[.agg #[.int .u8 a0_0, .int .u8 a0_1, .int .u8 a0_2, .int .u8 a0_3], .agg #[.int .u8 a1_0, .int .u8 a1_1, .int .u8 a1_2, .int .u8 a1_3], .int .i64 a2] rfl (by (try simp only [List.map_toArray, List.map_cons, List.map_nil]); first | done | rfl | (simp only [List.length_drop, List.length_take]; rfl)) ?_; (with_reducible refine (XC.host_In.calls a0_0 a0_1 a0_2 a0_3 a1_0 a1_1 a1_2 a1_3 a2 false _ A14.out).mono ?_); rintro e w37 ⟨rfl, hb⟩; refine ⟨_, rfl, ?_⟩; have n0_ := Aside0.mk (blk_below (g := gb101) (o := .cells #[.int .u8 a0_0, .int .u8 a0_1, .int .u8 a0_2, .int .u8 a0_3] 24 (0, 0)) (by (with_reducible repeat (first | refine blk_drewN ?_ _ | refine blk_drew ?_ | refine blk_alloc ?_ _)); exact BK101.out) hb); have n1_ := Aside0.mk (blk_below (g := gb102) (o := .cells #[.int .u8 a1_0, .int .u8 a1_1, .int .u8 a1_2, .int .u8 a1_3] 24 (0, 0)) (by (with_reducible repeat (first | refine blk_drewN ?_ _ | refine blk_drew ?_ | refine blk_alloc ?_ _)); exact BK102.out) hb); have n2_ := Aside0.mk (below_step (by repeat (first | (with_reducible first | exact HB.out | apply below_alloc | apply pw_below_drewN | apply below_drew1 | refine below_set ?_ GE101.out | refine below_set ?_ GE102.out) | exact HB.out)) hb); clear BK101; clear BK102; clear HB; have BK101 := n0_; have BK102 := n1_; have HB := n2_; clear n0_ n1_ n2_; (try clear hb); (try clear hb2); (try clear hk); (try clear hi)))
        go_meet
        case rel => exact ⟨_, (false), (by first | rfl | (simp; done) | (simp [*]; done)), H', ⟨by first | omega | exact Nat.le_refl _⟩, ⟨by (with_reducible repeat (first | refine blk_drewN ?_ _ | refine blk_drew ?_ | refine blk_alloc ?_ _)); exact BK101.out⟩, ⟨by (with_reducible repeat (first | refine blk_drewN ?_ _ | refine blk_drew ?_ | refine blk_alloc ?_ _)); exact BK102.out⟩, ⟨by repeat (first | (with_reducible first | exact HB.out | apply below_alloc | apply pw_below_drewN | apply below_drew1 | refine below_set ?_ GE101.out | refine below_set ?_ GE102.out) | exact HB.out)⟩⟩
    case rest =>
      clear HC10
      try clear c1
      try clear c2
      try clear p2
      try clear c3
      try clear c7
      try clear c9
      try clear c15
      try clear c16
      try clear c16b0
      try clear c17
      try clear c17b0
      try clear c19
      try clear c25
      try clear c26
      try clear c29
      try clear c30
      try clear c34
      try clear hcz20_0
      try clear hcz20_1
      try clear hcz20_2
      try clear hcz20_3
      try clear hcz21_0
      try clear hcz21_1
      try clear hcz21_2
      try clear hcz21_3
      try clear hcz23_0
      try clear hcz23_1
      try clear hcz23_2
      try clear hcz23_3
      try clear hcz24_0
      try clear hcz24_1
      try clear hcz24_2
      try clear hcz24_3
      try clear hcz27_0
      try clear hcz27_1
      try clear hcz27_2
      try clear hcz27_3
      try clear hcz28_0
      try clear hcz28_1
      try clear hcz28_2
      try clear hcz28_3
      try clear hcz31_0
      try clear hcz31_1
      try clear hcz31_2
      try clear hcz31_3
      try clear hcz32_0
      try clear hcz32_1
      try clear hcz32_2
      try clear hcz32_3
      try clear hcz35_0
      try clear hcz35_1
      try clear hcz35_2
      try clear hcz35_3
      try clear hcz36_0
      try clear hcz36_1
      try clear hcz36_2
      try clear hcz36_3
      try clear hfz20_0
      try clear hfz20_1
      try clear hfz20_2
      try clear hfz20_3
      try clear hfz21_0
      try clear hfz21_1
      try clear hfz21_2
      try clear hfz21_3
      try clear hfz23_0
      try clear hfz23_1
      try clear hfz23_2
      try clear hfz23_3
      try clear hfz24_0
      try clear hfz24_1
      try clear hfz24_2
      try clear hfz24_3
      try clear hfz27_0
      try clear hfz27_1
      try clear hfz27_2
      try clear hfz27_3
      try clear hfz28_0
      try clear hfz28_1
      try clear hfz28_2
      try clear hfz28_3
      try clear hfz31_0
      try clear hfz31_1
      try clear hfz31_2
      try clear hfz31_3
      try clear hfz32_0
      try clear hfz32_1
      try clear hfz32_2
      try clear hfz32_3
      try clear hfz35_0
      try clear hfz35_1
      try clear hfz35_2
      try clear hfz35_3
      try clear hfz36_0
      try clear hfz36_1
      try clear hfz36_2
      try clear hfz36_3
      obtain ⟨kq, x36_9, rfl, HA, HJ9, BK101, BK102, HB⟩ := hcut
      cases kq with
      | zero => exact absurd HA.out (by simp [sallyportlaw06_HostWider.j0])
      | succ kj9 =>
        have H := HA.out
        clear HA
        simp only [sallyportlaw06_HostWider.j0] at H
        by_cases c38 : x36_9 = true
        · subst c38
          have H1 : (some false) = some r := by rw [if_pos rfl] at H; exact H
          clear H
          have H := H1
          clear H1
          obtain rfl := Option.some.inj H
          go_wp2
          go_ret
          exact ⟨by first | rfl | (simp [errW_none, errW_some] <;> rfl) | (simp [*, errW_none, errW_some] <;> rfl), by repeat (first | (with_reducible first | exact HB.out | apply below_alloc | apply pw_below_drewN | apply below_drew1 | refine below_set ?_ GE101.out | refine below_set ?_ GE102.out) | exact HB.out)⟩
        · replace c38 := Bool.eq_false_iff.mpr c38
          subst c38
          have H1 : ((XC.host_Under.f a4 a5).bind fun t106 => (if t106 = true then ((XC.host_Under.f a5 a6).bind fun t107 => (if t107 = true then ((XC.host_Under.f a4 a6).bind fun t108 => (sallyportlaw06_HostWider.j1 kj9 a4 a5 a6 (!t108))) else (sallyportlaw06_HostWider.j1 kj9 a4 a5 a6 false))) else (sallyportlaw06_HostWider.j1 kj9 a4 a5 a6 false))) = some r := by rw [if_neg (show ¬ (false = true) by decide)] at H; exact H
          clear H
          have H := H1
          clear H1
          have HC39 := Aside0.mk H
          clear H
          go_upto_region 5 with (fail)
          go_cut [50] (fun v50 wc => ∃ (kq : Nat) (x50_38 : Bool), v50 = .bool x50_38 ∧ Aside0 (sallyportlaw06_HostWider.j1 kq a4 a5 a6 x50_38 = some r) ∧ Aside0 (kq ≤ kj9) ∧ Aside0 (wc.heap[gb101]? = some (.cells #[.int .u8 a0_0, .int .u8 a0_1, .int .u8 a0_2, .int .u8 a0_3] 24 (0, 0))) ∧ Aside0 (wc.heap[gb102]? = some (.cells #[.int .u8 a1_0, .int .u8 a1_1, .int .u8 a1_2, .int .u8 a1_3] 24 (0, 0))) ∧ Aside0 (Below w.heap.size w wc))
          case first =>
            have H := HC39.out
            clear HC39
            replace H := Option.bind_eq_some_iff.mp H
            obtain ⟨t106, A400, H⟩ := H
            replace H : (if t106 = true then ((XC.host_Under.f a5 a6).bind fun t107 => (if t107 = true then ((XC.host_Under.f a4 a6).bind fun t108 => (sallyportlaw06_HostWider.j1 kj9 a4 a5 a6 (!t108))) else (sallyportlaw06_HostWider.j1 kj9 a4 a5 a6 false))) else (sallyportlaw06_HostWider.j1 kj9 a4 a5 a6 false)) = some r := H
            have A40 := Aside0.mk A400
            clear A400
            by_cases c41 : t106 = true
            · subst c41
              have H1 : ((XC.host_Under.f a5 a6).bind fun t107 => (if t107 = true then ((XC.host_Under.f a4 a6).bind fun t108 => (sallyportlaw06_HostWider.j1 kj9 a4 a5 a6 (!t108))) else (sallyportlaw06_HostWider.j1 kj9 a4 a5 a6 false))) = some r := by rw [if_pos rfl] at H; exact H
              clear H
              have H := H1
              clear H1
              replace H := Option.bind_eq_some_iff.mp H
              obtain ⟨t107, A420, H⟩ := H
              replace H : (if t107 = true then ((XC.host_Under.f a4 a6).bind fun t108 => (sallyportlaw06_HostWider.j1 kj9 a4 a5 a6 (!t108))) else (sallyportlaw06_HostWider.j1 kj9 a4 a5 a6 false)) = some r := H
              have A42 := Aside0.mk A420
              clear A420
              by_cases c43 : t107 = true
              · subst c43
                have H1 : ((XC.host_Under.f a4 a6).bind fun t108 => (sallyportlaw06_HostWider.j1 kj9 a4 a5 a6 (!t108))) = some r := by rw [if_pos rfl] at H; exact H
                clear H
                have H := H1
                clear H1
                replace H := Option.bind_eq_some_iff.mp H
                obtain ⟨t108, A440, H⟩ := H
                replace H : (sallyportlaw06_HostWider.j1 kj9 a4 a5 a6 (!t108)) = some r := H
                have A44 := Aside0.mk A440
                clear A440
                have H' := Aside0.mk H
                clear H
                go_wp2_with (first | ((with_reducible refine gate_callee (f := 27) rfl ?_); refine goesL_ (some 39) rfl rfl Tryz.func27 (by kernel_rfl) rfl #[.string a4, .string a5] rfl (by (try simp only [List.map_toArray, List.map_cons, List.map_nil]); first | done | rfl | (simp only [List.length_drop, List.length_take]; rfl)) ?_; (with_reducible refine (XC.host_Under.calls a4 a5 true _ A40.out).mono ?_); rintro e w' ⟨rfl, ⟨nd, rfl⟩⟩; refine ⟨_, rfl, ?_⟩) | (go_at_call 27; (with_reducible refine (XC.host_Under.calls a5 a6 true _ A42.out).mono ?_); rintro e w' ⟨rfl, ⟨nd, rfl⟩⟩) | (go_at_call 27; (with_reducible refine (XC.host_Under.calls a4 a6 t108 _ A44.out).mono ?_); rintro e w' ⟨rfl, ⟨nd, rfl⟩⟩))
                go_meet
                case rel => exact ⟨_, (!t108), (by first | rfl | (simp; done) | (simp [*]; done)), H', ⟨by have := HJ9.out; first | omega | exact Nat.le_refl _⟩, ⟨by (with_reducible repeat (first | refine blk_drewN ?_ _ | refine blk_drew ?_ | refine blk_alloc ?_ _)); exact BK101.out⟩, ⟨by (with_reducible repeat (first | refine blk_drewN ?_ _ | refine blk_drew ?_ | refine blk_alloc ?_ _)); exact BK102.out⟩, ⟨by repeat (first | (with_reducible first | exact HB.out | apply below_alloc | apply pw_below_drewN | apply below_drew1 | refine below_set ?_ GE101.out | refine below_set ?_ GE102.out) | exact HB.out)⟩⟩
              · replace c43 := Bool.eq_false_iff.mpr c43
                subst c43
                have H1 : (sallyportlaw06_HostWider.j1 kj9 a4 a5 a6 false) = some r := by rw [if_neg (show ¬ (false = true) by decide)] at H; exact H
                clear H
                have H := H1
                clear H1
                have H' := Aside0.mk H
                clear H
                go_wp2_with (first | ((with_reducible refine gate_callee (f := 27) rfl ?_); refine goesL_ (some 39) rfl rfl Tryz.func27 (by kernel_rfl) rfl #[.string a4, .string a5] rfl (by (try simp only [List.map_toArray, List.map_cons, List.map_nil]); first | done | rfl | (simp only [List.length_drop, List.length_take]; rfl)) ?_; (with_reducible refine (XC.host_Under.calls a4 a5 true _ A40.out).mono ?_); rintro e w' ⟨rfl, ⟨nd, rfl⟩⟩; refine ⟨_, rfl, ?_⟩) | (go_at_call 27; (with_reducible refine (XC.host_Under.calls a5 a6 false _ A42.out).mono ?_); rintro e w' ⟨rfl, ⟨nd, rfl⟩⟩))
                go_meet
                case rel => exact ⟨_, (false), (by first | rfl | (simp; done) | (simp [*]; done)), H', ⟨by have := HJ9.out; first | omega | exact Nat.le_refl _⟩, ⟨by (with_reducible repeat (first | refine blk_drewN ?_ _ | refine blk_drew ?_ | refine blk_alloc ?_ _)); exact BK101.out⟩, ⟨by (with_reducible repeat (first | refine blk_drewN ?_ _ | refine blk_drew ?_ | refine blk_alloc ?_ _)); exact BK102.out⟩, ⟨by repeat (first | (with_reducible first | exact HB.out | apply below_alloc | apply pw_below_drewN | apply below_drew1 | refine below_set ?_ GE101.out | refine below_set ?_ GE102.out) | exact HB.out)⟩⟩
            · replace c41 := Bool.eq_false_iff.mpr c41
              subst c41
              have H1 : (sallyportlaw06_HostWider.j1 kj9 a4 a5 a6 false) = some r := by rw [if_neg (show ¬ (false = true) by decide)] at H; exact H
              clear H
              have H := H1
              clear H1
              have H' := Aside0.mk H
              clear H
              go_wp2_with (first | ((with_reducible refine gate_callee (f := 27) rfl ?_); refine goesL_ (some 39) rfl rfl Tryz.func27 (by kernel_rfl) rfl #[.string a4, .string a5] rfl (by (try simp only [List.map_toArray, List.map_cons, List.map_nil]); first | done | rfl | (simp only [List.length_drop, List.length_take]; rfl)) ?_; (with_reducible refine (XC.host_Under.calls a4 a5 false _ A40.out).mono ?_); rintro e w' ⟨rfl, ⟨nd, rfl⟩⟩; refine ⟨_, rfl, ?_⟩))
              go_meet
              case rel => exact ⟨_, (false), (by first | rfl | (simp; done) | (simp [*]; done)), H', ⟨by have := HJ9.out; first | omega | exact Nat.le_refl _⟩, ⟨by (with_reducible repeat (first | refine blk_drewN ?_ _ | refine blk_drew ?_ | refine blk_alloc ?_ _)); exact BK101.out⟩, ⟨by (with_reducible repeat (first | refine blk_drewN ?_ _ | refine blk_drew ?_ | refine blk_alloc ?_ _)); exact BK102.out⟩, ⟨by repeat (first | (with_reducible first | exact HB.out | apply below_alloc | apply pw_below_drewN | apply below_drew1 | refine below_set ?_ GE101.out | refine below_set ?_ GE102.out) | exact HB.out)⟩⟩
          case rest =>
            clear HC39
            try clear c1
            try clear c2
            try clear p2
            try clear c3
            try clear c4
            try clear c7
            try clear c9
            try clear c15
            try clear c16
            try clear c16b0
            try clear c17
            try clear c17b0
            try clear c19
            try clear c25
            try clear c26
            try clear c27
            try clear c29
            try clear c30
            try clear c34
            try clear c38
            try clear c41
            try clear c43
            try clear hcz20_0
            try clear hcz20_1
            try clear hcz20_2
            try clear hcz20_3
            try clear hcz21_0
            try clear hcz21_1
            try clear hcz21_2
            try clear hcz21_3
            try clear hcz23_0
            try clear hcz23_1
            try clear hcz23_2
            try clear hcz23_3
            try clear hcz24_0
            try clear hcz24_1
            try clear hcz24_2
            try clear hcz24_3
            try clear hcz27_0
            try clear hcz27_1
            try clear hcz27_2
            try clear hcz27_3
            try clear hcz28_0
            try clear hcz28_1
            try clear hcz28_2
            try clear hcz28_3
            try clear hcz31_0
            try clear hcz31_1
            try clear hcz31_2
            try clear hcz31_3
            try clear hcz32_0
            try clear hcz32_1
            try clear hcz32_2
            try clear hcz32_3
            try clear hcz35_0
            try clear hcz35_1
            try clear hcz35_2
            try clear hcz35_3
            try clear hcz36_0
            try clear hcz36_1
            try clear hcz36_2
            try clear hcz36_3
            try clear hfz20_0
            try clear hfz20_1
            try clear hfz20_2
            try clear hfz20_3
            try clear hfz21_0
            try clear hfz21_1
            try clear hfz21_2
            try clear hfz21_3
            try clear hfz23_0
            try clear hfz23_1
            try clear hfz23_2
            try clear hfz23_3
            try clear hfz24_0
            try clear hfz24_1
            try clear hfz24_2
            try clear hfz24_3
            try clear hfz27_0
            try clear hfz27_1
            try clear hfz27_2
            try clear hfz27_3
            try clear hfz28_0
            try clear hfz28_1
            try clear hfz28_2
            try clear hfz28_3
            try clear hfz31_0
            try clear hfz31_1
            try clear hfz31_2
            try clear hfz31_3
            try clear hfz32_0
            try clear hfz32_1
            try clear hfz32_2
            try clear hfz32_3
            try clear hfz35_0
            try clear hfz35_1
            try clear hfz35_2
            try clear hfz35_3
            try clear hfz36_0
            try clear hfz36_1
            try clear hfz36_2
            try clear hfz36_3
            try clear p2
            obtain ⟨kq, x50_38, rfl, HA, HJ38, BK101, BK102, HB⟩ := hcut
            cases kq with
            | zero => exact absurd HA.out (by simp [sallyportlaw06_HostWider.j1])
            | succ kj38 =>
              have H := HA.out
              clear HA
              simp only [sallyportlaw06_HostWider.j1] at H
              by_cases c45 : x50_38 = true
              · subst c45
                have H1 : (some false) = some r := by rw [if_pos rfl] at H; exact H
                clear H
                have H := H1
                clear H1
                obtain rfl := Option.some.inj H
                go_wp2
                go_ret
                exact ⟨by first | rfl | (simp [errW_none, errW_some] <;> rfl) | (simp [*, errW_none, errW_some] <;> rfl), by repeat (first | (with_reducible first | exact HB.out | apply below_alloc | apply pw_below_drewN | apply below_drew1 | refine below_set ?_ GE101.out | refine below_set ?_ GE102.out) | exact HB.out)⟩
              · replace c45 := Bool.eq_false_iff.mpr c45
                subst c45
                have H1 : ((XC.host_Under.f a4 a5).bind fun t109 => (if t109 = true then ((XC.host_Under.f a4 a6).bind fun t110 => (sallyportlaw06_HostWider.j2 kj38 a5 a6 t110)) else (sallyportlaw06_HostWider.j2 kj38 a5 a6 false))) = some r := by rw [if_neg (show ¬ (false = true) by decide)] at H; exact H
                clear H
                have H := H1
                clear H1
                have HC46 := Aside0.mk H
                clear H
                go_upto_region 7 with (fail)
                go_cut [58] (fun v58 wc => ∃ (kq : Nat) (x58_45 : Bool), v58 = .bool x58_45 ∧ Aside0 (sallyportlaw06_HostWider.j2 kq a5 a6 x58_45 = some r) ∧ Aside0 (kq ≤ kj38) ∧ Aside0 (wc.heap[gb101]? = some (.cells #[.int .u8 a0_0, .int .u8 a0_1, .int .u8 a0_2, .int .u8 a0_3] 24 (0, 0))) ∧ Aside0 (wc.heap[gb102]? = some (.cells #[.int .u8 a1_0, .int .u8 a1_1, .int .u8 a1_2, .int .u8 a1_3] 24 (0, 0))) ∧ Aside0 (Below w.heap.size w wc))
                case first =>
                  have H := HC46.out
                  clear HC46
                  replace H := Option.bind_eq_some_iff.mp H
                  obtain ⟨t109, A470, H⟩ := H
                  replace H : (if t109 = true then ((XC.host_Under.f a4 a6).bind fun t110 => (sallyportlaw06_HostWider.j2 kj38 a5 a6 t110)) else (sallyportlaw06_HostWider.j2 kj38 a5 a6 false)) = some r := H
                  have A47 := Aside0.mk A470
                  clear A470
                  by_cases c48 : t109 = true
                  · subst c48
                    have H1 : ((XC.host_Under.f a4 a6).bind fun t110 => (sallyportlaw06_HostWider.j2 kj38 a5 a6 t110)) = some r := by rw [if_pos rfl] at H; exact H
                    clear H
                    have H := H1
                    clear H1
                    replace H := Option.bind_eq_some_iff.mp H
                    obtain ⟨t110, A490, H⟩ := H
                    replace H : (sallyportlaw06_HostWider.j2 kj38 a5 a6 t110) = some r := H
                    have A49 := Aside0.mk A490
                    clear A490
                    have H' := Aside0.mk H
                    clear H
                    go_wp2_with (first | ((with_reducible refine gate_callee (f := 27) rfl ?_); refine goesL_ (some 53) rfl rfl Tryz.func27 (by kernel_rfl) rfl #[.string a4, .string a5] rfl (by (try simp only [List.map_toArray, List.map_cons, List.map_nil]); first | done | rfl | (simp only [List.length_drop, List.length_take]; rfl)) ?_; (with_reducible refine (XC.host_Under.calls a4 a5 true _ A47.out).mono ?_); rintro e w' ⟨rfl, ⟨nd, rfl⟩⟩; refine ⟨_, rfl, ?_⟩) | (go_at_call 27; (with_reducible refine (XC.host_Under.calls a4 a6 t110 _ A49.out).mono ?_); rintro e w' ⟨rfl, ⟨nd, rfl⟩⟩))
                    go_meet
                    case rel => exact ⟨_, (t110), (by first | rfl | (simp; done) | (simp [*]; done)), H', ⟨by have := HJ9.out; have := HJ38.out; first | omega | exact Nat.le_refl _⟩, ⟨by (with_reducible repeat (first | refine blk_drewN ?_ _ | refine blk_drew ?_ | refine blk_alloc ?_ _)); exact BK101.out⟩, ⟨by (with_reducible repeat (first | refine blk_drewN ?_ _ | refine blk_drew ?_ | refine blk_alloc ?_ _)); exact BK102.out⟩, ⟨by repeat (first | (with_reducible first | exact HB.out | apply below_alloc | apply pw_below_drewN | apply below_drew1 | refine below_set ?_ GE101.out | refine below_set ?_ GE102.out) | exact HB.out)⟩⟩
                  · replace c48 := Bool.eq_false_iff.mpr c48
                    subst c48
                    have H1 : (sallyportlaw06_HostWider.j2 kj38 a5 a6 false) = some r := by rw [if_neg (show ¬ (false = true) by decide)] at H; exact H
                    clear H
                    have H := H1
                    clear H1
                    have H' := Aside0.mk H
                    clear H
                    go_wp2_with (first | ((with_reducible refine gate_callee (f := 27) rfl ?_); refine goesL_ (some 53) rfl rfl Tryz.func27 (by kernel_rfl) rfl #[.string a4, .string a5] rfl (by (try simp only [List.map_toArray, List.map_cons, List.map_nil]); first | done | rfl | (simp only [List.length_drop, List.length_take]; rfl)) ?_; (with_reducible refine (XC.host_Under.calls a4 a5 false _ A47.out).mono ?_); rintro e w' ⟨rfl, ⟨nd, rfl⟩⟩; refine ⟨_, rfl, ?_⟩))
                    go_meet
                    case rel => exact ⟨_, (false), (by first | rfl | (simp; done) | (simp [*]; done)), H', ⟨by have := HJ9.out; have := HJ38.out; first | omega | exact Nat.le_refl _⟩, ⟨by (with_reducible repeat (first | refine blk_drewN ?_ _ | refine blk_drew ?_ | refine blk_alloc ?_ _)); exact BK101.out⟩, ⟨by (with_reducible repeat (first | refine blk_drewN ?_ _ | refine blk_drew ?_ | refine blk_alloc ?_ _)); exact BK102.out⟩, ⟨by repeat (first | (with_reducible first | exact HB.out | apply below_alloc | apply pw_below_drewN | apply below_drew1 | refine below_set ?_ GE101.out | refine below_set ?_ GE102.out) | exact HB.out)⟩⟩
                case rest =>
                  clear HC46
                  try clear c1
                  try clear c2
                  try clear p2
                  try clear c3
                  try clear c4
                  try clear c7
                  try clear c9
                  try clear c15
                  try clear c16
                  try clear c16b0
                  try clear c17
                  try clear c17b0
                  try clear c19
                  try clear c25
                  try clear c26
                  try clear c27
                  try clear c29
                  try clear c30
                  try clear c34
                  try clear c38
                  try clear c41
                  try clear c43
                  try clear c45
                  try clear c48
                  try clear hcz20_0
                  try clear hcz20_1
                  try clear hcz20_2
                  try clear hcz20_3
                  try clear hcz21_0
                  try clear hcz21_1
                  try clear hcz21_2
                  try clear hcz21_3
                  try clear hcz23_0
                  try clear hcz23_1
                  try clear hcz23_2
                  try clear hcz23_3
                  try clear hcz24_0
                  try clear hcz24_1
                  try clear hcz24_2
                  try clear hcz24_3
                  try clear hcz27_0
                  try clear hcz27_1
                  try clear hcz27_2
                  try clear hcz27_3
                  try clear hcz28_0
                  try clear hcz28_1
                  try clear hcz28_2
                  try clear hcz28_3
                  try clear hcz31_0
                  try clear hcz31_1
                  try clear hcz31_2
                  try clear hcz31_3
                  try clear hcz32_0
                  try clear hcz32_1
                  try clear hcz32_2
                  try clear hcz32_3
                  try clear hcz35_0
                  try clear hcz35_1
                  try clear hcz35_2
                  try clear hcz35_3
                  try clear hcz36_0
                  try clear hcz36_1
                  try clear hcz36_2
                  try clear hcz36_3
                  try clear hfz20_0
                  try clear hfz20_1
                  try clear hfz20_2
                  try clear hfz20_3
                  try clear hfz21_0
                  try clear hfz21_1
                  try clear hfz21_2
                  try clear hfz21_3
                  try clear hfz23_0
                  try clear hfz23_1
                  try clear hfz23_2
                  try clear hfz23_3
                  try clear hfz24_0
                  try clear hfz24_1
                  try clear hfz24_2
                  try clear hfz24_3
                  try clear hfz27_0
                  try clear hfz27_1
                  try clear hfz27_2
                  try clear hfz27_3
                  try clear hfz28_0
                  try clear hfz28_1
                  try clear hfz28_2
                  try clear hfz28_3
                  try clear hfz31_0
                  try clear hfz31_1
                  try clear hfz31_2
                  try clear hfz31_3
                  try clear hfz32_0
                  try clear hfz32_1
                  try clear hfz32_2
                  try clear hfz32_3
                  try clear hfz35_0
                  try clear hfz35_1
                  try clear hfz35_2
                  try clear hfz35_3
                  try clear hfz36_0
                  try clear hfz36_1
                  try clear hfz36_2
                  try clear hfz36_3
                  try clear p2
                  obtain ⟨kq, x58_45, rfl, HA, HJ45, BK101, BK102, HB⟩ := hcut
                  cases kq with
                  | zero => exact absurd HA.out (by simp [sallyportlaw06_HostWider.j2])
                  | succ kj45 =>
                    have H := HA.out
                    clear HA
                    simp only [sallyportlaw06_HostWider.j2] at H
                    by_cases c50 : x58_45 = true
                    · subst c50
                      have H1 : ((XC.host_Under.f a5 a6).bind fun t111 => (if t111 = true then (some true) else ((XC.host_Under.f a6 a5).bind fun t112 => (some t112)))) = some r := by rw [if_pos rfl] at H; exact H
                      clear H
                      have H := H1
                      clear H1
                      replace H := Option.bind_eq_some_iff.mp H
                      obtain ⟨t111, A510, H⟩ := H
                      replace H : (if t111 = true then (some true) else ((XC.host_Under.f a6 a5).bind fun t112 => (some t112))) = some r := H
                      have A51 := Aside0.mk A510
                      clear A510
                      by_cases c52 : t111 = true
                      · subst c52
                        have H1 : (some true) = some r := by rw [if_pos rfl] at H; exact H
                        clear H
                        have H := H1
                        clear H1
                        obtain rfl := Option.some.inj H
                        go_wp2_with (first | ((with_reducible refine gate_callee (f := 27) rfl ?_); refine goesL_ (some 61) rfl rfl Tryz.func27 (by kernel_rfl) rfl #[.string a5, .string a6] rfl (by (try simp only [List.map_toArray, List.map_cons, List.map_nil]); first | done | rfl | (simp only [List.length_drop, List.length_take]; rfl)) ?_; (with_reducible refine (XC.host_Under.calls a5 a6 true _ A51.out).mono ?_); rintro e w' ⟨rfl, ⟨nd, rfl⟩⟩; refine ⟨_, rfl, ?_⟩))
                        go_ret
                        exact ⟨by first | rfl | (simp [errW_none, errW_some] <;> rfl) | (simp [*, errW_none, errW_some] <;> rfl), by repeat (first | (with_reducible first | exact HB.out | apply below_alloc | apply pw_below_drewN | apply below_drew1 | refine below_set ?_ GE101.out | refine below_set ?_ GE102.out) | exact HB.out)⟩
                      · replace c52 := Bool.eq_false_iff.mpr c52
                        subst c52
                        have H1 : ((XC.host_Under.f a6 a5).bind fun t112 => (some t112)) = some r := by rw [if_neg (show ¬ (false = true) by decide)] at H; exact H
                        clear H
                        have H := H1
                        clear H1
                        replace H := Option.bind_eq_some_iff.mp H
                        obtain ⟨t112, A530, H⟩ := H
                        replace H : (some t112) = some r := H
                        have A53 := Aside0.mk A530
                        clear A530
                        obtain rfl := Option.some.inj H
                        go_wp2_with (first | ((with_reducible refine gate_callee (f := 27) rfl ?_); refine goesL_ (some 61) rfl rfl Tryz.func27 (by kernel_rfl) rfl #[.string a5, .string a6] rfl (by (try simp only [List.map_toArray, List.map_cons, List.map_nil]); first | done | rfl | (simp only [List.length_drop, List.length_take]; rfl)) ?_; (with_reducible refine (XC.host_Under.calls a5 a6 false _ A51.out).mono ?_); rintro e w' ⟨rfl, ⟨nd, rfl⟩⟩; refine ⟨_, rfl, ?_⟩) | (go_at_call 27; (with_reducible refine (XC.host_Under.calls a6 a5 t112 _ A53.out).mono ?_); rintro e w' ⟨rfl, ⟨nd, rfl⟩⟩))
                        go_ret
                        exact ⟨by first | rfl | (simp [errW_none, errW_some] <;> rfl) | (simp [*, errW_none, errW_some] <;> rfl), by repeat (first | (with_reducible first | exact HB.out | apply below_alloc | apply pw_below_drewN | apply below_drew1 | refine below_set ?_ GE101.out | refine below_set ?_ GE102.out) | exact HB.out)⟩
                    · replace c50 := Bool.eq_false_iff.mpr c50
                      subst c50
                      have H1 : (some true) = some r := by rw [if_neg (show ¬ (false = true) by decide)] at H; exact H
                      clear H
                      have H := H1
                      clear H1
                      obtain rfl := Option.some.inj H
                      go_wp2
                      go_ret
                      exact ⟨by first | rfl | (simp [errW_none, errW_some] <;> rfl) | (simp [*, errW_none, errW_some] <;> rfl), by repeat (first | (with_reducible first | exact HB.out | apply below_alloc | apply pw_below_drewN | apply below_drew1 | refine below_set ?_ GE101.out | refine below_set ?_ GE102.out) | exact HB.out)⟩
  · replace c9 := Bool.eq_false_iff.mpr c9
    subst c9
    have H1 : (some false) = some r := by rw [if_neg (show ¬ (false = true) by decide)] at H; exact H
    clear H
    have H := H1
    clear H1
    obtain rfl := Option.some.inj H
    go_enter Tryz.func7, Tryz.ntmps7
    go_wp2_with (first | ((with_reducible refine gate_dst (N := 7) rfl ?_); refine box_event ?hg (N := 7) ?hd (cs := #[.int .u8 a0_0, .int .u8 a0_1, .int .u8 a0_2, .int .u8 a0_3]) (t := 24) ?hr ?_; (case hd => rfl); (case hg => rfl); (case hr => first | (go_simp; done) | (go_simp; rfl)); intro gb101 hg w54 hbox hb; have n0_ := Aside0.mk (below_step (by repeat (first | (with_reducible first | exact HB.out | apply below_alloc | apply pw_below_drewN | apply below_drew1) | exact HB.out)) hb); have n1_ := Aside0.mk (hbox); have n2_ := Aside0.mk ((by rw [hg]; exact (below_size (by repeat (first | (with_reducible first | exact HB.out | apply below_alloc | apply pw_below_drewN | apply below_drew1) | exact HB.out))) : w.heap.size ≤ gb101)); have n3_ := Aside0.mk ((by rw [hg]; exact (below_size (by repeat (first | (with_reducible first | exact HB.out | apply below_alloc | apply pw_below_drewN | apply below_drew1) | exact HB.out))) : w.heap.size ≤ gb101)); clear HB; have HB := n0_; have BK101 := n1_; have GW101 := n2_; have GE101 := n3_; clear n0_ n1_ n2_ n3_; clear hb hbox hg) | ((with_reducible refine gate_dst (N := 8) rfl ?_); refine box_event ?hg (N := 8) ?hd (cs := #[.int .u8 a1_0, .int .u8 a1_1, .int .u8 a1_2, .int .u8 a1_3]) (t := 24) ?hr ?_; (case hd => rfl); (case hg => rfl); (case hr => first | (go_simp; done) | (go_simp; rfl)); intro gb102 hg w55 hbox hb; have n0_ := Aside0.mk (blk_below (g := gb101) (o := .cells #[.int .u8 a0_0, .int .u8 a0_1, .int .u8 a0_2, .int .u8 a0_3] 24 (0, 0)) (by (with_reducible repeat (first | refine blk_drewN ?_ _ | refine blk_drew ?_ | refine blk_alloc ?_ _)); exact BK101.out) hb); have n1_ := Aside0.mk (below_step (by repeat (first | (with_reducible first | exact HB.out | apply below_alloc | apply pw_below_drewN | apply below_drew1 | refine below_set ?_ GE101.out) | exact HB.out)) hb); have n2_ := Aside0.mk (hbox); have n3_ := Aside0.mk ((by rw [hg]; exact (below_size (by repeat (first | (with_reducible first | exact HB.out | apply below_alloc | apply pw_below_drewN | apply below_drew1 | refine below_set ?_ GE101.out) | exact HB.out))) : w.heap.size ≤ gb102)); have n4_ := Aside0.mk ((by rw [hg]; exact (below_size (by repeat (first | (with_reducible first | exact HB.out | apply below_alloc | apply pw_below_drewN | apply below_drew1 | refine below_set ?_ GE101.out) | exact HB.out))) : w.heap.size ≤ gb102)); have n5_ := Aside0.mk ((by rw [hg]; exact Nat.ne_of_lt (blk_lt (g := gb101) (o := .cells #[.int .u8 a0_0, .int .u8 a0_1, .int .u8 a0_2, .int .u8 a0_3] 24 (0, 0)) (by (with_reducible repeat (first | refine blk_drewN ?_ _ | refine blk_drew ?_ | refine blk_alloc ?_ _)); exact BK101.out)) : gb101 ≠ gb102)); have n6_ := Aside0.mk ((by rw [hg]; exact Nat.ne_of_gt (blk_lt (g := gb101) (o := .cells #[.int .u8 a0_0, .int .u8 a0_1, .int .u8 a0_2, .int .u8 a0_3] 24 (0, 0)) (by (with_reducible repeat (first | refine blk_drewN ?_ _ | refine blk_drew ?_ | refine blk_alloc ?_ _)); exact BK101.out)) : gb102 ≠ gb101)); clear BK101; clear HB; have BK101 := n0_; have HB := n1_; have BK102 := n2_; have GW102 := n3_; have GE102 := n4_; have NB101_102 := n5_; have NB102_101 := n6_; clear n0_ n1_ n2_ n3_ n4_ n5_ n6_; clear hb hbox hg) | ((with_reducible refine gate_callee (f := 29) rfl ?_); refine goesL_ (some 15) rfl rfl Tryz.func29 (by kernel_rfl) rfl #[] rfl (by (try simp only [List.map_toArray, List.map_cons, List.map_nil]); first | done | rfl | (simp only [List.length_drop, List.length_take]; rfl)) ?_; (with_reducible refine (EE.works06.calls  false _ ?side1 A8.out).mono ?_); (case side1 => exact StdE.below HS_.out (by repeat (first | (with_reducible first | exact HB.out | apply below_alloc | apply pw_below_drewN | apply below_drew1 | refine below_set ?_ GE101.out | refine below_set ?_ GE102.out) | exact HB.out))); rintro e w56 ⟨rfl, hb⟩; refine ⟨_, rfl, ?_⟩; have n0_ := Aside0.mk (blk_below (g := gb101) (o := .cells #[.int .u8 a0_0, .int .u8 a0_1, .int .u8 a0_2, .int .u8 a0_3] 24 (0, 0)) (by (with_reducible repeat (first | refine blk_drewN ?_ _ | refine blk_drew ?_ | refine blk_alloc ?_ _)); exact BK101.out) hb); have n1_ := Aside0.mk (blk_below (g := gb102) (o := .cells #[.int .u8 a1_0, .int .u8 a1_1, .int .u8 a1_2, .int .u8 a1_3] 24 (0, 0)) (by (with_reducible repeat (first | refine blk_drewN ?_ _ | refine blk_drew ?_ | refine blk_alloc ?_ _)); exact BK102.out) hb); have n2_ := Aside0.mk (below_step (by repeat (first | (with_reducible first | exact HB.out | apply below_alloc | apply pw_below_drewN | apply below_drew1 | refine below_set ?_ GE101.out | refine below_set ?_ GE102.out) | exact HB.out)) hb); clear BK101; clear BK102; clear HB; have BK101 := n0_; have BK102 := n1_; have HB := n2_; clear n0_ n1_ n2_; (try clear hb); (try clear hb2); (try clear hk); (try clear hi)))
    go_ret
    exact ⟨by first | rfl | (simp [errW_none, errW_some] <;> rfl) | (simp [*, errW_none, errW_some] <;> rfl), by repeat (first | (with_reducible first | exact HB.out | apply below_alloc | apply pw_below_drewN | apply below_drew1 | refine below_set ?_ GE101.out | refine below_set ?_ GE102.out) | exact HB.out)⟩
end Go.Proofs.YteondnhokgmakaaGreatDoor.XWider


namespace Go.Proofs.YteondnhokgmakaaGreatDoor.XWider
open Go.Proofs.YteondnhokgmakaaGreatDoor.XC Go.Proofs.YteondnhokgmakaaGreatDoor.XG
open Go.RowKit Go.Proofs.YteondnhokgmakaaGreatDoorW.PrintWords Go.Proofs.YteondnhokgmakaaGreatDoorW.PrintLast Go.Proofs.YteondnhokgmakaaGreatDoorW.PrintMore
attribute [local go_sem] max2_int min2_int max_two min_two max_three min_three max_four min_four
set_option linter.unusedVariables false
set_option linter.unusedSimpArgs false
end Go.Proofs.YteondnhokgmakaaGreatDoor.XWider


namespace Go.Proofs.YteondnhokgmakaaGreatDoor.E
open Go.RowKit Go.Proofs.YteondnhokgmakaaGreatDoorW.PrintWords Go.Proofs.YteondnhokgmakaaGreatDoorW.PrintLast Go.Proofs.YteondnhokgmakaaGreatDoorW.PrintMore Go.Proofs.YteondnhokgmakaaGreatDoor.XC Go.Proofs.YteondnhokgmakaaGreatDoor.XG
set_option linter.unusedVariables false
set_option linter.unusedSimpArgs false
theorem hostNets_law (a b c d e f g h bi : Int) (n x : ByteArray) (h1 : inU8 a ∧ inU8 b ∧ inU8 c ∧ inU8 d) (h2 : inU8 e ∧ inU8 f ∧ inU8 g ∧ inU8 h) (_ : okI bi) (hn : n.size ≤ 281474976710656) (hx : x.size ≤ 281474976710656) :
    XNets.sallyportlaw06_HostNets.f a b c d e f g h bi n x = some true := by
  unfold XNets.sallyportlaw06_HostNets.f
  have hr : EE.refIn.f a b c d e f g h bi = some (inB a b c d e f g h bi) := if_pos ⟨⟨h1.1, h1.2.1, h1.2.2.1, h1.2.2.2, by decide⟩, ⟨h2.1, h2.2.1, h2.2.2.1, h2.2.2.2, by decide⟩⟩
  rw [inB_some, Option.bind_some, hr, Option.bind_some, if_pos (by simp), underB_some n x hn, Option.bind_some, refUnder_f n x hn hx, Option.bind_some, if_pos (by simp)]
  rfl
theorem hostPrints_law (a b c d : Int) (n : ByteArray) (po : Int) (hd : inU8 a ∧ inU8 b ∧ inU8 c ∧ inU8 d ∧ n.size ≤ 281474976710656) (_ : okI po) : XPrints.sallyportlaw06_HostPrints.f a b c d n po = some true := by
  have ho : EE.okB a b c d n := hd
  unfold XPrints.sallyportlaw06_HostPrints.f
  rw [show EE.hCheck.f a b c d n = _ from if_pos ho, Option.bind_some, show EE.refCheck.f a b c d n = _ from if_pos ho, Option.bind_some, if_pos (by simp), show EE.hPrint.f a b c d n = _ from if_pos ho, Option.bind_some, show EE.refPrint.f a b c d n = _ from if_pos ho, Option.bind_some, if_pos rfl,
    show EE.hPrintDest.f a b c d n po = _ from if_pos ho, Option.bind_some, show EE.refPrintDest.f a b c d n po = _ from if_pos ho, Option.bind_some, if_pos rfl]
  rfl
theorem inB_fewer (a b c d e f g h bi fe : Int) (h1 : inU8 a ∧ inU8 b ∧ inU8 c ∧ inU8 d) (h2 : inU8 e ∧ inU8 f ∧ inU8 g ∧ inU8 h) (h0 : 0 ≤ fe) (hf : fe ≤ bi) (hi : inB a b c d e f g h bi = true) : inB a b c d e f g h fe = true := by
  have hb : 0 ≤ bi ∧ bi ≤ 32 := by
    by_cases hq : bi < 0 ∨ 32 < bi
    · rw [inB_out _ _ _ _ _ _ _ _ _ hq] at hi; cases hi
    · omega
  obtain ⟨a, ha', rfl⟩ := byteI_nat h1.1
  obtain ⟨b, hb', rfl⟩ := byteI_nat h1.2.1
  obtain ⟨c, hc', rfl⟩ := byteI_nat h1.2.2.1
  obtain ⟨d, hd', rfl⟩ := byteI_nat h1.2.2.2
  obtain ⟨e, he', rfl⟩ := byteI_nat h2.1
  obtain ⟨f, hf', rfl⟩ := byteI_nat h2.2.1
  obtain ⟨g, hg', rfl⟩ := byteI_nat h2.2.2.1
  obtain ⟨h, hh', rfl⟩ := byteI_nat h2.2.2.2
  obtain ⟨m, rfl⟩ := Int.eq_ofNat_of_zero_le h0
  obtain ⟨n, rfl⟩ := Int.eq_ofNat_of_zero_le hb.1
  rw [inB_bits ha' hb' hc' hd' he' hf' hg' hh' n (by omega)] at hi
  rw [inB_bits ha' hb' hc' hd' he' hf' hg' hh' m (by omega)]
  exact fun i hi2 => hi i (by omega)
theorem underL_iff (n x : List UInt8) : underL n x = true ↔ x ≠ [] ∧ (n = x ∨ ∃ p, n = p ++ 46 :: x) := by
  unfold underL
  rw [Bool.and_eq_true, Bool.or_eq_true, beq_iff_eq, endsL_iff]
  cases x <;> simp
theorem underL_on {n x y : List UInt8} (h1 : underL n x = true) (h2 : underL x y = true) : underL n y = true := by
  rw [underL_iff] at *
  obtain ⟨-, h1⟩ := h1
  obtain ⟨hy, h2⟩ := h2
  refine ⟨hy, ?_⟩
  rcases h1 with rfl | ⟨p, rfl⟩
  · exact h2
  · rcases h2 with rfl | ⟨q, rfl⟩
    · exact .inr ⟨p, rfl⟩
    · exact .inr ⟨p ++ 46 :: q, by simp⟩
theorem underL_two {n x y : List UInt8} (h1 : underL n x = true) (h2 : underL n y = true) : underL x y = true ∨ underL y x = true := by
  rw [underL_iff] at *
  rw [underL_iff]
  obtain ⟨hx, h1⟩ := h1
  obtain ⟨hy, h2⟩ := h2
  rcases h1 with rfl | ⟨p, rfl⟩
  · exact .inl ⟨hy, h2⟩
  · rcases h2 with h2 | ⟨q, h2⟩
    · exact .inr ⟨hx, .inr ⟨p, h2.symm⟩⟩
    · rcases List.append_eq_append_iff.1 h2 with ⟨r, h3, h4⟩ | ⟨r, h3, h4⟩
      · cases r with
        | nil => exact .inl ⟨hy, .inl (by simpa using h4)⟩
        | cons z r =>
          rw [List.cons_append] at h4
          injection h4 with _ h4
          exact .inl ⟨hy, .inr ⟨r, h4⟩⟩
      · cases r with
        | nil => exact .inl ⟨hy, .inl (by simpa using h4.symm)⟩
        | cons z r =>
          rw [List.cons_append] at h4
          injection h4 with _ h4
          exact .inr ⟨hx, .inr ⟨r, h4⟩⟩
theorem hostWider_law (a b c d e f g h bi fe : Int) (n x y : ByteArray) (h1 : inU8 a ∧ inU8 b ∧ inU8 c ∧ inU8 d) (h2 : inU8 e ∧ inU8 f ∧ inU8 g ∧ inU8 h) (_ : okI bi) (_ : okI fe) (hn : n.size ≤ 281474976710656) (hx : x.size ≤ 281474976710656) (hy : y.size ≤ 281474976710656) :
    XWider.sallyportlaw06_HostWider.f 5 a b c d e f g h bi fe n x y = some true := by
  have j2 : ∀ b, (b = true → underB x y = true ∨ underB y x = true) → XWider.sallyportlaw06_HostWider.j2 3 x y b = some true := by
    intro b hb
    simp only [XWider.sallyportlaw06_HostWider.j2]
    cases b
    · rw [if_neg (by simp)]
    · rw [if_pos rfl, underB_some x y hx, Option.bind_some]
      rcases hb rfl with h | h
      · rw [h, if_pos rfl]
      · cases hxy : underB x y
        · rw [if_neg (by simp), underB_some y x hy, Option.bind_some, h]
        · rw [if_pos rfl]
  have j1 : XWider.sallyportlaw06_HostWider.j1 4 n x y false = some true := by
    simp only [XWider.sallyportlaw06_HostWider.j1, Bool.false_eq_true, if_false]
    rw [underB_some n x hn, Option.bind_some]
    cases hu : underB n x
    · rw [if_neg (by simp)]
      exact j2 false (fun h => by cases h)
    · rw [if_pos rfl, underB_some n y hn, Option.bind_some]
      refine j2 _ (fun h => ?_)
      rw [underB_list n x hn hx] at hu
      rw [underB_list n y hn hy] at h
      rw [underB_list x y hx hy, underB_list y x hy hx]
      exact underL_two hu h
  have j0 : XWider.sallyportlaw06_HostWider.j0 5 n x y false = some true := by
    simp only [XWider.sallyportlaw06_HostWider.j0, Bool.false_eq_true, if_false]
    rw [underB_some n x hn, Option.bind_some]
    cases hu : underB n x
    · rw [if_neg (by simp)]; exact j1
    · rw [if_pos rfl, underB_some x y hx, Option.bind_some]
      cases hv : underB x y
      · rw [if_neg (by simp)]; exact j1
      · rw [if_pos rfl, underB_some n y hn, Option.bind_some]
        have : underB n y = true := by
          rw [underB_list n x hn hx] at hu
          rw [underB_list x y hx hy] at hv
          rw [underB_list n y hn hy]
          exact underL_on hu hv
        rw [this]
        exact j1
  unfold XWider.sallyportlaw06_HostWider.f
  rw [show EE.works06.f = some true from rfl, Option.bind_some, if_pos rfl, inB_some, Option.bind_some]
  cases hi : inB a b c d e f g h bi
  · rw [if_neg (by simp)]; exact j0
  · rw [if_pos rfl]
    by_cases h3 : fe ≥ 0
    · rw [if_pos h3]
      by_cases h4 : fe ≤ bi
      · rw [if_pos h4, inB_some, Option.bind_some, inB_fewer a b c d e f g h bi fe h1 h2 h3 h4 hi]
        exact j0
      · rw [if_neg h4]; exact j0
    · rw [if_neg h3]; exact j0
end Go.Proofs.YteondnhokgmakaaGreatDoor.E


namespace Go.Proofs.YteondnhokgmakaaGreatDoor
open Go.RowKit Go.Lib Go.Proofs.YteondnhokgmakaaGreatDoor.E
set_option linter.unusedVariables false
theorem gEt : Tryz.prog.globalNamed "errors.errorType" = some 0 := by kernel_rfl
theorem rtRow : (Tryz.prog.cutTypes.find? (·.1 == "internal/reflectlite.rtype")).map (·.2) = some 148 := by kernel_rfl
theorem errRow : ((List.range 243).filter fun t => Tryz.prog.rowNamed t [101, 114, 114, 111, 114]) = [56] := by kernel_rfl
theorem typesN : Tryz.prog.types.size = 243 := by kernel_rfl
def lEt : String × DataW Unit := ("errors.errorType", Rows.laid_errors_errorType)
theorem laidH_parts {W : World} (hL : laidMetH Tryz.prog Rows.hostNetsRow.laid W) : laidMet Tryz.prog Rows.policyMaysRow.laid W ∧ handlesMet Tryz.prog [lEt] W := hL
theorem etW_of {W : World} (h : handlesMet Tryz.prog [lEt] W) : EtW W := by
  obtain ⟨name, u, ty, e1, e2, e3, e4, e5⟩ := h _ (List.mem_singleton.2 rfl)
  have en : name = [101, 114, 114, 111, 114] := (Option.some.inj e1).symm
  subst en
  obtain rfl := Option.some.inj (rtRow.symm.trans e2)
  have hm : ty ∈ (List.range 243).filter fun t => Tryz.prog.rowNamed t [101, 114, 114, 111, 114] := List.mem_filter.2 ⟨List.mem_range.2 (by rw [← typesN]; exact e3), e4⟩
  rw [errRow] at hm
  obtain rfl := List.mem_singleton.1 hm
  have hh : typeHandle Tryz.prog 56 = .pointer (some ⟨10, 56, none⟩) := by kernel_rfl
  rw [hh] at e5
  exact (by simpa using World.var?_cell gEt e5 0 : W.cell? ⟨0, 0, none⟩ = some (.iface 148 (.agg #[.pointer (some ⟨10, 56, none⟩)])))
theorem stdE_of {W : World} (hL : laidMetH Tryz.prog Rows.hostNetsRow.laid W) (hsh : W.ShapedOpen Tryz.prog) : StdE W := ⟨stdW_of (laidH_parts hL).1 hsh, etW_of (laidH_parts hL).2⟩
theorem laidMet_on (w0 : World) {laid : List (String × DataW Unit)} (args : Array Value) (hf : w0.layFits Tryz.prog laid [] = true) (hi : w0.layIfaces Tryz.prog laid (w0.layVars Tryz.prog laid) = true) :
    laidMet Tryz.prog laid ((w0.layVars Tryz.prog laid).forCall (fun _ _ => 0) ⟨#[], args, []⟩).memory := by
  have e1 : (laid.filter fun x => (laid.map (·.1)).contains x.1) = laid := List.filter_eq_self.2 fun x hx => List.contains_iff_mem.2 (List.mem_map.2 ⟨x, hx, rfl⟩)
  have e2 : (laid.filter fun x => !(laid.map (·.1)).contains x.1) = [] := List.filter_eq_nil_iff.2 fun x hx => by rw [List.contains_iff_mem.2 (List.mem_map.2 ⟨x, hx, rfl⟩)]; simp
  have h : laidMet Tryz.prog laid (w0.layVars Tryz.prog laid) := laidMet_layVars (w0 := w0) (laid.map (·.1)) [] (by rw [e1]) (by rw [e1]; exact hf) (by rw [e1]; exact hi) (by rw [e2]; exact LaidIn.none)
  exact h.of_heap (by simp [World.memory, World.forCall, Input.heap])
noncomputable def handleWorld (os : Os) : World :=
  let w0 := World.holding Tryz.prog os ⟨#[], #[], []⟩
  { w0 with heap := w0.heap.modify 0 fun
      | .cells _ t frozen => .cells #[.iface 148 (.agg #[.pointer (some ⟨10, 56, none⟩)])] t frozen
      | o => o }
noncomputable def hostWorld (os : Os) : World := (handleWorld os).layVars Tryz.prog Rows.policyMaysRow.laid
theorem hostWorld_os (os : Os) : (hostWorld os).os = os := World.layVars_os _ _ _
theorem hostLaid (os : Os) (args : Array Value) : laidMetH Tryz.prog Rows.hostNetsRow.laid ((hostWorld os).forCall (fun _ _ => 0) ⟨#[], args, []⟩).memory :=
  laidMetH_of_parts (laidMet_on (handleWorld os) (laid := Rows.policyMaysRow.laid) args (by kernel_rfl) (by kernel_rfl)) (by kernel_rfl)
end Go.Proofs.YteondnhokgmakaaGreatDoor
