/- What the cards of this seat rest on: the walks and plain laws, part 12. -/
import Derived.Test.YtocklkaddiomhaaGreatDoorHC8
import Derived.Deep.LoopGhost
import Derived.WalkMore
import Derived.ChangeKeysEq
import Derived.Test.YtocklkaddiomhaaGreatDoorHC2
import Derived.Test.YtocklkaddiomhaaGreatDoorHC11
import Derived.IntWalk


namespace Go.Proofs.YtocklkaddiomhaaGreatDoor.E
open Go.RowKit Go.Proofs.YtocklkaddiomhaaGreatDoorW.PrintWords Go.Proofs.YtocklkaddiomhaaGreatDoorW.PrintLast
set_option linter.unusedVariables false
set_option linter.unusedSimpArgs false
def bad3 (k : Int) (l0 l1 l2 : ByteArray) (a0 a1 a2 c : Int) : Array Value := #[.int .i64 k, .string l0, .string l1, .string l2, .string ⟨#[]⟩, .int .i64 a0, .int .i64 a1, .int .i64 a2, .int .i64 0, .int .i64 c]
theorem Blk.ten {w : World} {R : Nat} {k : Int} {l0 l1 l2 : ByteArray} {a0 a1 a2 c : Int} {T : TypeId} (h : Blk w R (bad3 k l0 l1 l2 a0 a1 a2 c) T) :
    w.cell? ⟨R, 0, none⟩ = some (.int .i64 k) ∧ w.cell? ⟨R, 1, none⟩ = some (.string l0) ∧ w.cell? ⟨R, 2, none⟩ = some (.string l1) ∧ w.cell? ⟨R, 3, none⟩ = some (.string l2) ∧ w.cell? ⟨R, 4, none⟩ = some (.string ⟨#[]⟩) ∧ w.cell? ⟨R, 5, none⟩ = some (.int .i64 a0) ∧ w.cell? ⟨R, 6, none⟩ = some (.int .i64 a1) ∧ w.cell? ⟨R, 7, none⟩ = some (.int .i64 a2) ∧ w.cell? ⟨R, 8, none⟩ = some (.int .i64 0) ∧ w.cell? ⟨R, 9, none⟩ = some (.int .i64 c) ∧ w.frozen? ⟨R, 0, none⟩ = false ∧ w.frozen? ⟨R, 1, none⟩ = false ∧ w.frozen? ⟨R, 2, none⟩ = false ∧ w.frozen? ⟨R, 3, none⟩ = false ∧ w.frozen? ⟨R, 4, none⟩ = false ∧ w.frozen? ⟨R, 5, none⟩ = false ∧ w.frozen? ⟨R, 6, none⟩ = false ∧ w.frozen? ⟨R, 7, none⟩ = false ∧ w.frozen? ⟨R, 8, none⟩ = false ∧ w.frozen? ⟨R, 9, none⟩ = false :=
  ⟨h.cell 0 _ rfl, h.cell 1 _ rfl, h.cell 2 _ rfl, h.cell 3 _ rfl, h.cell 4 _ rfl, h.cell 5 _ rfl, h.cell 6 _ rfl, h.cell 7 _ rfl, h.cell 8 _ rfl, h.cell 9 _ rfl, h.free 0, h.free 1, h.free 2, h.free 3, h.free 4, h.free 5, h.free 6, h.free 7, h.free 8, h.free 9⟩
theorem Blk.drew1 {w : World} {R : Nat} {C : Array Value} {T : TypeId} (h : Blk w R C T) : Blk w.drew R C T := h
def badP : List (ByteArray × Int) → Int → Array Value
  | [], c => bad3 0 ⟨#[]⟩ ⟨#[]⟩ ⟨#[]⟩ 0 0 0 c
  | [(l0, a0)], c => bad3 1 l0 ⟨#[]⟩ ⟨#[]⟩ a0 0 0 c
  | [(l0, a0), (l1, a1)], c => bad3 2 l0 l1 ⟨#[]⟩ a0 a1 0 c
  | (l0, a0) :: (l1, a1) :: (l2, a2) :: _, c => bad3 3 l0 l1 l2 a0 a1 a2 c
def setB (w : World) (R : Nat) (k : Int) (l0 l1 l2 : ByteArray) (a0 a1 a2 c : Int) : World := ((((((((((w.setCell ⟨R, 0, none⟩ (.int .i64 k)).setCell ⟨R, 1, none⟩ (.string l0)).setCell ⟨R, 2, none⟩ (.string l1)).setCell ⟨R, 3, none⟩ (.string l2)).setCell ⟨R, 4, none⟩ (.string ⟨#[]⟩)).setCell ⟨R, 5, none⟩ (.int .i64 a0)).setCell ⟨R, 6, none⟩ (.int .i64 a1)).setCell ⟨R, 7, none⟩ (.int .i64 a2)).setCell ⟨R, 8, none⟩ (.int .i64 0)).setCell ⟨R, 9, none⟩ (.int .i64 c))
theorem setB_blk {w : World} {R : Nat} (k : Int) (l0 l1 l2 : ByteArray) (a0 a1 a2 c : Int) {T : TypeId} (h : Blk w R (bad3 0 ⟨#[]⟩ ⟨#[]⟩ ⟨#[]⟩ 0 0 0 0) T) : Blk (setB w R k l0 l1 l2 a0 a1 a2 c) R (bad3 k l0 l1 l2 a0 a1 a2 c) T := by
  have h0 : Blk _ R (bad3 k ⟨#[]⟩ ⟨#[]⟩ ⟨#[]⟩ 0 0 0 0) T := h.set 0 (.int .i64 k)
  have h1 : Blk _ R (bad3 k l0 ⟨#[]⟩ ⟨#[]⟩ 0 0 0 0) T := h0.set 1 (.string l0)
  have h2 : Blk _ R (bad3 k l0 l1 ⟨#[]⟩ 0 0 0 0) T := h1.set 2 (.string l1)
  have h3 : Blk _ R (bad3 k l0 l1 l2 0 0 0 0) T := h2.set 3 (.string l2)
  have h4 : Blk _ R (bad3 k l0 l1 l2 0 0 0 0) T := h3.set 4 (.string ⟨#[]⟩)
  have h5 : Blk _ R (bad3 k l0 l1 l2 a0 0 0 0) T := h4.set 5 (.int .i64 a0)
  have h6 : Blk _ R (bad3 k l0 l1 l2 a0 a1 0 0) T := h5.set 6 (.int .i64 a1)
  have h7 : Blk _ R (bad3 k l0 l1 l2 a0 a1 a2 0) T := h6.set 7 (.int .i64 a2)
  have h8 : Blk _ R (bad3 k l0 l1 l2 a0 a1 a2 0) T := h7.set 8 (.int .i64 0)
  have h9 : Blk _ R (bad3 k l0 l1 l2 a0 a1 a2 c) T := h8.set 9 (.int .i64 c)
  exact h9
theorem setB_below {B R : Nat} {w W : World} (hb : Below B w W) (hR : B ≤ R) (k : Int) (l0 l1 l2 : ByteArray) (a0 a1 a2 c : Int) : Below B w (setB W R k l0 l1 l2 a0 a1 a2 c) := by
  unfold setB
  iterate 10 refine Below.setCell ?_ hR _
  exact hb
theorem of_res (A : Array Value) (W : World) (R : Nat) (k : Int) (l0 l1 l2 : ByteArray) (a0 a1 a2 c : Int) (x : Value) (T : TypeId) (h2 : A.getD 2 undef = .pointer (some ⟨R, 0, none⟩)) (h3 : A.getD 3 undef = x) (hB : Blk W R (bad3 k l0 l1 l2 a0 a1 a2 c) T) :
    (results Tryz.f41 A).run Tryz.prog W = .ok (.tuple #[.agg (bad3 k l0 l1 l2 a0 a1 a2 c), x]) W := by
  obtain ⟨e0, e1, e2, e3, e4, e5, e6, e7, e8, e9, -⟩ := hB.ten
  rw [Array.getD_eq_getD_getElem?] at h2 h3
  simp [results, Tryz.results41, go_sem, h2, h3, e0, e1, e2, e3, e4, e5, e6, e7, e8, e9, bad3]
set_option maxRecDepth 100000 in
set_option maxHeartbeats 40000000 in
theorem of_chain (v0 : Value) (ch : List (ByteArray × Int)) (c : Int) (hne : ch ≠ []) (hl : ch.length ≤ 3) (w : World) (h : ErrIs w v0 ch c) :
    Calls Tryz.prog 41 #[v0] w fun e w' => e = .returned (.tuple #[.agg (badP ch c), .bool true]) ∧ Below w.heap.size w w' := by
  have ta0 : ∀ (x : Value) (W : World), (Instr.typeAssert (.iface 116 x) 25 45 true).run Tryz.prog W = .ok (.tuple #[.int .i64 0, .bool false]) W := fun x W => by kernel_rfl
  have ta1 : ∀ (x : Value) (W : World), (Instr.typeAssert (.iface 116 x) 25 116 true).run Tryz.prog W = .ok (.tuple #[x, .bool true]) W := fun x W => by kernel_rfl
  have ta2 : ∀ (x : Value) (W : World), (Instr.typeAssert (.iface 45 x) 25 45 true).run Tryz.prog W = .ok (.tuple #[x, .bool true]) W := fun x W => by kernel_rfl
  have HE0 := Lib.hid h
  have HZ0 := Lib.hid ((Blk.new w (bad3 0 ⟨#[]⟩ ⟨#[]⟩ ⟨#[]⟩ 0 0 0 0) 47).old (.cells (bad3 0 ⟨#[]⟩ ⟨#[]⟩ ⟨#[]⟩ 0 0 0 0) 47))
  have HB0 := Lib.hid (below_alloc (below_alloc (Below.refl w.heap.size w) (.cells (bad3 0 ⟨#[]⟩ ⟨#[]⟩ ⟨#[]⟩ 0 0 0 0) 47)) (.cells (bad3 0 ⟨#[]⟩ ⟨#[]⟩ ⟨#[]⟩ 0 0 0 0) 47))
  have HK0 : Hid (Blk ((w.alloc (.cells (bad3 0 ⟨#[]⟩ ⟨#[]⟩ ⟨#[]⟩ 0 0 0 0) 47)).alloc (.cells (bad3 0 ⟨#[]⟩ ⟨#[]⟩ ⟨#[]⟩ 0 0 0 0) 47)) (w.heap.size + 1) (badP [] 0) 47) := Lib.hid (World.size_alloc w (.cells (bad3 0 ⟨#[]⟩ ⟨#[]⟩ ⟨#[]⟩ 0 0 0 0) 47) ▸ Blk.new (w.alloc (.cells (bad3 0 ⟨#[]⟩ ⟨#[]⟩ ⟨#[]⟩ 0 0 0 0) 47)) (bad3 0 ⟨#[]⟩ ⟨#[]⟩ ⟨#[]⟩ 0 0 0 0) 47)
  have HE1 := Lib.hid (ErrIs.below (below_alloc (below_alloc (Below.refl w.heap.size w) (.cells (bad3 0 ⟨#[]⟩ ⟨#[]⟩ ⟨#[]⟩ 0 0 0 0) 47)) (.cells (bad3 0 ⟨#[]⟩ ⟨#[]⟩ ⟨#[]⟩ 0 0 0 0) 47)) h)
  clear h HE0
  unfold bad3 at HZ0 HB0 HK0 HE1
  go_enter Tryz.func41, Tryz.ntmps41
  go_wp2
  go_loopg [0] 4 (fun g v wr => ∃ (pre post : List (ByteArray × Int)), pre ++ post = ch ∧ g + pre.length = 4 ∧ pre.length ≤ 3 ∧ Hid (ErrIs wr v post c) ∧ Hid (Blk wr (w.heap.size + 1) (badP pre 0) 47) ∧ Hid (Blk wr w.heap.size (bad3 0 ⟨#[]⟩ ⟨#[]⟩ ⟨#[]⟩ 0 0 0 0) 47) ∧ Hid (Below w.heap.size w wr))
  case atStart => exact ⟨[], ch, rfl, rfl, Nat.zero_le _, HE1, HK0, HZ0, HB0⟩
  case round =>
    obtain ⟨pre, post, hpp, hg, hp3, HE, HK, HZ, HB⟩ := hrel
    clear HE1 HK0 HZ0 HB0
    cases gk with
    | zero => omega
    | succ k =>
      have hz1 : w.heap.size ≠ w.heap.size + 1 := by omega
      cases post with
      | nil =>
        obtain rfl := HE.out
        rw [List.append_nil] at hpp
        subst hpp
        clear HE hg
        rcases pre with _ | ⟨⟨l0, a0⟩, _ | ⟨⟨l1, a1⟩, _ | ⟨⟨l2, a2⟩, _ | ⟨x, r⟩⟩⟩⟩
        · exact absurd rfl hne
        · have hb0 := HB.out
          obtain ⟨c0, c1, c2, c3, c4, c5, c6, c7, c8, c9, f0, f1, f2, f3, f4, f5, f6, f7, f8, f9⟩ := (show Blk _ _ (bad3 1 l0 ⟨#[]⟩ ⟨#[]⟩ a0 0 0 0) _ from HK.out).ten
          obtain ⟨y0, y1, y2, y3, y4, y5, y6, y7, y8, y9, z0, z1, z2, z3, z4, z5, z6, z7, z8, z9⟩ := HZ.out.ten
          clear hb0
          go_wp2
          go_region
          go_wp2
          exact bodyPost_ret (v := .tuple #[.agg (bad3 1 l0 ⟨#[]⟩ ⟨#[]⟩ a0 0 0 c), .bool true]) (of_res _ _ w.heap.size 1 l0 ⟨#[]⟩ ⟨#[]⟩ a0 0 0 c (.bool true) 47 rfl rfl (Blk.drew1 (setB_blk 1 l0 ⟨#[]⟩ ⟨#[]⟩ a0 0 0 c (HZ.out.other ⟨w.heap.size + 1, 9, none⟩ hz1 (.int .i64 c))))) rfl ⟨rfl, below_drew1 (setB_below (HB.out.setCell (p := ⟨w.heap.size + 1, 9, none⟩) (show w.heap.size ≤ w.heap.size + 1 from Nat.le_succ _) (.int .i64 c)) (Nat.le_refl _) 1 l0 ⟨#[]⟩ ⟨#[]⟩ a0 0 0 c)⟩
        · have hb0 := HB.out
          obtain ⟨c0, c1, c2, c3, c4, c5, c6, c7, c8, c9, f0, f1, f2, f3, f4, f5, f6, f7, f8, f9⟩ := (show Blk _ _ (bad3 2 l0 l1 ⟨#[]⟩ a0 a1 0 0) _ from HK.out).ten
          obtain ⟨y0, y1, y2, y3, y4, y5, y6, y7, y8, y9, z0, z1, z2, z3, z4, z5, z6, z7, z8, z9⟩ := HZ.out.ten
          clear hb0
          go_wp2
          go_region
          go_wp2
          exact bodyPost_ret (v := .tuple #[.agg (bad3 2 l0 l1 ⟨#[]⟩ a0 a1 0 c), .bool true]) (of_res _ _ w.heap.size 2 l0 l1 ⟨#[]⟩ a0 a1 0 c (.bool true) 47 rfl rfl (Blk.drew1 (setB_blk 2 l0 l1 ⟨#[]⟩ a0 a1 0 c (HZ.out.other ⟨w.heap.size + 1, 9, none⟩ hz1 (.int .i64 c))))) rfl ⟨rfl, below_drew1 (setB_below (HB.out.setCell (p := ⟨w.heap.size + 1, 9, none⟩) (show w.heap.size ≤ w.heap.size + 1 from Nat.le_succ _) (.int .i64 c)) (Nat.le_refl _) 2 l0 l1 ⟨#[]⟩ a0 a1 0 c)⟩
        · have hb0 := HB.out
          obtain ⟨c0, c1, c2, c3, c4, c5, c6, c7, c8, c9, f0, f1, f2, f3, f4, f5, f6, f7, f8, f9⟩ := (show Blk _ _ (bad3 3 l0 l1 l2 a0 a1 a2 0) _ from HK.out).ten
          obtain ⟨y0, y1, y2, y3, y4, y5, y6, y7, y8, y9, z0, z1, z2, z3, z4, z5, z6, z7, z8, z9⟩ := HZ.out.ten
          clear hb0
          go_wp2
          go_region
          go_wp2
          exact bodyPost_ret (v := .tuple #[.agg (bad3 3 l0 l1 l2 a0 a1 a2 c), .bool true]) (of_res _ _ w.heap.size 3 l0 l1 l2 a0 a1 a2 c (.bool true) 47 rfl rfl (Blk.drew1 (setB_blk 3 l0 l1 l2 a0 a1 a2 c (HZ.out.other ⟨w.heap.size + 1, 9, none⟩ hz1 (.int .i64 c))))) rfl ⟨rfl, below_drew1 (setB_below (HB.out.setCell (p := ⟨w.heap.size + 1, 9, none⟩) (show w.heap.size ≤ w.heap.size + 1 from Nat.le_succ _) (.int .i64 c)) (Nat.le_refl _) 3 l0 l1 l2 a0 a1 a2 c)⟩
        · simp at hp3
      | cons x r =>
        obtain ⟨l, a⟩ := x
        obtain ⟨b, u, rfl, h0, h1, h2, hr⟩ := HE.out
        have HR := Lib.hid hr
        clear hr HE
        rcases pre with _ | ⟨⟨l0, a0⟩, _ | ⟨⟨l1, a1⟩, _ | ⟨⟨l2, a2⟩, q⟩⟩⟩
        · have hk : Blk wr (w.heap.size + 1) (bad3 0 ⟨#[]⟩ ⟨#[]⟩ ⟨#[]⟩ 0 0 0 0) 47 := HK.out
          have hka : Blk _ _ (bad3 0 l ⟨#[]⟩ ⟨#[]⟩ 0 0 0 0) _ := hk.set 1 (.string l)
          have hkb : Blk _ _ (bad3 0 l ⟨#[]⟩ ⟨#[]⟩ a 0 0 0) _ := hka.set 5 (.int .i64 a)
          have hkc : Blk _ _ (bad3 1 l ⟨#[]⟩ ⟨#[]⟩ a 0 0 0) _ := hkb.set 0 (.int .i64 1)
          have HER := Lib.hid (ErrIs.below (below_drew1 (Below.refl _ _)) (ErrIs.set (j := 0) (u := .int .i64 1) (hkb.cell 0 _ rfl) (ErrIs.set (j := 5) (u := .int .i64 a) (hka.cell 0 _ rfl) (ErrIs.set (j := 1) (u := .string l) (hk.cell 0 _ rfl) HR.out))))
          have HKR := Lib.hid (Blk.drew1 hkc)
          have HZR := Lib.hid (Blk.drew1 (((HZ.out.other ⟨w.heap.size + 1, 1, none⟩ hz1 (.string l)).other ⟨w.heap.size + 1, 5, none⟩ hz1 (.int .i64 a)).other ⟨w.heap.size + 1, 0, none⟩ hz1 (.int .i64 1)))
          have HBR := Lib.hid (below_drew1 (((HB.out.setCell (p := ⟨w.heap.size + 1, 1, none⟩) (show w.heap.size ≤ w.heap.size + 1 from Nat.le_succ _) (.string l)).setCell (p := ⟨w.heap.size + 1, 5, none⟩) (show w.heap.size ≤ w.heap.size + 1 from Nat.le_succ _) (.int .i64 a)).setCell (p := ⟨w.heap.size + 1, 0, none⟩) (show w.heap.size ≤ w.heap.size + 1 from Nat.le_succ _) (.int .i64 1)))
          obtain ⟨c0, c1, c2, c3, c4, c5, c6, c7, c8, c9, f0, f1, f2, f3, f4, f5, f6, f7, f8, f9⟩ := hk.ten
          have hbB : b ≠ w.heap.size + 1 := fun e => by subst e; rw [c0] at h0; cases h0
          have hbB2 : w.heap.size + 1 ≠ b := fun e => hbB e.symm
          clear hk hka hkb hkc HK HZ HB HR
          go_wp2
          go_region
          go_wp2
          go_roundg k
          case measure => omega
          case rel => exact ⟨[(l, a)], r, by rw [← hpp]; rfl, by simp at hg ⊢; omega, by simp, HER, HKR, HZR, HBR⟩
        · have hk : Blk wr (w.heap.size + 1) (bad3 1 l0 ⟨#[]⟩ ⟨#[]⟩ a0 0 0 0) 47 := HK.out
          have hka : Blk _ _ (bad3 1 l0 l ⟨#[]⟩ a0 0 0 0) _ := hk.set 2 (.string l)
          have hkb : Blk _ _ (bad3 1 l0 l ⟨#[]⟩ a0 a 0 0) _ := hka.set 6 (.int .i64 a)
          have hkc : Blk _ _ (bad3 2 l0 l ⟨#[]⟩ a0 a 0 0) _ := hkb.set 0 (.int .i64 2)
          have HER := Lib.hid (ErrIs.below (below_drew1 (Below.refl _ _)) (ErrIs.set (j := 0) (u := .int .i64 2) (hkb.cell 0 _ rfl) (ErrIs.set (j := 6) (u := .int .i64 a) (hka.cell 0 _ rfl) (ErrIs.set (j := 2) (u := .string l) (hk.cell 0 _ rfl) HR.out))))
          have HKR := Lib.hid (Blk.drew1 hkc)
          have HZR := Lib.hid (Blk.drew1 (((HZ.out.other ⟨w.heap.size + 1, 2, none⟩ hz1 (.string l)).other ⟨w.heap.size + 1, 6, none⟩ hz1 (.int .i64 a)).other ⟨w.heap.size + 1, 0, none⟩ hz1 (.int .i64 2)))
          have HBR := Lib.hid (below_drew1 (((HB.out.setCell (p := ⟨w.heap.size + 1, 2, none⟩) (show w.heap.size ≤ w.heap.size + 1 from Nat.le_succ _) (.string l)).setCell (p := ⟨w.heap.size + 1, 6, none⟩) (show w.heap.size ≤ w.heap.size + 1 from Nat.le_succ _) (.int .i64 a)).setCell (p := ⟨w.heap.size + 1, 0, none⟩) (show w.heap.size ≤ w.heap.size + 1 from Nat.le_succ _) (.int .i64 2)))
          obtain ⟨c0, c1, c2, c3, c4, c5, c6, c7, c8, c9, f0, f1, f2, f3, f4, f5, f6, f7, f8, f9⟩ := hk.ten
          have hbB : b ≠ w.heap.size + 1 := fun e => by subst e; rw [c0] at h0; cases h0
          have hbB2 : w.heap.size + 1 ≠ b := fun e => hbB e.symm
          clear hk hka hkb hkc HK HZ HB HR
          go_wp2
          go_region
          go_wp2
          go_roundg k
          case measure => omega
          case rel => exact ⟨[(l0, a0), (l, a)], r, by rw [← hpp]; rfl, by simp at hg ⊢; omega, by simp, HER, HKR, HZR, HBR⟩
        · have hk : Blk wr (w.heap.size + 1) (bad3 2 l0 l1 ⟨#[]⟩ a0 a1 0 0) 47 := HK.out
          have hka : Blk _ _ (bad3 2 l0 l1 l a0 a1 0 0) _ := hk.set 3 (.string l)
          have hkb : Blk _ _ (bad3 2 l0 l1 l a0 a1 a 0) _ := hka.set 7 (.int .i64 a)
          have hkc : Blk _ _ (bad3 3 l0 l1 l a0 a1 a 0) _ := hkb.set 0 (.int .i64 3)
          have HER := Lib.hid (ErrIs.below (below_drew1 (Below.refl _ _)) (ErrIs.set (j := 0) (u := .int .i64 3) (hkb.cell 0 _ rfl) (ErrIs.set (j := 7) (u := .int .i64 a) (hka.cell 0 _ rfl) (ErrIs.set (j := 3) (u := .string l) (hk.cell 0 _ rfl) HR.out))))
          have HKR := Lib.hid (Blk.drew1 hkc)
          have HZR := Lib.hid (Blk.drew1 (((HZ.out.other ⟨w.heap.size + 1, 3, none⟩ hz1 (.string l)).other ⟨w.heap.size + 1, 7, none⟩ hz1 (.int .i64 a)).other ⟨w.heap.size + 1, 0, none⟩ hz1 (.int .i64 3)))
          have HBR := Lib.hid (below_drew1 (((HB.out.setCell (p := ⟨w.heap.size + 1, 3, none⟩) (show w.heap.size ≤ w.heap.size + 1 from Nat.le_succ _) (.string l)).setCell (p := ⟨w.heap.size + 1, 7, none⟩) (show w.heap.size ≤ w.heap.size + 1 from Nat.le_succ _) (.int .i64 a)).setCell (p := ⟨w.heap.size + 1, 0, none⟩) (show w.heap.size ≤ w.heap.size + 1 from Nat.le_succ _) (.int .i64 3)))
          obtain ⟨c0, c1, c2, c3, c4, c5, c6, c7, c8, c9, f0, f1, f2, f3, f4, f5, f6, f7, f8, f9⟩ := hk.ten
          have hbB : b ≠ w.heap.size + 1 := fun e => by subst e; rw [c0] at h0; cases h0
          have hbB2 : w.heap.size + 1 ≠ b := fun e => hbB e.symm
          clear hk hka hkb hkc HK HZ HB HR
          go_wp2
          go_region
          go_wp2
          go_roundg k
          case measure => omega
          case rel => exact ⟨[(l0, a0), (l1, a1), (l, a)], r, by rw [← hpp]; rfl, by simp at hg ⊢; omega, by simp, HER, HKR, HZR, HBR⟩
        · exfalso; rw [← hpp] at hl; simp at hl; try omega
end Go.Proofs.YtocklkaddiomhaaGreatDoor.E


namespace Go.Proofs.YtocklkaddiomhaaGreatDoor.E
open Go.RowKit Go.Proofs.YtocklkaddiomhaaGreatDoorW.PrintWords Go.Proofs.YtocklkaddiomhaaGreatDoorW.PrintLast
set_option linter.unusedVariables false
set_option linter.unusedSimpArgs false
theorem eqA_str (l0 l1 l2 l3 : ByteArray) (W : World) : (Op.equalIn 9999 43 (.agg #[.string l0, .string l1, .string l2, .string l3]) (.agg #[.string l0, .string l1, .string l2, .string l3])).run Tryz.prog W = .ok true W := by
  obtain ⟨i, hi⟩ : ∃ i, Tryz.prog.info? 9 = some i := Option.isSome_iff_exists.1 (by kernel_rfl)
  have hc : Tryz.prog.cellsOf 9 = 1 := by kernel_rfl
  have p0 : (part 9 #[.string l0, .string l1, .string l2, .string l3] 0).run Tryz.prog W = .ok (.string l0) W := by kernel_rfl
  have p1 : (part 9 #[.string l0, .string l1, .string l2, .string l3] 1).run Tryz.prog W = .ok (.string l1) W := by kernel_rfl
  have p2 : (part 9 #[.string l0, .string l1, .string l2, .string l3] 2).run Tryz.prog W = .ok (.string l2) W := by kernel_rfl
  have p3 : (part 9 #[.string l0, .string l1, .string l2, .string l3] 3).run Tryz.prog W = .ok (.string l3) W := by kernel_rfl
  have q : ∀ s, (Op.equalIn 9998 9 (.string s) (.string s)).run Tryz.prog W = .ok true W := fun s => by rw [show (9998 : Nat) = 9997 + 1 from rfl, run_equalIn_string W 9997 _ s s Tryz.underlying9]; simp
  rw [show (9999 : Nat) = 9998 + 1 from rfl, run_equalIn_array (P := Tryz.prog) W 9998 _ _ Tryz.underlying43 hi, hc]
  simp [List.range, List.range.loop, Op.eqItems, Sem.run_bind, p0, p1, p2, p3, q]
theorem eqA_int (a0 a1 a2 a3 : Int) (W : World) : (Op.equalIn 9999 44 (.agg #[.int .i64 a0, .int .i64 a1, .int .i64 a2, .int .i64 a3]) (.agg #[.int .i64 a0, .int .i64 a1, .int .i64 a2, .int .i64 a3])).run Tryz.prog W = .ok true W := by
  obtain ⟨i, hi⟩ : ∃ i, Tryz.prog.info? 3 = some i := Option.isSome_iff_exists.1 (by kernel_rfl)
  have hc : Tryz.prog.cellsOf 3 = 1 := by kernel_rfl
  have p0 : (part 3 #[.int .i64 a0, .int .i64 a1, .int .i64 a2, .int .i64 a3] 0).run Tryz.prog W = .ok (.int .i64 a0) W := by kernel_rfl
  have p1 : (part 3 #[.int .i64 a0, .int .i64 a1, .int .i64 a2, .int .i64 a3] 1).run Tryz.prog W = .ok (.int .i64 a1) W := by kernel_rfl
  have p2 : (part 3 #[.int .i64 a0, .int .i64 a1, .int .i64 a2, .int .i64 a3] 2).run Tryz.prog W = .ok (.int .i64 a2) W := by kernel_rfl
  have p3 : (part 3 #[.int .i64 a0, .int .i64 a1, .int .i64 a2, .int .i64 a3] 3).run Tryz.prog W = .ok (.int .i64 a3) W := by kernel_rfl
  have q : ∀ s, (Op.equalIn 9998 3 (.int .i64 s) (.int .i64 s)).run Tryz.prog W = .ok true W := fun s => by rw [show (9998 : Nat) = 9997 + 1 from rfl, run_equalIn_int W 9997 _ .i64 .i64 s s Tryz.underlying3]; simp
  rw [show (9999 : Nat) = 9998 + 1 from rfl, run_equalIn_array (P := Tryz.prog) W 9998 _ _ Tryz.underlying44 hi, hc]
  simp [List.range, List.range.loop, Op.eqItems, Sem.run_bind, p0, p1, p2, p3, q]
set_option maxRecDepth 100000 in
set_option maxHeartbeats 8000000 in
theorem is3_same (v : Value) (k : Int) (l0 l1 l2 : ByteArray) (a0 a1 a2 c : Int) (w : World)
    (HO : ∀ W, Below w.heap.size w W → Calls Tryz.prog 41 #[v] W fun e w' => e = .returned (.tuple #[.agg (bad3 k l0 l1 l2 a0 a1 a2 c), .bool true]) ∧ Below W.heap.size W w') :
    Calls Tryz.prog 13 #[v, .agg (bad3 k l0 l1 l2 a0 a1 a2 c)] w fun e w' => e = .returned (.bool true) ∧ Below w.heap.size w w' := by
  have XO := Lib.hid HO
  clear HO
  have H1 := eqA_str l0 l1 l2 ⟨#[]⟩
  have H2 := eqA_int a0 a1 a2 0
  unfold bad3 at *
  go_enter Tryz.func13, Tryz.ntmps13
  go_wp2_with (go_at_call 41; refine (XO.out _ (below_alloc (Below.refl _ _) _)).mono ?_; rintro e w1 ⟨rfl, hb⟩; have c0 := boxCell hb 0 (.int .i64 k) rfl; have c1 := boxCell hb 1 (.string l0) rfl; have c2 := boxCell hb 2 (.string l1) rfl; have c3 := boxCell hb 3 (.string l2) rfl; have c4 := boxCell hb 4 (.string ⟨#[]⟩) rfl; have c5 := boxCell hb 5 (.int .i64 a0) rfl; have c6 := boxCell hb 6 (.int .i64 a1) rfl; have c7 := boxCell hb 7 (.int .i64 a2) rfl; have c8 := boxCell hb 8 (.int .i64 0) rfl; have c9 := boxCell hb 9 (.int .i64 c) rfl; have hlt : w.heap.size < w1.heap.size := (by have := hb.size; simp at this; omega); have HB := Lib.hid (below_then (below_alloc (Below.refl w.heap.size w) _) (below_alloc (Below.refl w.heap.size w) _).size hb); clear hb)
  go_ret
  exact ⟨rfl, below_alloc HB.out _⟩
set_option maxRecDepth 100000 in
set_option maxHeartbeats 8000000 in
theorem like3 (x y : Value) (k : Int) (l0 l1 l2 : ByteArray) (a0 a1 a2 c : Int) (w : World)
    (HO : ∀ W, Below w.heap.size w W → Calls Tryz.prog 41 #[y] W fun e w' => e = .returned (.tuple #[.agg (bad3 k l0 l1 l2 a0 a1 a2 c), .bool true]) ∧ Below W.heap.size W w')
    (HI : ∀ W, Below w.heap.size w W → Calls Tryz.prog 13 #[x, .agg (bad3 k l0 l1 l2 a0 a1 a2 c)] W fun e w' => e = .returned (.bool true) ∧ Below W.heap.size W w') :
    Calls Tryz.prog 10 #[x, y] w fun e w' => e = .returned (.bool true) ∧ Below w.heap.size w w' := by
  have XO := Lib.hid HO
  have XI := Lib.hid HI
  clear HO HI
  unfold bad3 at *
  go_enter Tryz.func10, Tryz.ntmps10
  go_wp2_with (first | (go_at_call 41; refine (XO.out _ (Below.refl _ _)).mono ?_; rintro e w1 ⟨rfl, hb⟩; have HB := Lib.hid hb; clear hb) | (go_at_call 13; refine (XI.out _ (below_alloc HB.out _)).mono ?_; rintro e w2 ⟨rfl, hb⟩; have HB2 := Lib.hid (below_then (below_alloc HB.out _) (below_alloc HB.out _).size hb); clear hb))
  go_ret
  exact ⟨rfl, HB2.out⟩
def badO : Option (List (ByteArray × Int) × Int) → Array Value
  | none => badP [] 0
  | some (ch, c) => badP ch c
def okO (o : Option (List (ByteArray × Int) × Int)) : Prop := ∀ ch c, o = some (ch, c) → ch ≠ [] ∧ ch.length ≤ 3
theorem badP_some (ch : List (ByteArray × Int)) (c : Int) : ∃ k l0 l1 l2 a0 a1 a2 c', badP ch c = bad3 k l0 l1 l2 a0 a1 a2 c' := by
  rcases ch with _ | ⟨⟨l0, a0⟩, _ | ⟨⟨l1, a1⟩, _ | ⟨⟨l2, a2⟩, r⟩⟩⟩
  · exact ⟨_, _, _, _, _, _, _, _, rfl⟩
  · exact ⟨_, _, _, _, _, _, _, _, rfl⟩
  · exact ⟨_, _, _, _, _, _, _, _, rfl⟩
  · exact ⟨_, _, _, _, _, _, _, _, rfl⟩
theorem badO_some (o : Option (List (ByteArray × Int) × Int)) : ∃ k l0 l1 l2 a0 a1 a2 c', badO o = bad3 k l0 l1 l2 a0 a1 a2 c' := by
  rcases o with _ | ⟨ch, c⟩
  · exact badP_some [] 0
  · exact badP_some ch c
theorem of_o (o : Option (List (ByteArray × Int) × Int)) (ho : okO o) (v : Value) (w : World) (h : EOr o w v) :
    Calls Tryz.prog 41 #[v] w fun e w' => e = .returned (.tuple #[.agg (badO o), .bool true]) ∧ Below w.heap.size w w' := by
  rcases o with _ | ⟨ch, c⟩
  · obtain rfl : v = .nilIface := h
    exact of_nil w
  · obtain ⟨h1, h2⟩ := ho ch c rfl
    exact of_chain v ch c h1 h2 w h
theorem is_o (o : Option (List (ByteArray × Int) × Int)) (ho : okO o) (v : Value) (w : World) (h : EOr o w v) :
    Calls Tryz.prog 13 #[v, .agg (badO o)] w fun e w' => e = .returned (.bool true) ∧ Below w.heap.size w w' := by
  have HO := fun W (hb : Below w.heap.size w W) => of_o o ho v W (EOr.below h hb)
  obtain ⟨k, l0, l1, l2, a0, a1, a2, c, e⟩ := badO_some o
  rw [e] at HO ⊢
  exact is3_same v k l0 l1 l2 a0 a1 a2 c w HO
theorem like_o (o : Option (List (ByteArray × Int) × Int)) (ho : okO o) (x y : Value) (w : World) (hx : EOr o w x) (hy : EOr o w y) :
    Calls Tryz.prog 10 #[x, y] w fun e w' => e = .returned (.bool true) ∧ Below w.heap.size w w' := by
  have HO := fun W (hb : Below w.heap.size w W) => of_o o ho y W (EOr.below hy hb)
  have HI := fun W (hb : Below w.heap.size w W) => is_o o ho x W (EOr.below hx hb)
  obtain ⟨k, l0, l1, l2, a0, a1, a2, c, e⟩ := badO_some o
  rw [e] at HO HI
  exact like3 x y k l0 l1 l2 a0 a1 a2 c w HO HI
end Go.Proofs.YtocklkaddiomhaaGreatDoor.E


namespace Go.Proofs.YtocklkaddiomhaaGreatDoor.E
open Go.RowKit Go.Proofs.YtocklkaddiomhaaGreatDoorW.PrintWords
theorem wrap64_id (x : Int) (h0 : -9223372036854775808 ≤ x) (h1 : x ≤ 9223372036854775807) : wrap64 x = x := by
  unfold wrap64; omega
end Go.Proofs.YtocklkaddiomhaaGreatDoor.E


namespace Go.Proofs.YtocklkaddiomhaaGreatDoor.E
open Go.RowKit Go.Proofs.YtocklkaddiomhaaGreatDoorW.PrintWords Go.Proofs.YtocklkaddiomhaaGreatDoorW.PrintLast Go.Proofs.YtocklkaddiomhaaGreatDoor.XK Go.Proofs.YtocklkaddiomhaaGreatDoor.XA Go.Proofs.YtocklkaddiomhaaGreatDoor.XD Go.Proofs.YtocklkaddiomhaaGreatDoor.XBy
set_option linter.unusedVariables false
set_option linter.unusedSimpArgs false
theorem bytesIn_C {w : World} {A : Option Addr} {xs : List Int} {n : Nat} (hn : n = xs.length) (h : Kd.C (Kd.int .u8) w A n xs) : Lib.BytesIn w A n xs := by
  rcases Nat.eq_zero_or_pos n with h0 | h0
  · intro h1; omega
  obtain ⟨ad, rfl, hc⟩ := Kd.at_int h 0 (Int.le_refl _) (by omega)
  have hsp := World.cell?_spot hc
  refine Lib.BytesIn.of_cells fun i hi => ?_
  obtain ⟨ad2, e2, h2⟩ := Kd.at_int h (i : Int) (by omega) (by omega)
  cases e2
  rw [Int.toNat_natCast] at h2
  exact h2
def okB (xs : List Int) : Prop := ∀ x ∈ xs, 0 ≤ x ∧ x < 256
theorem okB_take {xs : List Int} (h : okB xs) (m : Nat) : okB (xs.take m) := fun x hx => h x (List.mem_of_mem_take hx)
theorem okB_app {xs ys : List Int} (h : okB xs) (h2 : okB ys) : okB (xs ++ ys) := fun x hx => by
  rcases List.mem_append.1 hx with h3 | h3
  · exact h x h3
  · exact h2 x h3
theorem C_take {w : World} {A : Option Addr} {xs : List Int} {n : Nat} (hn : n = xs.length) (h : Kd.C (Kd.int .u8) w A n xs) (m : Nat) (hm : m ≤ n) : Kd.C (Kd.int .u8) w A m (xs.take m) := by
  obtain ⟨h1, h2, h3⟩ := h
  refine ⟨by rw [List.length_take]; omega, by omega, fun hp => ?_⟩
  obtain ⟨ad, e, hc⟩ := h3 (by omega)
  refine ⟨ad, e, fun j p hj => hc j p ?_⟩
  have hjm : j < m := by
    have := (List.getElem?_eq_some_iff.1 hj).1
    rw [List.length_take] at this; omega
  rwa [List.getElem?_take_of_lt hjm] at hj
theorem R_capB {e base : Nat} {w : World} {ok : Nat → Prop} {A : Option Addr} {n c : Nat} {xs : List Int} (h : Kd.R (Kd.int .u8) e w base ok (.slice A n c) xs) : c ≤ 9223372036854775807 := by
  obtain ⟨_, inner, ho, _⟩ := h
  rcases ho.2 with ⟨e, _⟩ | ⟨g, cap, cur, e, _, _, _, hc, _⟩
  · cases e; omega
  · cases e; unfold maxLen at hc; omega
structure RqD where
  m : ByteArray
  x : Int
  y : Int
  z : Int
  u : Int
  nm : ByteArray
  po : Int
  pa : ByteArray
  l : List S72
  i : Int
  o : Option (List (ByteArray × Int) × Int)
def rqD : FaultT ⊕ RqT → RqD
  | .inl (a, ch, k) => ⟨⟨#[]⟩, 0, 0, 0, 0, ⟨#[]⟩, 0, ⟨#[]⟩, [], 0, some ((headS, a) :: ch, k)⟩
  | .inr (m, (x, y, z, u, nm, po), pa, fs, k) => ⟨m, x, y, z, u, nm, po, pa, fs.map ofF, (k : Int), none⟩
abbrev RqG (d : RqD) (W : World) (e : Ending) (w' : World) : Prop := ∃ fA fc v, e = .returned (.tuple #[.agg #[.string d.m, .int .u8 d.x, .int .u8 d.y, .int .u8 d.z, .int .u8 d.u, .string d.nm, .int .i64 d.po, .string d.pa, .slice fA d.l.length fc], .int .i64 d.i, v]) ∧ d.l.length ≤ fc ∧ Kd.C k72 w' fA d.l.length d.l ∧ EOr d.o w' v ∧ Below W.heap.size W w'
theorem request_c (A : Option Addr) (n c : Nat) (xs : List Int) (w : World) (hS : StdE w) (hn : n = xs.length) (hr : okB xs) (hC : Kd.C (Kd.int .u8) w A n xs) (hA : A = none → c = 0) (hcap : n ≤ c) (hc63 : c ≤ 9223372036854775807) :
    Calls Tryz.prog 9 #[.slice A n c] w (RqG (rqD (reqR (Lib.bytesOf xs))) w) := by
  refine (request_any A n c xs w hS hn.symm hr (bytesIn_C hn hC) hA hcap hc63).mono ?_
  generalize reqR (Lib.bytesOf xs) = r
  rintro e w' ⟨hb, h⟩
  rcases r with ⟨a, ch, k⟩ | ⟨m, ⟨x, y, z, u, nm, po⟩, pa, fs, k⟩
  · obtain ⟨v, rfl, he⟩ := h
    exact ⟨none, 0, v, rfl, Nat.le_refl _, Kd.C_nil _ _, he, hb⟩
  · obtain ⟨v, rfl, hf⟩ := h
    obtain ⟨fA, fc, rfl, hl, hC2⟩ := Kd.R_reads hf
    exact ⟨fA, fc, .nilIface, rfl, hl, hC2, rfl, hb⟩
theorem pdX_len (s : ByteArray) (a : Int) (ch : List (ByteArray × Int)) (k : Int) (h : pdX s = .inl (a, ch, k)) : ch.length ≤ 1 := by
  unfold pdX at h
  split at h
  · cases h; simp
  · split at h
    · cases h; simp
    · split at h
      · cases h; simp
      · split at h
        · cases h; simp
        · cases h
theorem target_len (m s : ByteArray) (p a : Int) (ch : List (ByteArray × Int)) (k : Int) (h : targetR m s p = .inl (a, ch, k)) : ch.length ≤ 2 := by
  unfold targetR at h
  split at h
  · split at h
    · rename_i hx; cases h
      have := pdX_len _ _ _ _ hx
      rw [List.length_cons]; omega
    · cases h
  · split at h
    · cases h; simp
    · unfold placeR at h
      split at h
      · split at h
        · rename_i hx; cases h
          have := pdX_len _ _ _ _ hx
          rw [List.length_cons]; omega
        · cases h
      · split at h
        · cases h; simp
        · cases h
theorem req_len (b : List UInt8) : okO (rqD (reqR b)).o := by
  have key : ∀ a ch k, reqR b = .inl (a, ch, k) → ch.length ≤ 2 := by
    intro a ch k h
    unfold reqR at h
    split at h
    · cases h; simp
    · unfold headRq at h
      split at h
      · split at h
        · cases h; simp
        · split at h
          · cases h; simp
          · split at h
            · cases h; simp
            · split at h
              · rename_i hx; cases h
                exact target_len _ _ _ _ _ _ hx
              · split at h
                · cases h; simp
                · cases h
      · cases h; simp
  intro ch c h
  cases hr : reqR b with
  | inl x =>
    obtain ⟨a, ch', k⟩ := x
    rw [hr] at h
    cases h
    have := key _ _ _ hr
    exact ⟨List.cons_ne_nil _ _, by rw [List.length_cons]; omega⟩
  | inr x =>
    obtain ⟨m, ⟨x, y, z, u, nm, po⟩, pa, fs, k⟩ := x
    rw [hr] at h
    cases h
theorem end_c (A : Option Addr) (n c : Nat) (xs : List Int) (w : World) (hS : StdW w) (hn : n = xs.length) (hr : okB xs) (hC : Kd.C (Kd.int .u8) w A n xs) (hA : A = none → c = 0) (hcap : n ≤ c) (hc63 : c ≤ 9223372036854775807) :
    Calls Tryz.prog 8 #[.slice A n c] w (EndPost (Hd.endR (Lib.bytesOf xs)) w) :=
  end_any A n c xs w hS hn.symm hr (bytesIn_C hn hC) hA hcap hc63
theorem same_fields (l : List S72) (hl : l.length ≤ 281474976710656) : ∀ (m k i : Nat), i + m = l.length → m < k → sallyportbase_SameFields.l0 k l l (i : Int) = some true := by
  intro m
  induction m with
  | zero =>
    intro k i hi hk
    obtain ⟨k, rfl⟩ : ∃ j, k = j + 1 := ⟨k - 1, by omega⟩
    simp only [sallyportbase_SameFields.l0]
    rw [if_neg (by omega)]
  | succ m ih =>
    intro k i hi hk
    obtain ⟨k, rfl⟩ : ∃ j, k = j + 1 := ⟨k - 1, by omega⟩
    have hw : wrap64 ((i : Int) + 1) = ((i + 1 : Nat) : Int) := wrap64_nat i l.length (by omega) hl
    simp only [sallyportbase_SameFields.l0]
    rw [if_pos (by omega), if_pos (by omega), if_pos (by omega), if_neg (by simp), hw]
    exact ih k (i + 1) (by omega) (by omega)
theorem same_request (d : RqD) (hl : d.l.length ≤ 281474976710656) (A0 : Option Addr) (c0 : Nat) (A1 : Option Addr) (c1 : Nat) (w : World) (h0 : Kd.C k72 w A0 d.l.length d.l) (hc0 : d.l.length ≤ c0) (h1 : Kd.C k72 w A1 d.l.length d.l) (hc1 : d.l.length ≤ c1) :
    Calls Tryz.prog 15 #[.agg #[.string d.m, .int .u8 d.x, .int .u8 d.y, .int .u8 d.z, .int .u8 d.u, .string d.nm, .int .i64 d.po, .string d.pa, .slice A0 d.l.length c0], .agg #[.string d.m, .int .u8 d.x, .int .u8 d.y, .int .u8 d.z, .int .u8 d.u, .string d.nm, .int .i64 d.po, .string d.pa, .slice A1 d.l.length c1]] w fun e w' => e = .returned (.bool true) ∧ Below w.heap.size w w' := by
  refine (sallyportbase_SameRequest.calls (d.l.length + 1) d.m d.x d.y d.z d.u d.nm d.po d.pa A0 c0 d.l d.m d.x d.y d.z d.u d.nm d.po d.pa A1 c1 d.l true w h0 hc0 h1 hc1 ?_).mono ?_
  · have hf : sallyportbase_SameFields.f (d.l.length + 1) d.l d.l = some true := by
      unfold sallyportbase_SameFields.f
      rw [if_pos rfl]
      exact same_fields d.l hl d.l.length (d.l.length + 1) 0 (by omega) (by omega)
    unfold sallyportbase_SameRequest.f
    simp [hf]
  · rintro e w' ⟨h, hb⟩
    exact ⟨h, by first | exact hb | exact hb.below⟩
theorem bytes_c (A : Option Addr) (n c : Nat) (xs : List Int) (w : World) (hn : n = xs.length) (hC : Kd.C (Kd.int .u8) w A n xs) (hcap : n ≤ c) (hl : n ≤ 1048576) :
    Calls Tryz.prog 12 #[.slice A n c] w fun e w' => ∃ v, e = .returned v ∧ Kd.R (Kd.int .u8) 5 w' w.heap.size (fun _ => True) v xs ∧ Below w.heap.size w w' := by
  subst hn
  exact sallyportbase_Bytes.calls A c xs xs w hC hcap (by unfold sallyportbase_Bytes.f; rw [Option.bind_some, List.length_nil, if_pos (by omega), List.nil_append])
end Go.Proofs.YtocklkaddiomhaaGreatDoor.E


namespace Go.Proofs.YtocklkaddiomhaaGreatDoor.E
open Go.RowKit Go.Proofs.YtocklkaddiomhaaGreatDoorW.PrintWords Go.Proofs.YtocklkaddiomhaaGreatDoorW.PrintLast Go.Proofs.YtocklkaddiomhaaGreatDoor.XK Go.Proofs.YtocklkaddiomhaaGreatDoor.XA Go.Proofs.YtocklkaddiomhaaGreatDoor.XD
set_option linter.unusedVariables false
set_option linter.unusedSimpArgs false
theorem bytes_new (W : World) (xs : List Int) (T : TypeId) (y : Nat × Nat) : Lib.BytesIn (W.alloc (.cells (xs.map (Value.int .u8)).toArray T y)) (some ⟨W.heap.size, 0, none⟩) xs.length xs := fun _ => by
  refine ⟨W.heap.size, 0, rfl, fun i hi => ?_⟩
  rw [Nat.zero_add, World.cell?_alloc_mark, List.getElem?_toArray, List.getElem?_map, List.getElem?_eq_getElem hi, List.getD_eq_getElem?_getD, List.getElem?_eq_getElem hi]; rfl
theorem request_new (xs : List Int) (hr : ∀ x ∈ xs, 0 ≤ x ∧ x < 256) (hl : xs.length ≤ 1000000) (T : TypeId) (r : FaultT ⊕ RqT) (he : reqR (Lib.bytesOf xs) = r) (W : World) (y : Nat × Nat) (hS : StdE W) :
    Calls Tryz.prog 9 #[.slice (some ⟨W.heap.size, 0, none⟩) xs.length xs.length] (W.alloc (.cells (xs.map (Value.int .u8)).toArray T y)) (RqPost r (W.alloc (.cells (xs.map (Value.int .u8)).toArray T y))) := by
  subst he
  exact request_any _ xs.length xs.length xs _ (StdE.below hS (below_alloc (Below.refl _ _) _)) rfl hr (bytes_new W xs T y) (fun h => by cases h) (Nat.le_refl _) (by omega)
def ex80 : List Int := [71, 69, 84, 32, 104, 116, 116, 112, 58, 47, 47, 97, 46, 98, 47, 120, 32, 72, 84, 84, 80, 47, 49, 46, 49, 13, 10, 72, 111, 115, 116, 58, 32, 97, 46, 98, 13, 10, 13, 10, 109, 111, 114, 101]
theorem ex80_ok : ∀ x ∈ ex80, 0 ≤ x ∧ x < 256 := by unfold ex80; decide
def ex81 : List Int := [71, 69, 84, 32, 47, 120, 32, 72, 84, 84, 80, 47, 49, 46, 49, 13, 10, 13, 10]
theorem ex81_ok : ∀ x ∈ ex81, 0 ≤ x ∧ x < 256 := by unfold ex81; decide
def ex82 : List Int := [71, 69, 84, 32, 104, 116, 116, 112, 58, 47, 47, 45, 47, 32, 72, 84, 84, 80, 47, 49, 46, 49, 13, 10, 13, 10]
theorem ex82_ok : ∀ x ∈ ex82, 0 ≤ x ∧ x < 256 := by unfold ex82; decide
theorem ex80_r : reqR (Lib.bytesOf ex80) = .inr (⟨#[71, 69, 84]⟩, (0, 0, 0, 0, ⟨#[97, 46, 98]⟩, 80), ⟨#[47, 120]⟩, [([72, 111, 115, 116], [97, 46, 98])], 40) := by kernel_rfl
theorem ex81_r : reqR (Lib.bytesOf ex81) = .inl (4, [], 82) := by kernel_rfl
theorem ex82_r : reqR (Lib.bytesOf ex82) = .inl (11, [(hostS, 0)], 61) := by kernel_rfl
theorem ex80_c : ∀ W (y : Nat × Nat) (g : Nat), g = W.heap.size → StdE W → Calls Tryz.prog 9 #[.slice (some ⟨g, 0, none⟩) 44 44] (W.alloc (.cells #[.int .u8 71, .int .u8 69, .int .u8 84, .int .u8 32, .int .u8 104, .int .u8 116, .int .u8 116, .int .u8 112, .int .u8 58, .int .u8 47, .int .u8 47, .int .u8 97, .int .u8 46, .int .u8 98, .int .u8 47, .int .u8 120, .int .u8 32, .int .u8 72, .int .u8 84, .int .u8 84, .int .u8 80, .int .u8 47, .int .u8 49, .int .u8 46, .int .u8 49, .int .u8 13, .int .u8 10, .int .u8 72, .int .u8 111, .int .u8 115, .int .u8 116, .int .u8 58, .int .u8 32, .int .u8 97, .int .u8 46, .int .u8 98, .int .u8 13, .int .u8 10, .int .u8 13, .int .u8 10, .int .u8 109, .int .u8 111, .int .u8 114, .int .u8 101] 5 y)) fun e w' => ∃ fA fc, e = .returned (.tuple #[.agg #[.string ⟨#[71, 69, 84]⟩, .int .u8 0, .int .u8 0, .int .u8 0, .int .u8 0, .string ⟨#[97, 46, 98]⟩, .int .i64 80, .string ⟨#[47, 120]⟩, .slice fA 1 fc], .int .i64 40, .nilIface]) ∧ Below W.heap.size W w' := fun W y g hg hS => by
  subst hg
  refine (request_new ex80 ex80_ok (by decide) 5 _ ex80_r W y hS).mono ?_
  rintro e w' ⟨hb, v, rfl, hf⟩
  obtain ⟨fA, fc, rfl, -, -⟩ := Kd.R_reads hf
  exact ⟨fA, fc, rfl, below_then (below_alloc (Below.refl _ _) _) (below_alloc (Below.refl _ _) _).size hb⟩
theorem ex81_c : ∀ W (y : Nat × Nat) (g : Nat), g = W.heap.size → StdE W → Calls Tryz.prog 9 #[.slice (some ⟨g, 0, none⟩) 19 19] (W.alloc (.cells #[.int .u8 71, .int .u8 69, .int .u8 84, .int .u8 32, .int .u8 47, .int .u8 120, .int .u8 32, .int .u8 72, .int .u8 84, .int .u8 84, .int .u8 80, .int .u8 47, .int .u8 49, .int .u8 46, .int .u8 49, .int .u8 13, .int .u8 10, .int .u8 13, .int .u8 10] 5 y)) fun e w' => ∃ v, e = .returned (.tuple #[.agg #[.string ⟨#[]⟩, .int .u8 0, .int .u8 0, .int .u8 0, .int .u8 0, .string ⟨#[]⟩, .int .i64 0, .string ⟨#[]⟩, .slice none 0 0], .int .i64 0, v]) ∧ ErrIs w' v [(headS, 4)] 82 ∧ Below W.heap.size W w' := fun W y g hg hS => by
  subst hg
  refine (request_new ex81 ex81_ok (by decide) 5 _ ex81_r W y hS).mono ?_
  rintro e w' ⟨hb, v, rfl, he⟩
  exact ⟨v, rfl, he, below_then (below_alloc (Below.refl _ _) _) (below_alloc (Below.refl _ _) _).size hb⟩
theorem ex82_c : ∀ W (y : Nat × Nat) (g : Nat), g = W.heap.size → StdE W → Calls Tryz.prog 9 #[.slice (some ⟨g, 0, none⟩) 26 26] (W.alloc (.cells #[.int .u8 71, .int .u8 69, .int .u8 84, .int .u8 32, .int .u8 104, .int .u8 116, .int .u8 116, .int .u8 112, .int .u8 58, .int .u8 47, .int .u8 47, .int .u8 45, .int .u8 47, .int .u8 32, .int .u8 72, .int .u8 84, .int .u8 84, .int .u8 80, .int .u8 47, .int .u8 49, .int .u8 46, .int .u8 49, .int .u8 13, .int .u8 10, .int .u8 13, .int .u8 10] 5 y)) fun e w' => ∃ v, e = .returned (.tuple #[.agg #[.string ⟨#[]⟩, .int .u8 0, .int .u8 0, .int .u8 0, .int .u8 0, .string ⟨#[]⟩, .int .i64 0, .string ⟨#[]⟩, .slice none 0 0], .int .i64 0, v]) ∧ ErrIs w' v [(headS, 11), (hostS, 0)] 61 ∧ Below W.heap.size W w' := fun W y g hg hS => by
  subst hg
  refine (request_new ex82 ex82_ok (by decide) 5 _ ex82_r W y hS).mono ?_
  rintro e w' ⟨hb, v, rfl, he⟩
  exact ⟨v, rfl, he, below_then (below_alloc (Below.refl _ _) _) (below_alloc (Below.refl _ _) _).size hb⟩
end Go.Proofs.YtocklkaddiomhaaGreatDoor.E
