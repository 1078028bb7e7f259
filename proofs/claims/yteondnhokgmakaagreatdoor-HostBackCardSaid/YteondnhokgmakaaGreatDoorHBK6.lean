/- HostBack: what is told of a host is read as it, and what is read of a text is told in one form; the card, with no condition of ours. -/
import Derived.Test.YteondnhokgmakaaGreatDoorHBK5
import Derived.Test.YteondnhokgmakaaGreatDoorHBK3
import Derived.Test.YteondnhokgmakaaGreatDoorHBK4
import Derived.Test.YteondnhokgmakaaGreatDoorHBK2
import Derived.Deep.Slices
import Derived.Deep.Fields
import Derived.ChangeSame
import Derived.SizedLaws
import Derived.OpenShut
import Derived.Test.YteondnhokgmakaaGreatDoorRows
import Derived.Stop.LaidErr
import Derived.Lib.LaidTab
import Derived.LaidHandle
import Derived.LaidLaws
import Derived.Lay
import Derived.Deep.DeepHandedRow
import Derived.Stop.Joined
import Derived.Test.YteondnhokgmakaaGreatDoorCards
import Derived.Test.YteondnhokgmakaaGreatDoorTie
import Derived.WalkKit
import Derived.ProofKit
import Derived.ShutString
import Derived.MakeChecks
import Derived.Carry


namespace Go.Proofs.YteondnhokgmakaaGreatDoor.XG
open Go.Proofs.YteondnhokgmakaaGreatDoor.XC Go.Proofs.YteondnhokgmakaaGreatDoor.XM
open Go.RowKit Go.Proofs.YteondnhokgmakaaGreatDoorW.PrintWords Go.Proofs.YteondnhokgmakaaGreatDoorW.PrintLast Go.Proofs.YteondnhokgmakaaGreatDoorW.PrintMore
attribute [local go_sem] max2_int min2_int max_two min_two max_three min_three max_four min_four
set_option linter.unusedVariables false
set_option linter.unusedSimpArgs false
mutual
def sallyportref12_Which.j0 : Nat → List (S37) → Bool → Int → Int → Int → Int → ByteArray → Int → Option (Int)
  | 0, _, _, _, _, _, _, _, _ => none
  | k + 1, x0, x13, x130000, x130001, x130002, x130003, x130004, x130005 => if x13 = true then (some (-1)) else (sallyportref12_Which.l0 k x0 0 x130000 x130001 x130002 x130003 x130004 x130005)
def sallyportref12_Which.l0 : Nat → List (S37) → Int → Int → Int → Int → Int → ByteArray → Int → Option (Int)
  | 0, _, _, _, _, _, _, _, _ => none
  | k + 1, x0, x5, x130000, x130001, x130002, x130003, x130004, x130005 => if x5 < (x0.length : Int) then (if 0 ≤ x5 then ((sallyportref12_fits.f k ((rd_T37 x0 x5).f0) ((rd_T37 x0 x5).f1.f0) ((rd_T37 x0 x5).f1.f1) ((rd_T37 x0 x5).f1.f2) ((rd_T37 x0 x5).f1.f3) ((rd_T37 x0 x5).f2) ((rd_T37 x0 x5).f3) ((rd_T37 x0 x5).f4) ((rd_T37 x0 x5).f5) x130000 x130001 x130002 x130003 x130004 x130005).bind fun t133 => (if t133 = true then (some x5) else (sallyportref12_Which.l0 k x0 (wrap64 (x5 + 1)) x130000 x130001 x130002 x130003 x130004 x130005))) else (none)) else (some (-1))
end
def sallyportref12_Which.f (k : Nat) (l0 : List (S37)) (a1_0 : Int) (a1_1 : Int) (a1_2 : Int) (a1_3 : Int) (a1_4 : ByteArray) (a1_5 : Int) : Option (Int) := (sallyportref12_Check.f k l0).bind fun t130 => (if t130 = 0 then ((sallyportref06_PrintDest.f k a1_0 a1_1 a1_2 a1_3 a1_4 a1_5).bind fun t131 => (sallyportref12_Which.j0 k l0 (t131.toList == ([] : List UInt8)) a1_0 a1_1 a1_2 a1_3 a1_4 a1_5)) else (sallyportref12_Which.j0 k l0 true a1_0 a1_1 a1_2 a1_3 a1_4 a1_5))
theorem sallyportref12_Which.mono_l : ∀ k, (∀ y0 y1 y2 y3 y4 y5 y6 y7, LeO (sallyportref12_Which.j0 k y0 y1 y2 y3 y4 y5 y6 y7) (sallyportref12_Which.j0 (k + 1) y0 y1 y2 y3 y4 y5 y6 y7)) ∧ (∀ y0 y1 y2 y3 y4 y5 y6 y7, LeO (sallyportref12_Which.l0 k y0 y1 y2 y3 y4 y5 y6 y7) (sallyportref12_Which.l0 (k + 1) y0 y1 y2 y3 y4 y5 y6 y7))
  | 0 => ⟨fun _ _ _ _ _ _ _ _ r h => by simp [sallyportref12_Which.j0] at h, fun _ _ _ _ _ _ _ _ r h => by simp [sallyportref12_Which.l0] at h⟩
  | k + 1 => by
    obtain ⟨ih0, ih1⟩ := sallyportref12_Which.mono_l k
    refine ⟨?_, ?_⟩
    · intro y0 y1 y2 y3 y4 y5 y6 y7
      unfold sallyportref12_Which.j0
      repeat' first
      | (with_reducible exact ih0 _ _ _ _ _ _ _ _)
      | (with_reducible exact ih1 _ _ _ _ _ _ _ _)
      | (with_reducible exact sallyportref06_PrintDest.mono _ _ _ _ _ _ _)
      | (with_reducible exact sallyportref12_Check.mono _ _)
      | (with_reducible exact sallyportref12_fits.mono _ _ _ _ _ _ _ _ _ _ _ _ _ _ _ _)
      | (with_reducible exact LeO.refl _)
      | (with_reducible exact LeO.none _)
      | (with_reducible refine LeO.ite ?_ ?_)
      | (with_reducible refine LeO.bind ?_ (fun _ => ?_))
      | exact ih0 _ _ _ _ _ _ _ _
      | exact ih1 _ _ _ _ _ _ _ _
      | exact sallyportref06_PrintDest.mono _ _ _ _ _ _ _
      | exact sallyportref12_Check.mono _ _
      | exact sallyportref12_fits.mono _ _ _ _ _ _ _ _ _ _ _ _ _ _ _ _
      | exact LeO.none _
      | refine LeO.ite ?_ ?_
      | refine LeO.bind ?_ (fun _ => ?_)
    · intro y0 y1 y2 y3 y4 y5 y6 y7
      unfold sallyportref12_Which.l0
      repeat' first
      | (with_reducible exact ih0 _ _ _ _ _ _ _ _)
      | (with_reducible exact ih1 _ _ _ _ _ _ _ _)
      | (with_reducible exact sallyportref06_PrintDest.mono _ _ _ _ _ _ _)
      | (with_reducible exact sallyportref12_Check.mono _ _)
      | (with_reducible exact sallyportref12_fits.mono _ _ _ _ _ _ _ _ _ _ _ _ _ _ _ _)
      | (with_reducible exact LeO.refl _)
      | (with_reducible exact LeO.none _)
      | (with_reducible refine LeO.ite ?_ ?_)
      | (with_reducible refine LeO.bind ?_ (fun _ => ?_))
      | exact ih0 _ _ _ _ _ _ _ _
      | exact ih1 _ _ _ _ _ _ _ _
      | exact sallyportref06_PrintDest.mono _ _ _ _ _ _ _
      | exact sallyportref12_Check.mono _ _
      | exact sallyportref12_fits.mono _ _ _ _ _ _ _ _ _ _ _ _ _ _ _ _
      | exact LeO.none _
      | refine LeO.ite ?_ ?_
      | refine LeO.bind ?_ (fun _ => ?_)
theorem sallyportref12_Which.mono : ∀ a0 a1 a2 a3 a4 a5 a6 k, LeO (sallyportref12_Which.f k a0 a1 a2 a3 a4 a5 a6) (sallyportref12_Which.f (k + 1) a0 a1 a2 a3 a4 a5 a6) := by
  intro a0 a1 a2 a3 a4 a5 a6 k
  obtain ⟨ih0, ih1⟩ := sallyportref12_Which.mono_l k
  unfold sallyportref12_Which.f
  repeat' first
      | (with_reducible exact ih0 _ _ _ _ _ _ _ _)
      | (with_reducible exact ih1 _ _ _ _ _ _ _ _)
      | (with_reducible exact sallyportref06_PrintDest.mono _ _ _ _ _ _ _)
      | (with_reducible exact sallyportref12_Check.mono _ _)
      | (with_reducible exact sallyportref12_fits.mono _ _ _ _ _ _ _ _ _ _ _ _ _ _ _ _)
      | (with_reducible exact LeO.refl _)
      | (with_reducible exact LeO.none _)
      | (with_reducible refine LeO.ite ?_ ?_)
      | (with_reducible refine LeO.bind ?_ (fun _ => ?_))
      | exact ih0 _ _ _ _ _ _ _ _
      | exact ih1 _ _ _ _ _ _ _ _
      | exact sallyportref06_PrintDest.mono _ _ _ _ _ _ _
      | exact sallyportref12_Check.mono _ _
      | exact sallyportref12_fits.mono _ _ _ _ _ _ _ _ _ _ _ _ _ _ _ _
      | exact LeO.none _
      | refine LeO.ite ?_ ?_
      | refine LeO.bind ?_ (fun _ => ?_)
set_option maxHeartbeats 8000000 in
set_option maxRecDepth 100000 in
theorem sallyportref12_Which.calls (k : Nat) (A0 : Option Addr) (c0 : Nat) (l0 : List (S37)) (a1_0 : Int) (a1_1 : Int) (a1_2 : Int) (a1_3 : Int) (a1_4 : ByteArray) (a1_5 : Int) (r : Int) (w : World) (hr0 : Kd.C k37 w A0 l0.length l0) (hc0 : l0.length ≤ c0) (hS_ : StdW w) (h : sallyportref12_Which.f k l0 a1_0 a1_1 a1_2 a1_3 a1_4 a1_5 = some r) :
    Calls Tryz.prog 14 #[.slice A0 l0.length c0, .agg #[.int .u8 a1_0, .int .u8 a1_1, .int .u8 a1_2, .int .u8 a1_3, .string a1_4, .int .i64 a1_5]] w fun e w' => e = .returned (.int .i64 r) ∧ Below w.heap.size w w' := by
  have hu28 := Tryz.underlying28
  have hu37 := Tryz.underlying37
  have HR0 := Aside0.mk hr0
  have HC0 := Aside0.mk hc0
  clear hr0 hc0
  have HS_ := Aside0.mk hS_
  clear hS_
  have HB := Aside0.mk (Below.refl w.heap.size w)
  have H : ((sallyportref12_Check.f k l0).bind fun t130 => (if t130 = 0 then ((sallyportref06_PrintDest.f k a1_0 a1_1 a1_2 a1_3 a1_4 a1_5).bind fun t131 => (sallyportref12_Which.j0 k l0 (t131.toList == ([] : List UInt8)) a1_0 a1_1 a1_2 a1_3 a1_4 a1_5)) else (sallyportref12_Which.j0 k l0 true a1_0 a1_1 a1_2 a1_3 a1_4 a1_5))) = some r := h
  clear h
  have HC3 := Aside0.mk H
  clear H
  go_enter Tryz.func14, Tryz.ntmps14
  go_upto_region 1 with (first | ((with_reducible refine gate_dst (N := 3) rfl ?_); refine box_event ?hg (N := 3) ?hd (cs := #[.int .u8 a1_0, .int .u8 a1_1, .int .u8 a1_2, .int .u8 a1_3, .string a1_4, .int .i64 a1_5]) (t := 28) ?hr ?_; (case hd => rfl); (case hg => rfl); (case hr => first | (go_simp; done) | (go_simp; rfl)); intro gb129 hg w4 hbox hb; have n0_ := Aside0.mk (below_step (by repeat (first | (with_reducible first | exact HB.out | apply below_alloc | apply pw_below_drewN | apply below_drew1) | exact HB.out)) hb); have n1_ := Aside0.mk (hbox); have n2_ := Aside0.mk ((by rw [hg]; exact (below_size (by repeat (first | (with_reducible first | exact HB.out | apply below_alloc | apply pw_below_drewN | apply below_drew1) | exact HB.out))) : w.heap.size ≤ gb129)); have n3_ := Aside0.mk ((by rw [hg]; exact (below_size (by repeat (first | (with_reducible first | exact HB.out | apply below_alloc | apply pw_below_drewN | apply below_drew1) | exact HB.out))) : w.heap.size ≤ gb129)); clear HB; have HB := n0_; have BK129 := n1_; have GW129 := n2_; have GE129 := n3_; clear n0_ n1_ n2_ n3_; clear hb hbox hg))
  (try simp only [Act.put, List.setIfInBounds_toArray, List.set_cons_zero, List.set_cons_succ])
  go_cut [13] (fun v13 wc => ∃ (kq : Nat) (x13_2 : Bool), v13 = .bool x13_2 ∧ Aside0 (sallyportref12_Which.j0 kq l0 x13_2 a1_0 a1_1 a1_2 a1_3 a1_4 a1_5 = some r) ∧ Aside0 (kq ≤ k) ∧ Aside0 (wc.heap[gb129]? = some (.cells #[.int .u8 a1_0, .int .u8 a1_1, .int .u8 a1_2, .int .u8 a1_3, .string a1_4, .int .i64 a1_5] 28 (0, 0))) ∧ Aside0 (Below w.heap.size w wc))
  case first =>
    have H := HC3.out
    clear HC3
    replace H := Option.bind_eq_some_iff.mp H
    obtain ⟨t130, A50, H⟩ := H
    replace H : (if t130 = 0 then ((sallyportref06_PrintDest.f k a1_0 a1_1 a1_2 a1_3 a1_4 a1_5).bind fun t131 => (sallyportref12_Which.j0 k l0 (t131.toList == ([] : List UInt8)) a1_0 a1_1 a1_2 a1_3 a1_4 a1_5)) else (sallyportref12_Which.j0 k l0 true a1_0 a1_1 a1_2 a1_3 a1_4 a1_5)) = some r := H
    have A5 := Aside0.mk A50
    clear A50
    by_cases c6 : t130 = 0
    · rw [if_pos c6] at H
      have c6b0 : (t130 == 0) = true := beq_iff_eq.mpr c6
      have c6b1 : (t130 != 0) = false := bne_eq_false_iff_eq.mpr c6
      clear c6
      (first | rw [c6b0] | (simp only [i64_w, i32_w]; rw [c6b0]) | skip)
      replace H := Option.bind_eq_some_iff.mp H
      obtain ⟨t131, A70, H⟩ := H
      replace H : (sallyportref12_Which.j0 k l0 (t131.toList == ([] : List UInt8)) a1_0 a1_1 a1_2 a1_3 a1_4 a1_5) = some r := H
      have A7 := Aside0.mk A70
      clear A70
      have H' := Aside0.mk H
      clear H
      go_wp2_with (first | ((with_reducible refine gate_callee (f := 12) rfl ?_); refine goesL_ (some 7) rfl rfl Tryz.func12 (by kernel_rfl) rfl #[.slice A0 l0.length c0] rfl (by (try simp only [List.map_toArray, List.map_cons, List.map_nil]); first | done | rfl | (simp only [List.length_drop, List.length_take]; rfl)) ?_; (with_reducible refine (sallyportref12_Check.calls k _ _ l0 t130 _ ?side1 ?side2 ?side3 A5.out).mono ?_); (case side1 => repeat (first | exact (Kd.C_below HR0.out HB.out) | (with_reducible refine Kd.C_alloc ?_ _) | (with_reducible refine Kd.C_drewN ?_ _) | (with_reducible refine Kd.C_drew ?_))); (case side2 => exact HC0.out); (case side3 => exact StdW.below HS_.out (by repeat (first | (with_reducible first | exact HB.out | apply below_alloc | apply pw_below_drewN | apply below_drew1 | refine below_set ?_ GE129.out) | exact HB.out))); rintro e w8 ⟨rfl, hb⟩; refine ⟨_, rfl, ?_⟩; have n0_ := Aside0.mk (blk_below (g := gb129) (o := .cells #[.int .u8 a1_0, .int .u8 a1_1, .int .u8 a1_2, .int .u8 a1_3, .string a1_4, .int .i64 a1_5] 28 (0, 0)) (by (with_reducible repeat (first | refine blk_drewN ?_ _ | refine blk_drew ?_ | refine blk_alloc ?_ _)); exact BK129.out) hb); have n1_ := Aside0.mk (below_step (by repeat (first | (with_reducible first | exact HB.out | apply below_alloc | apply pw_below_drewN | apply below_drew1 | refine below_set ?_ GE129.out) | exact HB.out)) hb); clear BK129; clear HB; have BK129 := n0_; have HB := n1_; clear n0_ n1_; (try clear hb); (try clear hb2); (try clear hk); (try clear hi); have hcz9_0 : w8.cell? ⟨gb129, 0, none⟩ = some (.int .u8 a1_0) := (blk_cell BK129.out 0).trans rfl; have hcz9_1 : w8.cell? ⟨gb129, 1, none⟩ = some (.int .u8 a1_1) := (blk_cell BK129.out 1).trans rfl; have hcz9_2 : w8.cell? ⟨gb129, 2, none⟩ = some (.int .u8 a1_2) := (blk_cell BK129.out 2).trans rfl; have hcz9_3 : w8.cell? ⟨gb129, 3, none⟩ = some (.int .u8 a1_3) := (blk_cell BK129.out 3).trans rfl; have hcz9_4 : w8.cell? ⟨gb129, 4, none⟩ = some (.string a1_4) := (blk_cell BK129.out 4).trans rfl; have hcz9_5 : w8.cell? ⟨gb129, 5, none⟩ = some (.int .i64 a1_5) := (blk_cell BK129.out 5).trans rfl; have hfz9_0 := blk_frozen BK129.out 0; have hfz9_1 := blk_frozen BK129.out 1; have hfz9_2 := blk_frozen BK129.out 2; have hfz9_3 := blk_frozen BK129.out 3; have hfz9_4 := blk_frozen BK129.out 4; have hfz9_5 := blk_frozen BK129.out 5) | (go_at_call 35; (with_reducible refine (sallyportref06_PrintDest.calls k a1_0 a1_1 a1_2 a1_3 a1_4 a1_5 t131 _ ?side1 A7.out).mono ?_); (case side1 => exact StdW.below HS_.out (by repeat (first | (with_reducible first | exact HB.out | apply below_alloc | apply pw_below_drewN | apply below_drew1 | refine below_set ?_ GE129.out) | exact HB.out))); rintro e w10 ⟨rfl, hb⟩; have n0_ := Aside0.mk (blk_below (g := gb129) (o := .cells #[.int .u8 a1_0, .int .u8 a1_1, .int .u8 a1_2, .int .u8 a1_3, .string a1_4, .int .i64 a1_5] 28 (0, 0)) (by (with_reducible repeat (first | refine blk_drewN ?_ _ | refine blk_drew ?_ | refine blk_alloc ?_ _)); exact BK129.out) hb); have n1_ := Aside0.mk (below_step (by repeat (first | (with_reducible first | exact HB.out | apply below_alloc | apply pw_below_drewN | apply below_drew1 | refine below_set ?_ GE129.out) | exact HB.out)) hb); clear BK129; clear HB; have BK129 := n0_; have HB := n1_; clear n0_ n1_; (try clear hb); (try clear hb2); (try clear hk); (try clear hi)))
      go_meet
      case rel => exact ⟨_, ((t131.toList == ([] : List UInt8))), (by first | rfl | (simp; done) | (simp [*]; done)), H', ⟨by first | omega | exact Nat.le_refl _⟩, ⟨by (with_reducible repeat (first | refine blk_drewN ?_ _ | refine blk_drew ?_ | refine blk_alloc ?_ _)); exact BK129.out⟩, ⟨by repeat (first | (with_reducible first | exact HB.out | apply below_alloc | apply pw_below_drewN | apply below_drew1 | refine below_set ?_ GE129.out) | exact HB.out)⟩⟩
    · rw [if_neg c6] at H
      have c6b0 : (t130 == 0) = false := beq_eq_false_iff_ne.mpr c6
      have c6b1 : (t130 != 0) = true := bne_iff_ne.mpr c6
      (first | rw [c6b0] | (simp only [i64_w, i32_w]; rw [c6b0]) | skip)
      have H' := Aside0.mk H
      clear H
      go_wp2_with (first | ((with_reducible refine gate_callee (f := 12) rfl ?_); refine goesL_ (some 7) rfl rfl Tryz.func12 (by kernel_rfl) rfl #[.slice A0 l0.length c0] rfl (by (try simp only [List.map_toArray, List.map_cons, List.map_nil]); first | done | rfl | (simp only [List.length_drop, List.length_take]; rfl)) ?_; (with_reducible refine (sallyportref12_Check.calls k _ _ l0 t130 _ ?side1 ?side2 ?side3 A5.out).mono ?_); (case side1 => repeat (first | exact (Kd.C_below HR0.out HB.out) | (with_reducible refine Kd.C_alloc ?_ _) | (with_reducible refine Kd.C_drewN ?_ _) | (with_reducible refine Kd.C_drew ?_))); (case side2 => exact HC0.out); (case side3 => exact StdW.below HS_.out (by repeat (first | (with_reducible first | exact HB.out | apply below_alloc | apply pw_below_drewN | apply below_drew1 | refine below_set ?_ GE129.out) | exact HB.out))); rintro e w11 ⟨rfl, hb⟩; refine ⟨_, rfl, ?_⟩; have n0_ := Aside0.mk (blk_below (g := gb129) (o := .cells #[.int .u8 a1_0, .int .u8 a1_1, .int .u8 a1_2, .int .u8 a1_3, .string a1_4, .int .i64 a1_5] 28 (0, 0)) (by (with_reducible repeat (first | refine blk_drewN ?_ _ | refine blk_drew ?_ | refine blk_alloc ?_ _)); exact BK129.out) hb); have n1_ := Aside0.mk (below_step (by repeat (first | (with_reducible first | exact HB.out | apply below_alloc | apply pw_below_drewN | apply below_drew1 | refine below_set ?_ GE129.out) | exact HB.out)) hb); clear BK129; clear HB; have BK129 := n0_; have HB := n1_; clear n0_ n1_; (try clear hb); (try clear hb2); (try clear hk); (try clear hi)))
      go_meet
      case rel => exact ⟨_, (true), (by first | rfl | (simp; done) | (simp [*]; done)), H', ⟨by first | omega | exact Nat.le_refl _⟩, ⟨by (with_reducible repeat (first | refine blk_drewN ?_ _ | refine blk_drew ?_ | refine blk_alloc ?_ _)); exact BK129.out⟩, ⟨by repeat (first | (with_reducible first | exact HB.out | apply below_alloc | apply pw_below_drewN | apply below_drew1 | refine below_set ?_ GE129.out) | exact HB.out)⟩⟩
  case rest =>
    clear HC3
    try clear c1
    try clear p2
    try clear c6
    try clear c6b0
    try clear c6b1
    try clear hcz9_0
    try clear hcz9_1
    try clear hcz9_2
    try clear hcz9_3
    try clear hcz9_4
    try clear hcz9_5
    try clear hfz9_0
    try clear hfz9_1
    try clear hfz9_2
    try clear hfz9_3
    try clear hfz9_4
    try clear hfz9_5
    obtain ⟨kq, x13_2, rfl, HA, HJ2, BK129, HB⟩ := hcut
    cases kq with
    | zero => exact absurd HA.out (by simp [sallyportref12_Which.j0])
    | succ kj2 =>
      have H := HA.out
      clear HA
      simp only [sallyportref12_Which.j0] at H
      by_cases c12 : x13_2 = true
      · subst c12
        have H1 : (some (-1)) = some r := by rw [if_pos rfl] at H; exact H
        clear H
        have H := H1
        clear H1
        obtain rfl := Option.some.inj H
        go_wp2
        go_ret
        exact ⟨by first | rfl | (simp [errW_none, errW_some] <;> rfl) | (simp [*, errW_none, errW_some] <;> rfl), by repeat (first | (with_reducible first | exact HB.out | apply below_alloc | apply pw_below_drewN | apply below_drew1 | refine below_set ?_ GE129.out) | exact HB.out)⟩
      · replace c12 := Bool.eq_false_iff.mpr c12
        subst c12
        have H1 : (sallyportref12_Which.l0 kj2 l0 0 a1_0 a1_1 a1_2 a1_3 a1_4 a1_5) = some r := by rw [if_neg (show ¬ (false = true) by decide)] at H; exact H
        clear H
        have H := H1
        clear H1
        have H' := Aside0.mk H
        clear H
        go_wp2
        go_loopg [5] kj2 (fun kq v5 w' => ∃ (x5_2 : Int), v5 = .int .i64 x5_2 ∧ Aside0 (sallyportref12_Which.l0 kq l0 x5_2 a1_0 a1_1 a1_2 a1_3 a1_4 a1_5 = some r) ∧ Aside0 (kq ≤ kj2) ∧ Aside0 (w'.heap[gb129]? = some (.cells #[.int .u8 a1_0, .int .u8 a1_1, .int .u8 a1_2, .int .u8 a1_3, .string a1_4, .int .i64 a1_5] 28 (0, 0))) ∧ Aside0 (Below w.heap.size w w'))
        case atStart => exact ⟨(0), (by first | rfl | (simp; done) | (simp [*]; done)), H', ⟨Nat.le_refl _⟩, ⟨by (with_reducible repeat (first | refine blk_drewN ?_ _ | refine blk_drew ?_ | refine blk_alloc ?_ _)); exact BK129.out⟩, ⟨by repeat (first | (with_reducible first | exact HB.out | apply below_alloc | apply pw_below_drewN | apply below_drew1 | refine below_set ?_ GE129.out) | exact HB.out)⟩⟩
        case round =>
          clear H'
          try clear c1
          try clear p2
          try clear c6
          try clear c6b0
          try clear c6b1
          try clear c12
          try clear hcz9_0
          try clear hcz9_1
          try clear hcz9_2
          try clear hcz9_3
          try clear hcz9_4
          try clear hcz9_5
          try clear hfz9_0
          try clear hfz9_1
          try clear hfz9_2
          try clear hfz9_3
          try clear hfz9_4
          try clear hfz9_5
          try clear p2
          obtain ⟨x5_2, rfl, HA, HK2, BK129, HB⟩ := hrel
          cases gk with
          | zero => exact absurd HA.out (by simp [sallyportref12_Which.l0])
          | succ k2 =>
            have H := HA.out
            clear HA
            simp only [sallyportref12_Which.l0] at H
            by_cases c13 : x5_2 < (l0.length : Int)
            · rw [if_pos c13] at H
              have c13b0 : decide (x5_2 < (l0.length : Int)) = true := decide_eq_true c13
              clear c13
              by_cases c14 : 0 ≤ x5_2
              · rw [if_pos c14] at H
                have c14b0 : decide (0 ≤ x5_2) = true := decide_eq_true c14
                clear c14
                replace H := Option.bind_eq_some_iff.mp H
                obtain ⟨t133, A150, H⟩ := H
                replace H : (if t133 = true then (some x5_2) else (sallyportref12_Which.l0 k2 l0 (wrap64 (x5_2 + 1)) a1_0 a1_1 a1_2 a1_3 a1_4 a1_5)) = some r := H
                have A15 := Aside0.mk A150
                clear A150
                by_cases c16 : t133 = true
                · subst c16
                  have H1 : (some x5_2) = some r := by rw [if_pos rfl] at H; exact H
                  clear H
                  have H := H1
                  clear H1
                  obtain rfl := Option.some.inj H
                  try go_wp2
                  have n0_ := Aside0.mk (blk_drew BK129.out)
                  have n1_ := Aside0.mk (below_drew1 HB.out)
                  clear BK129
                  clear HB
                  have BK129 := n0_
                  have HB := n1_
                  clear n0_ n1_
                  have p132 : 0 ≤ (x5_2 : Int) := of_decide_eq_true (by first | (with_reducible assumption) | assumption)
                  have q132 : x5_2 < (l0.length : Int) := of_decide_eq_true (by first | (with_reducible assumption) | assumption)
                  obtain ⟨ad132, e132, hx132_0, hx132_1, hx132_2, hx132_3, hx132_4, hx132_5, hx132_6, hx132_7, hx132_8⟩ := at_T37 HR0.out x5_2 p132 q132
                  have hw132_8 := hx132_8
                  have hw132_7 := hx132_7
                  have hw132_6 := hx132_6
                  have hw132_5 := hx132_5
                  have hw132_4 := hx132_4
                  have hw132_3 := hx132_3
                  have hw132_2 := hx132_2
                  have hw132_1 := hx132_1
                  have hw132_0 := hx132_0
                  cases e132
                  replace hx132_0 := (HB.out.cell (World.block_lt_of_cell? w _ hx132_0)).trans hx132_0
                  replace hx132_1 := (HB.out.cell (World.block_lt_of_cell? w _ hx132_1)).trans hx132_1
                  replace hx132_2 := (HB.out.cell (World.block_lt_of_cell? w _ hx132_2)).trans hx132_2
                  replace hx132_3 := (HB.out.cell (World.block_lt_of_cell? w _ hx132_3)).trans hx132_3
                  replace hx132_4 := (HB.out.cell (World.block_lt_of_cell? w _ hx132_4)).trans hx132_4
                  replace hx132_5 := (HB.out.cell (World.block_lt_of_cell? w _ hx132_5)).trans hx132_5
                  replace hx132_6 := (HB.out.cell (World.block_lt_of_cell? w _ hx132_6)).trans hx132_6
                  replace hx132_7 := (HB.out.cell (World.block_lt_of_cell? w _ hx132_7)).trans hx132_7
                  replace hx132_8 := (HB.out.cell (World.block_lt_of_cell? w _ hx132_8)).trans hx132_8
                  replace p132 := eq_true p132
                  replace q132 := eq_true q132
                  refine start_ (n := 6) (S := fun w' => w'.cell? ⟨gb129, 0, none⟩ = some (.int .u8 a1_0) ∧ w'.cell? ⟨gb129, 1, none⟩ = some (.int .u8 a1_1) ∧ w'.cell? ⟨gb129, 2, none⟩ = some (.int .u8 a1_2) ∧ w'.cell? ⟨gb129, 3, none⟩ = some (.int .u8 a1_3) ∧ w'.cell? ⟨gb129, 4, none⟩ = some (.string a1_4) ∧ w'.cell? ⟨gb129, 5, none⟩ = some (.int .i64 a1_5) ∧ w'.cell? (ad132.add ((x5_2).toNat * 9)) = some (.bool ((rd_T37 l0 x5_2).f0)) ∧ w'.cell? ⟨(ad132.add ((x5_2).toNat * 9)).block, (ad132.add ((x5_2).toNat * 9)).off + 1, none⟩ = some (.int .u8 ((rd_T37 l0 x5_2).f1.f0)) ∧ w'.cell? ⟨(ad132.add ((x5_2).toNat * 9)).block, (ad132.add ((x5_2).toNat * 9)).off + 2, none⟩ = some (.int .u8 ((rd_T37 l0 x5_2).f1.f1)) ∧ w'.cell? ⟨(ad132.add ((x5_2).toNat * 9)).block, (ad132.add ((x5_2).toNat * 9)).off + 3, none⟩ = some (.int .u8 ((rd_T37 l0 x5_2).f1.f2)) ∧ w'.cell? ⟨(ad132.add ((x5_2).toNat * 9)).block, (ad132.add ((x5_2).toNat * 9)).off + 4, none⟩ = some (.int .u8 ((rd_T37 l0 x5_2).f1.f3)) ∧ w'.cell? ⟨(ad132.add ((x5_2).toNat * 9)).block, (ad132.add ((x5_2).toNat * 9)).off + 5, none⟩ = some (.int .i64 ((rd_T37 l0 x5_2).f2)) ∧ w'.cell? ⟨(ad132.add ((x5_2).toNat * 9)).block, (ad132.add ((x5_2).toNat * 9)).off + 6, none⟩ = some (.string ((rd_T37 l0 x5_2).f3)) ∧ w'.cell? ⟨(ad132.add ((x5_2).toNat * 9)).block, (ad132.add ((x5_2).toNat * 9)).off + 7, none⟩ = some (.int .i64 ((rd_T37 l0 x5_2).f4)) ∧ w'.cell? ⟨(ad132.add ((x5_2).toNat * 9)).block, (ad132.add ((x5_2).toNat * 9)).off + 8, none⟩ = some (.int .i64 ((rd_T37 l0 x5_2).f5))) (ds := []) #[false, false, false, false, false, false] (by kernel_rfl) rfl rfl ⟨(blk_cell BK129.out 0).trans rfl, (blk_cell BK129.out 1).trans rfl, (blk_cell BK129.out 2).trans rfl, (blk_cell BK129.out 3).trans rfl, (blk_cell BK129.out 4).trans rfl, (blk_cell BK129.out 5).trans rfl, ((HB.out.cell (World.block_lt_of_cell? w _ hw132_0)).trans hw132_0), ((HB.out.cell (World.block_lt_of_cell? w _ hw132_1)).trans hw132_1), ((HB.out.cell (World.block_lt_of_cell? w _ hw132_2)).trans hw132_2), ((HB.out.cell (World.block_lt_of_cell? w _ hw132_3)).trans hw132_3), ((HB.out.cell (World.block_lt_of_cell? w _ hw132_4)).trans hw132_4), ((HB.out.cell (World.block_lt_of_cell? w _ hw132_5)).trans hw132_5), ((HB.out.cell (World.block_lt_of_cell? w _ hw132_6)).trans hw132_6), ((HB.out.cell (World.block_lt_of_cell? w _ hw132_7)).trans hw132_7), ((HB.out.cell (World.block_lt_of_cell? w _ hw132_8)).trans hw132_8)⟩ (fun hHeld => ?_)
                  generalize wr.drew = w17 at BK129 HB hx132_0 hx132_1 hx132_2 hx132_3 hx132_4 hx132_5 hx132_6 hx132_7 hx132_8 hHeld ⊢
                  refine pure_ (i := 0) (N := some 20) (v := ?_) (a' := ?_) #[true, false, false, false, false, false] rfl rfl (by kernel_rfl) (fun _ _ _ h => h) (Or.inl ⟨by rfl, ?_⟩) ?_ ?_
                  rotate_left
                  · intro w'
                    go_simp
                    with_reducible rfl
                  rotate_left
                  · simp only [Act.put, List.setIfInBounds_toArray, List.set_cons_zero, List.set_cons_succ, i64_w, i32_w]
                    rfl
                  refine pure_ (i := 1) (N := some 21) (v := ?_) (a' := ?_) #[true, true, false, false, false, false] rfl rfl (by kernel_rfl) (fun _ _ _ h => h) (Or.inl ⟨by rfl, ?_⟩) ?_ ?_
                  rotate_left
                  · intro w'
                    go_simp
                    with_reducible rfl
                  rotate_left
                  · simp only [Act.put, List.setIfInBounds_toArray, List.set_cons_zero, List.set_cons_succ, i64_w, i32_w]
                    rfl
                  refine pure_ (i := 2) (N := some 22) (v := ?_) (a' := ?_) #[true, true, true, false, false, false] rfl rfl (by kernel_rfl) (fun _ _ _ h => h) (Or.inl ⟨by rfl, ?_⟩) ?_ ?_
                  rotate_left
                  · intro w'
                    go_simp
                    with_reducible rfl
                  rotate_left
                  · simp only [Act.put, List.setIfInBounds_toArray, List.set_cons_zero, List.set_cons_succ, i64_w, i32_w]
                    rfl
                  refine take_ (i := 3) (N := some 23) (v := ?_) (a' := ?_) #[true, true, true, true, false, false] rfl rfl (by kernel_rfl) (fun _ _ _ h => h) (Or.inl ⟨by rfl, ?_⟩) hHeld ?_ ?_
                  rotate_left
                  · rintro w' ⟨s0, s1, s2, s3, s4, s5, s6, s7, s8, s9, s10, s11, s12, s13, s14⟩
                    go_simp
                    with_reducible rfl
                  rotate_left
                  · simp only [Act.put, List.setIfInBounds_toArray, List.set_cons_zero, List.set_cons_succ, i64_w, i32_w]
                    rfl
                  refine take_ (i := 4) (N := some 24) (v := ?_) (a' := ?_) #[true, true, true, true, true, false] rfl rfl (by kernel_rfl) (fun _ _ _ h => h) (Or.inl ⟨by rfl, ?_⟩) hHeld ?_ ?_
                  rotate_left
                  · rintro w' ⟨s0, s1, s2, s3, s4, s5, s6, s7, s8, s9, s10, s11, s12, s13, s14⟩
                    go_simp
                    with_reducible rfl
                  rotate_left
                  · simp only [Act.put, List.setIfInBounds_toArray, List.set_cons_zero, List.set_cons_succ, i64_w, i32_w]
                    rfl
                  refine one_ (i := 5) (N := some 25) #[true, true, true, true, true, true] rfl rfl (by kernel_rfl) (by decide) (fun K hK => ?_)
                  refine goes_ Tryz.func40 (by kernel_rfl) rfl #[.agg #[.bool ((rd_T37 l0 x5_2).f0), .int .u8 ((rd_T37 l0 x5_2).f1.f0), .int .u8 ((rd_T37 l0 x5_2).f1.f1), .int .u8 ((rd_T37 l0 x5_2).f1.f2), .int .u8 ((rd_T37 l0 x5_2).f1.f3), .int .i64 ((rd_T37 l0 x5_2).f2), .string ((rd_T37 l0 x5_2).f3), .int .i64 ((rd_T37 l0 x5_2).f4), .int .i64 ((rd_T37 l0 x5_2).f5)], .agg #[.int .u8 a1_0, .int .u8 a1_1, .int .u8 a1_2, .int .u8 a1_3, .string a1_4, .int .i64 a1_5]] (by rfl) rfl rfl (by (try simp only [List.map_toArray, List.map_cons, List.map_nil]); first | done | rfl | (simp only [List.length_drop, List.length_take]; rfl)) ?_
                  with_reducible refine (sallyportref12_fits.calls k2 ((rd_T37 l0 x5_2).f0) ((rd_T37 l0 x5_2).f1.f0) ((rd_T37 l0 x5_2).f1.f1) ((rd_T37 l0 x5_2).f1.f2) ((rd_T37 l0 x5_2).f1.f3) ((rd_T37 l0 x5_2).f2) ((rd_T37 l0 x5_2).f3) ((rd_T37 l0 x5_2).f4) ((rd_T37 l0 x5_2).f5) a1_0 a1_1 a1_2 a1_3 a1_4 a1_5 true _ ?side1 A15.out).mono ?_
                  (case side1 => exact StdW.below HS_.out (by repeat (first | (with_reducible first | exact HB.out | apply below_alloc | apply pw_below_drewN | apply below_drew1 | refine below_set ?_ GE129.out) | exact HB.out)))
                  rintro e w18 ⟨rfl, hb⟩
                  refine ⟨_, rfl, ?_⟩
                  have n0_ := Aside0.mk (blk_below (g := gb129) (o := .cells #[.int .u8 a1_0, .int .u8 a1_1, .int .u8 a1_2, .int .u8 a1_3, .string a1_4, .int .i64 a1_5] 28 (0, 0)) (by (with_reducible repeat (first | refine blk_drewN ?_ _ | refine blk_drew ?_ | refine blk_alloc ?_ _)); exact BK129.out) hb)
                  have n1_ := Aside0.mk (below_step (by repeat (first | (with_reducible first | exact HB.out | apply below_alloc | apply pw_below_drewN | apply below_drew1 | refine below_set ?_ GE129.out) | exact HB.out)) hb)
                  clear BK129
                  clear HB
                  have BK129 := n0_
                  have HB := n1_
                  clear n0_ n1_
                  (try clear hb)
                  (try clear hb2)
                  (try clear hk)
                  (try clear hi)
                  refine hK.out _ _ ⟨(blk_cell BK129.out 0).trans rfl, (blk_cell BK129.out 1).trans rfl, (blk_cell BK129.out 2).trans rfl, (blk_cell BK129.out 3).trans rfl, (blk_cell BK129.out 4).trans rfl, (blk_cell BK129.out 5).trans rfl, ((HB.out.cell (World.block_lt_of_cell? w _ hw132_0)).trans hw132_0), ((HB.out.cell (World.block_lt_of_cell? w _ hw132_1)).trans hw132_1), ((HB.out.cell (World.block_lt_of_cell? w _ hw132_2)).trans hw132_2), ((HB.out.cell (World.block_lt_of_cell? w _ hw132_3)).trans hw132_3), ((HB.out.cell (World.block_lt_of_cell? w _ hw132_4)).trans hw132_4), ((HB.out.cell (World.block_lt_of_cell? w _ hw132_5)).trans hw132_5), ((HB.out.cell (World.block_lt_of_cell? w _ hw132_6)).trans hw132_6), ((HB.out.cell (World.block_lt_of_cell? w _ hw132_7)).trans hw132_7), ((HB.out.cell (World.block_lt_of_cell? w _ hw132_8)).trans hw132_8)⟩ (fun hHeld => ?_)
                  clear hK K
                  refine norm_ (a' := ?_) ?_ ?_
                  rotate_left
                  · show Act.put _ (some 25) _ = _
                    simp only [Act.put, List.setIfInBounds_toArray, List.set_cons_zero, List.set_cons_succ, i64_w, i32_w]
                    rfl
                  refine done_ (by kernel_rfl) ?_
                  try go_wp2
                  go_ret
                  exact ⟨by first | rfl | (simp [errW_none, errW_some] <;> rfl) | (simp [*, errW_none, errW_some] <;> rfl), by repeat (first | (with_reducible first | exact HB.out | apply below_alloc | apply pw_below_drewN | apply below_drew1 | refine below_set ?_ GE129.out) | exact HB.out)⟩
                · replace c16 := Bool.eq_false_iff.mpr c16
                  subst c16
                  have H1 : (sallyportref12_Which.l0 k2 l0 (wrap64 (x5_2 + 1)) a1_0 a1_1 a1_2 a1_3 a1_4 a1_5) = some r := by rw [if_neg (show ¬ (false = true) by decide)] at H; exact H
                  clear H
                  have H := H1
                  clear H1
                  have H' := Aside0.mk H
                  clear H
                  try go_wp2
                  have n0_ := Aside0.mk (blk_drew BK129.out)
                  have n1_ := Aside0.mk (below_drew1 HB.out)
                  clear BK129
                  clear HB
                  have BK129 := n0_
                  have HB := n1_
                  clear n0_ n1_
                  have p132 : 0 ≤ (x5_2 : Int) := of_decide_eq_true (by first | (with_reducible assumption) | assumption)
                  have q132 : x5_2 < (l0.length : Int) := of_decide_eq_true (by first | (with_reducible assumption) | assumption)
                  obtain ⟨ad132, e132, hx132_0, hx132_1, hx132_2, hx132_3, hx132_4, hx132_5, hx132_6, hx132_7, hx132_8⟩ := at_T37 HR0.out x5_2 p132 q132
                  have hw132_8 := hx132_8
                  have hw132_7 := hx132_7
                  have hw132_6 := hx132_6
                  have hw132_5 := hx132_5
                  have hw132_4 := hx132_4
                  have hw132_3 := hx132_3
                  have hw132_2 := hx132_2
                  have hw132_1 := hx132_1
                  have hw132_0 := hx132_0
                  cases e132
                  replace hx132_0 := (HB.out.cell (World.block_lt_of_cell? w _ hx132_0)).trans hx132_0
                  replace hx132_1 := (HB.out.cell (World.block_lt_of_cell? w _ hx132_1)).trans hx132_1
                  replace hx132_2 := (HB.out.cell (World.block_lt_of_cell? w _ hx132_2)).trans hx132_2
                  replace hx132_3 := (HB.out.cell (World.block_lt_of_cell? w _ hx132_3)).trans hx132_3
                  replace hx132_4 := (HB.out.cell (World.block_lt_of_cell? w _ hx132_4)).trans hx132_4
                  replace hx132_5 := (HB.out.cell (World.block_lt_of_cell? w _ hx132_5)).trans hx132_5
                  replace hx132_6 := (HB.out.cell (World.block_lt_of_cell? w _ hx132_6)).trans hx132_6
                  replace hx132_7 := (HB.out.cell (World.block_lt_of_cell? w _ hx132_7)).trans hx132_7
                  replace hx132_8 := (HB.out.cell (World.block_lt_of_cell? w _ hx132_8)).trans hx132_8
                  replace p132 := eq_true p132
                  replace q132 := eq_true q132
                  refine start_ (n := 6) (S := fun w' => w'.cell? ⟨gb129, 0, none⟩ = some (.int .u8 a1_0) ∧ w'.cell? ⟨gb129, 1, none⟩ = some (.int .u8 a1_1) ∧ w'.cell? ⟨gb129, 2, none⟩ = some (.int .u8 a1_2) ∧ w'.cell? ⟨gb129, 3, none⟩ = some (.int .u8 a1_3) ∧ w'.cell? ⟨gb129, 4, none⟩ = some (.string a1_4) ∧ w'.cell? ⟨gb129, 5, none⟩ = some (.int .i64 a1_5) ∧ w'.cell? (ad132.add ((x5_2).toNat * 9)) = some (.bool ((rd_T37 l0 x5_2).f0)) ∧ w'.cell? ⟨(ad132.add ((x5_2).toNat * 9)).block, (ad132.add ((x5_2).toNat * 9)).off + 1, none⟩ = some (.int .u8 ((rd_T37 l0 x5_2).f1.f0)) ∧ w'.cell? ⟨(ad132.add ((x5_2).toNat * 9)).block, (ad132.add ((x5_2).toNat * 9)).off + 2, none⟩ = some (.int .u8 ((rd_T37 l0 x5_2).f1.f1)) ∧ w'.cell? ⟨(ad132.add ((x5_2).toNat * 9)).block, (ad132.add ((x5_2).toNat * 9)).off + 3, none⟩ = some (.int .u8 ((rd_T37 l0 x5_2).f1.f2)) ∧ w'.cell? ⟨(ad132.add ((x5_2).toNat * 9)).block, (ad132.add ((x5_2).toNat * 9)).off + 4, none⟩ = some (.int .u8 ((rd_T37 l0 x5_2).f1.f3)) ∧ w'.cell? ⟨(ad132.add ((x5_2).toNat * 9)).block, (ad132.add ((x5_2).toNat * 9)).off + 5, none⟩ = some (.int .i64 ((rd_T37 l0 x5_2).f2)) ∧ w'.cell? ⟨(ad132.add ((x5_2).toNat * 9)).block, (ad132.add ((x5_2).toNat * 9)).off + 6, none⟩ = some (.string ((rd_T37 l0 x5_2).f3)) ∧ w'.cell? ⟨(ad132.add ((x5_2).toNat * 9)).block, (ad132.add ((x5_2).toNat * 9)).off + 7, none⟩ = some (.int .i64 ((rd_T37 l0 x5_2).f4)) ∧ w'.cell? ⟨(ad132.add ((x5_2).toNat * 9)).block, (ad132.add ((x5_2).toNat * 9)).off + 8, none⟩ = some (.int .i64 ((rd_T37 l0 x5_2).f5))) (ds := []) #[false, false, false, false, false, false] (by kernel_rfl) rfl rfl ⟨(blk_cell BK129.out 0).trans rfl, (blk_cell BK129.out 1).trans rfl, (blk_cell BK129.out 2).trans rfl, (blk_cell BK129.out 3).trans rfl, (blk_cell BK129.out 4).trans rfl, (blk_cell BK129.out 5).trans rfl, ((HB.out.cell (World.block_lt_of_cell? w _ hw132_0)).trans hw132_0), ((HB.out.cell (World.block_lt_of_cell? w _ hw132_1)).trans hw132_1), ((HB.out.cell (World.block_lt_of_cell? w _ hw132_2)).trans hw132_2), ((HB.out.cell (World.block_lt_of_cell? w _ hw132_3)).trans hw132_3), ((HB.out.cell (World.block_lt_of_cell? w _ hw132_4)).trans hw132_4), ((HB.out.cell (World.block_lt_of_cell? w _ hw132_5)).trans hw132_5), ((HB.out.cell (World.block_lt_of_cell? w _ hw132_6)).trans hw132_6), ((HB.out.cell (World.block_lt_of_cell? w _ hw132_7)).trans hw132_7), ((HB.out.cell (World.block_lt_of_cell? w _ hw132_8)).trans hw132_8)⟩ (fun hHeld => ?_)
                  generalize wr.drew = w19 at BK129 HB hx132_0 hx132_1 hx132_2 hx132_3 hx132_4 hx132_5 hx132_6 hx132_7 hx132_8 hHeld ⊢
                  refine pure_ (i := 0) (N := some 20) (v := ?_) (a' := ?_) #[true, false, false, false, false, false] rfl rfl (by kernel_rfl) (fun _ _ _ h => h) (Or.inl ⟨by rfl, ?_⟩) ?_ ?_
                  rotate_left
                  · intro w'
                    go_simp
                    with_reducible rfl
                  rotate_left
                  · simp only [Act.put, List.setIfInBounds_toArray, List.set_cons_zero, List.set_cons_succ, i64_w, i32_w]
                    rfl
                  refine pure_ (i := 1) (N := some 21) (v := ?_) (a' := ?_) #[true, true, false, false, false, false] rfl rfl (by kernel_rfl) (fun _ _ _ h => h) (Or.inl ⟨by rfl, ?_⟩) ?_ ?_
                  rotate_left
                  · intro w'
                    go_simp
                    with_reducible rfl
                  rotate_left
                  · simp only [Act.put, List.setIfInBounds_toArray, List.set_cons_zero, List.set_cons_succ, i64_w, i32_w]
                    rfl
                  refine pure_ (i := 2) (N := some 22) (v := ?_) (a' := ?_) #[true, true, true, false, false, false] rfl rfl (by kernel_rfl) (fun _ _ _ h => h) (Or.inl ⟨by rfl, ?_⟩) ?_ ?_
                  rotate_left
                  · intro w'
                    go_simp
                    with_reducible rfl
                  rotate_left
                  · simp only [Act.put, List.setIfInBounds_toArray, List.set_cons_zero, List.set_cons_succ, i64_w, i32_w]
                    rfl
                  refine take_ (i := 3) (N := some 23) (v := ?_) (a' := ?_) #[true, true, true, true, false, false] rfl rfl (by kernel_rfl) (fun _ _ _ h => h) (Or.inl ⟨by rfl, ?_⟩) hHeld ?_ ?_
                  rotate_left
                  · rintro w' ⟨s0, s1, s2, s3, s4, s5, s6, s7, s8, s9, s10, s11, s12, s13, s14⟩
                    go_simp
                    with_reducible rfl
                  rotate_left
                  · simp only [Act.put, List.setIfInBounds_toArray, List.set_cons_zero, List.set_cons_succ, i64_w, i32_w]
                    rfl
                  refine take_ (i := 4) (N := some 24) (v := ?_) (a' := ?_) #[true, true, true, true, true, false] rfl rfl (by kernel_rfl) (fun _ _ _ h => h) (Or.inl ⟨by rfl, ?_⟩) hHeld ?_ ?_
                  rotate_left
                  · rintro w' ⟨s0, s1, s2, s3, s4, s5, s6, s7, s8, s9, s10, s11, s12, s13, s14⟩
                    go_simp
                    with_reducible rfl
                  rotate_left
                  · simp only [Act.put, List.setIfInBounds_toArray, List.set_cons_zero, List.set_cons_succ, i64_w, i32_w]
                    rfl
                  refine one_ (i := 5) (N := some 25) #[true, true, true, true, true, true] rfl rfl (by kernel_rfl) (by decide) (fun K hK => ?_)
                  refine goes_ Tryz.func40 (by kernel_rfl) rfl #[.agg #[.bool ((rd_T37 l0 x5_2).f0), .int .u8 ((rd_T37 l0 x5_2).f1.f0), .int .u8 ((rd_T37 l0 x5_2).f1.f1), .int .u8 ((rd_T37 l0 x5_2).f1.f2), .int .u8 ((rd_T37 l0 x5_2).f1.f3), .int .i64 ((rd_T37 l0 x5_2).f2), .string ((rd_T37 l0 x5_2).f3), .int .i64 ((rd_T37 l0 x5_2).f4), .int .i64 ((rd_T37 l0 x5_2).f5)], .agg #[.int .u8 a1_0, .int .u8 a1_1, .int .u8 a1_2, .int .u8 a1_3, .string a1_4, .int .i64 a1_5]] (by rfl) rfl rfl (by (try simp only [List.map_toArray, List.map_cons, List.map_nil]); first | done | rfl | (simp only [List.length_drop, List.length_take]; rfl)) ?_
                  with_reducible refine (sallyportref12_fits.calls k2 ((rd_T37 l0 x5_2).f0) ((rd_T37 l0 x5_2).f1.f0) ((rd_T37 l0 x5_2).f1.f1) ((rd_T37 l0 x5_2).f1.f2) ((rd_T37 l0 x5_2).f1.f3) ((rd_T37 l0 x5_2).f2) ((rd_T37 l0 x5_2).f3) ((rd_T37 l0 x5_2).f4) ((rd_T37 l0 x5_2).f5) a1_0 a1_1 a1_2 a1_3 a1_4 a1_5 false _ ?side1 A15.out).mono ?_
                  (case side1 => exact StdW.below HS_.out (by repeat (first | (with_reducible first | exact HB.out | apply below_alloc | apply pw_below_drewN | apply below_drew1 | refine below_set ?_ GE129.out) | exact HB.out)))
                  rintro e w20 ⟨rfl, hb⟩
                  refine ⟨_, rfl, ?_⟩
                  have n0_ := Aside0.mk (blk_below (g := gb129) (o := .cells #[.int .u8 a1_0, .int .u8 a1_1, .int .u8 a1_2, .int .u8 a1_3, .string a1_4, .int .i64 a1_5] 28 (0, 0)) (by (with_reducible repeat (first | refine blk_drewN ?_ _ | refine blk_drew ?_ | refine blk_alloc ?_ _)); exact BK129.out) hb)
                  have n1_ := Aside0.mk (below_step (by repeat (first | (with_reducible first | exact HB.out | apply below_alloc | apply pw_below_drewN | apply below_drew1 | refine below_set ?_ GE129.out) | exact HB.out)) hb)
                  clear BK129
                  clear HB
                  have BK129 := n0_
                  have HB := n1_
                  clear n0_ n1_
                  (try clear hb)
                  (try clear hb2)
                  (try clear hk)
                  (try clear hi)
                  refine hK.out _ _ ⟨(blk_cell BK129.out 0).trans rfl, (blk_cell BK129.out 1).trans rfl, (blk_cell BK129.out 2).trans rfl, (blk_cell BK129.out 3).trans rfl, (blk_cell BK129.out 4).trans rfl, (blk_cell BK129.out 5).trans rfl, ((HB.out.cell (World.block_lt_of_cell? w _ hw132_0)).trans hw132_0), ((HB.out.cell (World.block_lt_of_cell? w _ hw132_1)).trans hw132_1), ((HB.out.cell (World.block_lt_of_cell? w _ hw132_2)).trans hw132_2), ((HB.out.cell (World.block_lt_of_cell? w _ hw132_3)).trans hw132_3), ((HB.out.cell (World.block_lt_of_cell? w _ hw132_4)).trans hw132_4), ((HB.out.cell (World.block_lt_of_cell? w _ hw132_5)).trans hw132_5), ((HB.out.cell (World.block_lt_of_cell? w _ hw132_6)).trans hw132_6), ((HB.out.cell (World.block_lt_of_cell? w _ hw132_7)).trans hw132_7), ((HB.out.cell (World.block_lt_of_cell? w _ hw132_8)).trans hw132_8)⟩ (fun hHeld => ?_)
                  clear hK K
                  refine norm_ (a' := ?_) ?_ ?_
                  rotate_left
                  · show Act.put _ (some 25) _ = _
                    simp only [Act.put, List.setIfInBounds_toArray, List.set_cons_zero, List.set_cons_succ, i64_w, i32_w]
                    rfl
                  refine done_ (by kernel_rfl) ?_
                  try go_wp2
                  go_roundg k2
                  case measure => have := HJ2.out; have := HK2.out; omega
                  case rel => exact ⟨(wrap64 (x5_2 + 1)), (by first | rfl | (simp; done) | (simp [*]; done)), H', ⟨by have := HJ2.out; have := HK2.out; omega⟩, ⟨by (with_reducible repeat (first | refine blk_drewN ?_ _ | refine blk_drew ?_ | refine blk_alloc ?_ _)); exact BK129.out⟩, ⟨by repeat (first | (with_reducible first | exact HB.out | apply below_alloc | apply pw_below_drewN | apply below_drew1 | refine below_set ?_ GE129.out) | exact HB.out)⟩⟩
              · rw [if_neg c14] at H
                exact absurd H (by simp)
            · rw [if_neg c13] at H
              have c13b0 : decide (x5_2 < (l0.length : Int)) = false := decide_eq_false c13
              clear c13
              obtain rfl := Option.some.inj H
              go_wp2
              go_ret
              exact ⟨by first | rfl | (simp [errW_none, errW_some] <;> rfl) | (simp [*, errW_none, errW_some] <;> rfl), by repeat (first | (with_reducible first | exact HB.out | apply below_alloc | apply pw_below_drewN | apply below_drew1 | refine below_set ?_ GE129.out) | exact HB.out)⟩
def sallyportref12_May.f (k : Nat) (l0 : List (S37)) (a1_0 : Int) (a1_1 : Int) (a1_2 : Int) (a1_3 : Int) (a1_4 : ByteArray) (a1_5 : Int) : Option (Bool) := (sallyportref12_Which.f k l0 a1_0 a1_1 a1_2 a1_3 a1_4 a1_5).bind fun t135 => (if t135 ≥ 0 then (if 0 ≤ t135 then (if t135 < (l0.length : Int) then (some ((rd_T37 l0 t135).f0)) else (none)) else (none)) else (some false))
theorem sallyportref12_May.mono : ∀ a0 a1 a2 a3 a4 a5 a6 k, LeO (sallyportref12_May.f k a0 a1 a2 a3 a4 a5 a6) (sallyportref12_May.f (k + 1) a0 a1 a2 a3 a4 a5 a6) := by
  intro a0 a1 a2 a3 a4 a5 a6 k
  unfold sallyportref12_May.f
  repeat' first
      | (with_reducible exact sallyportref12_Which.mono _ _ _ _ _ _ _ _)
      | (with_reducible exact LeO.refl _)
      | (with_reducible exact LeO.none _)
      | (with_reducible refine LeO.ite ?_ ?_)
      | (with_reducible refine LeO.bind ?_ (fun _ => ?_))
      | exact sallyportref12_Which.mono _ _ _ _ _ _ _ _
      | exact LeO.none _
      | refine LeO.ite ?_ ?_
      | refine LeO.bind ?_ (fun _ => ?_)
set_option maxHeartbeats 8000000 in
set_option maxRecDepth 100000 in
theorem sallyportref12_May.calls (k : Nat) (A0 : Option Addr) (c0 : Nat) (l0 : List (S37)) (a1_0 : Int) (a1_1 : Int) (a1_2 : Int) (a1_3 : Int) (a1_4 : ByteArray) (a1_5 : Int) (r : Bool) (w : World) (hr0 : Kd.C k37 w A0 l0.length l0) (hc0 : l0.length ≤ c0) (hS_ : StdW w) (h : sallyportref12_May.f k l0 a1_0 a1_1 a1_2 a1_3 a1_4 a1_5 = some r) :
    Calls Tryz.prog 16 #[.slice A0 l0.length c0, .agg #[.int .u8 a1_0, .int .u8 a1_1, .int .u8 a1_2, .int .u8 a1_3, .string a1_4, .int .i64 a1_5]] w fun e w' => e = .returned (.bool r) ∧ Below w.heap.size w w' := by
  have hu28 := Tryz.underlying28
  have HR0 := Aside0.mk hr0
  have HC0 := Aside0.mk hc0
  clear hr0 hc0
  have HS_ := Aside0.mk hS_
  clear hS_
  have HB := Aside0.mk (Below.refl w.heap.size w)
  have H : ((sallyportref12_Which.f k l0 a1_0 a1_1 a1_2 a1_3 a1_4 a1_5).bind fun t135 => (if t135 ≥ 0 then (if 0 ≤ t135 then (if t135 < (l0.length : Int) then (some ((rd_T37 l0 t135).f0)) else (none)) else (none)) else (some false))) = some r := h
  clear h
  replace H := Option.bind_eq_some_iff.mp H
  obtain ⟨t135, A30, H⟩ := H
  replace H : (if t135 ≥ 0 then (if 0 ≤ t135 then (if t135 < (l0.length : Int) then (some ((rd_T37 l0 t135).f0)) else (none)) else (none)) else (some false)) = some r := H
  have A3 := Aside0.mk A30
  clear A30
  by_cases c4 : t135 ≥ 0
  · rw [if_pos c4] at H
    have c4b0 : decide (0 ≤ t135) = true := decide_eq_true c4
    clear c4
    by_cases c5 : 0 ≤ t135
    · rw [if_pos c5] at H
      have c5b0 : decide (0 ≤ t135) = true := decide_eq_true c5
      clear c5
      by_cases c6 : t135 < (l0.length : Int)
      · rw [if_pos c6] at H
        have c6b0 : decide (t135 < (l0.length : Int)) = true := decide_eq_true c6
        clear c6
        obtain rfl := Option.some.inj H
        go_enter Tryz.func16, Tryz.ntmps16
        go_wp2_with (first | ((with_reducible refine gate_dst (N := 3) rfl ?_); refine box_event ?hg (N := 3) ?hd (cs := #[.int .u8 a1_0, .int .u8 a1_1, .int .u8 a1_2, .int .u8 a1_3, .string a1_4, .int .i64 a1_5]) (t := 28) ?hr ?_; (case hd => rfl); (case hg => rfl); (case hr => first | (go_simp; done) | (go_simp; rfl)); intro gb134 hg w7 hbox hb; have n0_ := Aside0.mk (below_step (by repeat (first | (with_reducible first | exact HB.out | apply below_alloc | apply pw_below_drewN | apply below_drew1) | exact HB.out)) hb); have n1_ := Aside0.mk (hbox); have n2_ := Aside0.mk ((by rw [hg]; exact (below_size (by repeat (first | (with_reducible first | exact HB.out | apply below_alloc | apply pw_below_drewN | apply below_drew1) | exact HB.out))) : w.heap.size ≤ gb134)); have n3_ := Aside0.mk ((by rw [hg]; exact (below_size (by repeat (first | (with_reducible first | exact HB.out | apply below_alloc | apply pw_below_drewN | apply below_drew1) | exact HB.out))) : w.heap.size ≤ gb134)); clear HB; have HB := n0_; have BK134 := n1_; have GW134 := n2_; have GE134 := n3_; clear n0_ n1_ n2_ n3_; clear hb hbox hg; have hcz8_0 : w7.cell? ⟨gb134, 0, none⟩ = some (.int .u8 a1_0) := (blk_cell BK134.out 0).trans rfl; have hcz8_1 : w7.cell? ⟨gb134, 1, none⟩ = some (.int .u8 a1_1) := (blk_cell BK134.out 1).trans rfl; have hcz8_2 : w7.cell? ⟨gb134, 2, none⟩ = some (.int .u8 a1_2) := (blk_cell BK134.out 2).trans rfl; have hcz8_3 : w7.cell? ⟨gb134, 3, none⟩ = some (.int .u8 a1_3) := (blk_cell BK134.out 3).trans rfl; have hcz8_4 : w7.cell? ⟨gb134, 4, none⟩ = some (.string a1_4) := (blk_cell BK134.out 4).trans rfl; have hcz8_5 : w7.cell? ⟨gb134, 5, none⟩ = some (.int .i64 a1_5) := (blk_cell BK134.out 5).trans rfl; have hfz8_0 := blk_frozen BK134.out 0; have hfz8_1 := blk_frozen BK134.out 1; have hfz8_2 := blk_frozen BK134.out 2; have hfz8_3 := blk_frozen BK134.out 3; have hfz8_4 := blk_frozen BK134.out 4; have hfz8_5 := blk_frozen BK134.out 5) | ((with_reducible refine gate_callee (f := 14) rfl ?_); refine goesL_ (some 8) rfl rfl Tryz.func14 (by kernel_rfl) rfl #[.slice A0 l0.length c0, .agg #[.int .u8 a1_0, .int .u8 a1_1, .int .u8 a1_2, .int .u8 a1_3, .string a1_4, .int .i64 a1_5]] rfl (by (try simp only [List.map_toArray, List.map_cons, List.map_nil]); first | done | rfl | (simp only [List.length_drop, List.length_take]; rfl)) ?_; (with_reducible refine (sallyportref12_Which.calls k _ _ l0 a1_0 a1_1 a1_2 a1_3 a1_4 a1_5 t135 _ ?side1 ?side2 ?side3 A3.out).mono ?_); (case side1 => repeat (first | exact (Kd.C_below HR0.out HB.out) | (with_reducible refine Kd.C_alloc ?_ _) | (with_reducible refine Kd.C_drewN ?_ _) | (with_reducible refine Kd.C_drew ?_))); (case side2 => exact HC0.out); (case side3 => exact StdW.below HS_.out (by repeat (first | (with_reducible first | exact HB.out | apply below_alloc | apply pw_below_drewN | apply below_drew1 | refine below_set ?_ GE134.out) | exact HB.out))); rintro e w9 ⟨rfl, hb⟩; refine ⟨_, rfl, ?_⟩; have n0_ := Aside0.mk (blk_below (g := gb134) (o := .cells #[.int .u8 a1_0, .int .u8 a1_1, .int .u8 a1_2, .int .u8 a1_3, .string a1_4, .int .i64 a1_5] 28 (0, 0)) (by (with_reducible repeat (first | refine blk_drewN ?_ _ | refine blk_drew ?_ | refine blk_alloc ?_ _)); exact BK134.out) hb); have n1_ := Aside0.mk (below_step (by repeat (first | (with_reducible first | exact HB.out | apply below_alloc | apply pw_below_drewN | apply below_drew1 | refine below_set ?_ GE134.out) | exact HB.out)) hb); clear BK134; clear HB; have BK134 := n0_; have HB := n1_; clear n0_ n1_; (try clear hb); (try clear hb2); (try clear hk); (try clear hi); have p136 : 0 ≤ (t135 : Int) := of_decide_eq_true (by first | (with_reducible assumption) | assumption); have q136 : t135 < (l0.length : Int) := of_decide_eq_true (by first | (with_reducible assumption) | assumption); obtain ⟨ad136, e136, hx136_0, hx136_1, hx136_2, hx136_3, hx136_4, hx136_5, hx136_6, hx136_7, hx136_8⟩ := at_T37 HR0.out t135 p136 q136; cases e136; replace hx136_0 := (HB.out.cell (World.block_lt_of_cell? w _ hx136_0)).trans hx136_0; replace hx136_1 := (HB.out.cell (World.block_lt_of_cell? w _ hx136_1)).trans hx136_1; replace hx136_2 := (HB.out.cell (World.block_lt_of_cell? w _ hx136_2)).trans hx136_2; replace hx136_3 := (HB.out.cell (World.block_lt_of_cell? w _ hx136_3)).trans hx136_3; replace hx136_4 := (HB.out.cell (World.block_lt_of_cell? w _ hx136_4)).trans hx136_4; replace hx136_5 := (HB.out.cell (World.block_lt_of_cell? w _ hx136_5)).trans hx136_5; replace hx136_6 := (HB.out.cell (World.block_lt_of_cell? w _ hx136_6)).trans hx136_6; replace hx136_7 := (HB.out.cell (World.block_lt_of_cell? w _ hx136_7)).trans hx136_7; replace hx136_8 := (HB.out.cell (World.block_lt_of_cell? w _ hx136_8)).trans hx136_8; replace p136 := eq_true p136; replace q136 := eq_true q136))
        go_ret
        exact ⟨by first | rfl | (simp [errW_none, errW_some] <;> rfl) | (simp [*, errW_none, errW_some] <;> rfl), by repeat (first | (with_reducible first | exact HB.out | apply below_alloc | apply pw_below_drewN | apply below_drew1 | refine below_set ?_ GE134.out) | exact HB.out)⟩
      · rw [if_neg c6] at H
        exact absurd H (by simp)
    · rw [if_neg c5] at H
      exact absurd H (by simp)
  · rw [if_neg c4] at H
    have c4b0 : decide (0 ≤ t135) = false := decide_eq_false c4
    clear c4
    obtain rfl := Option.some.inj H
    go_enter Tryz.func16, Tryz.ntmps16
    go_wp2_with (first | ((with_reducible refine gate_dst (N := 3) rfl ?_); refine box_event ?hg (N := 3) ?hd (cs := #[.int .u8 a1_0, .int .u8 a1_1, .int .u8 a1_2, .int .u8 a1_3, .string a1_4, .int .i64 a1_5]) (t := 28) ?hr ?_; (case hd => rfl); (case hg => rfl); (case hr => first | (go_simp; done) | (go_simp; rfl)); intro gb134 hg w10 hbox hb; have n0_ := Aside0.mk (below_step (by repeat (first | (with_reducible first | exact HB.out | apply below_alloc | apply pw_below_drewN | apply below_drew1) | exact HB.out)) hb); have n1_ := Aside0.mk (hbox); have n2_ := Aside0.mk ((by rw [hg]; exact (below_size (by repeat (first | (with_reducible first | exact HB.out | apply below_alloc | apply pw_below_drewN | apply below_drew1) | exact HB.out))) : w.heap.size ≤ gb134)); have n3_ := Aside0.mk ((by rw [hg]; exact (below_size (by repeat (first | (with_reducible first | exact HB.out | apply below_alloc | apply pw_below_drewN | apply below_drew1) | exact HB.out))) : w.heap.size ≤ gb134)); clear HB; have HB := n0_; have BK134 := n1_; have GW134 := n2_; have GE134 := n3_; clear n0_ n1_ n2_ n3_; clear hb hbox hg; have hcz11_0 : w10.cell? ⟨gb134, 0, none⟩ = some (.int .u8 a1_0) := (blk_cell BK134.out 0).trans rfl; have hcz11_1 : w10.cell? ⟨gb134, 1, none⟩ = some (.int .u8 a1_1) := (blk_cell BK134.out 1).trans rfl; have hcz11_2 : w10.cell? ⟨gb134, 2, none⟩ = some (.int .u8 a1_2) := (blk_cell BK134.out 2).trans rfl; have hcz11_3 : w10.cell? ⟨gb134, 3, none⟩ = some (.int .u8 a1_3) := (blk_cell BK134.out 3).trans rfl; have hcz11_4 : w10.cell? ⟨gb134, 4, none⟩ = some (.string a1_4) := (blk_cell BK134.out 4).trans rfl; have hcz11_5 : w10.cell? ⟨gb134, 5, none⟩ = some (.int .i64 a1_5) := (blk_cell BK134.out 5).trans rfl; have hfz11_0 := blk_frozen BK134.out 0; have hfz11_1 := blk_frozen BK134.out 1; have hfz11_2 := blk_frozen BK134.out 2; have hfz11_3 := blk_frozen BK134.out 3; have hfz11_4 := blk_frozen BK134.out 4; have hfz11_5 := blk_frozen BK134.out 5) | ((with_reducible refine gate_callee (f := 14) rfl ?_); refine goesL_ (some 8) rfl rfl Tryz.func14 (by kernel_rfl) rfl #[.slice A0 l0.length c0, .agg #[.int .u8 a1_0, .int .u8 a1_1, .int .u8 a1_2, .int .u8 a1_3, .string a1_4, .int .i64 a1_5]] rfl (by (try simp only [List.map_toArray, List.map_cons, List.map_nil]); first | done | rfl | (simp only [List.length_drop, List.length_take]; rfl)) ?_; (with_reducible refine (sallyportref12_Which.calls k _ _ l0 a1_0 a1_1 a1_2 a1_3 a1_4 a1_5 t135 _ ?side1 ?side2 ?side3 A3.out).mono ?_); (case side1 => repeat (first | exact (Kd.C_below HR0.out HB.out) | (with_reducible refine Kd.C_alloc ?_ _) | (with_reducible refine Kd.C_drewN ?_ _) | (with_reducible refine Kd.C_drew ?_))); (case side2 => exact HC0.out); (case side3 => exact StdW.below HS_.out (by repeat (first | (with_reducible first | exact HB.out | apply below_alloc | apply pw_below_drewN | apply below_drew1 | refine below_set ?_ GE134.out) | exact HB.out))); rintro e w12 ⟨rfl, hb⟩; refine ⟨_, rfl, ?_⟩; have n0_ := Aside0.mk (blk_below (g := gb134) (o := .cells #[.int .u8 a1_0, .int .u8 a1_1, .int .u8 a1_2, .int .u8 a1_3, .string a1_4, .int .i64 a1_5] 28 (0, 0)) (by (with_reducible repeat (first | refine blk_drewN ?_ _ | refine blk_drew ?_ | refine blk_alloc ?_ _)); exact BK134.out) hb); have n1_ := Aside0.mk (below_step (by repeat (first | (with_reducible first | exact HB.out | apply below_alloc | apply pw_below_drewN | apply below_drew1 | refine below_set ?_ GE134.out) | exact HB.out)) hb); clear BK134; clear HB; have BK134 := n0_; have HB := n1_; clear n0_ n1_; (try clear hb); (try clear hb2); (try clear hk); (try clear hi)))
    go_ret
    exact ⟨by first | rfl | (simp [errW_none, errW_some] <;> rfl) | (simp [*, errW_none, errW_some] <;> rfl), by repeat (first | (with_reducible first | exact HB.out | apply below_alloc | apply pw_below_drewN | apply below_drew1 | refine below_set ?_ GE134.out) | exact HB.out)⟩
end Go.Proofs.YteondnhokgmakaaGreatDoor.XG


namespace Go.Proofs.YteondnhokgmakaaGreatDoor.XG
open Go.Proofs.YteondnhokgmakaaGreatDoor.XC Go.Proofs.YteondnhokgmakaaGreatDoor.XM
open Go.RowKit Go.Proofs.YteondnhokgmakaaGreatDoorW.PrintWords Go.Proofs.YteondnhokgmakaaGreatDoorW.PrintLast Go.Proofs.YteondnhokgmakaaGreatDoorW.PrintMore
attribute [local go_sem] max2_int min2_int max_two min_two max_three min_three max_four min_four
set_option linter.unusedVariables false
set_option linter.unusedSimpArgs false
attribute [local go_sem high] eqA37
def sallyportref12_Put.j0 : Nat → List (S37) → Int → List (S37) → Bool → Option ((List (S37)) × Int)
  | 0, _, _, _, _ => none
  | k + 1, x0, x1, x2, x27 => if x27 = true then (some (([] : List (S37)), 2)) else (if (wrap64 ((x0.length : Int) + (x2.length : Int))) > 64 then (some (([] : List (S37)), 3)) else ((some (([] : List (S37)) : List (S37))).bind fun y139 => (if 0 ≤ x1 then (if x1 ≤ (x0.length : Int) then ((some (x0.take (x1 : Int).toNat : List (S37))).bind fun y142 => (if y139.length + y142.length < 2932031007402 then ((some (y139 ++ y142 : List (S37))).bind fun y146 => (if y146.length + x2.length < 2932031007402 then ((some (y146 ++ x2 : List (S37))).bind fun y149 => ((some (x0.drop (x1 : Int).toNat : List (S37))).bind fun y152 => (if y149.length + y152.length < 2932031007402 then (some ((y149 ++ y152), 0)) else (none)))) else (none))) else (none))) else (none)) else (none))))
def sallyportref12_Put.f (k : Nat) (l0 : List (S37)) (a1 : Int) (l2 : List (S37)) : Option ((List (S37)) × Int) := (sallyportref12_Check.f k l0).bind fun t137 => (if t137 = 0 then ((sallyportref12_Check.f k l2).bind fun t138 => (if t138 = 0 then (if a1 < 0 then (sallyportref12_Put.j0 k l0 a1 l2 true) else (sallyportref12_Put.j0 k l0 a1 l2 (decide (a1 > (l0.length : Int))))) else (some (([] : List (S37)), t138)))) else (some (([] : List (S37)), t137)))
theorem sallyportref12_Put.mono_l : ∀ k, (∀ y0 y1 y2 y3, LeO (sallyportref12_Put.j0 k y0 y1 y2 y3) (sallyportref12_Put.j0 (k + 1) y0 y1 y2 y3))
  | 0 => fun _ _ _ _ r h => by simp [sallyportref12_Put.j0] at h
  | k + 1 => by
    have ih0 := sallyportref12_Put.mono_l k
    · intro y0 y1 y2 y3
      unfold sallyportref12_Put.j0
      repeat' first
      | (with_reducible exact ih0 _ _ _ _)
      | (with_reducible exact sallyportref12_Check.mono _ _)
      | (with_reducible exact LeO.refl _)
      | (with_reducible exact LeO.none _)
      | (with_reducible refine LeO.ite ?_ ?_)
      | (with_reducible refine LeO.bind ?_ (fun _ => ?_))
      | exact ih0 _ _ _ _
      | exact sallyportref12_Check.mono _ _
      | exact LeO.none _
      | refine LeO.ite ?_ ?_
      | refine LeO.bind ?_ (fun _ => ?_)
theorem sallyportref12_Put.mono : ∀ a0 a1 a2 k, LeO (sallyportref12_Put.f k a0 a1 a2) (sallyportref12_Put.f (k + 1) a0 a1 a2) := by
  intro a0 a1 a2 k
  have ih0 := sallyportref12_Put.mono_l k
  unfold sallyportref12_Put.f
  repeat' first
      | (with_reducible exact ih0 _ _ _ _)
      | (with_reducible exact sallyportref12_Check.mono _ _)
      | (with_reducible exact LeO.refl _)
      | (with_reducible exact LeO.none _)
      | (with_reducible refine LeO.ite ?_ ?_)
      | (with_reducible refine LeO.bind ?_ (fun _ => ?_))
      | exact ih0 _ _ _ _
      | exact sallyportref12_Check.mono _ _
      | exact LeO.none _
      | refine LeO.ite ?_ ?_
      | refine LeO.bind ?_ (fun _ => ?_)
def sallyportref12_Put.T11 : Bool × List (List Nat × List Nat) := (true, [([], []), ([], []), ([], []), ([1, 2], [1, 2]), ([0, 3], [0, 3]), ([], []), ([4, 5, 4], [4, 5]), ([], []), ([], []), ([7, 8], [7, 8]), ([6, 9, 6], [6, 9]), ([10, 10, 0, 1, 2, 3, 4, 5, 6, 7, 8, 9, 10], [10]), ([11, 0, 1, 2, 3, 4, 5, 6, 7, 8, 9, 10, 11], [])])
def sallyportref12_Put.B11 : List Nat := [0, 0, 0, 6, 15, 0, 63, 0, 0, 384, 1023, 2047, 4095]
theorem sallyportref12_Put.tab11 : rtab .any (opsOf Tryz.f24 11) = sallyportref12_Put.T11 := by kernel_rfl
theorem sallyportref12_Put.bits11 : waitsOk sallyportref12_Put.T11.2 sallyportref12_Put.B11 = true := by kernel_rfl
set_option maxHeartbeats 8000000 in
set_option maxRecDepth 100000 in
theorem sallyportref12_Put.calls (k : Nat) (A0 : Option Addr) (c0 : Nat) (l0 : List (S37)) (a1 : Int) (A2 : Option Addr) (c2 : Nat) (l2 : List (S37)) (r1 : List (S37)) (r2 : Int) (w : World) (hr0 : Kd.C k37 w A0 l0.length l0) (hc0 : l0.length ≤ c0) (hr2 : Kd.C k37 w A2 l2.length l2) (hc2 : l2.length ≤ c2) (hS_ : StdW w) (h : sallyportref12_Put.f k l0 a1 l2 = some (r1, r2)) :
    Calls Tryz.prog 24 #[.slice A0 l0.length c0, .int .i64 a1, .slice A2 l2.length c2] w fun e w' => ∃ v0_ : Value, e = .returned (.tuple #[v0_, .int .i64 r2]) ∧ Kd.R k37 37 w' w.heap.size (fun _ => True) v0_ r1 ∧ Below w.heap.size w w' := by
  have HR0 := Aside0.mk hr0
  have HC0 := Aside0.mk hc0
  clear hr0 hc0
  have HR2 := Aside0.mk hr2
  have HC2 := Aside0.mk hc2
  clear hr2 hc2
  have HS_ := Aside0.mk hS_
  clear hS_
  have HB := Aside0.mk (Below.refl w.heap.size w)
  have H : ((sallyportref12_Check.f k l0).bind fun t137 => (if t137 = 0 then ((sallyportref12_Check.f k l2).bind fun t138 => (if t138 = 0 then (if a1 < 0 then (sallyportref12_Put.j0 k l0 a1 l2 true) else (sallyportref12_Put.j0 k l0 a1 l2 (decide (a1 > (l0.length : Int))))) else (some (([] : List (S37)), t138)))) else (some (([] : List (S37)), t137)))) = some (r1, r2) := h
  clear h
  replace H := Option.bind_eq_some_iff.mp H
  obtain ⟨t137, A40, H⟩ := H
  replace H : (if t137 = 0 then ((sallyportref12_Check.f k l2).bind fun t138 => (if t138 = 0 then (if a1 < 0 then (sallyportref12_Put.j0 k l0 a1 l2 true) else (sallyportref12_Put.j0 k l0 a1 l2 (decide (a1 > (l0.length : Int))))) else (some (([] : List (S37)), t138)))) else (some (([] : List (S37)), t137))) = some (r1, r2) := H
  have A4 := Aside0.mk A40
  clear A40
  by_cases c5 : t137 = 0
  · rw [if_pos c5] at H
    have c5b0 : (t137 == 0) = true := beq_iff_eq.mpr c5
    have c5b1 : (t137 != 0) = false := bne_eq_false_iff_eq.mpr c5
    clear c5
    replace H := Option.bind_eq_some_iff.mp H
    obtain ⟨t138, A60, H⟩ := H
    replace H : (if t138 = 0 then (if a1 < 0 then (sallyportref12_Put.j0 k l0 a1 l2 true) else (sallyportref12_Put.j0 k l0 a1 l2 (decide (a1 > (l0.length : Int))))) else (some (([] : List (S37)), t138))) = some (r1, r2) := H
    have A6 := Aside0.mk A60
    clear A60
    by_cases c7 : t138 = 0
    · rw [if_pos c7] at H
      have c7b0 : (t138 == 0) = true := beq_iff_eq.mpr c7
      have c7b1 : (t138 != 0) = false := bne_eq_false_iff_eq.mpr c7
      clear c7
      have HC8 := Aside0.mk H
      clear H
      go_enter Tryz.func24, Tryz.ntmps24
      go_upto_region 7 with (first | ((with_reducible refine gate_callee (f := 12) rfl ?_); refine goesL_ (some 11) rfl rfl Tryz.func12 (by kernel_rfl) rfl #[.slice A0 l0.length c0] rfl (by (try simp only [List.map_toArray, List.map_cons, List.map_nil]); first | done | rfl | (simp only [List.length_drop, List.length_take]; rfl)) ?_; (with_reducible refine (sallyportref12_Check.calls k _ _ l0 t137 _ ?side1 ?side2 ?side3 A4.out).mono ?_); (case side1 => repeat (first | exact HR0.out | (with_reducible refine Kd.C_alloc ?_ _) | (with_reducible refine Kd.C_drewN ?_ _) | (with_reducible refine Kd.C_drew ?_))); (case side2 => exact HC0.out); (case side3 => exact StdW.below HS_.out (by repeat (first | (with_reducible first | exact HB.out | apply below_alloc | apply pw_below_drewN | apply below_drew1) | exact HB.out))); rintro e w9 ⟨rfl, hb⟩; refine ⟨_, rfl, ?_⟩; have n0_ := Aside0.mk (below_step (by repeat (first | (with_reducible first | exact HB.out | apply below_alloc | apply pw_below_drewN | apply below_drew1) | exact HB.out)) hb); clear HB; have HB := n0_; clear n0_; (try clear hb); (try clear hb2); (try clear hk); (try clear hi)) | ((with_reducible refine gate_callee (f := 12) rfl ?_); refine goesL_ (some 16) rfl rfl Tryz.func12 (by kernel_rfl) rfl #[.slice A2 l2.length c2] rfl (by (try simp only [List.map_toArray, List.map_cons, List.map_nil]); first | done | rfl | (simp only [List.length_drop, List.length_take]; rfl)) ?_; (with_reducible refine (sallyportref12_Check.calls k _ _ l2 t138 _ ?side1 ?side2 ?side3 A6.out).mono ?_); (case side1 => repeat (first | exact (Kd.C_below HR2.out HB.out) | (with_reducible refine Kd.C_alloc ?_ _) | (with_reducible refine Kd.C_drewN ?_ _) | (with_reducible refine Kd.C_drew ?_))); (case side2 => exact HC2.out); (case side3 => exact StdW.below HS_.out (by repeat (first | (with_reducible first | exact HB.out | apply below_alloc | apply pw_below_drewN | apply below_drew1) | exact HB.out))); rintro e w10 ⟨rfl, hb⟩; refine ⟨_, rfl, ?_⟩; have n0_ := Aside0.mk (below_step (by repeat (first | (with_reducible first | exact HB.out | apply below_alloc | apply pw_below_drewN | apply below_drew1) | exact HB.out)) hb); clear HB; have HB := n0_; clear n0_; (try clear hb); (try clear hb2); (try clear hk); (try clear hi)))
      (try simp only [Act.put, List.setIfInBounds_toArray, List.set_cons_zero, List.set_cons_succ])
      go_cut [27] (fun v27 wc => ∃ (kq : Nat) (x27_7 : Bool), v27 = .bool x27_7 ∧ Aside0 (sallyportref12_Put.j0 kq l0 a1 l2 x27_7 = some (r1, r2)) ∧ Aside0 (kq ≤ k) ∧ Aside0 (Below w.heap.size w wc))
      case first =>
        have H := HC8.out
        clear HC8
        by_cases c11 : a1 < 0
        · rw [if_pos c11] at H
          have c11b0 : decide (a1 < 0) = true := decide_eq_true c11
          clear c11
          (first | rw [c11b0] | (simp only [i64_w, i32_w]; rw [c11b0]) | skip)
          have H' := Aside0.mk H
          clear H
          go_wp2
          go_meet
          case rel => exact ⟨_, (true), (by first | rfl | (simp; done) | (simp [*]; done)), H', ⟨by first | omega | exact Nat.le_refl _⟩, ⟨by repeat (first | (with_reducible first | exact HB.out | apply below_alloc | apply pw_below_drewN | apply below_drew1) | exact HB.out)⟩⟩
        · rw [if_neg c11] at H
          have c11b0 : decide (a1 < 0) = false := decide_eq_false c11
          clear c11
          (first | rw [c11b0] | (simp only [i64_w, i32_w]; rw [c11b0]) | skip)
          have H' := Aside0.mk H
          clear H
          go_wp2
          go_meet
          case rel => exact ⟨_, (decide (a1 > (l0.length : Int))), (by first | rfl | (simp; done) | (simp [*]; done)), H', ⟨by first | omega | exact Nat.le_refl _⟩, ⟨by repeat (first | (with_reducible first | exact HB.out | apply below_alloc | apply pw_below_drewN | apply below_drew1) | exact HB.out)⟩⟩
      case rest =>
        clear HC8
        try clear c1
        try clear c2
        try clear p2
        try clear c5
        try clear c5b0
        try clear c5b1
        try clear c7
        try clear c7b0
        try clear c7b1
        try clear c11
        try clear c11b0
        obtain ⟨kq, x27_7, rfl, HA, HJ7, HB⟩ := hcut
        cases kq with
        | zero => exact absurd HA.out (by simp [sallyportref12_Put.j0])
        | succ kj7 =>
          have H := HA.out
          clear HA
          simp only [sallyportref12_Put.j0] at H
          by_cases c12 : x27_7 = true
          · subst c12
            have H1 : (some (([] : List (S37)), 2)) = some (r1, r2) := by rw [if_pos rfl] at H; exact H
            clear H
            have H := H1
            clear H1
            simp only [Option.some.injEq, Prod.mk.injEq] at H
            obtain ⟨rfl, rfl⟩ := H
            go_wp2
            go_ret2
            exact ⟨_, by first | rfl | (simp [errW_none, errW_some] <;> rfl) | (simp [*, errW_none, errW_some] <;> rfl), by first | exact Kd.R_nil _ _ _ _ _ | exact Kd.N_nil _ _ _ _ _ | exact Kd.V_nil _ _ _ _ _ | exact Kd.Q_nil _ _ _ _ _ | exact Kd.S_nil _ _ _ _ _, by repeat (first | (with_reducible first | exact HB.out | apply below_alloc | apply pw_below_drewN | apply below_drew1) | exact HB.out)⟩
          · replace c12 := Bool.eq_false_iff.mpr c12
            subst c12
            have H1 : (if (wrap64 ((l0.length : Int) + (l2.length : Int))) > 64 then (some (([] : List (S37)), 3)) else ((some (([] : List (S37)) : List (S37))).bind fun y139 => (if 0 ≤ a1 then (if a1 ≤ (l0.length : Int) then ((some (l0.take (a1 : Int).toNat : List (S37))).bind fun y142 => (if y139.length + y142.length < 2932031007402 then ((some (y139 ++ y142 : List (S37))).bind fun y146 => (if y146.length + l2.length < 2932031007402 then ((some (y146 ++ l2 : List (S37))).bind fun y149 => ((some (l0.drop (a1 : Int).toNat : List (S37))).bind fun y152 => (if y149.length + y152.length < 2932031007402 then (some ((y149 ++ y152), 0)) else (none)))) else (none))) else (none))) else (none)) else (none)))) = some (r1, r2) := by rw [if_neg (show ¬ (false = true) by decide)] at H; exact H
            clear H
            have H := H1
            clear H1
            by_cases c13 : (wrap64 ((l0.length : Int) + (l2.length : Int))) > 64
            · rw [if_pos c13] at H
              have c13b0 : decide (64 < (wrap64 ((l0.length : Int) + (l2.length : Int)))) = true := decide_eq_true c13
              clear c13
              simp only [Option.some.injEq, Prod.mk.injEq] at H
              obtain ⟨rfl, rfl⟩ := H
              go_wp2
              go_ret2
              exact ⟨_, by first | rfl | (simp [errW_none, errW_some] <;> rfl) | (simp [*, errW_none, errW_some] <;> rfl), by first | exact Kd.R_nil _ _ _ _ _ | exact Kd.N_nil _ _ _ _ _ | exact Kd.V_nil _ _ _ _ _ | exact Kd.Q_nil _ _ _ _ _ | exact Kd.S_nil _ _ _ _ _, by repeat (first | (with_reducible first | exact HB.out | apply below_alloc | apply pw_below_drewN | apply below_drew1) | exact HB.out)⟩
            · rw [if_neg c13] at H
              have c13b0 : decide (64 < (wrap64 ((l0.length : Int) + (l2.length : Int)))) = false := decide_eq_false c13
              clear c13
              obtain ⟨y139, hy139⟩ : ∃ y_ : List (S37), y_ = (([] : List (S37))) := ⟨_, rfl⟩
              replace H : (if 0 ≤ a1 then (if a1 ≤ (l0.length : Int) then ((some (l0.take (a1 : Int).toNat : List (S37))).bind fun y142 => (if y139.length + y142.length < 2932031007402 then ((some (y139 ++ y142 : List (S37))).bind fun y146 => (if y146.length + l2.length < 2932031007402 then ((some (y146 ++ l2 : List (S37))).bind fun y149 => ((some (l0.drop (a1 : Int).toNat : List (S37))).bind fun y152 => (if y149.length + y152.length < 2932031007402 then (some ((y149 ++ y152), 0)) else (none)))) else (none))) else (none))) else (none)) else (none)) = some (r1, r2) := by first | (rw [hy139]; with_reducible exact H) | (have H2_ := (Option.bind_some _ _).symm.trans H; rw [hy139]; with_reducible exact H2_) | (have H2_ := (Option.bind_some _ _).symm.trans H; with_reducible exact H2_) | with_reducible exact H | (rw [hy139]; exact H) | exact H
              have Ny139 := Aside0.mk hy139
              clear hy139
              by_cases c14 : 0 ≤ a1
              · rw [if_pos c14] at H
                have c14b0 := eq_true c14
                have c14b1 : decide (0 ≤ a1) = true := decide_eq_true c14
                clear c14
                by_cases c15 : a1 ≤ (l0.length : Int)
                · rw [if_pos c15] at H
                  have c15b0 := eq_true c15
                  have c15b1 : decide (a1 ≤ (l0.length : Int)) = true := decide_eq_true c15
                  clear c15
                  obtain ⟨y142, hy142⟩ : ∃ y_ : List (S37), y_ = (l0.take (a1 : Int).toNat) := ⟨_, rfl⟩
                  replace H : (if y139.length + y142.length < 2932031007402 then ((some (y139 ++ y142 : List (S37))).bind fun y146 => (if y146.length + l2.length < 2932031007402 then ((some (y146 ++ l2 : List (S37))).bind fun y149 => ((some (l0.drop (a1 : Int).toNat : List (S37))).bind fun y152 => (if y149.length + y152.length < 2932031007402 then (some ((y149 ++ y152), 0)) else (none)))) else (none))) else (none)) = some (r1, r2) := by first | (rw [hy142]; with_reducible exact H) | (have H2_ := (Option.bind_some _ _).symm.trans H; rw [hy142]; with_reducible exact H2_) | (have H2_ := (Option.bind_some _ _).symm.trans H; with_reducible exact H2_) | with_reducible exact H | (rw [hy142]; exact H) | exact H
                  have Ny142 := Aside0.mk hy142
                  clear hy142
                  by_cases c16 : y139.length + y142.length < 2932031007402
                  · rw [if_pos c16] at H
                    have LMc16 := Aside0.mk c16
                    clear c16
                    obtain ⟨y146, hy146⟩ : ∃ y_ : List (S37), y_ = (y139 ++ y142) := ⟨_, rfl⟩
                    replace H : (if y146.length + l2.length < 2932031007402 then ((some (y146 ++ l2 : List (S37))).bind fun y149 => ((some (l0.drop (a1 : Int).toNat : List (S37))).bind fun y152 => (if y149.length + y152.length < 2932031007402 then (some ((y149 ++ y152), 0)) else (none)))) else (none)) = some (r1, r2) := by first | (rw [hy146]; with_reducible exact H) | (have H2_ := (Option.bind_some _ _).symm.trans H; rw [hy146]; with_reducible exact H2_) | (have H2_ := (Option.bind_some _ _).symm.trans H; with_reducible exact H2_) | with_reducible exact H | (rw [hy146]; exact H) | exact H
                    have Ny146 := Aside0.mk hy146
                    clear hy146
                    by_cases c17 : y146.length + l2.length < 2932031007402
                    · rw [if_pos c17] at H
                      have LMc17 := Aside0.mk c17
                      clear c17
                      obtain ⟨y149, hy149⟩ : ∃ y_ : List (S37), y_ = (y146 ++ l2) := ⟨_, rfl⟩
                      replace H : ((some (l0.drop (a1 : Int).toNat : List (S37))).bind fun y152 => (if y149.length + y152.length < 2932031007402 then (some ((y149 ++ y152), 0)) else (none))) = some (r1, r2) := by first | (rw [hy149]; with_reducible exact H) | (have H2_ := (Option.bind_some _ _).symm.trans H; rw [hy149]; with_reducible exact H2_) | (have H2_ := (Option.bind_some _ _).symm.trans H; with_reducible exact H2_) | with_reducible exact H | (rw [hy149]; exact H) | exact H
                      have Ny149 := Aside0.mk hy149
                      clear hy149
                      have c18b0 := eq_true (of_decide_eq_true (by first | (with_reducible assumption) | assumption) : 0 ≤ a1)
                      have c19b0 := eq_true (of_decide_eq_true (by first | (with_reducible assumption) | assumption) : a1 ≤ (l0.length : Int))
                      obtain ⟨y152, hy152⟩ : ∃ y_ : List (S37), y_ = (l0.drop (a1 : Int).toNat) := ⟨_, rfl⟩
                      replace H : (if y149.length + y152.length < 2932031007402 then (some ((y149 ++ y152), 0)) else (none)) = some (r1, r2) := by first | (rw [hy152]; with_reducible exact H) | (have H2_ := (Option.bind_some _ _).symm.trans H; rw [hy152]; with_reducible exact H2_) | (have H2_ := (Option.bind_some _ _).symm.trans H; with_reducible exact H2_) | with_reducible exact H | (rw [hy152]; exact H) | exact H
                      have Ny152 := Aside0.mk hy152
                      clear hy152
                      by_cases c20 : y149.length + y152.length < 2932031007402
                      · rw [if_pos c20] at H
                        have LMc20 := Aside0.mk c20
                        clear c20
                        obtain ⟨y156, hy156⟩ : ∃ y_ : List (S37), y_ = (y149 ++ y152) := ⟨_, rfl⟩
                        replace H : (some (y156, 0)) = some (r1, r2) := by first | (rw [hy156]; with_reducible exact H) | (have H2_ := (Option.bind_some _ _).symm.trans H; rw [hy156]; with_reducible exact H2_) | (have H2_ := (Option.bind_some _ _).symm.trans H; with_reducible exact H2_) | with_reducible exact H | (rw [hy156]; exact H) | exact H
                        have Ny156 := Aside0.mk hy156
                        clear hy156
                        simp only [Option.some.injEq, Prod.mk.injEq] at H
                        obtain ⟨rfl, rfl⟩ := H
                        try go_wp2
                        have n0_ := Aside0.mk (below_drew1 HB.out)
                        clear HB
                        have HB := n0_
                        clear n0_
                        have q22 : (a1 : Int) ≤ ((l0.length : Int) : Int) := of_decide_eq_true (by first | (with_reducible assumption) | assumption)
                        obtain ⟨i022, hi022, _, hsz22, _⟩ := info_parts info37
                        have hroom22 : l0.length ≤ c0 := HC0.out
                        have hC22 : Kd.C k37 _ A0 l0.length l0 := HR0.out
                        have hcut22 := cut_to (P := Tryz.prog) 22 37 .i64 Tryz.underlying22 hi022 A0 l0.length c0 a1 (of_decide_eq_true (by first | (with_reducible assumption) | assumption)) q22 hroom22
                        have hr22 := Kd.C_take (m := (a1 : Int).toNat) hC22 (by omega)
                        have hy22 : y142.length = (a1 : Int).toNat := (by rw [Ny142.out, List.length_take]; omega)
                        rw [← Ny142.out] at hr22
                        rw [← hy22] at hcut22
                        have HR145 := Aside0.mk hr22
                        have HC145 := Aside0.mk (show y142.length ≤ c0 from by omega)
                        clear hr22 hC22 hroom22 hi022 hsz22
                        have KY22 := Aside0.mk hy22
                        clear hy22
                        replace q22 := eq_true q22
                        have q23 : (a1 : Int) ≤ ((l0.length : Int) : Int) := of_decide_eq_true (by first | (with_reducible assumption) | assumption)
                        obtain ⟨i023, hi023, _, hsz23, _⟩ := info_parts info37
                        have hroom23 : l0.length ≤ c0 := HC0.out
                        have hC23 : Kd.C k37 _ A0 l0.length l0 := HR0.out
                        have q023 : (0 : Int) ≤ (a1 : Int) := of_decide_eq_true (by first | (with_reducible assumption) | assumption)
                        have hcut23 := cut_from (P := Tryz.prog) 22 37 .i64 Tryz.underlying22 hi023 9 hsz23 A0 l0.length c0 a1 q023 q23
                        have hr23 := Kd.C_drop (m := (a1 : Int).toNat) (c := c0) hC23 (by omega) hroom23
                        obtain ⟨A23, hA23⟩ : ∃ A1, A1 = (if c0 = (a1 : Int).toNat then A0 else (A0 : Option Addr).map (·.add ((a1 : Int).toNat * 9))) := ⟨_, rfl⟩
                        obtain ⟨c23, hc23⟩ : ∃ c1, c1 = c0 - (a1 : Int).toNat := ⟨_, rfl⟩
                        have hy23 : y152.length = l0.length - (a1 : Int).toNat := (by rw [Ny152.out, List.length_drop] <;> omega)
                        rw [show (l0).drop (a1 : Int).toNat = y152 from Ny152.out.symm] at hr23
                        replace hr23 : Kd.C k37 _ A23 y152.length y152 := (by rw [hA23]; exact hr23)
                        rw [← hy23, ← hA23, ← hc23] at hcut23
                        have HR155 := Aside0.mk hr23
                        have HC155 := Aside0.mk (show y152.length ≤ c23 from by rw [hy23, hc23]; exact Nat.sub_le_sub_right hroom23 _)
                        clear hr23 hC23 hroom23 hi023 hsz23 hc23
                        have KY23 := Aside0.mk hy23
                        have KA23 := Aside0.mk hA23
                        clear hy23 hA23
                        replace q23 := eq_true q23
                        refine start_ (n := 13) (S := fun w' => True) (ds := []) #[false, false, false, false, false, false, false, false, false, false, false, false, false] (by kernel_rfl) rfl rfl trivial (fun hHeld => ?_); refine with_tabW sallyportref12_Put.tab11 sallyportref12_Put.bits11 (fun HT_ HW_ => ?_)
                        generalize wc.drew = w21 at HB HR145 HR155 hHeld ⊢
                        refine pure_ (i := 1) (N := some 35) (v := ?_) (a' := ?_) #[false, true, false, false, false, false, false, false, false, false, false, false, false] rfl rfl (any_of HT_.out (by kernel_rfl)) (fun _ _ _ h => h) (Or.inl ⟨by rfl, ?_⟩) ?_ ?_
                        rotate_left
                        · intro w'
                          go_simp
                          with_reducible rfl
                        rotate_left
                        · simp only [Act.put, List.setIfInBounds_toArray, List.set_cons_zero, List.set_cons_succ, i64_w, i32_w]
                          rfl
                        refine pure_ (i := 2) (N := some 36) (v := ?_) (a' := ?_) #[false, true, true, false, false, false, false, false, false, false, false, false, false] rfl rfl (any_of HT_.out (by kernel_rfl)) (fun _ _ _ h => h) (Or.inl ⟨by rfl, ?_⟩) ?_ ?_
                        rotate_left
                        · intro w'
                          go_simp
                          with_reducible rfl
                        rotate_left
                        · simp only [Act.put, List.setIfInBounds_toArray, List.set_cons_zero, List.set_cons_succ, i64_w, i32_w]
                          rfl
                        refine pure_ (i := 3) (N := some 37) (v := ?_) (a' := ?_) #[false, true, true, true, false, false, false, false, false, false, false, false, false] rfl rfl (any_of HT_.out (by kernel_rfl)) (fun _ _ _ h => h) (Or.inl ⟨by rfl, ?_⟩) ?_ ?_
                        rotate_left
                        · intro w'
                          go_simp
                          with_reducible rfl
                        rotate_left
                        · simp only [Act.put, List.setIfInBounds_toArray, List.set_cons_zero, List.set_cons_succ, i64_w, i32_w]
                          rfl
                        refine pure_ (i := 5) (N := some 39) (v := ?_) (a' := ?_) #[false, true, true, true, false, true, false, false, false, false, false, false, false] rfl rfl (any_of HT_.out (by kernel_rfl)) (fun _ _ _ h => h) (Or.inl ⟨by rfl, ?_⟩) ?_ ?_
                        rotate_left
                        · intro w'
                          go_simp
                          with_reducible rfl
                        rotate_left
                        · simp only [Act.put, List.setIfInBounds_toArray, List.set_cons_zero, List.set_cons_succ, i64_w, i32_w]
                          rfl
                        refine pure_ (i := 7) (N := some 41) (v := ?_) (a' := ?_) #[false, true, true, true, false, true, false, true, false, false, false, false, false] rfl rfl (any_of HT_.out (by kernel_rfl)) (fun _ _ _ h => h) (Or.inl ⟨by rfl, ?_⟩) ?_ ?_
                        rotate_left
                        · intro w'
                          go_simp
                          with_reducible rfl
                        rotate_left
                        · simp only [Act.put, List.setIfInBounds_toArray, List.set_cons_zero, List.set_cons_succ, i64_w, i32_w]
                          rfl
                        refine pure_ (i := 8) (N := some 42) (v := ?_) (a' := ?_) #[false, true, true, true, false, true, false, true, true, false, false, false, false] rfl rfl (any_of HT_.out (by kernel_rfl)) (fun _ _ _ h => h) (Or.inl ⟨by rfl, ?_⟩) ?_ ?_
                        rotate_left
                        · intro w'
                          go_simp
                          with_reducible rfl
                        rotate_left
                        · simp only [Act.put, List.setIfInBounds_toArray, List.set_cons_zero, List.set_cons_succ, i64_w, i32_w]
                          rfl
                        refine pure_ (i := 9) (N := some 43) (v := ?_) (a' := ?_) #[false, true, true, true, false, true, false, true, true, true, false, false, false] rfl rfl (any_of HT_.out (by kernel_rfl)) (fun _ _ _ h => h) (Or.inl ⟨by rfl, ?_⟩) ?_ ?_
                        rotate_left
                        · intro w'
                          go_simp
                          with_reducible rfl
                        rotate_left
                        · simp only [Act.put, List.setIfInBounds_toArray, List.set_cons_zero, List.set_cons_succ, i64_w, i32_w]
                          rfl
                        refine one_ (i := 0) (N := some 34) #[true, true, true, true, false, true, false, true, true, true, false, false, false] rfl rfl (one_of HT_.out (by kernel_rfl)) (by decide) (fun K hK => ?_)
                        refine Kd.R_lit_step k37 _ 37 ?hg (N := 34) ?hd (xs := ([] : List (S37))) (inner := []) (ok := fun _ => True) (okp := fun _ => True) ?hr ?hp (fun _ hk => hk) trivial (Below.refl _ _) (Nat.le_refl _) (by simp) ?_; (case hd => rfl); (case hg => rfl); (case hr => first | (go_simp; done) | (go_simp; rfl)); (case hp => exact (Reps.none _ _))
                        intro v140 w24 ho25 hb hg_ hnew_
                        clear hg_ hnew_
                        (first | rw [← Ny139.out] at ho25 | (simp only [Int.reduceToNat] at ho25; rw [← Ny139.out] at ho25))
                        have n0_ := Aside0.mk (Kd.R_lower ho25 (below_size (by repeat (first | (with_reducible first | exact HB.out | apply below_alloc | apply pw_below_drewN | apply below_drew1) | exact HB.out))))
                        have n1_ := Aside0.mk (below_step (by repeat (first | (with_reducible first | exact HB.out | apply below_alloc | apply pw_below_drewN | apply below_drew1) | exact HB.out)) hb)
                        clear HB
                        have HO141 := n0_
                        have HB := n1_
                        clear n0_ n1_
                        clear hb ho25
                        refine hK.out _ _ trivial (fun hHeld => ?_)
                        clear hK K
                        refine norm_ (a' := ?_) ?_ ?_
                        rotate_left
                        · show Act.put _ (some 34) _ = _
                          simp only [Act.put, List.setIfInBounds_toArray, List.set_cons_zero, List.set_cons_succ, i64_w, i32_w]
                          rfl
                        refine one_ (i := 4) (N := some 38) #[true, true, true, true, true, true, false, true, true, true, false, false, false] rfl rfl (one_of HT_.out (by kernel_rfl)) (by decide) (fun K hK => ?_)
                        refine Kd.R_append_rows_step k37 (w0 := w) w.heap.size (by rfl) (.tmp 34) (.tmp 37) 22 37 (.agg #[(.bool false), (.int .u8 0), (.int .u8 0), (.int .u8 0), (.int .u8 0), (.int .i64 0), (.string ⟨#[]⟩), (.int .i64 0), (.int .i64 0)]) 48 rfl Tryz.underlying22 info37 rfl (by decide) (by omega) v140 y139 y142 _ _ _ (fun _ => True) (fun _ => False) rfl rfl ?aO ?aR (fun _ _ h => h) (fun _ h => h.elim) ?aF ?aB ?aS ?aL ?_
                        (case aR => repeat (first | exact (Kd.C_below HR145.out HB.out) | (with_reducible refine Kd.C_alloc ?_ _) | (with_reducible refine Kd.C_drewN ?_ _) | (with_reducible refine Kd.C_drew ?_)))
                        (case aB => exact (by repeat (first | (with_reducible first | exact HB.out | apply below_alloc | apply pw_below_drewN | apply below_drew1) | exact HB.out)))
                        (case aF => exact (fun _ _ => trivial))
                        (case aO => exact (by (with_reducible repeat (first | apply Kd.R_alloc | apply Kd.R_drewN | apply Kd.R_drew)); exact HO141.out))
                        (case aS => exact (below_size (by repeat (first | (with_reducible first | exact HB.out | apply below_alloc | apply pw_below_drewN | apply below_drew1) | exact HB.out))))
                        (case aL => have := LMc16.out; omega)
                        intro v147 w26 ho hb hg hat
                        rw [← Ny146.out] at ho
                        have n0_ := Aside0.mk (hb)
                        have n1_ := Aside0.mk (ho)
                        clear HB
                        clear HO141
                        have HB := n0_
                        have HO148 := n1_
                        clear n0_ n1_
                        clear ho hb hg hat
                        refine hK.out _ _ trivial (fun hHeld => ?_)
                        clear hK K
                        refine norm_ (a' := ?_) ?_ ?_
                        rotate_left
                        · show Act.put _ (some 38) _ = _
                          simp only [Act.put, List.setIfInBounds_toArray, List.set_cons_zero, List.set_cons_succ, i64_w, i32_w]
                          rfl
                        refine one_ (i := 6) (N := some 40) #[true, true, true, true, true, true, true, true, true, true, false, false, false] rfl rfl (one_of HT_.out (by kernel_rfl)) (by decide) (fun K hK => ?_)
                        refine Kd.R_append_rows_step k37 (w0 := w) w.heap.size (by rfl) (.tmp 38) (.tmp 39) 22 37 (.agg #[(.bool false), (.int .u8 0), (.int .u8 0), (.int .u8 0), (.int .u8 0), (.int .i64 0), (.string ⟨#[]⟩), (.int .i64 0), (.int .i64 0)]) 48 rfl Tryz.underlying22 info37 rfl (by decide) (by omega) v147 y146 l2 _ _ _ (fun _ => True) (fun _ => False) rfl rfl ?aO ?aR (fun _ _ h => h) (fun _ h => h.elim) ?aF ?aB ?aS ?aL ?_
                        (case aR => repeat (first | exact (Kd.C_below HR2.out HB.out) | (with_reducible refine Kd.C_alloc ?_ _) | (with_reducible refine Kd.C_drewN ?_ _) | (with_reducible refine Kd.C_drew ?_)))
                        (case aB => exact (by repeat (first | (with_reducible first | exact HB.out | apply below_alloc | apply pw_below_drewN | apply below_drew1) | exact HB.out)))
                        (case aF => exact (fun _ _ => trivial))
                        (case aO => exact (by (with_reducible repeat (first | apply Kd.R_alloc | apply Kd.R_drewN | apply Kd.R_drew)); exact HO148.out))
                        (case aS => exact (below_size (by repeat (first | (with_reducible first | exact HB.out | apply below_alloc | apply pw_below_drewN | apply below_drew1) | exact HB.out))))
                        (case aL => have := LMc17.out; omega)
                        intro v150 w27 ho hb hg hat
                        rw [← Ny149.out] at ho
                        have n0_ := Aside0.mk (hb)
                        have n1_ := Aside0.mk (ho)
                        clear HB
                        clear HO148
                        have HB := n0_
                        have HO151 := n1_
                        clear n0_ n1_
                        clear ho hb hg hat
                        refine hK.out _ _ trivial (fun hHeld => ?_)
                        clear hK K
                        refine norm_ (a' := ?_) ?_ ?_
                        rotate_left
                        · show Act.put _ (some 40) _ = _
                          simp only [Act.put, List.setIfInBounds_toArray, List.set_cons_zero, List.set_cons_succ, i64_w, i32_w]
                          rfl
                        refine one_ (i := 10) (N := some 44) #[true, true, true, true, true, true, true, true, true, true, true, false, false] rfl rfl (one_of HT_.out (by kernel_rfl)) (by decide) (fun K hK => ?_)
                        refine Kd.R_append_rows_step k37 (w0 := w) w.heap.size (by rfl) (.tmp 40) (.tmp 43) 22 37 (.agg #[(.bool false), (.int .u8 0), (.int .u8 0), (.int .u8 0), (.int .u8 0), (.int .i64 0), (.string ⟨#[]⟩), (.int .i64 0), (.int .i64 0)]) 48 rfl Tryz.underlying22 info37 rfl (by decide) (by omega) v150 y149 y152 _ _ _ (fun _ => True) (fun _ => False) rfl rfl ?aO ?aR (fun _ _ h => h) (fun _ h => h.elim) ?aF ?aB ?aS ?aL ?_
                        (case aR => repeat (first | exact (Kd.C_below HR155.out HB.out) | (with_reducible refine Kd.C_alloc ?_ _) | (with_reducible refine Kd.C_drewN ?_ _) | (with_reducible refine Kd.C_drew ?_)))
                        (case aB => exact (by repeat (first | (with_reducible first | exact HB.out | apply below_alloc | apply pw_below_drewN | apply below_drew1) | exact HB.out)))
                        (case aF => exact (fun _ _ => trivial))
                        (case aO => exact (by (with_reducible repeat (first | apply Kd.R_alloc | apply Kd.R_drewN | apply Kd.R_drew)); exact HO151.out))
                        (case aS => exact (below_size (by repeat (first | (with_reducible first | exact HB.out | apply below_alloc | apply pw_below_drewN | apply below_drew1) | exact HB.out))))
                        (case aL => have := LMc20.out; omega)
                        intro v157 w28 ho hb hg hat
                        rw [← Ny156.out] at ho
                        have n0_ := Aside0.mk (hb)
                        have n1_ := Aside0.mk (ho)
                        clear HB
                        clear HO151
                        have HB := n0_
                        have HO158 := n1_
                        clear n0_ n1_
                        clear ho hb hg hat
                        refine hK.out _ _ trivial (fun hHeld => ?_)
                        clear hK K
                        refine norm_ (a' := ?_) ?_ ?_
                        rotate_left
                        · show Act.put _ (some 44) _ = _
                          simp only [Act.put, List.setIfInBounds_toArray, List.set_cons_zero, List.set_cons_succ, i64_w, i32_w]
                          rfl
                        refine pure_ (i := 11) (N := some 6) (v := ?_) (a' := ?_) #[true, true, true, true, true, true, true, true, true, true, true, true, false] rfl rfl (any_of HT_.out (by kernel_rfl)) (fun _ _ _ h => h) (Or.inl ⟨by rfl, ?_⟩) ?_ ?_
                        rotate_left
                        · intro w'
                          go_simp
                          with_reducible rfl
                        rotate_left
                        · simp only [Act.put, List.setIfInBounds_toArray, List.set_cons_zero, List.set_cons_succ, i64_w, i32_w]
                          rfl
                        refine pure_ (i := 12) (N := some 7) (v := ?_) (a' := ?_) #[true, true, true, true, true, true, true, true, true, true, true, true, true] rfl rfl (any_of HT_.out (by kernel_rfl)) (fun _ _ _ h => h) (Or.inl ⟨by rfl, ?_⟩) ?_ ?_
                        rotate_left
                        · intro w'
                          go_simp
                          with_reducible rfl
                        rotate_left
                        · simp only [Act.put, List.setIfInBounds_toArray, List.set_cons_zero, List.set_cons_succ, i64_w, i32_w]
                          rfl
                        refine done_ (done_of HT_.out (by kernel_rfl)) ?_
                        try go_wp2
                        go_ret2
                        exact ⟨_, by first | rfl | (simp [errW_none, errW_some] <;> rfl) | (simp [*, errW_none, errW_some] <;> rfl), by (with_reducible repeat (first | apply Kd.R_alloc | apply Kd.R_drewN | apply Kd.R_drew)); exact HO158.out, by repeat (first | (with_reducible first | exact HB.out | apply below_alloc | apply pw_below_drewN | apply below_drew1) | exact HB.out)⟩
                      · rw [if_neg c20] at H
                        exact absurd H (by simp)
                    · rw [if_neg c17] at H
                      exact absurd H (by simp)
                  · rw [if_neg c16] at H
                    exact absurd H (by simp)
                · rw [if_neg c15] at H
                  exact absurd H (by simp)
              · rw [if_neg c14] at H
                exact absurd H (by simp)
    · rw [if_neg c7] at H
      have c7b0 : (t138 == 0) = false := beq_eq_false_iff_ne.mpr c7
      have c7b1 : (t138 != 0) = true := bne_iff_ne.mpr c7
      simp only [Option.some.injEq, Prod.mk.injEq] at H
      obtain ⟨rfl, rfl⟩ := H
      go_enter Tryz.func24, Tryz.ntmps24
      go_wp2_with (first | ((with_reducible refine gate_callee (f := 12) rfl ?_); refine goesL_ (some 11) rfl rfl Tryz.func12 (by kernel_rfl) rfl #[.slice A0 l0.length c0] rfl (by (try simp only [List.map_toArray, List.map_cons, List.map_nil]); first | done | rfl | (simp only [List.length_drop, List.length_take]; rfl)) ?_; (with_reducible refine (sallyportref12_Check.calls k _ _ l0 t137 _ ?side1 ?side2 ?side3 A4.out).mono ?_); (case side1 => repeat (first | exact HR0.out | (with_reducible refine Kd.C_alloc ?_ _) | (with_reducible refine Kd.C_drewN ?_ _) | (with_reducible refine Kd.C_drew ?_))); (case side2 => exact HC0.out); (case side3 => exact StdW.below HS_.out (by repeat (first | (with_reducible first | exact HB.out | apply below_alloc | apply pw_below_drewN | apply below_drew1) | exact HB.out))); rintro e w29 ⟨rfl, hb⟩; refine ⟨_, rfl, ?_⟩; have n0_ := Aside0.mk (below_step (by repeat (first | (with_reducible first | exact HB.out | apply below_alloc | apply pw_below_drewN | apply below_drew1) | exact HB.out)) hb); clear HB; have HB := n0_; clear n0_; (try clear hb); (try clear hb2); (try clear hk); (try clear hi)) | ((with_reducible refine gate_callee (f := 12) rfl ?_); refine goesL_ (some 16) rfl rfl Tryz.func12 (by kernel_rfl) rfl #[.slice A2 l2.length c2] rfl (by (try simp only [List.map_toArray, List.map_cons, List.map_nil]); first | done | rfl | (simp only [List.length_drop, List.length_take]; rfl)) ?_; (with_reducible refine (sallyportref12_Check.calls k _ _ l2 t138 _ ?side1 ?side2 ?side3 A6.out).mono ?_); (case side1 => repeat (first | exact (Kd.C_below HR2.out HB.out) | (with_reducible refine Kd.C_alloc ?_ _) | (with_reducible refine Kd.C_drewN ?_ _) | (with_reducible refine Kd.C_drew ?_))); (case side2 => exact HC2.out); (case side3 => exact StdW.below HS_.out (by repeat (first | (with_reducible first | exact HB.out | apply below_alloc | apply pw_below_drewN | apply below_drew1) | exact HB.out))); rintro e w30 ⟨rfl, hb⟩; refine ⟨_, rfl, ?_⟩; have n0_ := Aside0.mk (below_step (by repeat (first | (with_reducible first | exact HB.out | apply below_alloc | apply pw_below_drewN | apply below_drew1) | exact HB.out)) hb); clear HB; have HB := n0_; clear n0_; (try clear hb); (try clear hb2); (try clear hk); (try clear hi)))
      go_ret2
      exact ⟨_, by first | rfl | (simp [errW_none, errW_some] <;> rfl) | (simp [*, errW_none, errW_some] <;> rfl), by first | exact Kd.R_nil _ _ _ _ _ | exact Kd.N_nil _ _ _ _ _ | exact Kd.V_nil _ _ _ _ _ | exact Kd.Q_nil _ _ _ _ _ | exact Kd.S_nil _ _ _ _ _, by repeat (first | (with_reducible first | exact HB.out | apply below_alloc | apply pw_below_drewN | apply below_drew1) | exact HB.out)⟩
  · rw [if_neg c5] at H
    have c5b0 : (t137 == 0) = false := beq_eq_false_iff_ne.mpr c5
    have c5b1 : (t137 != 0) = true := bne_iff_ne.mpr c5
    simp only [Option.some.injEq, Prod.mk.injEq] at H
    obtain ⟨rfl, rfl⟩ := H
    go_enter Tryz.func24, Tryz.ntmps24
    go_wp2_with (first | ((with_reducible refine gate_callee (f := 12) rfl ?_); refine goesL_ (some 11) rfl rfl Tryz.func12 (by kernel_rfl) rfl #[.slice A0 l0.length c0] rfl (by (try simp only [List.map_toArray, List.map_cons, List.map_nil]); first | done | rfl | (simp only [List.length_drop, List.length_take]; rfl)) ?_; (with_reducible refine (sallyportref12_Check.calls k _ _ l0 t137 _ ?side1 ?side2 ?side3 A4.out).mono ?_); (case side1 => repeat (first | exact HR0.out | (with_reducible refine Kd.C_alloc ?_ _) | (with_reducible refine Kd.C_drewN ?_ _) | (with_reducible refine Kd.C_drew ?_))); (case side2 => exact HC0.out); (case side3 => exact StdW.below HS_.out (by repeat (first | (with_reducible first | exact HB.out | apply below_alloc | apply pw_below_drewN | apply below_drew1) | exact HB.out))); rintro e w31 ⟨rfl, hb⟩; refine ⟨_, rfl, ?_⟩; have n0_ := Aside0.mk (below_step (by repeat (first | (with_reducible first | exact HB.out | apply below_alloc | apply pw_below_drewN | apply below_drew1) | exact HB.out)) hb); clear HB; have HB := n0_; clear n0_; (try clear hb); (try clear hb2); (try clear hk); (try clear hi)))
    go_ret2
    exact ⟨_, by first | rfl | (simp [errW_none, errW_some] <;> rfl) | (simp [*, errW_none, errW_some] <;> rfl), by first | exact Kd.R_nil _ _ _ _ _ | exact Kd.N_nil _ _ _ _ _ | exact Kd.V_nil _ _ _ _ _ | exact Kd.Q_nil _ _ _ _ _ | exact Kd.S_nil _ _ _ _ _, by repeat (first | (with_reducible first | exact HB.out | apply below_alloc | apply pw_below_drewN | apply below_drew1) | exact HB.out)⟩
def sallyportbase_Rules.f (l0 : List (S37)) : Option ((List (S37))) := (some (([] : List (S37)) : List (S37))).bind fun y159 => (if y159.length + l0.length < 2932031007402 then (some (y159 ++ l0)) else (none))
set_option maxHeartbeats 8000000 in
set_option maxRecDepth 100000 in
theorem sallyportbase_Rules.calls (A0 : Option Addr) (c0 : Nat) (l0 : List (S37)) (r : List (S37)) (w : World) (hr0 : Kd.C k37 w A0 l0.length l0) (hc0 : l0.length ≤ c0) (h : sallyportbase_Rules.f l0 = some r) :
    Calls Tryz.prog 10 #[.slice A0 l0.length c0] w fun e w' => ∃ v0_ : Value, e = .returned (v0_) ∧ Kd.R k37 37 w' w.heap.size (fun _ => True) v0_ r ∧ Below w.heap.size w w' := by
  have HR0 := Aside0.mk hr0
  have HC0 := Aside0.mk hc0
  clear hr0 hc0
  have HB := Aside0.mk (Below.refl w.heap.size w)
  have H : ((some (([] : List (S37)) : List (S37))).bind fun y159 => (if y159.length + l0.length < 2932031007402 then (some (y159 ++ l0)) else (none))) = some r := h
  clear h
  obtain ⟨y159, hy159⟩ : ∃ y_ : List (S37), y_ = (([] : List (S37))) := ⟨_, rfl⟩
  replace H : (if y159.length + l0.length < 2932031007402 then (some (y159 ++ l0)) else (none)) = some r := by first | (rw [hy159]; with_reducible exact H) | (have H2_ := (Option.bind_some _ _).symm.trans H; rw [hy159]; with_reducible exact H2_) | (have H2_ := (Option.bind_some _ _).symm.trans H; with_reducible exact H2_) | with_reducible exact H | (rw [hy159]; exact H) | exact H
  have Ny159 := Aside0.mk hy159
  clear hy159
  by_cases c2 : y159.length + l0.length < 2932031007402
  · rw [if_pos c2] at H
    have LMc2 := Aside0.mk c2
    clear c2
    obtain ⟨y162, hy162⟩ : ∃ y_ : List (S37), y_ = (y159 ++ l0) := ⟨_, rfl⟩
    replace H : (some y162) = some r := by first | (rw [hy162]; with_reducible exact H) | (have H2_ := (Option.bind_some _ _).symm.trans H; rw [hy162]; with_reducible exact H2_) | (have H2_ := (Option.bind_some _ _).symm.trans H; with_reducible exact H2_) | with_reducible exact H | (rw [hy162]; exact H) | exact H
    have Ny162 := Aside0.mk hy162
    clear hy162
    obtain rfl := Option.some.inj H
    go_enter Tryz.func10, Tryz.ntmps10
    go_wp2_with (first | ((with_reducible refine gate_dst (N := 3) rfl ?_); refine Kd.R_lit k37 _ 37 ?hg (N := 3) ?hd (xs := ([] : List (S37))) (inner := []) (ok := fun _ => True) (okp := fun _ => True) ?hr ?hp (fun _ hk => hk) trivial (Below.refl _ _) (Nat.le_refl _) (by simp) ?_; (case hd => rfl); (case hg => rfl); (case hr => first | (go_simp; done) | (go_simp; rfl)); (case hp => exact (Reps.none _ _)); intro v160 w3 ho4 hb hg_ hnew_; clear hg_ hnew_; (first | rw [← Ny159.out] at ho4 | (simp only [Int.reduceToNat] at ho4; rw [← Ny159.out] at ho4)); have n0_ := Aside0.mk (Kd.R_lower ho4 (below_size (by repeat (first | (with_reducible first | exact HB.out | apply below_alloc | apply pw_below_drewN | apply below_drew1) | exact HB.out)))); have n1_ := Aside0.mk (below_step (by repeat (first | (with_reducible first | exact HB.out | apply below_alloc | apply pw_below_drewN | apply below_drew1) | exact HB.out)) hb); clear HB; have HO161 := n0_; have HB := n1_; clear n0_ n1_; clear hb ho4) | ((with_reducible refine gate_builtin (b := .append) (xs := #[.tmp 3, .tmp 4]) rfl ?_); at_builtin; refine Kd.R_append_rows k37 (w0 := w) w.heap.size rfl (.tmp 3) (.tmp 4) 22 37 (.agg #[(.bool false), (.int .u8 0), (.int .u8 0), (.int .u8 0), (.int .u8 0), (.int .i64 0), (.string ⟨#[]⟩), (.int .i64 0), (.int .i64 0)]) 48 rfl Tryz.underlying22 info37 rfl (by decide) (by omega) v160 y159 l0 _ _ _ (fun _ => True) (fun _ => False) rfl rfl ?aO ?aR (fun _ _ h => h) (fun _ h => h.elim) ?aF ?aB ?aS ?aL ?_; (case aR => repeat (first | exact (Kd.C_below HR0.out HB.out) | (with_reducible refine Kd.C_alloc ?_ _) | (with_reducible refine Kd.C_drewN ?_ _) | (with_reducible refine Kd.C_drew ?_))); (case aB => exact (by repeat (first | (with_reducible first | exact HB.out | apply below_alloc | apply pw_below_drewN | apply below_drew1) | exact HB.out))); (case aF => exact (fun _ _ => trivial)); (case aO => exact (by (with_reducible repeat (first | apply Kd.R_alloc | apply Kd.R_drewN | apply Kd.R_drew)); exact HO161.out)); (case aS => exact (below_size (by repeat (first | (with_reducible first | exact HB.out | apply below_alloc | apply pw_below_drewN | apply below_drew1) | exact HB.out)))); (case aL => have := LMc2.out; omega); intro v163 w5 ho hb hg hat; rw [← Ny162.out] at ho; have n0_ := Aside0.mk (hb); have n1_ := Aside0.mk (ho); clear HB; clear HO161; have HB := n0_; have HO164 := n1_; clear n0_ n1_; clear ho hb hg hat))
    go_ret
    exact ⟨_, by first | rfl | (simp [errW_none, errW_some] <;> rfl) | (simp [*, errW_none, errW_some] <;> rfl), by (with_reducible repeat (first | apply Kd.R_alloc | apply Kd.R_drewN | apply Kd.R_drew)); exact HO164.out, by repeat (first | (with_reducible first | exact HB.out | apply below_alloc | apply pw_below_drewN | apply below_drew1) | exact HB.out)⟩
  · rw [if_neg c2] at H
    exact absurd H (by simp)
def sallyportbase_SameRules.l0 : Nat → List (S37) → List (S37) → Int → Option (Bool)
  | 0, _, _, _ => none
  | k + 1, x0, x1, x5 => if x5 < (x0.length : Int) then (if 0 ≤ x5 then (if x5 < (x1.length : Int) then (if (!(((rd_T37 x0 x5).f0) == ((rd_T37 x1 x5).f0)) || ((!(((rd_T37 x0 x5).f1.f0) == ((rd_T37 x1 x5).f1.f0)) || (!(((rd_T37 x0 x5).f1.f1) == ((rd_T37 x1 x5).f1.f1)) || (!(((rd_T37 x0 x5).f1.f2) == ((rd_T37 x1 x5).f1.f2)) || (!(((rd_T37 x0 x5).f1.f3) == ((rd_T37 x1 x5).f1.f3)))))) || (!(((rd_T37 x0 x5).f2) == ((rd_T37 x1 x5).f2)) || (!((((rd_T37 x0 x5).f3).toList) == (((rd_T37 x1 x5).f3).toList)) || (!(((rd_T37 x0 x5).f4) == ((rd_T37 x1 x5).f4)) || (!(((rd_T37 x0 x5).f5) == ((rd_T37 x1 x5).f5)))))))) = true then (some false) else (sallyportbase_SameRules.l0 k x0 x1 (wrap64 (x5 + 1)))) else (none)) else (none)) else (some true)
def sallyportbase_SameRules.f (k : Nat) (l0 : List (S37)) (l1 : List (S37)) : Option (Bool) := if (l0.length : Int) = (l1.length : Int) then (sallyportbase_SameRules.l0 k l0 l1 0) else (some false)
theorem sallyportbase_SameRules.mono_l : ∀ k, (∀ y0 y1 y2, LeO (sallyportbase_SameRules.l0 k y0 y1 y2) (sallyportbase_SameRules.l0 (k + 1) y0 y1 y2))
  | 0 => fun _ _ _ r h => by simp [sallyportbase_SameRules.l0] at h
  | k + 1 => by
    have ih0 := sallyportbase_SameRules.mono_l k
    · intro y0 y1 y2
      unfold sallyportbase_SameRules.l0
      repeat' first
      | (with_reducible exact ih0 _ _ _)
      | (with_reducible exact LeO.refl _)
      | (with_reducible exact LeO.none _)
      | (with_reducible refine LeO.ite ?_ ?_)
      | (with_reducible refine LeO.bind ?_ (fun _ => ?_))
      | exact ih0 _ _ _
      | exact LeO.none _
      | refine LeO.ite ?_ ?_
      | refine LeO.bind ?_ (fun _ => ?_)
theorem sallyportbase_SameRules.mono : ∀ a0 a1 k, LeO (sallyportbase_SameRules.f k a0 a1) (sallyportbase_SameRules.f (k + 1) a0 a1) := by
  intro a0 a1 k
  have ih0 := sallyportbase_SameRules.mono_l k
  unfold sallyportbase_SameRules.f
  repeat' first
      | (with_reducible exact ih0 _ _ _)
      | (with_reducible exact LeO.refl _)
      | (with_reducible exact LeO.none _)
      | (with_reducible refine LeO.ite ?_ ?_)
      | (with_reducible refine LeO.bind ?_ (fun _ => ?_))
      | exact ih0 _ _ _
      | exact LeO.none _
      | refine LeO.ite ?_ ?_
      | refine LeO.bind ?_ (fun _ => ?_)
set_option maxHeartbeats 8000000 in
set_option maxRecDepth 100000 in
theorem sallyportbase_SameRules.calls (k : Nat) (A0 : Option Addr) (c0 : Nat) (l0 : List (S37)) (A1 : Option Addr) (c1 : Nat) (l1 : List (S37)) (r : Bool) (w : World) (hr0 : Kd.C k37 w A0 l0.length l0) (hc0 : l0.length ≤ c0) (hr1 : Kd.C k37 w A1 l1.length l1) (hc1 : l1.length ≤ c1) (h : sallyportbase_SameRules.f k l0 l1 = some r) :
    Calls Tryz.prog 17 #[.slice A0 l0.length c0, .slice A1 l1.length c1] w fun e w' => e = .returned (.bool r) ∧ Drawn0 w w' := by
  have hu37 := Tryz.underlying37
  have HR0 := Aside0.mk hr0
  have HC0 := Aside0.mk hc0
  clear hr0 hc0
  have HR1 := Aside0.mk hr1
  have HC1 := Aside0.mk hc1
  clear hr1 hc1
  have H : (if (l0.length : Int) = (l1.length : Int) then (sallyportbase_SameRules.l0 k l0 l1 0) else (some false)) = some r := h
  clear h
  by_cases c3 : (l0.length : Int) = (l1.length : Int)
  · rw [if_pos c3] at H
    have c3b0 : ((l0.length : Int) == (l1.length : Int)) = true := beq_iff_eq.mpr c3
    have c3b1 : ((l0.length : Int) != (l1.length : Int)) = false := bne_eq_false_iff_eq.mpr c3
    have c3b2 : (l0.length == l1.length) = true := by first | simpa using c3 | (simp at c3 ⊢; omega)
    clear c3
    have H' := Aside0.mk H
    clear H
    go_enter Tryz.func17, Tryz.ntmps17
    go_wp2
    repeat (go_quiet (fail); try go_wp2)
    go_loopg [5] k (fun kq v5 w' => ∃ (x5_1 : Int), v5 = .int .i64 x5_1 ∧ Aside0 (sallyportbase_SameRules.l0 kq l0 l1 x5_1 = some r) ∧ Aside0 (kq ≤ k) ∧ Drawn0 w w')
    case atStart => exact ⟨(0), (by first | rfl | (simp; done) | (simp [*]; done)), H', ⟨Nat.le_refl _⟩, by repeat (first | exact Drawn0.refl _ | apply Drawn0.step)⟩
    case round =>
      clear H'
      try clear c1
      try clear p2
      try clear c3
      try clear c3b0
      try clear c3b1
      try clear c3b2
      obtain ⟨x5_1, rfl, HA, HK1, ⟨m1, rfl⟩⟩ := hrel
      cases gk with
      | zero => exact absurd HA.out (by simp [sallyportbase_SameRules.l0])
      | succ k1 =>
        have H := HA.out
        clear HA
        simp only [sallyportbase_SameRules.l0] at H
        by_cases c4 : x5_1 < (l0.length : Int)
        · rw [if_pos c4] at H
          have c4b0 : decide (x5_1 < (l0.length : Int)) = true := decide_eq_true c4
          clear c4
          by_cases c5 : 0 ≤ x5_1
          · rw [if_pos c5] at H
            have c5b0 : decide (0 ≤ x5_1) = true := decide_eq_true c5
            clear c5
            by_cases c6 : x5_1 < (l1.length : Int)
            · rw [if_pos c6] at H
              have c6b0 : decide (x5_1 < (l1.length : Int)) = true := decide_eq_true c6
              clear c6
              by_cases c7 : (!(((rd_T37 l0 x5_1).f0) == ((rd_T37 l1 x5_1).f0)) || ((!(((rd_T37 l0 x5_1).f1.f0) == ((rd_T37 l1 x5_1).f1.f0)) || (!(((rd_T37 l0 x5_1).f1.f1) == ((rd_T37 l1 x5_1).f1.f1)) || (!(((rd_T37 l0 x5_1).f1.f2) == ((rd_T37 l1 x5_1).f1.f2)) || (!(((rd_T37 l0 x5_1).f1.f3) == ((rd_T37 l1 x5_1).f1.f3)))))) || (!(((rd_T37 l0 x5_1).f2) == ((rd_T37 l1 x5_1).f2)) || (!((((rd_T37 l0 x5_1).f3).toList) == (((rd_T37 l1 x5_1).f3).toList)) || (!(((rd_T37 l0 x5_1).f4) == ((rd_T37 l1 x5_1).f4)) || (!(((rd_T37 l0 x5_1).f5) == ((rd_T37 l1 x5_1).f5)))))))) = true
              · rw [if_pos c7] at H
                have c7b0 : (!(((rd_T37 l0 x5_1).f0) == ((rd_T37 l1 x5_1).f0)) || ((!(((rd_T37 l0 x5_1).f1.f0) == ((rd_T37 l1 x5_1).f1.f0)) || (!(((rd_T37 l0 x5_1).f1.f1) == ((rd_T37 l1 x5_1).f1.f1)) || (!(((rd_T37 l0 x5_1).f1.f2) == ((rd_T37 l1 x5_1).f1.f2)) || (!(((rd_T37 l0 x5_1).f1.f3) == ((rd_T37 l1 x5_1).f1.f3)))))) || (!(((rd_T37 l0 x5_1).f2) == ((rd_T37 l1 x5_1).f2)) || (!((((rd_T37 l0 x5_1).f3).toList) == (((rd_T37 l1 x5_1).f3).toList)) || (!(((rd_T37 l0 x5_1).f4) == ((rd_T37 l1 x5_1).f4)) || (!(((rd_T37 l0 x5_1).f5) == ((rd_T37 l1 x5_1).f5)))))))) = true := c7
                clear c7
                obtain rfl := Option.some.inj H
                have p165 : 0 ≤ (x5_1 : Int) := of_decide_eq_true (by first | (with_reducible assumption) | assumption)
                have q165 : x5_1 < (l0.length : Int) := of_decide_eq_true (by first | (with_reducible assumption) | assumption)
                obtain ⟨ad165, e165, hx165_0, hx165_1, hx165_2, hx165_3, hx165_4, hx165_5, hx165_6, hx165_7, hx165_8⟩ := at_T37 HR0.out x5_1 p165 q165
                cases e165
                replace p165 := eq_true p165
                replace q165 := eq_true q165
                have p166 : 0 ≤ (x5_1 : Int) := of_decide_eq_true (by first | (with_reducible assumption) | assumption)
                have q166 : x5_1 < (l1.length : Int) := of_decide_eq_true (by first | (with_reducible assumption) | assumption)
                obtain ⟨ad166, e166, hx166_0, hx166_1, hx166_2, hx166_3, hx166_4, hx166_5, hx166_6, hx166_7, hx166_8⟩ := at_T37 HR1.out x5_1 p166 q166
                cases e166
                replace p166 := eq_true p166
                replace q166 := eq_true q166
                go_wp2
                repeat (go_quiet (fail); try go_wp2)
                go_ret
                exact ⟨by first | rfl | (simp; done) | (simp [*]; done), by repeat (first | exact Drawn0.refl _ | apply Drawn0.step)⟩
              · rw [if_neg c7] at H
                have c7b0 : (!(((rd_T37 l0 x5_1).f0) == ((rd_T37 l1 x5_1).f0)) || ((!(((rd_T37 l0 x5_1).f1.f0) == ((rd_T37 l1 x5_1).f1.f0)) || (!(((rd_T37 l0 x5_1).f1.f1) == ((rd_T37 l1 x5_1).f1.f1)) || (!(((rd_T37 l0 x5_1).f1.f2) == ((rd_T37 l1 x5_1).f1.f2)) || (!(((rd_T37 l0 x5_1).f1.f3) == ((rd_T37 l1 x5_1).f1.f3)))))) || (!(((rd_T37 l0 x5_1).f2) == ((rd_T37 l1 x5_1).f2)) || (!((((rd_T37 l0 x5_1).f3).toList) == (((rd_T37 l1 x5_1).f3).toList)) || (!(((rd_T37 l0 x5_1).f4) == ((rd_T37 l1 x5_1).f4)) || (!(((rd_T37 l0 x5_1).f5) == ((rd_T37 l1 x5_1).f5)))))))) = false := by simpa using c7
                clear c7
                have H' := Aside0.mk H
                clear H
                have p165 : 0 ≤ (x5_1 : Int) := of_decide_eq_true (by first | (with_reducible assumption) | assumption)
                have q165 : x5_1 < (l0.length : Int) := of_decide_eq_true (by first | (with_reducible assumption) | assumption)
                obtain ⟨ad165, e165, hx165_0, hx165_1, hx165_2, hx165_3, hx165_4, hx165_5, hx165_6, hx165_7, hx165_8⟩ := at_T37 HR0.out x5_1 p165 q165
                cases e165
                replace p165 := eq_true p165
                replace q165 := eq_true q165
                have p166 : 0 ≤ (x5_1 : Int) := of_decide_eq_true (by first | (with_reducible assumption) | assumption)
                have q166 : x5_1 < (l1.length : Int) := of_decide_eq_true (by first | (with_reducible assumption) | assumption)
                obtain ⟨ad166, e166, hx166_0, hx166_1, hx166_2, hx166_3, hx166_4, hx166_5, hx166_6, hx166_7, hx166_8⟩ := at_T37 HR1.out x5_1 p166 q166
                cases e166
                replace p166 := eq_true p166
                replace q166 := eq_true q166
                go_wp2
                repeat (go_quiet (fail); try go_wp2)
                go_roundg k1
                case measure => have := HK1.out; omega
                case rel => exact ⟨(wrap64 (x5_1 + 1)), (by first | rfl | (simp; done) | (simp [*]; done)), H', ⟨by have := HK1.out; omega⟩, by repeat (first | exact Drawn0.refl _ | apply Drawn0.step)⟩
            · rw [if_neg c6] at H
              exact absurd H (by simp)
          · rw [if_neg c5] at H
            exact absurd H (by simp)
        · rw [if_neg c4] at H
          have c4b0 : decide (x5_1 < (l0.length : Int)) = false := decide_eq_false c4
          clear c4
          obtain rfl := Option.some.inj H
          go_wp2
          repeat (go_quiet (fail); try go_wp2)
          go_ret
          exact ⟨by first | rfl | (simp; done) | (simp [*]; done), by repeat (first | exact Drawn0.refl _ | apply Drawn0.step)⟩
  · rw [if_neg c3] at H
    have c3b0 : ((l0.length : Int) == (l1.length : Int)) = false := beq_eq_false_iff_ne.mpr c3
    have c3b1 : ((l0.length : Int) != (l1.length : Int)) = true := bne_iff_ne.mpr c3
    have c3b2 : (l0.length == l1.length) = false := by first | simpa using c3 | (simp at c3 ⊢; omega)
    obtain rfl := Option.some.inj H
    go_enter Tryz.func17, Tryz.ntmps17
    go_wp2
    repeat (go_quiet (fail); try go_wp2)
    go_ret
    exact ⟨by first | rfl | (simp; done) | (simp [*]; done), by repeat (first | exact Drawn0.refl _ | apply Drawn0.step)⟩
end Go.Proofs.YteondnhokgmakaaGreatDoor.XG


namespace Go.Proofs.YteondnhokgmakaaGreatDoor.XG
open Go.Proofs.YteondnhokgmakaaGreatDoor.XC Go.Proofs.YteondnhokgmakaaGreatDoor.XM
open Go.RowKit Go.Proofs.YteondnhokgmakaaGreatDoorW.PrintWords Go.Proofs.YteondnhokgmakaaGreatDoorW.PrintLast Go.Proofs.YteondnhokgmakaaGreatDoorW.PrintMore
attribute [local go_sem] max2_int min2_int max_two min_two max_three min_three max_four min_four
set_option linter.unusedVariables false
set_option linter.unusedSimpArgs false
end Go.Proofs.YteondnhokgmakaaGreatDoor.XG


namespace Go.Proofs.YteondnhokgmakaaGreatDoor.E
open Go.RowKit Go.Proofs.YteondnhokgmakaaGreatDoorW.PrintWords Go.Proofs.YteondnhokgmakaaGreatDoorW.PrintLast Go.Proofs.YteondnhokgmakaaGreatDoorW.PrintMore Go.Proofs.YteondnhokgmakaaGreatDoor.XC Go.Proofs.YteondnhokgmakaaGreatDoor.XM Go.Proofs.YteondnhokgmakaaGreatDoor.XG
set_option linter.unusedVariables false
set_option linter.unusedSimpArgs false
def digsOf (x : Nat) : List UInt8 := if x = 0 then [] else Lib.decDigits x
theorem digsOf_step (x : Nat) (h : 0 < x) : digsOf x = digsOf (x / 10) ++ [UInt8.ofNat (48 + x % 10)] := by
  unfold digsOf
  rw [if_neg (by omega), Lib.decDigits]
  by_cases h1 : x < 10
  · rw [dif_pos h1, if_pos (by omega), show x % 10 = x by omega]; rfl
  · rw [dif_neg h1, if_neg (by omega)]
theorem data_of (l : List UInt8) : (⟨l.toArray⟩ : ByteArray).data.toList = l := rfl
theorem one_append (c : UInt8) (s : ByteArray) : (⟨#[c]⟩ : ByteArray) ++ s = ⟨(c :: s.data.toList).toArray⟩ := by
  apply ByteArray.ext; apply Array.ext'; rw [data_append]; rfl
theorem itoa_loop : ∀ (d k x : Nat) (s : ByteArray), x < 10 ^ d → x ≤ 99999999 → d < k → s.size + d ≤ 1000 → sallyportbase_Itoa.l0 k (x : Int) s false = some ⟨(digsOf x ++ s.data.toList).toArray⟩
  | 0, k + 1, x, s, hx, hb, hk, hs => by
    have h0 : x = 0 := by simp at hx; exact hx
    subst h0
    unfold sallyportbase_Itoa.l0
    rw [if_pos (show ((0 : Nat) : Int) = 0 from rfl), if_neg (by simp)]
    rfl
  | d + 1, k + 1, x, s, hx, hb, hk, hs => by
    unfold sallyportbase_Itoa.l0
    by_cases h0 : x = 0
    · subst h0
      rw [if_pos (show ((0 : Nat) : Int) = 0 from rfl), if_neg (by simp)]
      rfl
    · have ht : Int.tmod (x : Int) 10 = ((x % 10 : Nat) : Int) := by rw [Int.tmod_eq_emod_of_nonneg (by omega)]; omega
      have hq : Int.tdiv (x : Int) 10 = ((x / 10 : Nat) : Int) := by rw [Int.tdiv_eq_ediv_of_nonneg (by omega)]; omega
      rw [if_neg (by omega), ht, if_neg (by omega), hq, wrap64_id ((x / 10 : Nat) : Int) (by omega) (by omega), wrap64_id (48 + ((x % 10 : Nat) : Int)) (by omega) (by omega), Option.bind_some]
      have he : strOfNums [(48 + ((x % 10 : Nat) : Int)) % 256] = ⟨#[UInt8.ofNat (48 + x % 10)]⟩ := by
        have : (48 + ((x % 10 : Nat) : Int)) % 256 = ((48 + x % 10 : Nat) : Int) := by omega
        rw [this]
        rfl
      rw [he, one_append, if_pos (by show 1 + s.size ≤ _; omega), itoa_loop d k (x / 10) _ (by rw [Nat.pow_succ] at hx; omega) (by omega) (by omega) (by show (UInt8.ofNat (48 + x % 10) :: s.data.toList).toArray.size + d ≤ 1000; rw [List.size_toArray, List.length_cons, len_size]; omega), data_of, digsOf_step x (by omega), List.append_assoc]
      rfl
theorem itoa_f (k : Nat) (n : Int) (h0 : 0 ≤ n) (h1 : n ≤ 99999999) (hk : 9 ≤ k) : sallyportbase_Itoa.f k n = some (it n) := by
  unfold sallyportbase_Itoa.f it Lib.itoa
  rw [if_neg (show ¬ n < 0 by omega)]
  obtain ⟨x, rfl⟩ := Int.eq_ofNat_of_zero_le h0
  by_cases hz : x = 0
  · subst hz
    rw [if_pos (show ((0 : Nat) : Int) = 0 from rfl)]
    rw [show ((0 : Nat) : Int).toNat = 0 from rfl, Lib.decDigits, dif_pos (by decide)]; rfl
  · rw [if_neg (by omega), decide_eq_false (show ¬ (x : Int) < 0 by omega), itoa_loop 8 k x ⟨#[]⟩ (by omega) (by omega) (by omega) (by decide), Int.toNat_natCast]
    unfold digsOf
    rw [if_neg hz]
    simp
theorem it_size (n : Int) (h0 : 0 ≤ n) (h1 : n ≤ 99999999) : (it n).size ≤ 8 := by
  show (Lib.itoa n).toArray.size ≤ 8
  rw [List.size_toArray]
  unfold Lib.itoa
  rw [if_neg (by omega), Lib.decDigits_length]
  exact Num.nDigits_le 8 _ (by omega) (by decide)
theorem addrS_eq (a b c d : Int) : addrS a b c d = ((((((it a ++ ⟨#[46]⟩) ++ it b) ++ ⟨#[46]⟩) ++ it c) ++ ⟨#[46]⟩) ++ it d) := by
  apply ByteArray.ext; apply Array.ext'
  simp only [data_append]
  unfold addrS
  rw [data_of]
  simp [Lib.join, List.intercalate, List.intersperse]
theorem refPrint_f (k : Nat) (hk : 9 ≤ k) (a b c d : Int) (n : ByteArray) (ha : byteI a) (hb : byteI b) (hc : byteI c) (hd : byteI d) (hs : n.size ≤ 281474976710656) : sallyportref06_Print.f k a b c d n = some (printB a b c d n) := by
  unfold sallyportref06_Print.f E.refCheck.f printB
  rw [if_pos hs, Option.bind_some]
  have htl : n.toList = n.data.toList := ByteArray.toList_eq n
  cases checkB a b c d n
  · rw [if_neg (by simp), if_neg (by simp)]
  · rw [if_pos rfl, if_pos rfl]
    by_cases h0 : n.size = 0
    · have he : n.toList = [] := by rw [htl]; exact List.eq_nil_of_length_eq_zero (by rw [len_size]; exact h0)
      have wa : wrap64 a = a := wrap64_id _ (by have := ha.1; omega) (by have := ha.2; omega)
      have wb : wrap64 b = b := wrap64_id _ (by have := hb.1; omega) (by have := hb.2; omega)
      have wc : wrap64 c = c := wrap64_id _ (by have := hc.1; omega) (by have := hc.2; omega)
      have wd : wrap64 d = d := wrap64_id _ (by have := hd.1; omega) (by have := hd.2; omega)
      have sa := it_size a ha.1 (by have := ha.2; omega)
      have sb := it_size b hb.1 (by have := hb.2; omega)
      have sc := it_size c hc.1 (by have := hc.2; omega)
      have sd := it_size d hd.1 (by have := hd.2; omega)
      rw [if_pos he, if_pos h0, wa, wb, wc, wd, itoa_f k a ha.1 (by have := ha.2; omega) hk, itoa_f k b hb.1 (by have := hb.2; omega) hk, itoa_f k c hc.1 (by have := hc.2; omega) hk, itoa_f k d hd.1 (by have := hd.2; omega) hk]
      simp only [Option.bind_some]
      simp only [ByteArray.size_append]
      have h1 : (⟨#[46]⟩ : ByteArray).size = 1 := rfl
      rw [h1, if_pos (by omega), if_pos (by omega), if_pos (by omega), if_pos (by omega), if_pos (by omega), if_pos (by omega), addrS_eq]
    · have he : ¬ n.toList = [] := fun e => h0 (by rw [← len_size, ← htl, e]; rfl)
      rw [if_neg he, if_neg h0]
theorem addrS_pos (a b c d : Int) : (addrS a b c d).size ≠ 0 := by
  rw [addrS_eq]
  simp only [ByteArray.size_append]
  have h1 : (⟨#[46]⟩ : ByteArray).size = 1 := rfl
  omega
theorem refPrintDest_f (k : Nat) (hk : 10 ≤ k) (a b c d : Int) (n : ByteArray) (po : Int) (ha : byteI a) (hb : byteI b) (hc : byteI c) (hd : byteI d) (hs : n.size ≤ 281474976710656) : sallyportref06_PrintDest.f k a b c d n po = some (printDestB a b c d n po) := by
  obtain ⟨k, rfl⟩ : ∃ j, k = j + 1 := ⟨k - 1, by omega⟩
  unfold sallyportref06_PrintDest.f E.refCheck.f printDestB
  rw [if_pos hs, Option.bind_some]
  have jt : sallyportref06_PrintDest.j0 (k + 1) true a b c d n po = some ⟨#[]⟩ := by simp only [sallyportref06_PrintDest.j0, if_true]
  cases hcb : checkB a b c d n
  · have hp : (printB a b c d n).size = 0 := by unfold printB; rw [hcb, if_neg (by simp)]; rfl
    rw [if_neg (by simp), jt, if_pos (.inl hp)]
  · rw [if_pos rfl]
    have hp : ¬ (printB a b c d n).size = 0 := by
      unfold printB
      rw [hcb, if_pos rfl]
      split
      · exact addrS_pos a b c d
      · assumption
    by_cases h1 : po < 1
    · rw [if_pos h1, jt, if_pos (.inr (.inl h1))]
    · rw [if_neg h1]
      by_cases h2 : 65535 < po
      · rw [decide_eq_true (show po > 65535 from h2), jt, if_pos (.inr (.inr h2))]
      · rw [decide_eq_false (show ¬ po > 65535 from h2), if_neg (fun h => h.elim hp (fun h => h.elim h1 h2))]
        have sp := it_size po (by omega) (by omega)
        have hps := printB_size a b c d n ha.1 ha.2 hb.1 hb.2 hc.1 hc.2 hd.1 hd.2 hs
        have h3 : (⟨#[58]⟩ : ByteArray).size = 1 := rfl
        simp only [sallyportref06_PrintDest.j0, Bool.false_eq_true, if_false]
        rw [refPrint_f k (by omega) a b c d n ha hb hc hd hs, Option.bind_some, if_pos (by omega), itoa_f k po (by omega) (by omega) (by omega), Option.bind_some, ByteArray.size_append, h3, if_pos (by omega)]
theorem refIn_loop {a b c d e f g h : Nat} (n : Nat) (hn : n ≤ 32) : ∀ (m k i : Nat), i + m = n → m < k →
    ∃ r, sallyportref06_In.l0 k (n : Int) (i : Int) a b c d e f g h = some r ∧ (r = true ↔ ∀ j, i ≤ j → j < n → bitB a b c d j = bitB e f g h j) := by
  intro m
  induction m with
  | zero =>
    intro k i hi hk
    obtain ⟨k, rfl⟩ : ∃ j, k = j + 1 := ⟨k - 1, by omega⟩
    have h1 : ¬ ((i : Int) < (n : Int)) := by omega
    have h2 : ∀ j, i ≤ j → j < n → bitB a b c d j = bitB e f g h j := fun j h1 h2 => by omega
    unfold sallyportref06_In.l0
    rw [if_neg h1]
    exact ⟨true, rfl, fun _ => h2, fun _ => rfl⟩
  | succ m ih =>
    intro k i hi hk
    obtain ⟨k, rfl⟩ : ∃ j, k = j + 1 := ⟨k - 1, by omega⟩
    have hw : wrap64 ((i : Int) + 1) = ((i + 1 : Nat) : Int) := by rw [wrap64_id _ (by omega) (by omega)]; omega
    have h1 : ((i : Int) < (n : Int)) := by omega
    have h3 : i < 32 := by omega
    obtain ⟨r, hr, hi2⟩ := ih k (i + 1) (by omega) (by omega)
    unfold sallyportref06_In.l0
    rw [if_pos h1, refBit_f a b c d i h3, Option.bind_some, refBit_f e f g h i h3, Option.bind_some, hw]
    by_cases hx : bitB a b c d i = bitB e f g h i
    · rw [if_neg (by rw [hx]; simp)]
      refine ⟨r, hr, hi2.trans ⟨fun H j h1 h2 => ?_, fun H j h1 h2 => H j (by omega) h2⟩⟩
      by_cases e2 : j = i
      · subst e2; exact hx
      · exact H j (by omega) h2
    · rw [if_pos (bne_iff_ne.2 hx)]
      exact ⟨false, rfl, (fun h => by cases h), (fun H => absurd (H i (Nat.le_refl i) (by omega)) hx)⟩
theorem refIn_f (k : Nat) (hk : 40 ≤ k) (a b c d e f g h bi : Int) (ha : byteI a) (hb : byteI b) (hc : byteI c) (hd : byteI d) (he : byteI e) (hf : byteI f) (hg : byteI g) (hh : byteI h) : sallyportref06_In.f k a b c d e f g h bi = some (inB a b c d e f g h bi) := by
  obtain ⟨k, rfl⟩ : ∃ j, k = j + 1 := ⟨k - 1, by omega⟩
  have jt : sallyportref06_In.j0 (k + 1) bi true a b c d e f g h = some false := by simp only [sallyportref06_In.j0, if_true]
  unfold sallyportref06_In.f
  by_cases h1 : bi < 0
  · rw [if_pos h1, jt, inB_out _ _ _ _ _ _ _ _ _ (.inl h1)]
  rw [if_neg h1]
  by_cases h2 : 32 < bi
  · rw [decide_eq_true (show bi > 32 from h2), jt, inB_out _ _ _ _ _ _ _ _ _ (.inr h2)]
  rw [decide_eq_false (show ¬ bi > 32 from h2)]
  obtain ⟨a, ha', rfl⟩ := byteI_nat ha
  obtain ⟨b, hb', rfl⟩ := byteI_nat hb
  obtain ⟨c, hc', rfl⟩ := byteI_nat hc
  obtain ⟨d, hd', rfl⟩ := byteI_nat hd
  obtain ⟨e, he', rfl⟩ := byteI_nat he
  obtain ⟨f, hf', rfl⟩ := byteI_nat hf
  obtain ⟨g, hg', rfl⟩ := byteI_nat hg
  obtain ⟨h, hh', rfl⟩ := byteI_nat hh
  obtain ⟨n, rfl⟩ := Int.eq_ofNat_of_zero_le (show 0 ≤ bi by omega)
  simp only [sallyportref06_In.j0, Bool.false_eq_true, if_false]
  obtain ⟨r, hr, hi⟩ := refIn_loop (a := a) (b := b) (c := c) (d := d) (e := e) (f := f) (g := g) (h := h) n (by omega) n k 0 (by omega) (by omega)
  have hr' : sallyportref06_In.l0 k (n : Int) 0 a b c d e f g h = some r := hr
  rw [hr']
  congr 1
  rw [Bool.eq_iff_iff, hi, inB_bits ha' hb' hc' hd' he' hf' hg' hh' n (by omega)]
  exact ⟨fun H j hj => H j (by omega) hj, fun H j _ hj => H j hj⟩
end Go.Proofs.YteondnhokgmakaaGreatDoor.E


namespace Go.Proofs.YteondnhokgmakaaGreatDoor
open Go.RowKit Go.Proofs.YteondnhokgmakaaGreatDoorW.PrintWords Go.Proofs.YteondnhokgmakaaGreatDoorW.PrintLast Go.Proofs.YteondnhokgmakaaGreatDoor.XC Go.Proofs.YteondnhokgmakaaGreatDoor.XG Go.Proofs.YteondnhokgmakaaGreatDoor.E
set_option linter.unusedVariables false
set_option linter.unusedSimpArgs false
structure StdE (w : World) : Prop where
  std : StdW w
  et : EtW w
theorem StdE.below {w w' : World} (h : StdE w) (hb : Below w.heap.size w w') : StdE w' := ⟨StdW.below h.std hb, EtW.below h.et hb⟩
namespace EE
def okB (a b c d : Int) (n : ByteArray) : Prop := (0 ≤ a ∧ a ≤ 255) ∧ (0 ≤ b ∧ b ≤ 255) ∧ (0 ≤ c ∧ c ≤ 255) ∧ (0 ≤ d ∧ d ≤ 255) ∧ n.size ≤ 281474976710656
instance (a b c d : Int) (n : ByteArray) : Decidable (okB a b c d n) := by unfold okB; exact inferInstance
def refIn.f (a b c d e f g h bi : Int) : Option Bool := if okB a b c d ⟨#[]⟩ ∧ okB e f g h ⟨#[]⟩ then some (inB a b c d e f g h bi) else none
theorem refIn.calls (a b c d e f g h bi : Int) (r : Bool) (w : World) (hS_ : StdE w) (hh : refIn.f a b c d e f g h bi = some r) :
    Calls Tryz.prog 26 #[.agg #[.int .u8 a, .int .u8 b, .int .u8 c, .int .u8 d], .agg #[.int .u8 e, .int .u8 f, .int .u8 g, .int .u8 h], .int .i64 bi] w fun e w' => e = .returned (.bool r) ∧ Below w.heap.size w w' := by
  unfold refIn.f at hh
  split at hh
  · rename_i hc
    obtain rfl := Option.some.inj hh
    exact sallyportref06_In.calls 50 a b c d e f g h bi _ w hS_.std (refIn_f 50 (by decide) a b c d e f g h bi hc.1.1 hc.1.2.1 hc.1.2.2.1 hc.1.2.2.2.1 hc.2.1 hc.2.2.1 hc.2.2.2.1 hc.2.2.2.2.1)
  · cases hh
def hCheck.f (a b c d : Int) (n : ByteArray) : Option Bool := if okB a b c d n then some (checkB a b c d n) else none
theorem hCheck.calls (a b c d : Int) (n : ByteArray) (r : Bool) (w : World) (hS_ : StdE w) (h : hCheck.f a b c d n = some r) :
    Calls Tryz.prog 30 #[.agg #[.int .u8 a, .int .u8 b, .int .u8 c, .int .u8 d, .string n]] w fun e w' => e = .returned (.bool r) ∧ Below w.heap.size w w' := by
  unfold hCheck.f at h
  split at h
  · rename_i hc
    obtain rfl := Option.some.inj h
    exact E.hCheck.calls a b c d n _ w hS_.std (by unfold E.hCheck.f; rw [if_pos hc.2.2.2.2])
  · cases h
def refCheck.f (a b c d : Int) (n : ByteArray) : Option Bool := if okB a b c d n then some (checkB a b c d n) else none
theorem refCheck.calls (a b c d : Int) (n : ByteArray) (r : Bool) (w : World) (hS_ : StdE w) (h : refCheck.f a b c d n = some r) :
    Calls Tryz.prog 31 #[.agg #[.int .u8 a, .int .u8 b, .int .u8 c, .int .u8 d, .string n]] w fun e w' => e = .returned (.bool r) ∧ Below w.heap.size w w' := by
  unfold refCheck.f at h
  split at h
  · rename_i hc
    obtain rfl := Option.some.inj h
    exact E.refCheck.calls a b c d n _ w hS_.std (by unfold E.refCheck.f; rw [if_pos hc.2.2.2.2])
  · cases h
def hPrint.f (a b c d : Int) (n : ByteArray) : Option ByteArray := if okB a b c d n then some (printB a b c d n) else none
theorem hPrint.calls (a b c d : Int) (n : ByteArray) (r : ByteArray) (w : World) (hS_ : StdE w) (h : hPrint.f a b c d n = some r) :
    Calls Tryz.prog 32 #[.agg #[.int .u8 a, .int .u8 b, .int .u8 c, .int .u8 d, .string n]] w fun e w' => e = .returned (.string r) ∧ Below w.heap.size w w' := by
  unfold hPrint.f at h
  split at h
  · rename_i hc
    obtain rfl := Option.some.inj h
    exact E.hPrint.calls a b c d n _ w hS_.std (by unfold E.hPrint.f; exact if_pos hc)
  · cases h
def refPrint.f (a b c d : Int) (n : ByteArray) : Option ByteArray := if okB a b c d n then some (printB a b c d n) else none
theorem refPrint.calls (a b c d : Int) (n : ByteArray) (r : ByteArray) (w : World) (hS_ : StdE w) (h : refPrint.f a b c d n = some r) :
    Calls Tryz.prog 33 #[.agg #[.int .u8 a, .int .u8 b, .int .u8 c, .int .u8 d, .string n]] w fun e w' => e = .returned (.string r) ∧ Below w.heap.size w w' := by
  unfold refPrint.f at h
  split at h
  · rename_i hc
    obtain rfl := Option.some.inj h
    exact sallyportref06_Print.calls 50 a b c d n _ w hS_.std (refPrint_f 50 (by decide) a b c d n hc.1 hc.2.1 hc.2.2.1 hc.2.2.2.1 hc.2.2.2.2)
  · cases h
def hPrintDest.f (a b c d : Int) (n : ByteArray) (po : Int) : Option ByteArray := if okB a b c d n then some (printDestB a b c d n po) else none
theorem hPrintDest.calls (a b c d : Int) (n : ByteArray) (po : Int) (r : ByteArray) (w : World) (hS_ : StdE w) (h : hPrintDest.f a b c d n po = some r) :
    Calls Tryz.prog 34 #[.agg #[.int .u8 a, .int .u8 b, .int .u8 c, .int .u8 d, .string n, .int .i64 po]] w fun e w' => e = .returned (.string r) ∧ Below w.heap.size w w' := by
  unfold hPrintDest.f at h
  split at h
  · rename_i hc
    obtain rfl := Option.some.inj h
    exact E.hPrintDest.calls a b c d n po _ w hS_.std (by unfold E.hPrintDest.f; exact if_pos hc)
  · cases h
def refPrintDest.f (a b c d : Int) (n : ByteArray) (po : Int) : Option ByteArray := if okB a b c d n then some (printDestB a b c d n po) else none
theorem refPrintDest.calls (a b c d : Int) (n : ByteArray) (po : Int) (r : ByteArray) (w : World) (hS_ : StdE w) (h : refPrintDest.f a b c d n po = some r) :
    Calls Tryz.prog 35 #[.agg #[.int .u8 a, .int .u8 b, .int .u8 c, .int .u8 d, .string n, .int .i64 po]] w fun e w' => e = .returned (.string r) ∧ Below w.heap.size w w' := by
  unfold refPrintDest.f at h
  split at h
  · rename_i hc
    obtain rfl := Option.some.inj h
    exact sallyportref06_PrintDest.calls 50 a b c d n po _ w hS_.std (refPrintDest_f 50 (by decide) a b c d n po hc.1 hc.2.1 hc.2.2.1 hc.2.2.2.1 hc.2.2.2.2)
  · cases h
def works06.f : Option Bool := some true
theorem works06.calls (r : Bool) (w : World) (hS_ : StdE w) (h : works06.f = some r) :
    Calls Tryz.prog 29 #[] w fun e w' => e = .returned (.bool r) ∧ Below w.heap.size w w' := by
  obtain rfl := Option.some.inj h
  exact works06_any w hS_.std hS_.et
end EE
end Go.Proofs.YteondnhokgmakaaGreatDoor


namespace Go.Proofs.YteondnhokgmakaaGreatDoor.E
open Go.RowKit Go.Proofs.YteondnhokgmakaaGreatDoorW.PrintWords Go.Proofs.YteondnhokgmakaaGreatDoorW.PrintLast Go.Proofs.YteondnhokgmakaaGreatDoor.XC
set_option linter.unusedVariables false
set_option linter.unusedSimpArgs false
def PDV (r : Option DestT) (e : Ending) : Prop := match r with
  | none => ∃ t x, e = .returned (.tuple #[zDest, .iface t x])
  | some (a, b, c, d, n, po) => e = .returned (.tuple #[.agg (dC a b c d n po), .nilIface])
theorem pdv_none {w' : World} {e : Ending} {v : Value} {ch : List (ByteArray × Int)} {co : Int} (he : e = .returned (.tuple #[zDest, v])) (hi : ErrIs w' v ch co) : PDV none e := by
  obtain ⟨t, x, rfl⟩ := hi.iface
  exact ⟨t, x, he⟩
theorem pdest_any (s : ByteArray) (hs : s.size ≤ 281474976710656) (w : World) (hS : StdE w) :
    Calls Tryz.prog 36 #[.string s] w fun e w' => PDV (pdRes s) e ∧ Below w.heap.size w w' := by
  unfold pdRes
  by_cases h1 : 259 < s.size
  · rw [if_pos h1]
    exact (pdest_long s h1 hs w).mono fun e w' ⟨v, he, hi, hb⟩ => ⟨pdv_none he hi, hb⟩
  rw [if_neg h1]
  have HL := fun W (_ : StdW W) => lastIx s hs W
  by_cases h2 : Lib.lastIndexByte s 58 < 0
  · rw [if_pos h2]
    exact (pdest_none s (by omega) _ h2 HL w hS.std).mono fun e w' ⟨v, he, hi, hb⟩ => ⟨pdv_none he hi, hb⟩
  rw [if_neg h2]
  have hlt : ∃ i : Nat, i < s.size ∧ Lib.lastIndexByte s 58 = (i : Int) := by
    rcases Lib.lastIndexByte_spec s 58 with ⟨e, _⟩ | ⟨i, hi, e, _⟩
    · rw [e] at h2; exact absurd (by decide) h2
    · exact ⟨i, hi, e⟩
  obtain ⟨i, hlt, hi⟩ := hlt
  rw [hi] at HL
  rw [hi, Int.toNat_natCast]
  have z1 : (s.extract 0 i).size ≤ 281474976710656 := by rw [ByteArray.size_extract]; omega
  have z2 : (s.extract (i + 1) s.size).size ≤ 281474976710656 := by rw [ByteArray.size_extract]; omega
  cases hr : hpRes (s.extract 0 i) with
  | inl x =>
    obtain ⟨a, c⟩ := x
    exact (pdest_host s (by omega) i hlt [(hostS, a)] c HL (fun W h => by
      have h := hparse_any (s.extract 0 i) z1 W h
      rw [hr] at h
      exact h.mono (fun e w' ⟨hb, v, he, hi⟩ => ⟨v, he, hi, hb⟩)) w hS.std).mono fun e w' ⟨v, he, hi, hb⟩ => ⟨pdv_none he hi, hb⟩
  | inr x =>
    obtain ⟨l, n⟩ := x
    have HP : ∀ W, StdW W → Calls Tryz.prog 57 #[.string (s.extract 0 i)] W fun e w' => e = .returned (.tuple #[.agg #[.int .u8 (l.getD 0 0), .int .u8 (l.getD 1 0), .int .u8 (l.getD 2 0), .int .u8 (l.getD 3 0), .string n], .nilIface]) ∧ Below W.heap.size W w' := fun W h => by
      have h := hparse_any (s.extract 0 i) z1 W h
      rw [hr] at h
      exact h.mono (fun e w' ⟨hb, he⟩ => ⟨he, hb⟩)
    cases hp : ppoRes (s.extract (i + 1) s.size) with
    | none =>
      exact (pdest_port s (by omega) i hlt _ _ _ _ n 62 HL HP (fun W h => by
        have h := hport_any (s.extract (i + 1) s.size) z2 W h
        rw [hp] at h
        exact h.mono (fun e w' ⟨hb, v, he, hi⟩ => ⟨v, he, hi, hb⟩)) w hS.std hS.et).mono fun e w' ⟨v, he, hi, hb⟩ => ⟨pdv_none he hi, hb⟩
    | some po =>
      exact (pdest_ok s (by omega) i hlt _ _ _ _ n po HL HP (fun W h => by
        have h := hport_any (s.extract (i + 1) s.size) z2 W h
        rw [hp] at h
        exact h.mono (fun e w' ⟨hb, he⟩ => ⟨he, hb⟩)) w hS.std).mono fun e w' ⟨he, hb⟩ => ⟨he, hb⟩
end Go.Proofs.YteondnhokgmakaaGreatDoor.E


namespace Go.Proofs.YteondnhokgmakaaGreatDoor.E
open Go.RowKit Go.ChangeShapes Go.WideShapes Go.Deep Go.Proofs.YteondnhokgmakaaGreatDoorW.PrintWords Go.Proofs.YteondnhokgmakaaGreatDoorW.PrintLast Go.Proofs.YteondnhokgmakaaGreatDoor.XC
set_option linter.unusedVariables false
set_option linter.unusedSimpArgs false
section
variable {H : Type} {enc : TypeId × Value → H} {w : World} {base : Nat} {spare : Nat → Bool} {held : Bool}
theorem cellsAddr : Tryz.prog.cellsOf 24 = 4 := by kernel_rfl
theorem cellsHost : Tryz.prog.cellsOf 26 = 5 := by kernel_rfl
theorem cellsDest : Tryz.prog.cellsOf 28 = 6 := by kernel_rfl
theorem cellsU8 : Tryz.prog.cellsOf 5 = 1 := by kernel_rfl
theorem cellsInt : Tryz.prog.cellsOf 3 = 1 := by kernel_rfl
theorem cellsStr : Tryz.prog.cellsOf 9 = 1 := by kernel_rfl
def inU8 (a : Int) : Prop := 0 ≤ a ∧ a ≤ 255
theorem four_of {l : List Value} (h : l.length = 4) : ∃ a b c d, l = [a, b, c, d] := by
  match l, h with
  | [a, b, c, d], _ => exact ⟨a, b, c, d, rfl⟩
theorem open_addr {fuel : Nat} {cs : List Value} {x : DataW H × List MemPlace} (h : DataW.trod enc Tryz.prog w base spare held fuel 24 cs = some x) :
    ∃ a b c d, cs = [.int .u8 a, .int .u8 b, .int .u8 c, .int .u8 d] ∧ inU8 a ∧ inU8 b ∧ inU8 c ∧ inU8 d := by
  obtain ⟨xs, n, -, -, hl, hxl, hf⟩ := DataW.trod_struct Tryz.underlying24 h
  obtain ⟨v0, v1, v2, v3, rfl⟩ := four_of (hl.trans cellsAddr)
  obtain ⟨y0, h0⟩ : ∃ y, xs[0]? = some y := ⟨_, List.getElem?_eq_getElem (by rw [hxl]; decide)⟩
  obtain ⟨y1, h1⟩ : ∃ y, xs[1]? = some y := ⟨_, List.getElem?_eq_getElem (by rw [hxl]; decide)⟩
  obtain ⟨y2, h2⟩ : ∃ y, xs[2]? = some y := ⟨_, List.getElem?_eq_getElem (by rw [hxl]; decide)⟩
  obtain ⟨y3, h3⟩ : ∃ y, xs[3]? = some y := ⟨_, List.getElem?_eq_getElem (by rw [hxl]; decide)⟩
  have g0 : DataW.trod enc Tryz.prog w base spare held n 5 ((([v0, v1, v2, v3] : List Value).drop 0).take (Tryz.prog.cellsOf 5)) = xs[0]? := hf 0 _ rfl
  have g1 : DataW.trod enc Tryz.prog w base spare held n 5 ((([v0, v1, v2, v3] : List Value).drop 1).take (Tryz.prog.cellsOf 5)) = xs[1]? := hf 1 _ rfl
  have g2 : DataW.trod enc Tryz.prog w base spare held n 5 ((([v0, v1, v2, v3] : List Value).drop 2).take (Tryz.prog.cellsOf 5)) = xs[2]? := hf 2 _ rfl
  have g3 : DataW.trod enc Tryz.prog w base spare held n 5 ((([v0, v1, v2, v3] : List Value).drop 3).take (Tryz.prog.cellsOf 5)) = xs[3]? := hf 3 _ rfl
  simp only [cellsU8, List.drop_zero, List.drop_succ_cons, List.take_succ_cons, List.take_zero] at g0 g1 g2 g3
  rw [h0] at g0; rw [h1] at g1; rw [h2] at g2; rw [h3] at g3
  obtain ⟨a, ea, -, ha⟩ := DataW.trod_int Tryz.underlying5 g0
  obtain ⟨b, eb, -, hb⟩ := DataW.trod_int Tryz.underlying5 g1
  obtain ⟨c, ec, -, hc⟩ := DataW.trod_int Tryz.underlying5 g2
  obtain ⟨d, ed, -, hd⟩ := DataW.trod_int Tryz.underlying5 g3
  cases ea; cases eb; cases ec; cases ed
  exact ⟨a, b, c, d, rfl, bounds_u8 ha, bounds_u8 hb, bounds_u8 hc, bounds_u8 hd⟩
def okI (n : Int) : Prop := -9223372036854775808 ≤ n ∧ n ≤ 9223372036854775807
theorem wf_i64 {n : Int} (h : (Lit.int .i64 n).wf = true) : okI n := by
  simp only [Lit.wf, Bool.and_eq_true, decide_eq_true_eq] at h
  exact ⟨h.1, h.2⟩
theorem six_of {l : List Value} (h : l.length = 6) : ∃ a b c d e f, l = [a, b, c, d, e, f] := by
  match l, h with
  | [a, b, c, d, e, f], _ => exact ⟨a, b, c, d, e, f, rfl⟩
theorem five_of {l : List Value} (h : l.length = 5) : ∃ a b c d e, l = [a, b, c, d, e] := by
  match l, h with
  | [a, b, c, d, e], _ => exact ⟨a, b, c, d, e, rfl⟩
theorem open_host {fuel : Nat} {cs : List Value} {x : DataW H × List MemPlace} (h : DataW.trod enc Tryz.prog w base spare held fuel 26 cs = some x) :
    ∃ a b c d n, cs = [.int .u8 a, .int .u8 b, .int .u8 c, .int .u8 d, .string n] ∧ (inU8 a ∧ inU8 b ∧ inU8 c ∧ inU8 d) ∧ n.size ∈ x.1.weights Tryz.prog 26 := by
  obtain ⟨xs, m, -, hx, hl, hxl, hf⟩ := DataW.trod_struct Tryz.underlying26 h
  obtain ⟨v0, v1, v2, v3, v4, rfl⟩ := five_of (hl.trans cellsHost)
  obtain ⟨y0, h0⟩ : ∃ y, xs[0]? = some y := ⟨_, List.getElem?_eq_getElem (by rw [hxl]; decide)⟩
  obtain ⟨y1, h1⟩ : ∃ y, xs[1]? = some y := ⟨_, List.getElem?_eq_getElem (by rw [hxl]; decide)⟩
  have g0 : DataW.trod enc Tryz.prog w base spare held m 24 ((([v0, v1, v2, v3, v4] : List Value).drop 0).take (Tryz.prog.cellsOf 24)) = xs[0]? := hf 0 _ rfl
  have g1 : DataW.trod enc Tryz.prog w base spare held m 9 ((([v0, v1, v2, v3, v4] : List Value).drop 4).take (Tryz.prog.cellsOf 9)) = xs[1]? := hf 1 _ rfl
  simp only [cellsAddr, cellsStr, List.drop_zero, List.drop_succ_cons, List.take_succ_cons, List.take_zero] at g0 g1
  rw [h0] at g0; rw [h1] at g1
  obtain ⟨a, b, c, d, eb, ha, hb, hc, hd⟩ := open_addr g0
  obtain ⟨n, ed, hsu, -⟩ := DataW.trod_string Tryz.underlying9 g1
  cases eb; cases ed
  refine ⟨a, b, c, d, n, rfl, ⟨ha, hb, hc, hd⟩, ?_⟩
  rw [hx]
  simp only [DataW.weights, Tryz.underlying26]
  refine DataW.weights_mem_each (j := 1) (t := 9) (d := y1.1) rfl (by rw [List.getElem?_map, h1]; rfl) _ ?_
  rw [hsu]
  unfold DataW.weights
  exact List.mem_singleton.2 (Array.length_toList (xs := n.data)).symm
theorem open_dest {fuel : Nat} {cs : List Value} {x : DataW H × List MemPlace} (h : DataW.trod enc Tryz.prog w base spare held fuel 28 cs = some x) :
    ∃ a b c d n po, cs = [.int .u8 a, .int .u8 b, .int .u8 c, .int .u8 d, .string n, .int .i64 po] ∧ (inU8 a ∧ inU8 b ∧ inU8 c ∧ inU8 d) ∧ okI po ∧ n.size ∈ x.1.weights Tryz.prog 28 := by
  obtain ⟨xs, m, -, hx, hl, hxl, hf⟩ := DataW.trod_struct Tryz.underlying28 h
  obtain ⟨v0, v1, v2, v3, v4, v5, rfl⟩ := six_of (hl.trans cellsDest)
  obtain ⟨y0, h0⟩ : ∃ y, xs[0]? = some y := ⟨_, List.getElem?_eq_getElem (by rw [hxl]; decide)⟩
  obtain ⟨y1, h1⟩ : ∃ y, xs[1]? = some y := ⟨_, List.getElem?_eq_getElem (by rw [hxl]; decide)⟩
  have g0 : DataW.trod enc Tryz.prog w base spare held m 26 ((([v0, v1, v2, v3, v4, v5] : List Value).drop 0).take (Tryz.prog.cellsOf 26)) = xs[0]? := hf 0 _ rfl
  have g1 : DataW.trod enc Tryz.prog w base spare held m 3 ((([v0, v1, v2, v3, v4, v5] : List Value).drop 5).take (Tryz.prog.cellsOf 3)) = xs[1]? := hf 1 _ rfl
  simp only [cellsHost, cellsInt, List.drop_zero, List.drop_succ_cons, List.take_succ_cons, List.take_zero] at g0 g1
  rw [h0] at g0; rw [h1] at g1
  obtain ⟨a, b, c, d, n, eb, hb, hw⟩ := open_host g0
  obtain ⟨po, ed, -, hpo⟩ := DataW.trod_int Tryz.underlying3 g1
  cases eb; cases ed
  refine ⟨a, b, c, d, n, po, rfl, hb, wf_i64 hpo, ?_⟩
  rw [hx]
  simp only [DataW.weights, Tryz.underlying28]
  exact DataW.weights_mem_each (j := 0) (t := 26) (d := y0.1) rfl (by rw [List.getElem?_map, h0]; rfl) _ hw
end
end Go.Proofs.YteondnhokgmakaaGreatDoor.E


namespace Go.Proofs.YteondnhokgmakaaGreatDoor.E
open Go.RowKit Go.Proofs.YteondnhokgmakaaGreatDoorW.PrintWords Go.Proofs.YteondnhokgmakaaGreatDoorW.PrintLast Go.Proofs.YteondnhokgmakaaGreatDoor.XC
set_option linter.unusedVariables false
set_option linter.unusedSimpArgs false
theorem pd_err (s : ByteArray) (hs : s.size ≤ 281474976710656) (hr : pdRes s = none) (w : World) (hS : StdE w) :
    Calls Tryz.prog 36 #[.string s] w fun e w' => (∃ t x, e = .returned (.tuple #[.agg #[.int .u8 0, .int .u8 0, .int .u8 0, .int .u8 0, .string ⟨#[]⟩, .int .i64 0], .iface t x])) ∧ Below w.heap.size w w' := by
  have h := pdest_any s hs w hS
  rw [hr] at h
  exact h
theorem pd_ok (s : ByteArray) (a b c d : Int) (n : ByteArray) (po : Int) (hs : s.size ≤ 281474976710656) (hr : pdRes s = some (a, b, c, d, n, po)) (w : World) (hS : StdE w) :
    Calls Tryz.prog 36 #[.string s] w fun e w' => e = .returned (.tuple #[.agg #[.int .u8 a, .int .u8 b, .int .u8 c, .int .u8 d, .string n, .int .i64 po], .nilIface]) ∧ Below w.heap.size w w' := by
  have h := pdest_any s hs w hS
  rw [hr] at h
  exact h
theorem pr_any (a b c d : Int) (n : ByteArray) (po : Int) (t : ByteArray) (hb : okB4 a b c d) (hn : n.size ≤ 281474976710656) (ht : printDestB a b c d n po = t) (w : World) (hS : StdE w) :
    Calls Tryz.prog 34 #[.agg #[.int .u8 a, .int .u8 b, .int .u8 c, .int .u8 d, .string n, .int .i64 po]] w fun e w' => e = .returned (.string t) ∧ Below w.heap.size w w' :=
  hPrintDest.calls a b c d n po t w hS.std (by unfold hPrintDest.f; rw [if_pos ⟨hb.1, hb.2.1, hb.2.2.1, hb.2.2.2, hn⟩, ht])
theorem wk_any (w : World) (hS : StdE w) : Calls Tryz.prog 29 #[] w fun e w' => e = .returned (.bool true) ∧ Below w.heap.size w w' := works06_any w hS.std hS.et
theorem lo_any (s t : ByteArray) (hs : s.size ≤ 281474976710656) (ht : (⟨(Lib.toLowerA s.data.toList).toArray⟩ : ByteArray) = t) (w : World) : Calls Tryz.prog 37 #[.string s] w fun e w' => e = .returned (.string t) ∧ Below w.heap.size w w' := by
  subst ht
  exact lower_any s hs w
set_option maxRecDepth 100000 in
set_option maxHeartbeats 8000000 in
theorem hb_00 (a b c d : Int) (n : ByteArray) (po : Int) (t s : ByteArray) (HPD : ∀ W, StdE W → Calls Tryz.prog 34 #[.agg #[.int .u8 a, .int .u8 b, .int .u8 c, .int .u8 d, .string n, .int .i64 po]] W fun e w' => e = .returned (.string t) ∧ Below W.heap.size W w') (h1 : t.toList.isEmpty = true) (HPS : ∀ W, StdE W → Calls Tryz.prog 36 #[.string s] W fun e w' => (∃ t x, e = .returned (.tuple #[.agg #[.int .u8 0, .int .u8 0, .int .u8 0, .int .u8 0, .string ⟨#[]⟩, .int .i64 0], .iface t x])) ∧ Below W.heap.size W w') (w : World) (hS : StdE w) :
    Calls Tryz.prog 9 #[.agg #[.int .u8 a, .int .u8 b, .int .u8 c, .int .u8 d, .string n, .int .i64 po], .string s] w fun e w' => e = .returned (.bool true) ∧ Below w.heap.size w w' := by
  have HPD' := Lib.hid HPD
  have HPS' := Lib.hid HPS
  have HW' := Lib.hid wk_any
  have HS := Lib.hid hS
  clear hS HPD HPS
  go_enter Tryz.func9, Tryz.ntmps9
  go_wp2_with (go_at_call 29; (with_reducible refine (HW'.out _ (StdE.below HS.out (below_alloc (Below.refl _ _) _))).mono ?_); rintro e w1 ⟨rfl, hb1⟩; have HB1 : Hid (Below w.heap.size w w1) := Lib.hid (below_then (below_alloc (Below.refl _ _) _) (below_alloc (Below.refl _ _) _).size hb1); have HZ1 : Hid (Blk w1 w.heap.size (dC a b c d n po) 28) := Lib.hid ((Blk.new w (dC a b c d n po) 28).below hb1); obtain ⟨c0, c1, c2, c3, c4, c5, -⟩ := (HZ1.out).dix; clear hb1)
  go_wp2_with (go_at_call 34; (with_reducible refine (HPD'.out _ (StdE.below HS.out (HB1.out))).mono ?_); rintro e w2 ⟨rfl, hb2⟩; have HB2 : Hid (Below w.heap.size w w2) := Lib.hid (below_then (HB1.out) (HB1.out).size hb2); have HZ2 : Hid (Blk w2 w.heap.size (dC a b c d n po) 28) := Lib.hid (HZ1.out.below hb2); clear c0 c1 c2 c3 c4 c5; clear hb2)
  go_wp2_with (go_at_call 36; (with_reducible refine (HPS'.out _ (StdE.below HS.out (HB2.out))).mono ?_); rintro e w4 ⟨⟨et, ex, rfl⟩, hb4⟩; have HB4 : Hid (Below w.heap.size w w4) := Lib.hid (below_then (HB2.out) (HB2.out).size hb4); clear hb4)
  go_ret
  exact ⟨rfl, below_alloc HB4.out _⟩
set_option maxRecDepth 100000 in
set_option maxHeartbeats 8000000 in
theorem hb_01 (a b c d : Int) (n : ByteArray) (po : Int) (t s : ByteArray) (a1 b1 c1 d1 : Int) (n1 : ByteArray) (p1 : Int) (u : ByteArray) (HPD : ∀ W, StdE W → Calls Tryz.prog 34 #[.agg #[.int .u8 a, .int .u8 b, .int .u8 c, .int .u8 d, .string n, .int .i64 po]] W fun e w' => e = .returned (.string t) ∧ Below W.heap.size W w') (h1 : t.toList.isEmpty = true) (HPS : ∀ W, StdE W → Calls Tryz.prog 36 #[.string s] W fun e w' => e = .returned (.tuple #[.agg #[.int .u8 a1, .int .u8 b1, .int .u8 c1, .int .u8 d1, .string n1, .int .i64 p1], .nilIface]) ∧ Below W.heap.size W w') (HPX : ∀ W, StdE W → Calls Tryz.prog 34 #[.agg #[.int .u8 a1, .int .u8 b1, .int .u8 c1, .int .u8 d1, .string n1, .int .i64 p1]] W fun e w' => e = .returned (.string u) ∧ Below W.heap.size W w') (HPU : ∀ W, StdE W → Calls Tryz.prog 36 #[.string u] W fun e w' => e = .returned (.tuple #[.agg #[.int .u8 a1, .int .u8 b1, .int .u8 c1, .int .u8 d1, .string n1, .int .i64 p1], .nilIface]) ∧ Below W.heap.size W w') (HLO : ∀ W, Calls Tryz.prog 37 #[.string s] W fun e w' => e = .returned (.string u) ∧ Below W.heap.size W w') (w : World) (hS : StdE w) :
    Calls Tryz.prog 9 #[.agg #[.int .u8 a, .int .u8 b, .int .u8 c, .int .u8 d, .string n, .int .i64 po], .string s] w fun e w' => e = .returned (.bool true) ∧ Below w.heap.size w w' := by
  have HPD' := Lib.hid HPD
  have HPS' := Lib.hid HPS
  have HPX' := Lib.hid HPX
  have HPU' := Lib.hid HPU
  have HLO' := Lib.hid HLO
  have HW' := Lib.hid wk_any
  have HS := Lib.hid hS
  clear hS HPD HPS HPX HPU HLO
  go_enter Tryz.func9, Tryz.ntmps9
  go_wp2_with (go_at_call 29; (with_reducible refine (HW'.out _ (StdE.below HS.out (below_alloc (Below.refl _ _) _))).mono ?_); rintro e w1 ⟨rfl, hb1⟩; have HB1 : Hid (Below w.heap.size w w1) := Lib.hid (below_then (below_alloc (Below.refl _ _) _) (below_alloc (Below.refl _ _) _).size hb1); have HZ1 : Hid (Blk w1 w.heap.size (dC a b c d n po) 28) := Lib.hid ((Blk.new w (dC a b c d n po) 28).below hb1); obtain ⟨c0, c1, c2, c3, c4, c5, -⟩ := (HZ1.out).dix; clear hb1)
  go_wp2_with (go_at_call 34; (with_reducible refine (HPD'.out _ (StdE.below HS.out (HB1.out))).mono ?_); rintro e w2 ⟨rfl, hb2⟩; have HB2 : Hid (Below w.heap.size w w2) := Lib.hid (below_then (HB1.out) (HB1.out).size hb2); have HZ2 : Hid (Blk w2 w.heap.size (dC a b c d n po) 28) := Lib.hid (HZ1.out.below hb2); clear c0 c1 c2 c3 c4 c5; clear hb2)
  go_wp2_with (go_at_call 36; (with_reducible refine (HPS'.out _ (StdE.below HS.out (HB2.out))).mono ?_); rintro e w4 ⟨rfl, hb4⟩; have HB4 : Hid (Below w.heap.size w w4) := Lib.hid (below_then (HB2.out) (HB2.out).size hb4); clear hb4)
  have HZ4 := Lib.hid (Blk.new w4 (dC a1 b1 c1 d1 n1 p1) 28)
  go_wp2_with (go_at_call 34; (with_reducible refine (HPX'.out _ (StdE.below HS.out (below_alloc HB4.out _))).mono ?_); rintro e w5 ⟨rfl, hb5⟩; have HB5 : Hid (Below w.heap.size w w5) := Lib.hid (below_then (below_alloc HB4.out _) (below_alloc HB4.out _).size hb5); have HZ5 : Hid (Blk w5 w4.heap.size (dC a1 b1 c1 d1 n1 p1) 28) := Lib.hid (HZ4.out.below hb5); clear hb5)
  go_wp2_with (go_at_call 36; (with_reducible refine (HPU'.out _ (StdE.below HS.out (HB5.out))).mono ?_); rintro e w6 ⟨rfl, hb6⟩; have HB6 : Hid (Below w.heap.size w w6) := Lib.hid (below_then (HB5.out) (HB5.out).size hb6); have HZ6 : Hid (Blk (w6.alloc (.cells #[.int .u8 a1, .int .u8 b1, .int .u8 c1, .int .u8 d1, .string n1, .int .i64 p1] 28)) w4.heap.size (dC a1 b1 c1 d1 n1 p1) 28) := Lib.hid ((HZ5.out.below hb6).old _); have HY6 := Lib.hid (Blk.new w6 (dC a1 b1 c1 d1 n1 p1) 28); clear hb6)
  go_wp2_with (go_at_call 37; (with_reducible refine (HLO'.out _).mono ?_); rintro e w7 ⟨rfl, hb7⟩; have HB7 : Hid (Below w.heap.size w w7) := Lib.hid (below_then (below_alloc HB6.out _) (below_alloc HB6.out _).size hb7); have hz7 := HZ6.out.below hb7; have hy7 := HY6.out.below hb7; obtain ⟨c0, c1, c2, c3, c4, c5, -⟩ := (hz7).dix; obtain ⟨y0, y1, y2, y3, y4, y5, -⟩ := (hy7).dix; clear hz7 hy7; clear hb7)
  go_ret
  exact ⟨rfl, HB7.out⟩
set_option maxRecDepth 100000 in
set_option maxHeartbeats 8000000 in
theorem hb_10 (a b c d : Int) (n : ByteArray) (po : Int) (t s : ByteArray) (HPD : ∀ W, StdE W → Calls Tryz.prog 34 #[.agg #[.int .u8 a, .int .u8 b, .int .u8 c, .int .u8 d, .string n, .int .i64 po]] W fun e w' => e = .returned (.string t) ∧ Below W.heap.size W w') (h1 : t.toList.isEmpty = false) (HPT : ∀ W, StdE W → Calls Tryz.prog 36 #[.string t] W fun e w' => e = .returned (.tuple #[.agg #[.int .u8 a, .int .u8 b, .int .u8 c, .int .u8 d, .string n, .int .i64 po], .nilIface]) ∧ Below W.heap.size W w') (HPS : ∀ W, StdE W → Calls Tryz.prog 36 #[.string s] W fun e w' => (∃ t x, e = .returned (.tuple #[.agg #[.int .u8 0, .int .u8 0, .int .u8 0, .int .u8 0, .string ⟨#[]⟩, .int .i64 0], .iface t x])) ∧ Below W.heap.size W w') (w : World) (hS : StdE w) :
    Calls Tryz.prog 9 #[.agg #[.int .u8 a, .int .u8 b, .int .u8 c, .int .u8 d, .string n, .int .i64 po], .string s] w fun e w' => e = .returned (.bool true) ∧ Below w.heap.size w w' := by
  have HPD' := Lib.hid HPD
  have HPT' := Lib.hid HPT
  have HPS' := Lib.hid HPS
  have HW' := Lib.hid wk_any
  have HS := Lib.hid hS
  clear hS HPD HPT HPS
  go_enter Tryz.func9, Tryz.ntmps9
  go_wp2_with (go_at_call 29; (with_reducible refine (HW'.out _ (StdE.below HS.out (below_alloc (Below.refl _ _) _))).mono ?_); rintro e w1 ⟨rfl, hb1⟩; have HB1 : Hid (Below w.heap.size w w1) := Lib.hid (below_then (below_alloc (Below.refl _ _) _) (below_alloc (Below.refl _ _) _).size hb1); have HZ1 : Hid (Blk w1 w.heap.size (dC a b c d n po) 28) := Lib.hid ((Blk.new w (dC a b c d n po) 28).below hb1); obtain ⟨c0, c1, c2, c3, c4, c5, -⟩ := (HZ1.out).dix; clear hb1)
  go_wp2_with (go_at_call 34; (with_reducible refine (HPD'.out _ (StdE.below HS.out (HB1.out))).mono ?_); rintro e w2 ⟨rfl, hb2⟩; have HB2 : Hid (Below w.heap.size w w2) := Lib.hid (below_then (HB1.out) (HB1.out).size hb2); have HZ2 : Hid (Blk w2 w.heap.size (dC a b c d n po) 28) := Lib.hid (HZ1.out.below hb2); clear c0 c1 c2 c3 c4 c5; clear hb2)
  go_wp2_with (go_at_call 36; (with_reducible refine (HPT'.out _ (StdE.below HS.out (HB2.out))).mono ?_); rintro e w3 ⟨rfl, hb3⟩; have HB3 : Hid (Below w.heap.size w w3) := Lib.hid (below_then (HB2.out) (HB2.out).size hb3); have hz3 := (HZ2.out.below hb3).old (.cells #[.int .u8 a, .int .u8 b, .int .u8 c, .int .u8 d, .string n, .int .i64 po] 28); have hlt3 : w.heap.size < w3.heap.size := (HZ2.out.below hb3).lt; obtain ⟨c0, c1, c2, c3, c4, c5, -⟩ := (hz3).dix; clear hz3; clear hb3)
  go_wp2_with (go_at_call 36; (with_reducible refine (HPS'.out _ (StdE.below HS.out (below_alloc HB3.out _))).mono ?_); rintro e w4 ⟨⟨et, ex, rfl⟩, hb4⟩; have HB4 : Hid (Below w.heap.size w w4) := Lib.hid (below_then (below_alloc HB3.out _) (below_alloc HB3.out _).size hb4); clear c0 c1 c2 c3 c4 c5; clear hb4)
  go_ret
  exact ⟨rfl, below_alloc HB4.out _⟩
set_option maxRecDepth 100000 in
set_option maxHeartbeats 8000000 in
theorem hb_11 (a b c d : Int) (n : ByteArray) (po : Int) (t s : ByteArray) (a1 b1 c1 d1 : Int) (n1 : ByteArray) (p1 : Int) (u : ByteArray) (HPD : ∀ W, StdE W → Calls Tryz.prog 34 #[.agg #[.int .u8 a, .int .u8 b, .int .u8 c, .int .u8 d, .string n, .int .i64 po]] W fun e w' => e = .returned (.string t) ∧ Below W.heap.size W w') (h1 : t.toList.isEmpty = false) (HPT : ∀ W, StdE W → Calls Tryz.prog 36 #[.string t] W fun e w' => e = .returned (.tuple #[.agg #[.int .u8 a, .int .u8 b, .int .u8 c, .int .u8 d, .string n, .int .i64 po], .nilIface]) ∧ Below W.heap.size W w') (HPS : ∀ W, StdE W → Calls Tryz.prog 36 #[.string s] W fun e w' => e = .returned (.tuple #[.agg #[.int .u8 a1, .int .u8 b1, .int .u8 c1, .int .u8 d1, .string n1, .int .i64 p1], .nilIface]) ∧ Below W.heap.size W w') (HPX : ∀ W, StdE W → Calls Tryz.prog 34 #[.agg #[.int .u8 a1, .int .u8 b1, .int .u8 c1, .int .u8 d1, .string n1, .int .i64 p1]] W fun e w' => e = .returned (.string u) ∧ Below W.heap.size W w') (HPU : ∀ W, StdE W → Calls Tryz.prog 36 #[.string u] W fun e w' => e = .returned (.tuple #[.agg #[.int .u8 a1, .int .u8 b1, .int .u8 c1, .int .u8 d1, .string n1, .int .i64 p1], .nilIface]) ∧ Below W.heap.size W w') (HLO : ∀ W, Calls Tryz.prog 37 #[.string s] W fun e w' => e = .returned (.string u) ∧ Below W.heap.size W w') (w : World) (hS : StdE w) :
    Calls Tryz.prog 9 #[.agg #[.int .u8 a, .int .u8 b, .int .u8 c, .int .u8 d, .string n, .int .i64 po], .string s] w fun e w' => e = .returned (.bool true) ∧ Below w.heap.size w w' := by
  have HPD' := Lib.hid HPD
  have HPT' := Lib.hid HPT
  have HPS' := Lib.hid HPS
  have HPX' := Lib.hid HPX
  have HPU' := Lib.hid HPU
  have HLO' := Lib.hid HLO
  have HW' := Lib.hid wk_any
  have HS := Lib.hid hS
  clear hS HPD HPT HPS HPX HPU HLO
  go_enter Tryz.func9, Tryz.ntmps9
  go_wp2_with (go_at_call 29; (with_reducible refine (HW'.out _ (StdE.below HS.out (below_alloc (Below.refl _ _) _))).mono ?_); rintro e w1 ⟨rfl, hb1⟩; have HB1 : Hid (Below w.heap.size w w1) := Lib.hid (below_then (below_alloc (Below.refl _ _) _) (below_alloc (Below.refl _ _) _).size hb1); have HZ1 : Hid (Blk w1 w.heap.size (dC a b c d n po) 28) := Lib.hid ((Blk.new w (dC a b c d n po) 28).below hb1); obtain ⟨c0, c1, c2, c3, c4, c5, -⟩ := (HZ1.out).dix; clear hb1)
  go_wp2_with (go_at_call 34; (with_reducible refine (HPD'.out _ (StdE.below HS.out (HB1.out))).mono ?_); rintro e w2 ⟨rfl, hb2⟩; have HB2 : Hid (Below w.heap.size w w2) := Lib.hid (below_then (HB1.out) (HB1.out).size hb2); have HZ2 : Hid (Blk w2 w.heap.size (dC a b c d n po) 28) := Lib.hid (HZ1.out.below hb2); clear c0 c1 c2 c3 c4 c5; clear hb2)
  go_wp2_with (go_at_call 36; (with_reducible refine (HPT'.out _ (StdE.below HS.out (HB2.out))).mono ?_); rintro e w3 ⟨rfl, hb3⟩; have HB3 : Hid (Below w.heap.size w w3) := Lib.hid (below_then (HB2.out) (HB2.out).size hb3); have hz3 := (HZ2.out.below hb3).old (.cells #[.int .u8 a, .int .u8 b, .int .u8 c, .int .u8 d, .string n, .int .i64 po] 28); have hlt3 : w.heap.size < w3.heap.size := (HZ2.out.below hb3).lt; obtain ⟨c0, c1, c2, c3, c4, c5, -⟩ := (hz3).dix; clear hz3; clear hb3)
  go_wp2_with (go_at_call 36; (with_reducible refine (HPS'.out _ (StdE.below HS.out (below_alloc HB3.out _))).mono ?_); rintro e w4 ⟨rfl, hb4⟩; have HB4 : Hid (Below w.heap.size w w4) := Lib.hid (below_then (below_alloc HB3.out _) (below_alloc HB3.out _).size hb4); clear c0 c1 c2 c3 c4 c5; clear hb4)
  have HZ4 := Lib.hid (Blk.new w4 (dC a1 b1 c1 d1 n1 p1) 28)
  go_wp2_with (go_at_call 34; (with_reducible refine (HPX'.out _ (StdE.below HS.out (below_alloc HB4.out _))).mono ?_); rintro e w5 ⟨rfl, hb5⟩; have HB5 : Hid (Below w.heap.size w w5) := Lib.hid (below_then (below_alloc HB4.out _) (below_alloc HB4.out _).size hb5); have HZ5 : Hid (Blk w5 w4.heap.size (dC a1 b1 c1 d1 n1 p1) 28) := Lib.hid (HZ4.out.below hb5); clear hb5)
  go_wp2_with (go_at_call 36; (with_reducible refine (HPU'.out _ (StdE.below HS.out (HB5.out))).mono ?_); rintro e w6 ⟨rfl, hb6⟩; have HB6 : Hid (Below w.heap.size w w6) := Lib.hid (below_then (HB5.out) (HB5.out).size hb6); have HZ6 : Hid (Blk (w6.alloc (.cells #[.int .u8 a1, .int .u8 b1, .int .u8 c1, .int .u8 d1, .string n1, .int .i64 p1] 28)) w4.heap.size (dC a1 b1 c1 d1 n1 p1) 28) := Lib.hid ((HZ5.out.below hb6).old _); have HY6 := Lib.hid (Blk.new w6 (dC a1 b1 c1 d1 n1 p1) 28); clear hb6)
  go_wp2_with (go_at_call 37; (with_reducible refine (HLO'.out _).mono ?_); rintro e w7 ⟨rfl, hb7⟩; have HB7 : Hid (Below w.heap.size w w7) := Lib.hid (below_then (below_alloc HB6.out _) (below_alloc HB6.out _).size hb7); have hz7 := HZ6.out.below hb7; have hy7 := HY6.out.below hb7; obtain ⟨c0, c1, c2, c3, c4, c5, -⟩ := (hz7).dix; obtain ⟨y0, y1, y2, y3, y4, y5, -⟩ := (hy7).dix; clear hz7 hy7; clear hb7)
  go_ret
  exact ⟨rfl, HB7.out⟩
theorem hostBack_walk (a b c d : Int) (n : ByteArray) (po : Int) (s : ByteArray) (hb : okB4 a b c d) (hn : n.size ≤ 281474976710656) (hs : s.size ≤ 281474976710656) (w : World) (hS : StdE w) :
    Calls Tryz.prog 9 #[.agg #[.int .u8 a, .int .u8 b, .int .u8 c, .int .u8 d, .string n, .int .i64 po], .string s] w fun e w' => e = .returned (.bool true) ∧ Below w.heap.size w w' := by
  obtain ⟨t, ht⟩ : ∃ t, printDestB a b c d n po = t := ⟨_, rfl⟩
  have HPD := pr_any a b c d n po t hb hn ht
  have hsz := size_zero t
  by_cases h0 : t.size = 0
  · have h1 : t.toList.isEmpty = true := by rw [hsz]; simpa using h0
    cases hr : pdRes s with
    | none => exact hb_00 a b c d n po t s HPD h1 (pd_err s hs hr) w hS
    | some x =>
      obtain ⟨a1, b1, c1, d1, n1, p1⟩ := x
      obtain ⟨q1, q2, q3, q4⟩ := pd_back s _ _ _ _ _ _ hr
      obtain ⟨r1, r2⟩ := pd_told _ _ _ _ _ _ q1 q4
      exact hb_01 a b c d n po t s a1 b1 c1 d1 n1 p1 _ HPD h1 (pd_ok s _ _ _ _ _ _ hs hr) (pr_any _ _ _ _ _ _ _ q1 (by omega) rfl) (pd_ok _ _ _ _ _ _ _ (by omega) r1) (lo_any s _ hs q3.symm) w hS
  · have h1 : t.toList.isEmpty = false := by rw [hsz]; simpa using h0
    obtain ⟨g1, g2⟩ := pd_told a b c d n po hb (by rw [ht]; exact h0)
    rw [ht] at g1 g2
    have HPT := pd_ok t _ _ _ _ _ _ (by omega) g1
    cases hr : pdRes s with
    | none => exact hb_10 a b c d n po t s HPD h1 HPT (pd_err s hs hr) w hS
    | some x =>
      obtain ⟨a1, b1, c1, d1, n1, p1⟩ := x
      obtain ⟨q1, q2, q3, q4⟩ := pd_back s _ _ _ _ _ _ hr
      obtain ⟨r1, r2⟩ := pd_told _ _ _ _ _ _ q1 q4
      exact hb_11 a b c d n po t s a1 b1 c1 d1 n1 p1 _ HPD h1 HPT (pd_ok s _ _ _ _ _ _ hs hr) (pr_any _ _ _ _ _ _ _ q1 (by omega) rfl) (pd_ok _ _ _ _ _ _ _ (by omega) r1) (lo_any s _ hs q3.symm) w hS
def hBack.f (a b c d : Int) (n : ByteArray) (po : Int) (s : ByteArray) : Option Bool := if EE.okB a b c d n ∧ s.size ≤ 281474976710656 then some true else none
theorem hBack.calls (a b c d : Int) (n : ByteArray) (po : Int) (s : ByteArray) (r : Bool) (w : World) (hS_ : StdE w) (h : hBack.f a b c d n po s = some r) :
    Calls Tryz.prog 9 #[.agg #[.int .u8 a, .int .u8 b, .int .u8 c, .int .u8 d, .string n, .int .i64 po], .string s] w fun e w' => e = .returned (.bool r) ∧ Below w.heap.size w w' := by
  unfold hBack.f at h
  split at h
  · rename_i hc
    obtain rfl := Option.some.inj h
    exact hostBack_walk a b c d n po s ⟨hc.1.1, hc.1.2.1, hc.1.2.2.1, hc.1.2.2.2.1⟩ hc.1.2.2.2.2 hc.2 w hS_
  · cases h
theorem hostBack_law (a b c d : Int) (n : ByteArray) (po : Int) (s : ByteArray) (hb : EE.okB a b c d n) (_ : okI po) (hs : s.size ≤ 281474976710656) : hBack.f a b c d n po s = some true := by
  unfold hBack.f
  rw [if_pos ⟨hb, hs⟩]
end Go.Proofs.YteondnhokgmakaaGreatDoor.E


namespace Go.Proofs.YteondnhokgmakaaGreatDoor
open Go.RowKit Go.Lib
set_option linter.unusedVariables false
theorem laidMet_tail {P : Program} {x : String × DataW Unit} {r : List (String × DataW Unit)} {W : World} (h : laidMet P (x :: r) W) : laidMet P r W := by
  obtain ⟨ps, ⟨g, t, cs, fuel, p, q, _, _, _, _, hr, rfl⟩, hn, hh⟩ := h
  exact ⟨q, hr, (List.nodup_append.1 hn).2.1, fun b off hb => hh b off (List.mem_append_right _ hb)⟩
theorem gSyn : Tryz.prog.globalNamed "strconv.ErrSyntax" = some 3 := by kernel_rfl
theorem gRng : Tryz.prog.globalNamed "strconv.ErrRange" = some 4 := by kernel_rfl
theorem gPowT : (Tryz.prog.globals[2]?).map (·.type) = some 184 := by kernel_rfl
theorem gSynT : (Tryz.prog.globals[3]?).map (·.type) = some 56 := by kernel_rfl
theorem gRngT : (Tryz.prog.globals[4]?).map (·.type) = some 56 := by kernel_rfl
theorem cellsTab : Tryz.prog.cellsOf 184 = 20 := by kernel_rfl
theorem cellsU64 : Tryz.prog.cellsOf 162 = 1 := by kernel_rfl
theorem cellsES : Tryz.prog.cellsOf 207 = 1 := by kernel_rfl
theorem cellsSt : Tryz.prog.cellsOf 9 = 1 := by kernel_rfl
theorem starES : "*" ++ "errors.errorString" = "*errors.errorString" := by decide
theorem rowES (u : TypeId) (h : Tryz.prog.typeName? 3 u = some "*errors.errorString") : u = 205 :=
  typeName_ptr_named (nm := "errors.errorString") (by rw [starES]; kernel_rfl) (by kernel_rfl) (by decide) u (by rw [starES]; exact h)
def lTab : String × DataW Unit := ("internal/strconv.uint64pow10", Rows.laid_internal_strconv_uint64pow10)
def lAcc : String × DataW Unit := ("unicode/utf8.acceptRanges", Rows.laid_unicode_utf8_acceptRanges)
def lRng : String × DataW Unit := ("strconv.ErrRange", Rows.laid_strconv_ErrRange)
def lSyn : String × DataW Unit := ("strconv.ErrSyntax", Rows.laid_strconv_ErrSyntax)
theorem stdW_of {x0 x1 : String × DataW Unit} {r : List (String × DataW Unit)} {W : World} (hL : laidMet Tryz.prog (x0 :: x1 :: lTab :: lAcc :: lRng :: lSyn :: r) W) (hsh : W.ShapedOpen Tryz.prog) : StdW W := by
  have h2 := laidMet_tail (laidMet_tail hL)
  have ht : TabIs Tryz.prog W "internal/strconv.uint64pow10" .u64 pow10Tab := tabIs_of_head gPow gPowT Tryz.underlying184 Tryz.underlying162 cellsU64 cellsTab h2
  have h4 := laidMet_tail (laidMet_tail h2)
  obtain ⟨a0, s0, hr, -, -, -⟩ := laid_sentinel h4 gRng gRngT Tryz.underlying56 rowES Tryz.underlying205 Tryz.underlying207 rfl rfl Tryz.underlying9 cellsES cellsSt
  obtain ⟨a1, s1, hs, -, -, -⟩ := laid_sentinel (laidMet_tail h4) gSyn gSynT Tryz.underlying56 rowES Tryz.underlying205 Tryz.underlying207 rfl rfl Tryz.underlying9 cellsES cellsSt
  have cr := World.var?_cell gRng hr 0
  have cs := World.var?_cell gSyn hs 0
  refine ⟨Go.Proofs.cell_of_shapedOpen_int (zero := #[.int .i64 0]) (t := 3) hsh (of_decide_eq_true (by kernel_rfl)) (by kernel_rfl) rfl (by kernel_rfl) (by kernel_rfl) Tryz.underlying3, ht, ⟨_, _, by simpa using cs⟩, ⟨_, _, by simpa using cr⟩, ?_⟩
  have c0 := ht.cell gPow 0 (by decide)
  exact World.block_lt_of_cell? _ _ c0
end Go.Proofs.YteondnhokgmakaaGreatDoor


namespace Go.Proofs.YteondnhokgmakaaGreatDoor
open Go.RowKit Go.Lib Go.Proofs.YteondnhokgmakaaGreatDoor.E
set_option linter.unusedVariables false
theorem gEt : Tryz.prog.globalNamed "errors.errorType" = some 0 := by kernel_rfl
theorem rtRow : (Tryz.prog.cutTypes.find? (·.1 == "internal/reflectlite.rtype")).map (·.2) = some 148 := by kernel_rfl
theorem errRow : ((List.range 243).filter fun t => Tryz.prog.rowNamed t [101, 114, 114, 111, 114]) = [56] := by kernel_rfl
theorem typesN : Tryz.prog.types.size = 243 := by kernel_rfl
def lEt : String × DataW Unit := ("errors.errorType", Rows.laid_errors_errorType)
theorem laidH_parts {W : World} (hL : laidMetH Tryz.prog Rows.hostNetsRow.laid W) : laidMet Tryz.prog Rows.policyMaysRow.laid W ∧ handlesMet Tryz.prog [lEt] W := hL
theorem etW_of {W : World} (h : handlesMet Tryz.prog [lEt] W) : EtW W := by
  obtain ⟨name, u, ty, e1, e2, e3, e4, e5⟩ := h _ (List.mem_singleton.2 rfl)
  have en : name = [101, 114, 114, 111, 114] := (Option.some.inj e1).symm
  subst en
  obtain rfl := Option.some.inj (rtRow.symm.trans e2)
  have hm : ty ∈ (List.range 243).filter fun t => Tryz.prog.rowNamed t [101, 114, 114, 111, 114] := List.mem_filter.2 ⟨List.mem_range.2 (by rw [← typesN]; exact e3), e4⟩
  rw [errRow] at hm
  obtain rfl := List.mem_singleton.1 hm
  have hh : typeHandle Tryz.prog 56 = .pointer (some ⟨10, 56, none⟩) := by kernel_rfl
  rw [hh] at e5
  exact (by simpa using World.var?_cell gEt e5 0 : W.cell? ⟨0, 0, none⟩ = some (.iface 148 (.agg #[.pointer (some ⟨10, 56, none⟩)])))
theorem stdE_of {W : World} (hL : laidMetH Tryz.prog Rows.hostNetsRow.laid W) (hsh : W.ShapedOpen Tryz.prog) : StdE W := ⟨stdW_of (laidH_parts hL).1 hsh, etW_of (laidH_parts hL).2⟩
theorem laidMet_on (w0 : World) {laid : List (String × DataW Unit)} (args : Array Value) (hf : w0.layFits Tryz.prog laid [] = true) (hi : w0.layIfaces Tryz.prog laid (w0.layVars Tryz.prog laid) = true) :
    laidMet Tryz.prog laid ((w0.layVars Tryz.prog laid).forCall (fun _ _ => 0) ⟨#[], args, []⟩).memory := by
  have e1 : (laid.filter fun x => (laid.map (·.1)).contains x.1) = laid := List.filter_eq_self.2 fun x hx => List.contains_iff_mem.2 (List.mem_map.2 ⟨x, hx, rfl⟩)
  have e2 : (laid.filter fun x => !(laid.map (·.1)).contains x.1) = [] := List.filter_eq_nil_iff.2 fun x hx => by rw [List.contains_iff_mem.2 (List.mem_map.2 ⟨x, hx, rfl⟩)]; simp
  have h : laidMet Tryz.prog laid (w0.layVars Tryz.prog laid) := laidMet_layVars (w0 := w0) (laid.map (·.1)) [] (by rw [e1]) (by rw [e1]; exact hf) (by rw [e1]; exact hi) (by rw [e2]; exact LaidIn.none)
  exact h.of_heap (by simp [World.memory, World.forCall, Input.heap])
noncomputable def handleWorld (os : Os) : World :=
  let w0 := World.holding Tryz.prog os ⟨#[], #[], []⟩
  { w0 with heap := w0.heap.modify 0 fun
      | .cells _ t frozen => .cells #[.iface 148 (.agg #[.pointer (some ⟨10, 56, none⟩)])] t frozen
      | o => o }
noncomputable def hostWorld (os : Os) : World := (handleWorld os).layVars Tryz.prog Rows.policyMaysRow.laid
theorem hostWorld_os (os : Os) : (hostWorld os).os = os := World.layVars_os _ _ _
theorem hostLaid (os : Os) (args : Array Value) : laidMetH Tryz.prog Rows.hostNetsRow.laid ((hostWorld os).forCall (fun _ _ => 0) ⟨#[], args, []⟩).memory :=
  laidMetH_of_parts (laidMet_on (handleWorld os) (laid := Rows.policyMaysRow.laid) args (by kernel_rfl) (by kernel_rfl)) (by kernel_rfl)
end Go.Proofs.YteondnhokgmakaaGreatDoor


namespace Go.Proofs.YteondnhokgmakaaGreatDoor
open Go
section
variable {H : Type} {enc : TypeId × Value → H}
theorem witness_zip {C : Checked} {os : Os} {f : FuncId} {fn : Func} {s : OpenSpec} {conds : List PathCond} {apart : Bool} {laid : List (String × DataW Unit)} (w0 : World) (args : Array Value) (hos : w0.os = os)
    (hsh : (w0.forCall (fun _ _ => 0) ⟨#[], args, []⟩).Shaped C.prog)
    (hok : Input.okWideB C.prog (w0.forCall (fun _ _ => 0) ⟨#[], args, []⟩) f ⟨#[], args, []⟩ = true)
    (hrow : s.preRow enc C.prog fn conds apart laid (w0.forCall (fun _ _ => 0) ⟨#[], args, []⟩).memory args) :
    ∃ (w : World) (tape : Tape) (i : Input), w.os = os ∧ (w.forCall tape i).Shaped C.prog ∧ i.vars = [] ∧ Input.okWide C.prog (w.forCall tape i) .any w.heap.size f i ∧
      s.preRow enc C.prog fn conds apart laid (w.forCall tape i).memory i.args ∧ ({} : Assume).holds C.prog (lone (Frame.enter C.prog f i.args .normal) [] (w.forCall tape i)) :=
  ⟨w0, fun _ _ => 0, ⟨#[], args, []⟩, hos, hsh, (Input.okWide_of_okWideB (base := 0) hok).1, (Input.okWide_of_okWideB hok).2, hrow, by
    simp only [Assume.holds]
    exact ⟨by simp, by simp, fun _ => Modest.zero, by simp, by simp⟩⟩
end
end Go.Proofs.YteondnhokgmakaaGreatDoor


namespace Go.Proofs.YteondnhokgmakaaGreatDoor.hostBack
open Go.ChangeShapes Go.WideShapes Go.ChangeAt Go.RowKit Go.Proofs.YteondnhokgmakaaGreatDoor.E Go.Proofs.YteondnhokgmakaaGreatDoor.XC
open Go.ChangeMaps (open_string shut_string)
set_option linter.unusedVariables false
theorem own : ownKnob Tryz.prog.godebug = none := by kernel_rfl
theorem laidOut : laidOutB Tryz.prog = true := by kernel_rfl
theorem reads (os : Os) {H : Type} (enc : TypeId × Value → H) : DataW.whole enc Tryz.prog ((hostWorld os).forCall (fun _ _ => 0) ⟨#[], #[.agg #[.int .u8 0, .int .u8 0, .int .u8 0, .int .u8 0, .string ByteArray.empty, .int .i64 0], .string ByteArray.empty], []⟩).memory Tryz.f9.params.toList Rows.hostBackSpec.vars false (#[Value.agg #[.int .u8 0, .int .u8 0, .int .u8 0, .int .u8 0, .string ByteArray.empty, .int .i64 0], Value.string ByteArray.empty] : Array Value).toList 8 = some ([.agg [.agg [.agg [.lit (.int .u8 0), .lit (.int .u8 0), .lit (.int .u8 0), .lit (.int .u8 0)], .lit (.string [])], .lit (.int .i64 0)], .lit (.string [])], [], []) := by kernel_rfl
theorem shaped (os : Os) : ((hostWorld os).forCall (fun _ _ => 0) ⟨#[], #[.agg #[.int .u8 0, .int .u8 0, .int .u8 0, .int .u8 0, .string ByteArray.empty, .int .i64 0], .string ByteArray.empty], []⟩).Shaped Tryz.prog := World.shaped_of_ZipB (by kernel_rfl) (by kernel_rfl)
theorem laidMet0 (os : Os) : laidMetH Tryz.prog Rows.hostBackRow.laid ((hostWorld os).forCall (fun _ _ => 0) ⟨#[], #[.agg #[.int .u8 0, .int .u8 0, .int .u8 0, .int .u8 0, .string ByteArray.empty, .int .i64 0], .string ByteArray.empty], []⟩).memory := by
  exact hostLaid os _
set_option maxRecDepth 100000 in
theorem contract (H : Type) (enc : TypeId × Value → H) (W : World) (base : Nat) (args : Array Value) (ds gs : List (DataW H)) (before : List MemPlace)
    (hval0 : ∀ (j : Nat) t v, Tryz.f9.params[j]? = some t → args[j]? = some v → Value.okWide Tryz.prog W .any base t v)
    (hW : DataW.Whole enc Tryz.prog Tryz.f9.params.toList Rows.hostBackSpec.vars false W args.toList ds gs before)
    (hsz0 : (DataW.weightsEach Tryz.prog (Tryz.f9.params.toList ++ Rows.hostBackSpec.plain.varTypes Tryz.prog) (ds ++ gs)).all (· ≤ reachBytes) = true)
    (hL : laidMetH Tryz.prog Rows.hostBackRow.laid W) (hsh : W.ShapedOpen Tryz.prog) :
    Calls Tryz.prog 9 args W fun e W' => ∃ v, e = .returned v ∧ Rows.hostBackSpec.post enc Tryz.prog Tryz.f9 false true false false W args v W' := by
  have hval : ∀ (j : Nat) t v, Tryz.f9.params[j]? = some t → args[j]? = some v → Value.okWide Tryz.prog W .any base t v := hval0
  have hsz := hsz0
  have hW' := hW
  obtain ⟨p, q, hA0, hV, rfl, hfz, hnd⟩ := hW
  have hA : DataW.TrodAll enc Tryz.prog W 0 (fun _ => true) true Tryz.f9.params.toList args.toList ds p := hA0
  rw [Tryz.params9] at hA hval hsz
  obtain ⟨v0, vs0, d0, ds0, p0, q0, hargs, rfl, rfl, h0, r0⟩ := trodAll_cons hA
  obtain ⟨v1, vs1, d1, ds1, p1, q1, rfl, rfl, rfl, h1, r1⟩ := trodAll_cons r0
  obtain ⟨rfl, rfl, rfl⟩ := trodAll_nil r1
  obtain rfl : args = #[v0, v1] := by cases args; simp_all
  obtain ⟨rfl, rfl⟩ := trodVars_none hV
  have k0 := h0
  have lt0 : ∀ x ∈ p0, x.block < W.heap.size := by obtain ⟨m, hm⟩ := k0; exact DataW.trod_lt m _ _ _ hm
  obtain ⟨fuel0, hf0⟩ := h0
  obtain ⟨⟨cs0⟩, rfl, cz0⟩ := okWide_struct Tryz.underlying28 (hval 0 28 v0 rfl rfl)
  obtain ⟨a0, b0, x0, y0, n0, po0, e0, hb0, hpo0, hw0⟩ := open_dest hf0
  obtain rfl : cs0 = _ := e0
  have z0 : n0.size ≤ 281474976710656 := Nat.le_trans (of_decide_eq_true (List.all_eq_true.1 hsz _ (DataW.weights_mem_each (j := 0) (t := 28) rfl rfl _ hw0))) (by decide)
  obtain ⟨s1, rfl, rfl, rfl, y1⟩ := open_string Tryz.underlying9 (hval 1 9 v1 rfl rfl) h1
  have z1 : s1.size ≤ 281474976710656 := by
    have z := sized_string hsz (j := 1) (t := 9) rfl rfl
    rw [Array.length_toList] at z
    exact Nat.le_trans z (by decide)
  have hS : StdE W := stdE_of hL hsh
  clear hA0 hval0 hval hsz0
  refine (Go.Proofs.YteondnhokgmakaaGreatDoor.E.hBack.calls a0 b0 x0 y0 n0 po0 s1 true W  hS (hostBack_law a0 b0 x0 y0 n0 po0 s1 ⟨hb0.1, hb0.2.1, hb0.2.2.1, hb0.2.2.2, z0⟩ hpo0 z1)).mono fun e W' ⟨he, bel⟩ => ?_
  subst he
  exact ⟨_, rfl, _, _, _, [], _, [], hW', trodAll_mk1 (shut_bool Tryz.underlying4 _), (trodAll_cons_mk (Below.trod laidOut (by kernel_rfl) (of_decide_eq_true (by kernel_rfl)) k0 bel lt0) (trodAll_cons_mk (shut_string Tryz.underlying9 y1) trodAll_mk0)), rfl, bel.frame _, fun h => by cases h⟩
set_option maxRecDepth 100000 in
theorem lifted (os : Os) (started : os.Started) (H : Type) (enc : TypeId × Value → H) (F : Stop.Interp) :
    ReturnsInHanded {} Tryz.checked os 9 .any ((OpenSpec.ofChange Rows.hostBackSpec).preRow enc Tryz.prog Tryz.f9 Rows.hostBackRow.domain false Rows.hostBackRow.laid) (((OpenSpec.ofChange Rows.hostBackSpec).at F).post enc Tryz.prog Tryz.f9 false true false false) := by
  refine returnsInHanded_of_row (C := Tryz.checked) (s := OpenSpec.ofChange Rows.hostBackSpec) own started (by kernel_rfl) Tryz.func9
    (witness_zip (enc := enc) (C := Tryz.checked) (hostWorld os) #[.agg #[.int .u8 0, .int .u8 0, .int .u8 0, .int .u8 0, .string ByteArray.empty, .int .i64 0], .string ByteArray.empty] (hostWorld_os os) (shaped os) (by kernel_rfl)
      (OpenSpec.preRow_of_cond 8 (reads os enc) (by kernel_rfl) (fun k hk => by cases hk) (by kernel_rfl) (laidMet0 os))) ?_
  intro W base args ds gs before hval hW _ _ hsz hL hsh _
  exact contract H enc W base args ds gs before hval hW hsz hL hsh
theorem said : Rows.HostBackSaid :=
  OpenClaim.holds_of_cond 9 Tryz.f9 rfl rfl rfl rfl rfl rfl rfl ⟨rfl, rfl, rfl, rfl, rfl⟩ rfl rfl rfl rfl rfl (by kernel_rfl) Tryz.func9 (by kernel_rfl)
    (of_decide_eq_true (by kernel_rfl)) (by unfold Func.isWrapper; first | (rw [if_pos (by decide +kernel)]; kernel_rfl) | (rw [if_neg (by decide +kernel)]; exact ⟨rfl, rfl⟩))
    (fun os started H enc _ F => by rw [OpenClaim.pre_eq_preRow]; exact lifted os started H enc F)
theorem plain (f : FuncId) (fn : Func) (hf : Tryz.pinned.checked.prog.funcNamed "sallyport/sallyportlaw06.HostBack" = some f) (hfn : Tryz.pinned.checked.prog.funcs[f]? = some fn) :
    true = Tryz.pinned.checked.prog.looks [] ∧ ∀ (j : Nat) t, fn.params[j]? = some t → Tryz.pinned.checked.prog.wantsStandIn t = false := by
  obtain rfl : f = 9 := Option.some.inj ((show Tryz.prog.funcNamed "sallyport/sallyportlaw06.HostBack" = some 9 by kernel_rfl).symm.trans hf) |>.symm
  obtain rfl : fn = Tryz.f9 := (Option.some.inj (Tryz.func9.symm.trans hfn)).symm
  refine ⟨by kernel_rfl, fun j t ht => ?_⟩
  rw [Tryz.params9] at ht
  have hm := Array.mem_of_getElem? ht
  simp only [List.mem_toArray, List.mem_cons, List.not_mem_nil, or_false] at hm
  rcases hm with rfl | rfl
  · exact (show Tryz.prog.wantsStandIn 28 = false by kernel_rfl)
  · exact (show Tryz.prog.wantsStandIn 9 = false by kernel_rfl)
theorem card : Rows.HostBackCardSaid :=
  Claim7.holds_tied_plain_at .later [] _ _ _ _ said (fun _ h => by cases h) (by kernel_rfl) (fun _ h => by cases h) hostBack_row_tie rfl ⟨rfl, rfl⟩ (by kernel_rfl) rfl plain (by kernel_rfl)
end Go.Proofs.YteondnhokgmakaaGreatDoor.hostBack
namespace Go.Proofs.YteondnhokgmakaaGreatDoor
theorem hostBack_card : Rows.HostBackCardSaid := hostBack.card
end Go.Proofs.YteondnhokgmakaaGreatDoor
