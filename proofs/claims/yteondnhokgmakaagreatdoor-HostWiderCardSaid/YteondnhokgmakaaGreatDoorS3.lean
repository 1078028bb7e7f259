/- What the cards of this seat rest on: the walks and plain laws, part 3. -/
import Derived.Test.YteondnhokgmakaaGreatDoorS2
import Derived.Deep.RegionWith
import Derived.Deep.LoopGhost
import Derived.WalkMore
import Derived.Laws.BitsLemmas
import Derived.Laws.Bits64
import Derived.Test.YteondnhokgmakaaGreatDoorProg
import Derived.Below
import Derived.Deep.Draws
import Derived.Deep.AppendLies
import Derived.Maps.AppendAt
import Derived.OwnWalk
import Derived.Laws.BytesArg
import Derived.Laws.MakeOwn
import Derived.Laws.OwnMore
import Derived.Deep.OwnRows
import Derived.Tactics
import Derived.Lib.ConvBytes
import Derived.Laws.Slices
import Derived.WalkKit
import Derived.KernelRfl
import Derived.RowKit3
import Derived.Deep.QuietTactic
import Derived.BigQuiet
import Derived.WideLaws
import Derived.Deep.DeepCutAuto
import Derived.Deep.CutBlock
import Derived.Deep.RegionHeld3
import Derived.Laws.Rows
import Derived.Lib.AppendStr
import Derived.ArgAppend
import Derived.Laws.IdiomCopy
import Derived.OrdersHeld
import Derived.RowKit
import Derived.Test.YteondnhokgmakaaGreatDoorS1
import Derived.Lib.SlBytesRow


namespace Go.Proofs.YteondnhokgmakaaGreatDoor.XC
open Go.RowKit Go.Proofs.YteondnhokgmakaaGreatDoorW.PrintWords Go.Proofs.YteondnhokgmakaaGreatDoorW.PrintLast Go.Proofs.YteondnhokgmakaaGreatDoorW.PrintMore
attribute [local go_sem] max2_int min2_int max_two min_two max_three min_three max_four min_four
set_option linter.unusedVariables false
set_option linter.unusedSimpArgs false
def policy_Check.l0 : Nat → List (S37) → Int → Int → Option (Int)
  | 0, _, _, _ => none
  | k + 1, x8, x9, x10 => if x10 < x9 then (if 0 ≤ x10 then (if x10 < (x8.length : Int) then ((policy_right.f k ((rd_T37 x8 x10).f0) ((rd_T37 x8 x10).f1.f0) ((rd_T37 x8 x10).f1.f1) ((rd_T37 x8 x10).f1.f2) ((rd_T37 x8 x10).f1.f3) ((rd_T37 x8 x10).f2) ((rd_T37 x8 x10).f3) ((rd_T37 x8 x10).f4) ((rd_T37 x8 x10).f5)).bind fun t107 => (if t107 = true then (policy_Check.l0 k x8 x9 (wrap64 (x10 + 1))) else (some 120))) else (none)) else (none)) else (some 0)
def policy_Check.f (k : Nat) (l0 : List (S37)) : Option (Int) := if (l0.length : Int) > 64 then (some 3) else (policy_Check.l0 k l0 (l0.length : Int) 0)
theorem policy_Check.mono_l : ∀ k, (∀ y0 y1 y2, LeO (policy_Check.l0 k y0 y1 y2) (policy_Check.l0 (k + 1) y0 y1 y2))
  | 0 => fun _ _ _ r h => by simp [policy_Check.l0] at h
  | k + 1 => by
    have ih0 := policy_Check.mono_l k
    · intro y0 y1 y2
      unfold policy_Check.l0
      repeat' first
      | (with_reducible exact ih0 _ _ _)
      | (with_reducible exact policy_right.mono _ _ _ _ _ _ _ _ _ _)
      | (with_reducible exact LeO.refl _)
      | (with_reducible exact LeO.none _)
      | (with_reducible refine LeO.ite ?_ ?_)
      | (with_reducible refine LeO.bind ?_ (fun _ => ?_))
      | exact ih0 _ _ _
      | exact policy_right.mono _ _ _ _ _ _ _ _ _ _
      | exact LeO.none _
      | refine LeO.ite ?_ ?_
      | refine LeO.bind ?_ (fun _ => ?_)
theorem policy_Check.mono : ∀ a0 k, LeO (policy_Check.f k a0) (policy_Check.f (k + 1) a0) := by
  intro a0 k
  have ih0 := policy_Check.mono_l k
  unfold policy_Check.f
  repeat' first
      | (with_reducible exact ih0 _ _ _)
      | (with_reducible exact policy_right.mono _ _ _ _ _ _ _ _ _ _)
      | (with_reducible exact LeO.refl _)
      | (with_reducible exact LeO.none _)
      | (with_reducible refine LeO.ite ?_ ?_)
      | (with_reducible refine LeO.bind ?_ (fun _ => ?_))
      | exact ih0 _ _ _
      | exact policy_right.mono _ _ _ _ _ _ _ _ _ _
      | exact LeO.none _
      | refine LeO.ite ?_ ?_
      | refine LeO.bind ?_ (fun _ => ?_)
set_option maxHeartbeats 8000000 in
set_option maxRecDepth 100000 in
theorem policy_Check.calls (k : Nat) (A0 : Option Addr) (c0 : Nat) (l0 : List (S37)) (r : Int) (w : World) (hr0 : Kd.C k37 w A0 l0.length l0) (hc0 : l0.length ≤ c0) (hS_ : StdW w) (h : policy_Check.f k l0 = some r) :
    Calls Tryz.prog 11 #[.slice A0 l0.length c0] w fun e w' => e = .returned (.int .i64 r) ∧ Below w.heap.size w w' := by
  have hu37 := Tryz.underlying37
  have HR0 := Aside0.mk hr0
  have HC0 := Aside0.mk hc0
  clear hr0 hc0
  have HS_ := Aside0.mk hS_
  clear hS_
  have HB := Aside0.mk (Below.refl w.heap.size w)
  have H : (if (l0.length : Int) > 64 then (some 3) else (policy_Check.l0 k l0 (l0.length : Int) 0)) = some r := h
  clear h
  by_cases c2 : (l0.length : Int) > 64
  · rw [if_pos c2] at H
    have c2b0 : decide (64 < (l0.length : Int)) = true := decide_eq_true c2
    have c2b1 : decide (64 < l0.length) = true := decide_eq_true (by omega)
    clear c2
    obtain rfl := Option.some.inj H
    go_enter Tryz.func11, Tryz.ntmps11
    go_wp2
    go_ret
    exact ⟨by first | rfl | (simp [errW_none, errW_some] <;> rfl) | (simp [*, errW_none, errW_some] <;> rfl), by repeat (first | (with_reducible first | exact HB.out | apply below_alloc | apply pw_below_drewN | apply below_drew1) | exact HB.out)⟩
  · rw [if_neg c2] at H
    have c2b0 : decide (64 < (l0.length : Int)) = false := decide_eq_false c2
    have c2b1 : decide (64 < l0.length) = false := decide_eq_false (by omega)
    clear c2
    have H' := Aside0.mk H
    clear H
    go_enter Tryz.func11, Tryz.ntmps11
    go_wp2
    go_loopg [10] k (fun kq v10 w' => ∃ (x10_1 : Int), v10 = .int .i64 x10_1 ∧ Aside0 (policy_Check.l0 kq l0 (l0.length : Int) x10_1 = some r) ∧ Aside0 (kq ≤ k) ∧ Aside0 (Below w.heap.size w w'))
    case atStart => exact ⟨(0), (by first | rfl | (simp; done) | (simp [*]; done)), H', ⟨Nat.le_refl _⟩, ⟨by repeat (first | (with_reducible first | exact HB.out | apply below_alloc | apply pw_below_drewN | apply below_drew1) | exact HB.out)⟩⟩
    case round =>
      clear H'
      try clear c1
      try clear c2
      try clear c2b0
      try clear c2b1
      try clear p2
      obtain ⟨x10_1, rfl, HA, HK1, HB⟩ := hrel
      cases gk with
      | zero => exact absurd HA.out (by simp [policy_Check.l0])
      | succ k1 =>
        have H := HA.out
        clear HA
        simp only [policy_Check.l0] at H
        by_cases c3 : x10_1 < (l0.length : Int)
        · rw [if_pos c3] at H
          have c3b0 : decide (x10_1 < (l0.length : Int)) = true := decide_eq_true c3
          clear c3
          by_cases c4 : 0 ≤ x10_1
          · rw [if_pos c4] at H
            have c4b0 : decide (0 ≤ x10_1) = true := decide_eq_true c4
            clear c4
            by_cases c5 : x10_1 < (l0.length : Int)
            · rw [if_pos c5] at H
              have c5b0 : decide (x10_1 < (l0.length : Int)) = true := decide_eq_true c5
              clear c5
              replace H := Option.bind_eq_some_iff.mp H
              obtain ⟨t107, A60, H⟩ := H
              replace H : (if t107 = true then (policy_Check.l0 k1 l0 (l0.length : Int) (wrap64 (x10_1 + 1))) else (some 120)) = some r := H
              have A6 := Aside0.mk A60
              clear A60
              by_cases c7 : t107 = true
              · subst c7
                have H1 : (policy_Check.l0 k1 l0 (l0.length : Int) (wrap64 (x10_1 + 1))) = some r := by rw [if_pos rfl] at H; exact H
                clear H
                have H := H1
                clear H1
                have H' := Aside0.mk H
                clear H
                have p105 : 0 ≤ (x10_1 : Int) := of_decide_eq_true (by first | (with_reducible assumption) | assumption)
                have q105 : x10_1 < (l0.length : Int) := of_decide_eq_true (by first | (with_reducible assumption) | assumption)
                obtain ⟨ad105, e105, hx105_0, hx105_1, hx105_2, hx105_3, hx105_4, hx105_5, hx105_6, hx105_7, hx105_8⟩ := at_T37 HR0.out x10_1 p105 q105
                cases e105
                replace hx105_0 := (HB.out.cell (World.block_lt_of_cell? w _ hx105_0)).trans hx105_0
                replace hx105_1 := (HB.out.cell (World.block_lt_of_cell? w _ hx105_1)).trans hx105_1
                replace hx105_2 := (HB.out.cell (World.block_lt_of_cell? w _ hx105_2)).trans hx105_2
                replace hx105_3 := (HB.out.cell (World.block_lt_of_cell? w _ hx105_3)).trans hx105_3
                replace hx105_4 := (HB.out.cell (World.block_lt_of_cell? w _ hx105_4)).trans hx105_4
                replace hx105_5 := (HB.out.cell (World.block_lt_of_cell? w _ hx105_5)).trans hx105_5
                replace hx105_6 := (HB.out.cell (World.block_lt_of_cell? w _ hx105_6)).trans hx105_6
                replace hx105_7 := (HB.out.cell (World.block_lt_of_cell? w _ hx105_7)).trans hx105_7
                replace hx105_8 := (HB.out.cell (World.block_lt_of_cell? w _ hx105_8)).trans hx105_8
                replace p105 := eq_true p105
                replace q105 := eq_true q105
                go_wp2_with (first | ((with_reducible refine gate_dst (N := 4) rfl ?_); refine box_event ?hg (N := 4) ?hd (cs := #[.bool false, .int .u8 0, .int .u8 0, .int .u8 0, .int .u8 0, .int .i64 0, .string (⟨#[]⟩ : ByteArray), .int .i64 0, .int .i64 0]) (t := 37) ?hr ?_; (case hd => rfl); (case hg => rfl); (case hr => first | (go_simp; done) | (go_simp; rfl)); intro gb106 hg w8 hbox hb; have n0_ := Aside0.mk (below_step (by repeat (first | (with_reducible first | exact HB.out | apply below_alloc | apply pw_below_drewN | apply below_drew1) | exact HB.out)) hb); have n1_ := Aside0.mk (hbox); have n2_ := Aside0.mk ((by rw [hg]; exact (below_size (by repeat (first | (with_reducible first | exact HB.out | apply below_alloc | apply pw_below_drewN | apply below_drew1) | exact HB.out))) : w.heap.size ≤ gb106)); have n3_ := Aside0.mk ((by rw [hg]; exact (below_size (by repeat (first | (with_reducible first | exact HB.out | apply below_alloc | apply pw_below_drewN | apply below_drew1) | exact HB.out))) : w.heap.size ≤ gb106)); clear HB; have HB := n0_; have BK106 := n1_; have GW106 := n2_; have GE106 := n3_; clear n0_ n1_ n2_ n3_; clear hb hbox hg; have hcz9_0 : w8.cell? ⟨gb106, 0, none⟩ = some (.bool false) := (blk_cell BK106.out 0).trans rfl; have hcz9_1 : w8.cell? ⟨gb106, 1, none⟩ = some (.int .u8 0) := (blk_cell BK106.out 1).trans rfl; have hcz9_2 : w8.cell? ⟨gb106, 2, none⟩ = some (.int .u8 0) := (blk_cell BK106.out 2).trans rfl; have hcz9_3 : w8.cell? ⟨gb106, 3, none⟩ = some (.int .u8 0) := (blk_cell BK106.out 3).trans rfl; have hcz9_4 : w8.cell? ⟨gb106, 4, none⟩ = some (.int .u8 0) := (blk_cell BK106.out 4).trans rfl; have hcz9_5 : w8.cell? ⟨gb106, 5, none⟩ = some (.int .i64 0) := (blk_cell BK106.out 5).trans rfl; have hcz9_6 : w8.cell? ⟨gb106, 6, none⟩ = some (.string (⟨#[]⟩ : ByteArray)) := (blk_cell BK106.out 6).trans rfl; have hcz9_7 : w8.cell? ⟨gb106, 7, none⟩ = some (.int .i64 0) := (blk_cell BK106.out 7).trans rfl; have hcz9_8 : w8.cell? ⟨gb106, 8, none⟩ = some (.int .i64 0) := (blk_cell BK106.out 8).trans rfl; have hfz9_0 := blk_frozen BK106.out 0; have hfz9_1 := blk_frozen BK106.out 1; have hfz9_2 := blk_frozen BK106.out 2; have hfz9_3 := blk_frozen BK106.out 3; have hfz9_4 := blk_frozen BK106.out 4; have hfz9_5 := blk_frozen BK106.out 5; have hfz9_6 := blk_frozen BK106.out 6; have hfz9_7 := blk_frozen BK106.out 7; have hfz9_8 := blk_frozen BK106.out 8) | ((with_reducible refine gate_callee (f := 38) rfl ?_); refine goesL_ (some 15) rfl rfl Tryz.func38 (by kernel_rfl) rfl #[.agg #[.bool ((rd_T37 l0 x10_1).f0), .int .u8 ((rd_T37 l0 x10_1).f1.f0), .int .u8 ((rd_T37 l0 x10_1).f1.f1), .int .u8 ((rd_T37 l0 x10_1).f1.f2), .int .u8 ((rd_T37 l0 x10_1).f1.f3), .int .i64 ((rd_T37 l0 x10_1).f2), .string ((rd_T37 l0 x10_1).f3), .int .i64 ((rd_T37 l0 x10_1).f4), .int .i64 ((rd_T37 l0 x10_1).f5)]] rfl (by (try simp only [List.map_toArray, List.map_cons, List.map_nil]); first | done | rfl | (simp only [List.length_drop, List.length_take]; rfl)) ?_; (with_reducible refine (policy_right.calls k1 ((rd_T37 l0 x10_1).f0) ((rd_T37 l0 x10_1).f1.f0) ((rd_T37 l0 x10_1).f1.f1) ((rd_T37 l0 x10_1).f1.f2) ((rd_T37 l0 x10_1).f1.f3) ((rd_T37 l0 x10_1).f2) ((rd_T37 l0 x10_1).f3) ((rd_T37 l0 x10_1).f4) ((rd_T37 l0 x10_1).f5) true _ ?side1 A6.out).mono ?_); (case side1 => exact StdW.below HS_.out (by repeat (first | (with_reducible first | exact HB.out | apply below_alloc | apply pw_below_drewN | apply below_drew1 | refine below_set ?_ GE106.out) | exact HB.out))); rintro e w10 ⟨rfl, hb⟩; refine ⟨_, rfl, ?_⟩; have n0_ := Aside0.mk (blk_below (g := gb106) (o := .cells #[.bool ((rd_T37 l0 x10_1).f0), .int .u8 ((rd_T37 l0 x10_1).f1.f0), .int .u8 ((rd_T37 l0 x10_1).f1.f1), .int .u8 ((rd_T37 l0 x10_1).f1.f2), .int .u8 ((rd_T37 l0 x10_1).f1.f3), .int .i64 ((rd_T37 l0 x10_1).f2), .string ((rd_T37 l0 x10_1).f3), .int .i64 ((rd_T37 l0 x10_1).f4), .int .i64 ((rd_T37 l0 x10_1).f5)] 37 (0, 0)) (by (with_reducible repeat (first | refine blk_drewN ?_ _ | refine blk_drew ?_ | refine blk_alloc ?_ _)); refine blk_put (cs := #[.bool ((rd_T37 l0 x10_1).f0), .int .u8 ((rd_T37 l0 x10_1).f1.f0), .int .u8 ((rd_T37 l0 x10_1).f1.f1), .int .u8 ((rd_T37 l0 x10_1).f1.f2), .int .u8 ((rd_T37 l0 x10_1).f1.f3), .int .i64 ((rd_T37 l0 x10_1).f2), .string ((rd_T37 l0 x10_1).f3), .int .i64 ((rd_T37 l0 x10_1).f4), .int .i64 0]) ?_ 8 _ rfl; (with_reducible repeat (first | refine blk_drewN ?_ _ | refine blk_drew ?_ | refine blk_alloc ?_ _)); refine blk_put (cs := #[.bool ((rd_T37 l0 x10_1).f0), .int .u8 ((rd_T37 l0 x10_1).f1.f0), .int .u8 ((rd_T37 l0 x10_1).f1.f1), .int .u8 ((rd_T37 l0 x10_1).f1.f2), .int .u8 ((rd_T37 l0 x10_1).f1.f3), .int .i64 ((rd_T37 l0 x10_1).f2), .string ((rd_T37 l0 x10_1).f3), .int .i64 0, .int .i64 0]) ?_ 7 _ rfl; (with_reducible repeat (first | refine blk_drewN ?_ _ | refine blk_drew ?_ | refine blk_alloc ?_ _)); refine blk_put (cs := #[.bool ((rd_T37 l0 x10_1).f0), .int .u8 ((rd_T37 l0 x10_1).f1.f0), .int .u8 ((rd_T37 l0 x10_1).f1.f1), .int .u8 ((rd_T37 l0 x10_1).f1.f2), .int .u8 ((rd_T37 l0 x10_1).f1.f3), .int .i64 ((rd_T37 l0 x10_1).f2), .string (⟨#[]⟩ : ByteArray), .int .i64 0, .int .i64 0]) ?_ 6 _ rfl; (with_reducible repeat (first | refine blk_drewN ?_ _ | refine blk_drew ?_ | refine blk_alloc ?_ _)); refine blk_put (cs := #[.bool ((rd_T37 l0 x10_1).f0), .int .u8 ((rd_T37 l0 x10_1).f1.f0), .int .u8 ((rd_T37 l0 x10_1).f1.f1), .int .u8 ((rd_T37 l0 x10_1).f1.f2), .int .u8 ((rd_T37 l0 x10_1).f1.f3), .int .i64 0, .string (⟨#[]⟩ : ByteArray), .int .i64 0, .int .i64 0]) ?_ 5 _ rfl; (with_reducible repeat (first | refine blk_drewN ?_ _ | refine blk_drew ?_ | refine blk_alloc ?_ _)); refine blk_put (cs := #[.bool ((rd_T37 l0 x10_1).f0), .int .u8 ((rd_T37 l0 x10_1).f1.f0), .int .u8 ((rd_T37 l0 x10_1).f1.f1), .int .u8 ((rd_T37 l0 x10_1).f1.f2), .int .u8 0, .int .i64 0, .string (⟨#[]⟩ : ByteArray), .int .i64 0, .int .i64 0]) ?_ 4 _ rfl; (with_reducible repeat (first | refine blk_drewN ?_ _ | refine blk_drew ?_ | refine blk_alloc ?_ _)); refine blk_put (cs := #[.bool ((rd_T37 l0 x10_1).f0), .int .u8 ((rd_T37 l0 x10_1).f1.f0), .int .u8 ((rd_T37 l0 x10_1).f1.f1), .int .u8 0, .int .u8 0, .int .i64 0, .string (⟨#[]⟩ : ByteArray), .int .i64 0, .int .i64 0]) ?_ 3 _ rfl; (with_reducible repeat (first | refine blk_drewN ?_ _ | refine blk_drew ?_ | refine blk_alloc ?_ _)); refine blk_put (cs := #[.bool ((rd_T37 l0 x10_1).f0), .int .u8 ((rd_T37 l0 x10_1).f1.f0), .int .u8 0, .int .u8 0, .int .u8 0, .int .i64 0, .string (⟨#[]⟩ : ByteArray), .int .i64 0, .int .i64 0]) ?_ 2 _ rfl; (with_reducible repeat (first | refine blk_drewN ?_ _ | refine blk_drew ?_ | refine blk_alloc ?_ _)); refine blk_put (cs := #[.bool ((rd_T37 l0 x10_1).f0), .int .u8 0, .int .u8 0, .int .u8 0, .int .u8 0, .int .i64 0, .string (⟨#[]⟩ : ByteArray), .int .i64 0, .int .i64 0]) ?_ 1 _ rfl; (with_reducible repeat (first | refine blk_drewN ?_ _ | refine blk_drew ?_ | refine blk_alloc ?_ _)); refine blk_put (cs := #[.bool false, .int .u8 0, .int .u8 0, .int .u8 0, .int .u8 0, .int .i64 0, .string (⟨#[]⟩ : ByteArray), .int .i64 0, .int .i64 0]) ?_ 0 _ rfl; (with_reducible repeat (first | refine blk_drewN ?_ _ | refine blk_drew ?_ | refine blk_alloc ?_ _)); exact BK106.out) hb); have n1_ := Aside0.mk (below_step (by repeat (first | (with_reducible first | exact HB.out | apply below_alloc | apply pw_below_drewN | apply below_drew1 | refine below_set ?_ GE106.out) | exact HB.out)) hb); clear BK106; clear HB; have BK106 := n0_; have HB := n1_; clear n0_ n1_; (try clear hb); (try clear hb2); (try clear hk); (try clear hi)))
                go_roundg k1
                case measure => have := HK1.out; omega
                case rel => exact ⟨(wrap64 (x10_1 + 1)), (by first | rfl | (simp; done) | (simp [*]; done)), H', ⟨by have := HK1.out; omega⟩, ⟨by repeat (first | (with_reducible first | exact HB.out | apply below_alloc | apply pw_below_drewN | apply below_drew1 | refine below_set ?_ GE106.out) | exact HB.out)⟩⟩
              · replace c7 := Bool.eq_false_iff.mpr c7
                subst c7
                have H1 : (some 120) = some r := by rw [if_neg (show ¬ (false = true) by decide)] at H; exact H
                clear H
                have H := H1
                clear H1
                obtain rfl := Option.some.inj H
                have p105 : 0 ≤ (x10_1 : Int) := of_decide_eq_true (by first | (with_reducible assumption) | assumption)
                have q105 : x10_1 < (l0.length : Int) := of_decide_eq_true (by first | (with_reducible assumption) | assumption)
                obtain ⟨ad105, e105, hx105_0, hx105_1, hx105_2, hx105_3, hx105_4, hx105_5, hx105_6, hx105_7, hx105_8⟩ := at_T37 HR0.out x10_1 p105 q105
                cases e105
                replace hx105_0 := (HB.out.cell (World.block_lt_of_cell? w _ hx105_0)).trans hx105_0
                replace hx105_1 := (HB.out.cell (World.block_lt_of_cell? w _ hx105_1)).trans hx105_1
                replace hx105_2 := (HB.out.cell (World.block_lt_of_cell? w _ hx105_2)).trans hx105_2
                replace hx105_3 := (HB.out.cell (World.block_lt_of_cell? w _ hx105_3)).trans hx105_3
                replace hx105_4 := (HB.out.cell (World.block_lt_of_cell? w _ hx105_4)).trans hx105_4
                replace hx105_5 := (HB.out.cell (World.block_lt_of_cell? w _ hx105_5)).trans hx105_5
                replace hx105_6 := (HB.out.cell (World.block_lt_of_cell? w _ hx105_6)).trans hx105_6
                replace hx105_7 := (HB.out.cell (World.block_lt_of_cell? w _ hx105_7)).trans hx105_7
                replace hx105_8 := (HB.out.cell (World.block_lt_of_cell? w _ hx105_8)).trans hx105_8
                replace p105 := eq_true p105
                replace q105 := eq_true q105
                go_wp2_with (first | ((with_reducible refine gate_dst (N := 4) rfl ?_); refine box_event ?hg (N := 4) ?hd (cs := #[.bool false, .int .u8 0, .int .u8 0, .int .u8 0, .int .u8 0, .int .i64 0, .string (⟨#[]⟩ : ByteArray), .int .i64 0, .int .i64 0]) (t := 37) ?hr ?_; (case hd => rfl); (case hg => rfl); (case hr => first | (go_simp; done) | (go_simp; rfl)); intro gb106 hg w11 hbox hb; have n0_ := Aside0.mk (below_step (by repeat (first | (with_reducible first | exact HB.out | apply below_alloc | apply pw_below_drewN | apply below_drew1) | exact HB.out)) hb); have n1_ := Aside0.mk (hbox); have n2_ := Aside0.mk ((by rw [hg]; exact (below_size (by repeat (first | (with_reducible first | exact HB.out | apply below_alloc | apply pw_below_drewN | apply below_drew1) | exact HB.out))) : w.heap.size ≤ gb106)); have n3_ := Aside0.mk ((by rw [hg]; exact (below_size (by repeat (first | (with_reducible first | exact HB.out | apply below_alloc | apply pw_below_drewN | apply below_drew1) | exact HB.out))) : w.heap.size ≤ gb106)); clear HB; have HB := n0_; have BK106 := n1_; have GW106 := n2_; have GE106 := n3_; clear n0_ n1_ n2_ n3_; clear hb hbox hg; have hcz12_0 : w11.cell? ⟨gb106, 0, none⟩ = some (.bool false) := (blk_cell BK106.out 0).trans rfl; have hcz12_1 : w11.cell? ⟨gb106, 1, none⟩ = some (.int .u8 0) := (blk_cell BK106.out 1).trans rfl; have hcz12_2 : w11.cell? ⟨gb106, 2, none⟩ = some (.int .u8 0) := (blk_cell BK106.out 2).trans rfl; have hcz12_3 : w11.cell? ⟨gb106, 3, none⟩ = some (.int .u8 0) := (blk_cell BK106.out 3).trans rfl; have hcz12_4 : w11.cell? ⟨gb106, 4, none⟩ = some (.int .u8 0) := (blk_cell BK106.out 4).trans rfl; have hcz12_5 : w11.cell? ⟨gb106, 5, none⟩ = some (.int .i64 0) := (blk_cell BK106.out 5).trans rfl; have hcz12_6 : w11.cell? ⟨gb106, 6, none⟩ = some (.string (⟨#[]⟩ : ByteArray)) := (blk_cell BK106.out 6).trans rfl; have hcz12_7 : w11.cell? ⟨gb106, 7, none⟩ = some (.int .i64 0) := (blk_cell BK106.out 7).trans rfl; have hcz12_8 : w11.cell? ⟨gb106, 8, none⟩ = some (.int .i64 0) := (blk_cell BK106.out 8).trans rfl; have hfz12_0 := blk_frozen BK106.out 0; have hfz12_1 := blk_frozen BK106.out 1; have hfz12_2 := blk_frozen BK106.out 2; have hfz12_3 := blk_frozen BK106.out 3; have hfz12_4 := blk_frozen BK106.out 4; have hfz12_5 := blk_frozen BK106.out 5; have hfz12_6 := blk_frozen BK106.out 6; have hfz12_7 := blk_frozen BK106.out 7; have hfz12_8 := blk_frozen BK106.out 8) | ((with_reducible refine gate_callee (f := 38) rfl ?_); refine goesL_ (some 15) rfl rfl Tryz.func38 (by kernel_rfl) rfl #[.agg #[.bool ((rd_T37 l0 x10_1).f0), .int .u8 ((rd_T37 l0 x10_1).f1.f0), .int .u8 ((rd_T37 l0 x10_1).f1.f1), .int .u8 ((rd_T37 l0 x10_1).f1.f2), .int .u8 ((rd_T37 l0 x10_1).f1.f3), .int .i64 ((rd_T37 l0 x10_1).f2), .string ((rd_T37 l0 x10_1).f3), .int .i64 ((rd_T37 l0 x10_1).f4), .int .i64 ((rd_T37 l0 x10_1).f5)]] rfl (by (try simp only [List.map_toArray, List.map_cons, List.map_nil]); first | done | rfl | (simp only [List.length_drop, List.length_take]; rfl)) ?_; (with_reducible refine (policy_right.calls k1 ((rd_T37 l0 x10_1).f0) ((rd_T37 l0 x10_1).f1.f0) ((rd_T37 l0 x10_1).f1.f1) ((rd_T37 l0 x10_1).f1.f2) ((rd_T37 l0 x10_1).f1.f3) ((rd_T37 l0 x10_1).f2) ((rd_T37 l0 x10_1).f3) ((rd_T37 l0 x10_1).f4) ((rd_T37 l0 x10_1).f5) false _ ?side1 A6.out).mono ?_); (case side1 => exact StdW.below HS_.out (by repeat (first | (with_reducible first | exact HB.out | apply below_alloc | apply pw_below_drewN | apply below_drew1 | refine below_set ?_ GE106.out) | exact HB.out))); rintro e w13 ⟨rfl, hb⟩; refine ⟨_, rfl, ?_⟩; have n0_ := Aside0.mk (blk_below (g := gb106) (o := .cells #[.bool ((rd_T37 l0 x10_1).f0), .int .u8 ((rd_T37 l0 x10_1).f1.f0), .int .u8 ((rd_T37 l0 x10_1).f1.f1), .int .u8 ((rd_T37 l0 x10_1).f1.f2), .int .u8 ((rd_T37 l0 x10_1).f1.f3), .int .i64 ((rd_T37 l0 x10_1).f2), .string ((rd_T37 l0 x10_1).f3), .int .i64 ((rd_T37 l0 x10_1).f4), .int .i64 ((rd_T37 l0 x10_1).f5)] 37 (0, 0)) (by (with_reducible repeat (first | refine blk_drewN ?_ _ | refine blk_drew ?_ | refine blk_alloc ?_ _)); refine blk_put (cs := #[.bool ((rd_T37 l0 x10_1).f0), .int .u8 ((rd_T37 l0 x10_1).f1.f0), .int .u8 ((rd_T37 l0 x10_1).f1.f1), .int .u8 ((rd_T37 l0 x10_1).f1.f2), .int .u8 ((rd_T37 l0 x10_1).f1.f3), .int .i64 ((rd_T37 l0 x10_1).f2), .string ((rd_T37 l0 x10_1).f3), .int .i64 ((rd_T37 l0 x10_1).f4), .int .i64 0]) ?_ 8 _ rfl; (with_reducible repeat (first | refine blk_drewN ?_ _ | refine blk_drew ?_ | refine blk_alloc ?_ _)); refine blk_put (cs := #[.bool ((rd_T37 l0 x10_1).f0), .int .u8 ((rd_T37 l0 x10_1).f1.f0), .int .u8 ((rd_T37 l0 x10_1).f1.f1), .int .u8 ((rd_T37 l0 x10_1).f1.f2), .int .u8 ((rd_T37 l0 x10_1).f1.f3), .int .i64 ((rd_T37 l0 x10_1).f2), .string ((rd_T37 l0 x10_1).f3), .int .i64 0, .int .i64 0]) ?_ 7 _ rfl; (with_reducible repeat (first | refine blk_drewN ?_ _ | refine blk_drew ?_ | refine blk_alloc ?_ _)); refine blk_put (cs := #[.bool ((rd_T37 l0 x10_1).f0), .int .u8 ((rd_T37 l0 x10_1).f1.f0), .int .u8 ((rd_T37 l0 x10_1).f1.f1), .int .u8 ((rd_T37 l0 x10_1).f1.f2), .int .u8 ((rd_T37 l0 x10_1).f1.f3), .int .i64 ((rd_T37 l0 x10_1).f2), .string (⟨#[]⟩ : ByteArray), .int .i64 0, .int .i64 0]) ?_ 6 _ rfl; (with_reducible repeat (first | refine blk_drewN ?_ _ | refine blk_drew ?_ | refine blk_alloc ?_ _)); refine blk_put (cs := #[.bool ((rd_T37 l0 x10_1).f0), .int .u8 ((rd_T37 l0 x10_1).f1.f0), .int .u8 ((rd_T37 l0 x10_1).f1.f1), .int .u8 ((rd_T37 l0 x10_1).f1.f2), .int .u8 ((rd_T37 l0 x10_1).f1.f3), .int .i64 0, .string (⟨#[]⟩ : ByteArray), .int .i64 0, .int .i64 0]) ?_ 5 _ rfl; (with_reducible repeat (first | refine blk_drewN ?_ _ | refine blk_drew ?_ | refine blk_alloc ?_ _)); refine blk_put (cs := #[.bool ((rd_T37 l0 x10_1).f0), .int .u8 ((rd_T37 l0 x10_1).f1.f0), .int .u8 ((rd_T37 l0 x10_1).f1.f1), .int .u8 ((rd_T37 l0 x10_1).f1.f2), .int .u8 0, .int .i64 0, .string (⟨#[]⟩ : ByteArray), .int .i64 0, .int .i64 0]) ?_ 4 _ rfl; (with_reducible repeat (first | refine blk_drewN ?_ _ | refine blk_drew ?_ | refine blk_alloc ?_ _)); refine blk_put (cs := #[.bool ((rd_T37 l0 x10_1).f0), .int .u8 ((rd_T37 l0 x10_1).f1.f0), .int .u8 ((rd_T37 l0 x10_1).f1.f1), .int .u8 0, .int .u8 0, .int .i64 0, .string (⟨#[]⟩ : ByteArray), .int .i64 0, .int .i64 0]) ?_ 3 _ rfl; (with_reducible repeat (first | refine blk_drewN ?_ _ | refine blk_drew ?_ | refine blk_alloc ?_ _)); refine blk_put (cs := #[.bool ((rd_T37 l0 x10_1).f0), .int .u8 ((rd_T37 l0 x10_1).f1.f0), .int .u8 0, .int .u8 0, .int .u8 0, .int .i64 0, .string (⟨#[]⟩ : ByteArray), .int .i64 0, .int .i64 0]) ?_ 2 _ rfl; (with_reducible repeat (first | refine blk_drewN ?_ _ | refine blk_drew ?_ | refine blk_alloc ?_ _)); refine blk_put (cs := #[.bool ((rd_T37 l0 x10_1).f0), .int .u8 0, .int .u8 0, .int .u8 0, .int .u8 0, .int .i64 0, .string (⟨#[]⟩ : ByteArray), .int .i64 0, .int .i64 0]) ?_ 1 _ rfl; (with_reducible repeat (first | refine blk_drewN ?_ _ | refine blk_drew ?_ | refine blk_alloc ?_ _)); refine blk_put (cs := #[.bool false, .int .u8 0, .int .u8 0, .int .u8 0, .int .u8 0, .int .i64 0, .string (⟨#[]⟩ : ByteArray), .int .i64 0, .int .i64 0]) ?_ 0 _ rfl; (with_reducible repeat (first | refine blk_drewN ?_ _ | refine blk_drew ?_ | refine blk_alloc ?_ _)); exact BK106.out) hb); have n1_ := Aside0.mk (below_step (by repeat (first | (with_reducible first | exact HB.out | apply below_alloc | apply pw_below_drewN | apply below_drew1 | refine below_set ?_ GE106.out) | exact HB.out)) hb); clear BK106; clear HB; have BK106 := n0_; have HB := n1_; clear n0_ n1_; (try clear hb); (try clear hb2); (try clear hk); (try clear hi)))
                go_ret
                exact ⟨by first | rfl | (simp [errW_none, errW_some] <;> rfl) | (simp [*, errW_none, errW_some] <;> rfl), by repeat (first | (with_reducible first | exact HB.out | apply below_alloc | apply pw_below_drewN | apply below_drew1 | refine below_set ?_ GE106.out) | exact HB.out)⟩
            · rw [if_neg c5] at H
              exact absurd H (by simp)
          · rw [if_neg c4] at H
            exact absurd H (by simp)
        · rw [if_neg c3] at H
          have c3b0 : decide (x10_1 < (l0.length : Int)) = false := decide_eq_false c3
          clear c3
          obtain rfl := Option.some.inj H
          go_wp2
          go_ret
          exact ⟨by first | rfl | (simp [errW_none, errW_some] <;> rfl) | (simp [*, errW_none, errW_some] <;> rfl), by repeat (first | (with_reducible first | exact HB.out | apply below_alloc | apply pw_below_drewN | apply below_drew1) | exact HB.out)⟩
def host_word.f (a0_0 : Int) (a0_1 : Int) (a0_2 : Int) (a0_3 : Int) : Option (Int) := some (Go.bits .or .u32 (Go.bits .or .u32 (Go.bits .or .u32 ((((a0_0) % 4294967296) * 16777216) % 4294967296) ((((a0_1) % 4294967296) * 65536) % 4294967296)) ((((a0_2) % 4294967296) * 256) % 4294967296)) ((a0_3) % 4294967296))
set_option maxHeartbeats 8000000 in
set_option maxRecDepth 100000 in
theorem host_word.calls (a0_0 : Int) (a0_1 : Int) (a0_2 : Int) (a0_3 : Int) (r : Int) (w : World) (h : host_word.f a0_0 a0_1 a0_2 a0_3 = some r) :
    Calls Tryz.prog 52 #[.agg #[.int .u8 a0_0, .int .u8 a0_1, .int .u8 a0_2, .int .u8 a0_3]] w fun e w' => e = .returned (.int .u32 r) ∧ Below w.heap.size w w' := by
  have hu24 := Tryz.underlying24
  have HB := Aside0.mk (Below.refl w.heap.size w)
  have H : (some (Go.bits .or .u32 (Go.bits .or .u32 (Go.bits .or .u32 ((((a0_0) % 4294967296) * 16777216) % 4294967296) ((((a0_1) % 4294967296) * 65536) % 4294967296)) ((((a0_2) % 4294967296) * 256) % 4294967296)) ((a0_3) % 4294967296))) = some r := h
  clear h
  obtain rfl := Option.some.inj H
  go_enter Tryz.func52, Tryz.ntmps52
  go_wp2_with (first | ((with_reducible refine gate_dst (N := 1) rfl ?_); refine box_event ?hg (N := 1) ?hd (cs := #[.int .u8 a0_0, .int .u8 a0_1, .int .u8 a0_2, .int .u8 a0_3]) (t := 24) ?hr ?_; (case hd => rfl); (case hg => rfl); (case hr => first | (go_simp; done) | (go_simp; rfl)); intro gb108 hg w2 hbox hb; have n0_ := Aside0.mk (below_step (by repeat (first | (with_reducible first | exact HB.out | apply below_alloc | apply pw_below_drewN | apply below_drew1) | exact HB.out)) hb); have n1_ := Aside0.mk (hbox); have n2_ := Aside0.mk ((by rw [hg]; exact (below_size (by repeat (first | (with_reducible first | exact HB.out | apply below_alloc | apply pw_below_drewN | apply below_drew1) | exact HB.out))) : w.heap.size ≤ gb108)); have n3_ := Aside0.mk ((by rw [hg]; exact (below_size (by repeat (first | (with_reducible first | exact HB.out | apply below_alloc | apply pw_below_drewN | apply below_drew1) | exact HB.out))) : w.heap.size ≤ gb108)); clear HB; have HB := n0_; have BK108 := n1_; have GW108 := n2_; have GE108 := n3_; clear n0_ n1_ n2_ n3_; clear hb hbox hg; have hcz3_0 : w2.cell? ⟨gb108, 0, none⟩ = some (.int .u8 a0_0) := (blk_cell BK108.out 0).trans rfl; have hcz3_1 : w2.cell? ⟨gb108, 1, none⟩ = some (.int .u8 a0_1) := (blk_cell BK108.out 1).trans rfl; have hcz3_2 : w2.cell? ⟨gb108, 2, none⟩ = some (.int .u8 a0_2) := (blk_cell BK108.out 2).trans rfl; have hcz3_3 : w2.cell? ⟨gb108, 3, none⟩ = some (.int .u8 a0_3) := (blk_cell BK108.out 3).trans rfl; have hfz3_0 := blk_frozen BK108.out 0; have hfz3_1 := blk_frozen BK108.out 1; have hfz3_2 := blk_frozen BK108.out 2; have hfz3_3 := blk_frozen BK108.out 3))
  go_ret
  exact ⟨by first | rfl | (simp [errW_none, errW_some] <;> rfl) | (simp [*, errW_none, errW_some] <;> rfl), by repeat (first | (with_reducible first | exact HB.out | apply below_alloc | apply pw_below_drewN | apply below_drew1 | refine below_set ?_ GE108.out) | exact HB.out)⟩
def host_In.f (a0_0 : Int) (a0_1 : Int) (a0_2 : Int) (a0_3 : Int) (a1_0 : Int) (a1_1 : Int) (a1_2 : Int) (a1_3 : Int) (a2 : Int) : Option (Bool) := if a2 ≥ 0 then (if a2 ≤ 32 then ((host_word.f a0_0 a0_1 a0_2 a0_3).bind fun t111 => ((host_word.f a1_0 a1_1 a1_2 a1_3).bind fun t112 => (if 0 ≤ (wrap64 (32 - a2)) then (some ((shr .u32 (Go.bits .xor .u32 t111 t112) (wrap64 (32 - a2))) == 0)) else (none)))) else (some false)) else (some false)
def host_In.T1 : Bool × List (List Nat × List Nat) := (true, [([], []), ([0], [0]), ([1], [1]), ([2], [2]), ([3, 2], [2, 3]), ([2, 4], [2, 4]), ([5, 2], [5]), ([6], [6]), ([7, 6, 6], [6, 7]), ([6], [6]), ([9, 8, 6], [6, 9]), ([8, 10, 6], [6, 8, 10]), ([6], [6]), ([12, 6], [6, 12]), ([11, 13, 6], [6, 11, 13]), ([14, 6], [6, 14]), ([6, 15], [6, 15]), ([16, 10, 0, 1, 2, 3, 4, 5, 6, 7, 8, 9, 10, 11, 12, 13, 14, 15, 16], [16])])
def host_In.B1 : List Nat := [0, 1, 3, 7, 15, 31, 63, 127, 255, 127, 1023, 2047, 127, 4223, 16383, 32767, 65535, 131071]
theorem host_In.tab1 : rtab .any (opsOf Tryz.f25 1) = host_In.T1 := by kernel_rfl
theorem host_In.bits1 : waitsOk host_In.T1.2 host_In.B1 = true := by kernel_rfl
set_option maxHeartbeats 8000000 in
set_option maxRecDepth 100000 in
theorem host_In.calls (a0_0 : Int) (a0_1 : Int) (a0_2 : Int) (a0_3 : Int) (a1_0 : Int) (a1_1 : Int) (a1_2 : Int) (a1_3 : Int) (a2 : Int) (r : Bool) (w : World) (h : host_In.f a0_0 a0_1 a0_2 a0_3 a1_0 a1_1 a1_2 a1_3 a2 = some r) :
    Calls Tryz.prog 25 #[.agg #[.int .u8 a0_0, .int .u8 a0_1, .int .u8 a0_2, .int .u8 a0_3], .agg #[.int .u8 a1_0, .int .u8 a1_1, .int .u8 a1_2, .int .u8 a1_3], .int .i64 a2] w fun e w' => e = .returned (.bool r) ∧ Below w.heap.size w w' := by
  have hu24 := Tryz.underlying24
  have HB := Aside0.mk (Below.refl w.heap.size w)
  have H : (if a2 ≥ 0 then (if a2 ≤ 32 then ((host_word.f a0_0 a0_1 a0_2 a0_3).bind fun t111 => ((host_word.f a1_0 a1_1 a1_2 a1_3).bind fun t112 => (if 0 ≤ (wrap64 (32 - a2)) then (some ((shr .u32 (Go.bits .xor .u32 t111 t112) (wrap64 (32 - a2))) == 0)) else (none)))) else (some false)) else (some false)) = some r := h
  clear h
  by_cases c4 : a2 ≥ 0
  · rw [if_pos c4] at H
    have c4b0 : decide (0 ≤ a2) = true := decide_eq_true c4
    clear c4
    by_cases c5 : a2 ≤ 32
    · rw [if_pos c5] at H
      have c5b0 : decide (a2 ≤ 32) = true := decide_eq_true c5
      clear c5
      replace H := Option.bind_eq_some_iff.mp H
      obtain ⟨t111, A60, H⟩ := H
      replace H : ((host_word.f a1_0 a1_1 a1_2 a1_3).bind fun t112 => (if 0 ≤ (wrap64 (32 - a2)) then (some ((shr .u32 (Go.bits .xor .u32 t111 t112) (wrap64 (32 - a2))) == 0)) else (none))) = some r := H
      have A6 := Aside0.mk A60
      clear A60
      replace H := Option.bind_eq_some_iff.mp H
      obtain ⟨t112, A70, H⟩ := H
      replace H : (if 0 ≤ (wrap64 (32 - a2)) then (some ((shr .u32 (Go.bits .xor .u32 t111 t112) (wrap64 (32 - a2))) == 0)) else (none)) = some r := H
      have A7 := Aside0.mk A70
      clear A70
      obtain ⟨ji8, hji8⟩ : ∃ j_ : Int, (wrap64 (32 - a2)) = j_ := ⟨_, rfl⟩
      replace H : (if 0 ≤ (ji8) then (some ((shr .u32 (Go.bits .xor .u32 t111 t112) (ji8)) == 0)) else (none)) = some r := by first | (rw [hji8] at H; exact H) | (simp only [hji8] at H ⊢; exact H)
      (try rw [hji8] at A6)
      (try rw [hji8] at A7)
      have hji8w : (IntKind.i64.wrap (32 - a2)) = ji8 := (i64_w _).trans hji8
      by_cases c9 : 0 ≤ (ji8)
      · rw [if_pos c9] at H
        have c9b0 := eq_true c9
        have c9b1 : decide (0 ≤ (ji8)) = true := decide_eq_true c9
        clear c9
        obtain ⟨ji10, hji10⟩ : ∃ j_ : Int, (shr .u32 (Go.bits .xor .u32 t111 t112) (ji8)) = j_ := ⟨_, rfl⟩
        replace H : (some ((ji10) == 0)) = some r := by first | (rw [hji10] at H; exact H) | (simp only [hji10] at H ⊢; exact H)
        (try rw [hji10] at A6)
        (try rw [hji10] at A7)
        have hji10_ : ((Go.bits .xor .u32 t111 t112) / 2 ^ min (ji8).toNat 32) = ji10 := hji10
        have hji10z : (ji8) ≤ 32 → ((Go.bits .xor .u32 t111 t112) / 2 ^ (ji8).toNat) = ji10 := shr_small hji10
        obtain rfl := Option.some.inj H
        go_enter Tryz.func25, Tryz.ntmps25
        try go_wp2_with (first | ((with_reducible refine gate_dst (N := 3) rfl ?_); refine box_event ?hg (N := 3) ?hd (cs := #[.int .u8 a0_0, .int .u8 a0_1, .int .u8 a0_2, .int .u8 a0_3]) (t := 24) ?hr ?_; (case hd => rfl); (case hg => rfl); (case hr => first | (go_simp; done) | (go_simp; rfl)); intro gb109 hg w11 hbox hb; have n0_ := Aside0.mk (below_step (by repeat (first | (with_reducible first | exact HB.out | apply below_alloc | apply pw_below_drewN | apply below_drew1) | exact HB.out)) hb); have n1_ := Aside0.mk (hbox); have n2_ := Aside0.mk ((by rw [hg]; exact (below_size (by repeat (first | (with_reducible first | exact HB.out | apply below_alloc | apply pw_below_drewN | apply below_drew1) | exact HB.out))) : w.heap.size ≤ gb109)); have n3_ := Aside0.mk ((by rw [hg]; exact (below_size (by repeat (first | (with_reducible first | exact HB.out | apply below_alloc | apply pw_below_drewN | apply below_drew1) | exact HB.out))) : w.heap.size ≤ gb109)); clear HB; have HB := n0_; have BK109 := n1_; have GW109 := n2_; have GE109 := n3_; clear n0_ n1_ n2_ n3_; clear hb hbox hg) | ((with_reducible refine gate_dst (N := 4) rfl ?_); refine box_event ?hg (N := 4) ?hd (cs := #[.int .u8 a1_0, .int .u8 a1_1, .int .u8 a1_2, .int .u8 a1_3]) (t := 24) ?hr ?_; (case hd => rfl); (case hg => rfl); (case hr => first | (go_simp; done) | (go_simp; rfl)); intro gb110 hg w12 hbox hb; have n0_ := Aside0.mk (blk_below (g := gb109) (o := .cells #[.int .u8 a0_0, .int .u8 a0_1, .int .u8 a0_2, .int .u8 a0_3] 24 (0, 0)) (by (with_reducible repeat (first | refine blk_drewN ?_ _ | refine blk_drew ?_ | refine blk_alloc ?_ _)); exact BK109.out) hb); have n1_ := Aside0.mk (below_step (by repeat (first | (with_reducible first | exact HB.out | apply below_alloc | apply pw_below_drewN | apply below_drew1 | refine below_set ?_ GE109.out) | exact HB.out)) hb); have n2_ := Aside0.mk (hbox); have n3_ := Aside0.mk ((by rw [hg]; exact (below_size (by repeat (first | (with_reducible first | exact HB.out | apply below_alloc | apply pw_below_drewN | apply below_drew1 | refine below_set ?_ GE109.out) | exact HB.out))) : w.heap.size ≤ gb110)); have n4_ := Aside0.mk ((by rw [hg]; exact (below_size (by repeat (first | (with_reducible first | exact HB.out | apply below_alloc | apply pw_below_drewN | apply below_drew1 | refine below_set ?_ GE109.out) | exact HB.out))) : w.heap.size ≤ gb110)); have n5_ := Aside0.mk ((by rw [hg]; exact Nat.ne_of_lt (blk_lt (g := gb109) (o := .cells #[.int .u8 a0_0, .int .u8 a0_1, .int .u8 a0_2, .int .u8 a0_3] 24 (0, 0)) (by (with_reducible repeat (first | refine blk_drewN ?_ _ | refine blk_drew ?_ | refine blk_alloc ?_ _)); exact BK109.out)) : gb109 ≠ gb110)); have n6_ := Aside0.mk ((by rw [hg]; exact Nat.ne_of_gt (blk_lt (g := gb109) (o := .cells #[.int .u8 a0_0, .int .u8 a0_1, .int .u8 a0_2, .int .u8 a0_3] 24 (0, 0)) (by (with_reducible repeat (first | refine blk_drewN ?_ _ | refine blk_drew ?_ | refine blk_alloc ?_ _)); exact BK109.out)) : gb110 ≠ gb109)); clear BK109; clear HB; have BK109 := n0_; have HB := n1_; have BK110 := n2_; have GW110 := n3_; have GE110 := n4_; have NB109_110 := n5_; have NB110_109 := n6_; clear n0_ n1_ n2_ n3_ n4_ n5_ n6_; clear hb hbox hg))
        have n0_ := Aside0.mk (blk_drew BK109.out)
        have n1_ := Aside0.mk (blk_drew BK110.out)
        have n2_ := Aside0.mk (below_drew1 HB.out)
        clear BK109
        clear BK110
        clear HB
        have BK109 := n0_
        have BK110 := n1_
        have HB := n2_
        clear n0_ n1_ n2_
        refine start_ (n := 18) (S := fun w' => w'.cell? ⟨gb109, 0, none⟩ = some (.int .u8 a0_0) ∧ w'.cell? ⟨gb109, 1, none⟩ = some (.int .u8 a0_1) ∧ w'.cell? ⟨gb109, 2, none⟩ = some (.int .u8 a0_2) ∧ w'.cell? ⟨gb109, 3, none⟩ = some (.int .u8 a0_3) ∧ w'.cell? ⟨gb110, 0, none⟩ = some (.int .u8 a1_0) ∧ w'.cell? ⟨gb110, 1, none⟩ = some (.int .u8 a1_1) ∧ w'.cell? ⟨gb110, 2, none⟩ = some (.int .u8 a1_2) ∧ w'.cell? ⟨gb110, 3, none⟩ = some (.int .u8 a1_3)) (ds := []) #[false, false, false, false, false, false, false, false, false, false, false, false, false, false, false, false, false, false] (by kernel_rfl) rfl rfl ⟨(blk_cell BK109.out 0).trans rfl, (blk_cell BK109.out 1).trans rfl, (blk_cell BK109.out 2).trans rfl, (blk_cell BK109.out 3).trans rfl, (blk_cell BK110.out 0).trans rfl, (blk_cell BK110.out 1).trans rfl, (blk_cell BK110.out 2).trans rfl, (blk_cell BK110.out 3).trans rfl⟩ (fun hHeld => ?_); refine with_tabW host_In.tab1 host_In.bits1 (fun HT_ HW_ => ?_)
        generalize w12.drew = w13 at BK109 BK110 HB hHeld ⊢
        refine pure_ (i := 0) (N := some 7) (v := ?_) (a' := ?_) #[true, false, false, false, false, false, false, false, false, false, false, false, false, false, false, false, false, false] rfl rfl (any_of HT_.out (by kernel_rfl)) (fun _ _ _ h => h) (Or.inl ⟨by rfl, ?_⟩) ?_ ?_
        rotate_left
        · intro w'
          go_simp
          with_reducible rfl
        rotate_left
        · simp only [Act.put, List.setIfInBounds_toArray, List.set_cons_zero, List.set_cons_succ, i64_w, i32_w]
          rfl
        refine pure_ (i := 1) (N := some 8) (v := ?_) (a' := ?_) #[true, true, false, false, false, false, false, false, false, false, false, false, false, false, false, false, false, false] rfl rfl (any_of HT_.out (by kernel_rfl)) (fun _ _ _ h => h) (Or.inl ⟨by rfl, ?_⟩) ?_ ?_
        rotate_left
        · intro w'
          go_simp
          with_reducible rfl
        rotate_left
        · simp only [Act.put, List.setIfInBounds_toArray, List.set_cons_zero, List.set_cons_succ, i64_w, i32_w]
          rfl
        refine pure_ (i := 2) (N := some 9) (v := ?_) (a' := ?_) #[true, true, true, false, false, false, false, false, false, false, false, false, false, false, false, false, false, false] rfl rfl (any_of HT_.out (by kernel_rfl)) (fun _ _ _ h => h) (Or.inl ⟨by rfl, ?_⟩) ?_ ?_
        rotate_left
        · intro w'
          go_simp
          with_reducible rfl
        rotate_left
        · simp only [Act.put, List.setIfInBounds_toArray, List.set_cons_zero, List.set_cons_succ, i64_w, i32_w]
          rfl
        refine pure_ (i := 3) (N := some 10) (v := ?_) (a' := ?_) #[true, true, true, true, false, false, false, false, false, false, false, false, false, false, false, false, false, false] rfl rfl (any_of HT_.out (by kernel_rfl)) (fun _ _ _ h => h) (Or.inl ⟨by rfl, ?_⟩) ?_ ?_
        rotate_left
        · intro w'
          go_simp
          with_reducible rfl
        rotate_left
        · simp only [Act.put, List.setIfInBounds_toArray, List.set_cons_zero, List.set_cons_succ, i64_w, i32_w]
          rfl
        refine pure_ (i := 4) (N := some 11) (v := ?_) (a' := ?_) #[true, true, true, true, true, false, false, false, false, false, false, false, false, false, false, false, false, false] rfl rfl (any_of HT_.out (by kernel_rfl)) (fun _ _ _ h => h) (Or.inl ⟨by rfl, ?_⟩) ?_ ?_
        rotate_left
        · intro w'
          go_simp
          with_reducible rfl
        rotate_left
        · simp only [Act.put, List.setIfInBounds_toArray, List.set_cons_zero, List.set_cons_succ, i64_w, i32_w]
          rfl
        refine pure_ (i := 5) (N := some 12) (v := ?_) (a' := ?_) #[true, true, true, true, true, true, false, false, false, false, false, false, false, false, false, false, false, false] rfl rfl (any_of HT_.out (by kernel_rfl)) (fun _ _ _ h => h) (Or.inl ⟨by rfl, ?_⟩) ?_ ?_
        rotate_left
        · intro w'
          go_simp
          with_reducible rfl
        rotate_left
        · simp only [Act.put, List.setIfInBounds_toArray, List.set_cons_zero, List.set_cons_succ, i64_w, i32_w]
          rfl
        refine pure_ (i := 6) (N := some 13) (v := ?_) (a' := ?_) #[true, true, true, true, true, true, true, false, false, false, false, false, false, false, false, false, false, false] rfl rfl (any_of HT_.out (by kernel_rfl)) (fun _ _ _ h => h) (Or.inl ⟨by rfl, ?_⟩) ?_ ?_
        rotate_left
        · intro w'
          go_simp
          with_reducible rfl
        rotate_left
        · simp only [Act.put, List.setIfInBounds_toArray, List.set_cons_zero, List.set_cons_succ, i64_w, i32_w]
          rfl
        refine pure_ (i := 12) (N := some 19) (v := ?_) (a' := ?_) #[true, true, true, true, true, true, true, false, false, false, false, false, true, false, false, false, false, false] rfl rfl (any_of HT_.out (by kernel_rfl)) (fun _ _ _ h => h) (Or.inl ⟨by rfl, ?_⟩) ?_ ?_
        rotate_left
        · intro w'
          go_simp
          with_reducible rfl
        rotate_left
        · simp only [Act.put, List.setIfInBounds_toArray, List.set_cons_zero, List.set_cons_succ, i64_w, i32_w]
          rfl
        refine pure_ (i := 13) (N := some 20) (v := ?_) (a' := ?_) #[true, true, true, true, true, true, true, false, false, false, false, false, true, true, false, false, false, false] rfl rfl (any_of HT_.out (by kernel_rfl)) (fun _ _ _ h => h) (Or.inl ⟨by rfl, ?_⟩) ?_ ?_
        rotate_left
        · intro w'
          go_simp
          with_reducible rfl
        rotate_left
        · simp only [Act.put, List.setIfInBounds_toArray, List.set_cons_zero, List.set_cons_succ, i64_w, i32_w]
          rfl
        refine take_ (i := 7) (N := some 14) (v := ?_) (a' := ?_) #[true, true, true, true, true, true, true, true, false, false, false, false, true, true, false, false, false, false] rfl rfl (take_ofW HT_.out HW_.out (by kernel_rfl)) (fun _ _ _ h => h) (Or.inl ⟨by rfl, ?_⟩) hHeld ?_ ?_
        rotate_left
        · rintro w' ⟨s0, s1, s2, s3, s4, s5, s6, s7⟩
          go_simp
          with_reducible rfl
        rotate_left
        · simp only [Act.put, List.setIfInBounds_toArray, List.set_cons_zero, List.set_cons_succ, i64_w, i32_w]
          rfl
        refine take_ (i := 9) (N := some 16) (v := ?_) (a' := ?_) #[true, true, true, true, true, true, true, true, false, true, false, false, true, true, false, false, false, false] rfl rfl (take_ofW HT_.out HW_.out (by kernel_rfl)) (fun _ _ _ h => h) (Or.inl ⟨by rfl, ?_⟩) hHeld ?_ ?_
        rotate_left
        · rintro w' ⟨s0, s1, s2, s3, s4, s5, s6, s7⟩
          go_simp
          with_reducible rfl
        rotate_left
        · simp only [Act.put, List.setIfInBounds_toArray, List.set_cons_zero, List.set_cons_succ, i64_w, i32_w]
          rfl
        refine one_ (i := 8) (N := some 15) #[true, true, true, true, true, true, true, true, true, true, false, false, true, true, false, false, false, false] rfl rfl (one_of HT_.out (by kernel_rfl)) (by decide) (fun K hK => ?_)
        refine goes_ Tryz.func52 (by kernel_rfl) rfl #[.agg #[.int .u8 a0_0, .int .u8 a0_1, .int .u8 a0_2, .int .u8 a0_3]] (by rfl) rfl rfl (by (try simp only [List.map_toArray, List.map_cons, List.map_nil]); first | done | rfl | (simp only [List.length_drop, List.length_take]; rfl)) ?_
        with_reducible refine (host_word.calls a0_0 a0_1 a0_2 a0_3 t111 _ A6.out).mono ?_
        rintro e w14 ⟨rfl, hb⟩
        refine ⟨_, rfl, ?_⟩
        have n0_ := Aside0.mk (blk_below (g := gb109) (o := .cells #[.int .u8 a0_0, .int .u8 a0_1, .int .u8 a0_2, .int .u8 a0_3] 24 (0, 0)) (by (with_reducible repeat (first | refine blk_drewN ?_ _ | refine blk_drew ?_ | refine blk_alloc ?_ _)); exact BK109.out) hb)
        have n1_ := Aside0.mk (blk_below (g := gb110) (o := .cells #[.int .u8 a1_0, .int .u8 a1_1, .int .u8 a1_2, .int .u8 a1_3] 24 (0, 0)) (by (with_reducible repeat (first | refine blk_drewN ?_ _ | refine blk_drew ?_ | refine blk_alloc ?_ _)); exact BK110.out) hb)
        have n2_ := Aside0.mk (below_step (by repeat (first | (with_reducible first | exact HB.out | apply below_alloc | apply pw_below_drewN | apply below_drew1 | refine below_set ?_ GE109.out | refine below_set ?_ GE110.out) | exact HB.out)) hb)
        clear BK109
        clear BK110
        clear HB
        have BK109 := n0_
        have BK110 := n1_
        have HB := n2_
        clear n0_ n1_ n2_
        (try clear hb)
        (try clear hb2)
        (try clear hk)
        (try clear hi)
        refine hK.out _ _ ⟨(blk_cell BK109.out 0).trans rfl, (blk_cell BK109.out 1).trans rfl, (blk_cell BK109.out 2).trans rfl, (blk_cell BK109.out 3).trans rfl, (blk_cell BK110.out 0).trans rfl, (blk_cell BK110.out 1).trans rfl, (blk_cell BK110.out 2).trans rfl, (blk_cell BK110.out 3).trans rfl⟩ (fun hHeld => ?_)
        clear hK K
        refine norm_ (a' := ?_) ?_ ?_
        rotate_left
        · show Act.put _ (some 15) _ = _
          simp only [Act.put, List.setIfInBounds_toArray, List.set_cons_zero, List.set_cons_succ, i64_w, i32_w]
          rfl
        refine one_ (i := 10) (N := some 17) #[true, true, true, true, true, true, true, true, true, true, true, false, true, true, false, false, false, false] rfl rfl (one_of HT_.out (by kernel_rfl)) (by decide) (fun K hK => ?_)
        refine goes_ Tryz.func52 (by kernel_rfl) rfl #[.agg #[.int .u8 a1_0, .int .u8 a1_1, .int .u8 a1_2, .int .u8 a1_3]] (by rfl) rfl rfl (by (try simp only [List.map_toArray, List.map_cons, List.map_nil]); first | done | rfl | (simp only [List.length_drop, List.length_take]; rfl)) ?_
        with_reducible refine (host_word.calls a1_0 a1_1 a1_2 a1_3 t112 _ A7.out).mono ?_
        rintro e w15 ⟨rfl, hb⟩
        refine ⟨_, rfl, ?_⟩
        have n0_ := Aside0.mk (blk_below (g := gb109) (o := .cells #[.int .u8 a0_0, .int .u8 a0_1, .int .u8 a0_2, .int .u8 a0_3] 24 (0, 0)) (by (with_reducible repeat (first | refine blk_drewN ?_ _ | refine blk_drew ?_ | refine blk_alloc ?_ _)); exact BK109.out) hb)
        have n1_ := Aside0.mk (blk_below (g := gb110) (o := .cells #[.int .u8 a1_0, .int .u8 a1_1, .int .u8 a1_2, .int .u8 a1_3] 24 (0, 0)) (by (with_reducible repeat (first | refine blk_drewN ?_ _ | refine blk_drew ?_ | refine blk_alloc ?_ _)); exact BK110.out) hb)
        have n2_ := Aside0.mk (below_step (by repeat (first | (with_reducible first | exact HB.out | apply below_alloc | apply pw_below_drewN | apply below_drew1 | refine below_set ?_ GE109.out | refine below_set ?_ GE110.out) | exact HB.out)) hb)
        clear BK109
        clear BK110
        clear HB
        have BK109 := n0_
        have BK110 := n1_
        have HB := n2_
        clear n0_ n1_ n2_
        (try clear hb)
        (try clear hb2)
        (try clear hk)
        (try clear hi)
        refine hK.out _ _ ⟨(blk_cell BK109.out 0).trans rfl, (blk_cell BK109.out 1).trans rfl, (blk_cell BK109.out 2).trans rfl, (blk_cell BK109.out 3).trans rfl, (blk_cell BK110.out 0).trans rfl, (blk_cell BK110.out 1).trans rfl, (blk_cell BK110.out 2).trans rfl, (blk_cell BK110.out 3).trans rfl⟩ (fun hHeld => ?_)
        clear hK K
        refine norm_ (a' := ?_) ?_ ?_
        rotate_left
        · show Act.put _ (some 17) _ = _
          simp only [Act.put, List.setIfInBounds_toArray, List.set_cons_zero, List.set_cons_succ, i64_w, i32_w]
          rfl
        refine pure_ (i := 11) (N := some 18) (v := ?_) (a' := ?_) #[true, true, true, true, true, true, true, true, true, true, true, true, true, true, false, false, false, false] rfl rfl (any_of HT_.out (by kernel_rfl)) (fun _ _ _ h => h) (Or.inl ⟨by rfl, ?_⟩) ?_ ?_
        rotate_left
        · intro w'
          go_simp
          with_reducible rfl
        rotate_left
        · simp only [Act.put, List.setIfInBounds_toArray, List.set_cons_zero, List.set_cons_succ, i64_w, i32_w]
          rfl
        refine pure_ (i := 14) (N := some 21) (v := ?_) (a' := ?_) #[true, true, true, true, true, true, true, true, true, true, true, true, true, true, true, false, false, false] rfl rfl (any_of HT_.out (by kernel_rfl)) (fun _ _ _ h => h) (Or.inl ⟨by rfl, ?_⟩) ?_ ?_
        rotate_left
        · intro w'
          go_simp
          with_reducible rfl
        rotate_left
        · simp only [Act.put, List.setIfInBounds_toArray, List.set_cons_zero, List.set_cons_succ, i64_w, i32_w]
          rfl
        refine pure_ (i := 15) (N := some 22) (v := ?_) (a' := ?_) #[true, true, true, true, true, true, true, true, true, true, true, true, true, true, true, true, false, false] rfl rfl (any_of HT_.out (by kernel_rfl)) (fun _ _ _ h => h) (Or.inl ⟨by rfl, ?_⟩) ?_ ?_
        rotate_left
        · intro w'
          go_simp
          with_reducible rfl
        rotate_left
        · simp only [Act.put, List.setIfInBounds_toArray, List.set_cons_zero, List.set_cons_succ, i64_w, i32_w]
          rfl
        refine pure_ (i := 16) (N := some 23) (v := ?_) (a' := ?_) #[true, true, true, true, true, true, true, true, true, true, true, true, true, true, true, true, true, false] rfl rfl (any_of HT_.out (by kernel_rfl)) (fun _ _ _ h => h) (Or.inl ⟨by rfl, ?_⟩) ?_ ?_
        rotate_left
        · intro w'
          go_simp
          with_reducible rfl
        rotate_left
        · simp only [Act.put, List.setIfInBounds_toArray, List.set_cons_zero, List.set_cons_succ, i64_w, i32_w]
          rfl
        refine pure_ (i := 17) (N := some 6) (v := ?_) (a' := ?_) #[true, true, true, true, true, true, true, true, true, true, true, true, true, true, true, true, true, true] rfl rfl (any_of HT_.out (by kernel_rfl)) (fun _ _ _ h => h) (Or.inl ⟨by rfl, ?_⟩) ?_ ?_
        rotate_left
        · intro w'
          go_simp
          with_reducible rfl
        rotate_left
        · simp only [Act.put, List.setIfInBounds_toArray, List.set_cons_zero, List.set_cons_succ, i64_w, i32_w]
          rfl
        refine done_ (done_of HT_.out (by kernel_rfl)) ?_
        try go_wp2
        go_ret
        exact ⟨by first | rfl | (simp [errW_none, errW_some] <;> rfl) | (simp only [← hji8, ← hji10]; first | rfl | (simp [errW_none, errW_some] <;> rfl)) | (simp [*, errW_none, errW_some] <;> rfl), by repeat (first | (with_reducible first | exact HB.out | apply below_alloc | apply pw_below_drewN | apply below_drew1 | refine below_set ?_ GE109.out | refine below_set ?_ GE110.out) | exact HB.out)⟩
      · rw [if_neg c9] at H
        exact absurd H (by simp)
    · rw [if_neg c5] at H
      have c5b0 : decide (a2 ≤ 32) = false := decide_eq_false c5
      clear c5
      obtain rfl := Option.some.inj H
      go_enter Tryz.func25, Tryz.ntmps25
      try go_wp2_with (first | ((with_reducible refine gate_dst (N := 3) rfl ?_); refine box_event ?hg (N := 3) ?hd (cs := #[.int .u8 a0_0, .int .u8 a0_1, .int .u8 a0_2, .int .u8 a0_3]) (t := 24) ?hr ?_; (case hd => rfl); (case hg => rfl); (case hr => first | (go_simp; done) | (go_simp; rfl)); intro gb109 hg w16 hbox hb; have n0_ := Aside0.mk (below_step (by repeat (first | (with_reducible first | exact HB.out | apply below_alloc | apply pw_below_drewN | apply below_drew1) | exact HB.out)) hb); have n1_ := Aside0.mk (hbox); have n2_ := Aside0.mk ((by rw [hg]; exact (below_size (by repeat (first | (with_reducible first | exact HB.out | apply below_alloc | apply pw_below_drewN | apply below_drew1) | exact HB.out))) : w.heap.size ≤ gb109)); have n3_ := Aside0.mk ((by rw [hg]; exact (below_size (by repeat (first | (with_reducible first | exact HB.out | apply below_alloc | apply pw_below_drewN | apply below_drew1) | exact HB.out))) : w.heap.size ≤ gb109)); clear HB; have HB := n0_; have BK109 := n1_; have GW109 := n2_; have GE109 := n3_; clear n0_ n1_ n2_ n3_; clear hb hbox hg) | ((with_reducible refine gate_dst (N := 4) rfl ?_); refine box_event ?hg (N := 4) ?hd (cs := #[.int .u8 a1_0, .int .u8 a1_1, .int .u8 a1_2, .int .u8 a1_3]) (t := 24) ?hr ?_; (case hd => rfl); (case hg => rfl); (case hr => first | (go_simp; done) | (go_simp; rfl)); intro gb110 hg w17 hbox hb; have n0_ := Aside0.mk (blk_below (g := gb109) (o := .cells #[.int .u8 a0_0, .int .u8 a0_1, .int .u8 a0_2, .int .u8 a0_3] 24 (0, 0)) (by (with_reducible repeat (first | refine blk_drewN ?_ _ | refine blk_drew ?_ | refine blk_alloc ?_ _)); exact BK109.out) hb); have n1_ := Aside0.mk (below_step (by repeat (first | (with_reducible first | exact HB.out | apply below_alloc | apply pw_below_drewN | apply below_drew1 | refine below_set ?_ GE109.out) | exact HB.out)) hb); have n2_ := Aside0.mk (hbox); have n3_ := Aside0.mk ((by rw [hg]; exact (below_size (by repeat (first | (with_reducible first | exact HB.out | apply below_alloc | apply pw_below_drewN | apply below_drew1 | refine below_set ?_ GE109.out) | exact HB.out))) : w.heap.size ≤ gb110)); have n4_ := Aside0.mk ((by rw [hg]; exact (below_size (by repeat (first | (with_reducible first | exact HB.out | apply below_alloc | apply pw_below_drewN | apply below_drew1 | refine below_set ?_ GE109.out) | exact HB.out))) : w.heap.size ≤ gb110)); have n5_ := Aside0.mk ((by rw [hg]; exact Nat.ne_of_lt (blk_lt (g := gb109) (o := .cells #[.int .u8 a0_0, .int .u8 a0_1, .int .u8 a0_2, .int .u8 a0_3] 24 (0, 0)) (by (with_reducible repeat (first | refine blk_drewN ?_ _ | refine blk_drew ?_ | refine blk_alloc ?_ _)); exact BK109.out)) : gb109 ≠ gb110)); have n6_ := Aside0.mk ((by rw [hg]; exact Nat.ne_of_gt (blk_lt (g := gb109) (o := .cells #[.int .u8 a0_0, .int .u8 a0_1, .int .u8 a0_2, .int .u8 a0_3] 24 (0, 0)) (by (with_reducible repeat (first | refine blk_drewN ?_ _ | refine blk_drew ?_ | refine blk_alloc ?_ _)); exact BK109.out)) : gb110 ≠ gb109)); clear BK109; clear HB; have BK109 := n0_; have HB := n1_; have BK110 := n2_; have GW110 := n3_; have GE110 := n4_; have NB109_110 := n5_; have NB110_109 := n6_; clear n0_ n1_ n2_ n3_ n4_ n5_ n6_; clear hb hbox hg))
      have n0_ := Aside0.mk (blk_drew BK109.out)
      have n1_ := Aside0.mk (blk_drew BK110.out)
      have n2_ := Aside0.mk (below_drew1 HB.out)
      clear BK109
      clear BK110
      clear HB
      have BK109 := n0_
      have BK110 := n1_
      have HB := n2_
      clear n0_ n1_ n2_
      refine start_ (n := 18) (S := fun w' => True) (ds := []) #[false, false, false, false, false, false, false, false, false, false, false, false, false, false, false, false, false, false] (by kernel_rfl) rfl rfl trivial (fun hHeld => ?_); refine with_tabW host_In.tab1 host_In.bits1 (fun HT_ HW_ => ?_)
      generalize w17.drew = w18 at BK109 BK110 HB hHeld ⊢
      refine pure_ (i := 0) (N := some 7) (v := ?_) (a' := ?_) #[true, false, false, false, false, false, false, false, false, false, false, false, false, false, false, false, false, false] rfl rfl (any_of HT_.out (by kernel_rfl)) (fun _ _ _ h => h) (Or.inl ⟨by rfl, ?_⟩) ?_ ?_
      rotate_left
      · intro w'
        go_simp
        with_reducible rfl
      rotate_left
      · simp only [Act.put, List.setIfInBounds_toArray, List.set_cons_zero, List.set_cons_succ, i64_w, i32_w]
        rfl
      refine pure_ (i := 1) (N := some 8) (v := ?_) (a' := ?_) #[true, true, false, false, false, false, false, false, false, false, false, false, false, false, false, false, false, false] rfl rfl (any_of HT_.out (by kernel_rfl)) (fun _ _ _ h => h) (Or.inl ⟨by rfl, ?_⟩) ?_ ?_
      rotate_left
      · intro w'
        go_simp
        with_reducible rfl
      rotate_left
      · simp only [Act.put, List.setIfInBounds_toArray, List.set_cons_zero, List.set_cons_succ, i64_w, i32_w]
        rfl
      refine pure_ (i := 2) (N := some 9) (v := ?_) (a' := ?_) #[true, true, true, false, false, false, false, false, false, false, false, false, false, false, false, false, false, false] rfl rfl (any_of HT_.out (by kernel_rfl)) (fun _ _ _ h => h) (Or.inl ⟨by rfl, ?_⟩) ?_ ?_
      rotate_left
      · intro w'
        go_simp
        with_reducible rfl
      rotate_left
      · simp only [Act.put, List.setIfInBounds_toArray, List.set_cons_zero, List.set_cons_succ, i64_w, i32_w]
        rfl
      refine pure_ (i := 3) (N := some 10) (v := ?_) (a' := ?_) #[true, true, true, true, false, false, false, false, false, false, false, false, false, false, false, false, false, false] rfl rfl (any_of HT_.out (by kernel_rfl)) (fun _ _ _ h => h) (Or.inl ⟨by rfl, ?_⟩) ?_ ?_
      rotate_left
      · intro w'
        go_simp
        with_reducible rfl
      rotate_left
      · simp only [Act.put, List.setIfInBounds_toArray, List.set_cons_zero, List.set_cons_succ, i64_w, i32_w]
        rfl
      refine pure_ (i := 4) (N := some 11) (v := ?_) (a' := ?_) #[true, true, true, true, true, false, false, false, false, false, false, false, false, false, false, false, false, false] rfl rfl (any_of HT_.out (by kernel_rfl)) (fun _ _ _ h => h) (Or.inl ⟨by rfl, ?_⟩) ?_ ?_
      rotate_left
      · intro w'
        go_simp
        with_reducible rfl
      rotate_left
      · simp only [Act.put, List.setIfInBounds_toArray, List.set_cons_zero, List.set_cons_succ, i64_w, i32_w]
        rfl
      refine pure_ (i := 5) (N := some 12) (v := ?_) (a' := ?_) #[true, true, true, true, true, true, false, false, false, false, false, false, false, false, false, false, false, false] rfl rfl (any_of HT_.out (by kernel_rfl)) (fun _ _ _ h => h) (Or.inl ⟨by rfl, ?_⟩) ?_ ?_
      rotate_left
      · intro w'
        go_simp
        with_reducible rfl
      rotate_left
      · simp only [Act.put, List.setIfInBounds_toArray, List.set_cons_zero, List.set_cons_succ, i64_w, i32_w]
        rfl
      refine pure_ (i := 6) (N := some 13) (v := ?_) (a' := ?_) #[true, true, true, true, true, true, true, false, false, false, false, false, false, false, false, false, false, false] rfl rfl (any_of HT_.out (by kernel_rfl)) (fun _ _ _ h => h) (Or.inl ⟨by rfl, ?_⟩) ?_ ?_
      rotate_left
      · intro w'
        go_simp
        with_reducible rfl
      rotate_left
      · simp only [Act.put, List.setIfInBounds_toArray, List.set_cons_zero, List.set_cons_succ, i64_w, i32_w]
        rfl
      refine pure_ (i := 7) (N := some 14) (v := undef) (a' := ?_) #[true, true, true, true, true, true, true, true, false, false, false, false, false, false, false, false, false, false] rfl rfl (any_of HT_.out (by kernel_rfl)) (fun _ _ _ h => h) (Or.inr ⟨by rfl, rfl⟩) ?_ ?_
      rotate_left
      · simp only [Act.put, List.setIfInBounds_toArray, List.set_cons_zero, List.set_cons_succ, i64_w, i32_w]
        rfl
      refine pure_ (i := 8) (N := some 15) (v := undef) (a' := ?_) #[true, true, true, true, true, true, true, true, true, false, false, false, false, false, false, false, false, false] rfl rfl (any_of HT_.out (by kernel_rfl)) (fun _ _ _ h => h) (Or.inr ⟨by rfl, rfl⟩) ?_ ?_
      rotate_left
      · simp only [Act.put, List.setIfInBounds_toArray, List.set_cons_zero, List.set_cons_succ, i64_w, i32_w]
        rfl
      refine pure_ (i := 9) (N := some 16) (v := undef) (a' := ?_) #[true, true, true, true, true, true, true, true, true, true, false, false, false, false, false, false, false, false] rfl rfl (any_of HT_.out (by kernel_rfl)) (fun _ _ _ h => h) (Or.inr ⟨by rfl, rfl⟩) ?_ ?_
      rotate_left
      · simp only [Act.put, List.setIfInBounds_toArray, List.set_cons_zero, List.set_cons_succ, i64_w, i32_w]
        rfl
      refine pure_ (i := 10) (N := some 17) (v := undef) (a' := ?_) #[true, true, true, true, true, true, true, true, true, true, true, false, false, false, false, false, false, false] rfl rfl (any_of HT_.out (by kernel_rfl)) (fun _ _ _ h => h) (Or.inr ⟨by rfl, rfl⟩) ?_ ?_
      rotate_left
      · simp only [Act.put, List.setIfInBounds_toArray, List.set_cons_zero, List.set_cons_succ, i64_w, i32_w]
        rfl
      refine pure_ (i := 11) (N := some 18) (v := undef) (a' := ?_) #[true, true, true, true, true, true, true, true, true, true, true, true, false, false, false, false, false, false] rfl rfl (any_of HT_.out (by kernel_rfl)) (fun _ _ _ h => h) (Or.inr ⟨by rfl, rfl⟩) ?_ ?_
      rotate_left
      · simp only [Act.put, List.setIfInBounds_toArray, List.set_cons_zero, List.set_cons_succ, i64_w, i32_w]
        rfl
      refine pure_ (i := 12) (N := some 19) (v := undef) (a' := ?_) #[true, true, true, true, true, true, true, true, true, true, true, true, true, false, false, false, false, false] rfl rfl (any_of HT_.out (by kernel_rfl)) (fun _ _ _ h => h) (Or.inr ⟨by rfl, rfl⟩) ?_ ?_
      rotate_left
      · simp only [Act.put, List.setIfInBounds_toArray, List.set_cons_zero, List.set_cons_succ, i64_w, i32_w]
        rfl
      refine pure_ (i := 13) (N := some 20) (v := undef) (a' := ?_) #[true, true, true, true, true, true, true, true, true, true, true, true, true, true, false, false, false, false] rfl rfl (any_of HT_.out (by kernel_rfl)) (fun _ _ _ h => h) (Or.inr ⟨by rfl, rfl⟩) ?_ ?_
      rotate_left
      · simp only [Act.put, List.setIfInBounds_toArray, List.set_cons_zero, List.set_cons_succ, i64_w, i32_w]
        rfl
      refine pure_ (i := 14) (N := some 21) (v := undef) (a' := ?_) #[true, true, true, true, true, true, true, true, true, true, true, true, true, true, true, false, false, false] rfl rfl (any_of HT_.out (by kernel_rfl)) (fun _ _ _ h => h) (Or.inr ⟨by rfl, rfl⟩) ?_ ?_
      rotate_left
      · simp only [Act.put, List.setIfInBounds_toArray, List.set_cons_zero, List.set_cons_succ, i64_w, i32_w]
        rfl
      refine pure_ (i := 15) (N := some 22) (v := undef) (a' := ?_) #[true, true, true, true, true, true, true, true, true, true, true, true, true, true, true, true, false, false] rfl rfl (any_of HT_.out (by kernel_rfl)) (fun _ _ _ h => h) (Or.inr ⟨by rfl, rfl⟩) ?_ ?_
      rotate_left
      · simp only [Act.put, List.setIfInBounds_toArray, List.set_cons_zero, List.set_cons_succ, i64_w, i32_w]
        rfl
      refine pure_ (i := 16) (N := some 23) (v := ?_) (a' := ?_) #[true, true, true, true, true, true, true, true, true, true, true, true, true, true, true, true, true, false] rfl rfl (any_of HT_.out (by kernel_rfl)) (fun _ _ _ h => h) (Or.inl ⟨by rfl, ?_⟩) ?_ ?_
      rotate_left
      · intro w'
        go_simp
        with_reducible rfl
      rotate_left
      · simp only [Act.put, List.setIfInBounds_toArray, List.set_cons_zero, List.set_cons_succ, i64_w, i32_w]
        rfl
      refine pure_ (i := 17) (N := some 6) (v := ?_) (a' := ?_) #[true, true, true, true, true, true, true, true, true, true, true, true, true, true, true, true, true, true] rfl rfl (any_of HT_.out (by kernel_rfl)) (fun _ _ _ h => h) (Or.inl ⟨by rfl, ?_⟩) ?_ ?_
      rotate_left
      · intro w'
        go_simp
        with_reducible rfl
      rotate_left
      · simp only [Act.put, List.setIfInBounds_toArray, List.set_cons_zero, List.set_cons_succ, i64_w, i32_w]
        rfl
      refine done_ (done_of HT_.out (by kernel_rfl)) ?_
      try go_wp2
      go_ret
      exact ⟨by first | rfl | (simp [errW_none, errW_some] <;> rfl) | (simp [*, errW_none, errW_some] <;> rfl), by repeat (first | (with_reducible first | exact HB.out | apply below_alloc | apply pw_below_drewN | apply below_drew1 | refine below_set ?_ GE109.out | refine below_set ?_ GE110.out) | exact HB.out)⟩
  · rw [if_neg c4] at H
    have c4b0 : decide (0 ≤ a2) = false := decide_eq_false c4
    clear c4
    obtain rfl := Option.some.inj H
    go_enter Tryz.func25, Tryz.ntmps25
    try go_wp2_with (first | ((with_reducible refine gate_dst (N := 3) rfl ?_); refine box_event ?hg (N := 3) ?hd (cs := #[.int .u8 a0_0, .int .u8 a0_1, .int .u8 a0_2, .int .u8 a0_3]) (t := 24) ?hr ?_; (case hd => rfl); (case hg => rfl); (case hr => first | (go_simp; done) | (go_simp; rfl)); intro gb109 hg w19 hbox hb; have n0_ := Aside0.mk (below_step (by repeat (first | (with_reducible first | exact HB.out | apply below_alloc | apply pw_below_drewN | apply below_drew1) | exact HB.out)) hb); have n1_ := Aside0.mk (hbox); have n2_ := Aside0.mk ((by rw [hg]; exact (below_size (by repeat (first | (with_reducible first | exact HB.out | apply below_alloc | apply pw_below_drewN | apply below_drew1) | exact HB.out))) : w.heap.size ≤ gb109)); have n3_ := Aside0.mk ((by rw [hg]; exact (below_size (by repeat (first | (with_reducible first | exact HB.out | apply below_alloc | apply pw_below_drewN | apply below_drew1) | exact HB.out))) : w.heap.size ≤ gb109)); clear HB; have HB := n0_; have BK109 := n1_; have GW109 := n2_; have GE109 := n3_; clear n0_ n1_ n2_ n3_; clear hb hbox hg) | ((with_reducible refine gate_dst (N := 4) rfl ?_); refine box_event ?hg (N := 4) ?hd (cs := #[.int .u8 a1_0, .int .u8 a1_1, .int .u8 a1_2, .int .u8 a1_3]) (t := 24) ?hr ?_; (case hd => rfl); (case hg => rfl); (case hr => first | (go_simp; done) | (go_simp; rfl)); intro gb110 hg w20 hbox hb; have n0_ := Aside0.mk (blk_below (g := gb109) (o := .cells #[.int .u8 a0_0, .int .u8 a0_1, .int .u8 a0_2, .int .u8 a0_3] 24 (0, 0)) (by (with_reducible repeat (first | refine blk_drewN ?_ _ | refine blk_drew ?_ | refine blk_alloc ?_ _)); exact BK109.out) hb); have n1_ := Aside0.mk (below_step (by repeat (first | (with_reducible first | exact HB.out | apply below_alloc | apply pw_below_drewN | apply below_drew1 | refine below_set ?_ GE109.out) | exact HB.out)) hb); have n2_ := Aside0.mk (hbox); have n3_ := Aside0.mk ((by rw [hg]; exact (below_size (by repeat (first | (with_reducible first | exact HB.out | apply below_alloc | apply pw_below_drewN | apply below_drew1 | refine below_set ?_ GE109.out) | exact HB.out))) : w.heap.size ≤ gb110)); have n4_ := Aside0.mk ((by rw [hg]; exact (below_size (by repeat (first | (with_reducible first | exact HB.out | apply below_alloc | apply pw_below_drewN | apply below_drew1 | refine below_set ?_ GE109.out) | exact HB.out))) : w.heap.size ≤ gb110)); have n5_ := Aside0.mk ((by rw [hg]; exact Nat.ne_of_lt (blk_lt (g := gb109) (o := .cells #[.int .u8 a0_0, .int .u8 a0_1, .int .u8 a0_2, .int .u8 a0_3] 24 (0, 0)) (by (with_reducible repeat (first | refine blk_drewN ?_ _ | refine blk_drew ?_ | refine blk_alloc ?_ _)); exact BK109.out)) : gb109 ≠ gb110)); have n6_ := Aside0.mk ((by rw [hg]; exact Nat.ne_of_gt (blk_lt (g := gb109) (o := .cells #[.int .u8 a0_0, .int .u8 a0_1, .int .u8 a0_2, .int .u8 a0_3] 24 (0, 0)) (by (with_reducible repeat (first | refine blk_drewN ?_ _ | refine blk_drew ?_ | refine blk_alloc ?_ _)); exact BK109.out)) : gb110 ≠ gb109)); clear BK109; clear HB; have BK109 := n0_; have HB := n1_; have BK110 := n2_; have GW110 := n3_; have GE110 := n4_; have NB109_110 := n5_; have NB110_109 := n6_; clear n0_ n1_ n2_ n3_ n4_ n5_ n6_; clear hb hbox hg))
    have n0_ := Aside0.mk (blk_drew BK109.out)
    have n1_ := Aside0.mk (blk_drew BK110.out)
    have n2_ := Aside0.mk (below_drew1 HB.out)
    clear BK109
    clear BK110
    clear HB
    have BK109 := n0_
    have BK110 := n1_
    have HB := n2_
    clear n0_ n1_ n2_
    refine start_ (n := 18) (S := fun w' => True) (ds := []) #[false, false, false, false, false, false, false, false, false, false, false, false, false, false, false, false, false, false] (by kernel_rfl) rfl rfl trivial (fun hHeld => ?_); refine with_tabW host_In.tab1 host_In.bits1 (fun HT_ HW_ => ?_)
    generalize w20.drew = w21 at BK109 BK110 HB hHeld ⊢
    refine pure_ (i := 0) (N := some 7) (v := ?_) (a' := ?_) #[true, false, false, false, false, false, false, false, false, false, false, false, false, false, false, false, false, false] rfl rfl (any_of HT_.out (by kernel_rfl)) (fun _ _ _ h => h) (Or.inl ⟨by rfl, ?_⟩) ?_ ?_
    rotate_left
    · intro w'
      go_simp
      with_reducible rfl
    rotate_left
    · simp only [Act.put, List.setIfInBounds_toArray, List.set_cons_zero, List.set_cons_succ, i64_w, i32_w]
      rfl
    refine pure_ (i := 1) (N := some 8) (v := ?_) (a' := ?_) #[true, true, false, false, false, false, false, false, false, false, false, false, false, false, false, false, false, false] rfl rfl (any_of HT_.out (by kernel_rfl)) (fun _ _ _ h => h) (Or.inl ⟨by rfl, ?_⟩) ?_ ?_
    rotate_left
    · intro w'
      go_simp
      with_reducible rfl
    rotate_left
    · simp only [Act.put, List.setIfInBounds_toArray, List.set_cons_zero, List.set_cons_succ, i64_w, i32_w]
      rfl
    refine pure_ (i := 2) (N := some 9) (v := ?_) (a' := ?_) #[true, true, true, false, false, false, false, false, false, false, false, false, false, false, false, false, false, false] rfl rfl (any_of HT_.out (by kernel_rfl)) (fun _ _ _ h => h) (Or.inl ⟨by rfl, ?_⟩) ?_ ?_
    rotate_left
    · intro w'
      go_simp
      with_reducible rfl
    rotate_left
    · simp only [Act.put, List.setIfInBounds_toArray, List.set_cons_zero, List.set_cons_succ, i64_w, i32_w]
      rfl
    refine pure_ (i := 3) (N := some 10) (v := undef) (a' := ?_) #[true, true, true, true, false, false, false, false, false, false, false, false, false, false, false, false, false, false] rfl rfl (any_of HT_.out (by kernel_rfl)) (fun _ _ _ h => h) (Or.inr ⟨by rfl, rfl⟩) ?_ ?_
    rotate_left
    · simp only [Act.put, List.setIfInBounds_toArray, List.set_cons_zero, List.set_cons_succ, i64_w, i32_w]
      rfl
    refine pure_ (i := 4) (N := some 11) (v := undef) (a' := ?_) #[true, true, true, true, true, false, false, false, false, false, false, false, false, false, false, false, false, false] rfl rfl (any_of HT_.out (by kernel_rfl)) (fun _ _ _ h => h) (Or.inr ⟨by rfl, rfl⟩) ?_ ?_
    rotate_left
    · simp only [Act.put, List.setIfInBounds_toArray, List.set_cons_zero, List.set_cons_succ, i64_w, i32_w]
      rfl
    refine pure_ (i := 5) (N := some 12) (v := ?_) (a' := ?_) #[true, true, true, true, true, true, false, false, false, false, false, false, false, false, false, false, false, false] rfl rfl (any_of HT_.out (by kernel_rfl)) (fun _ _ _ h => h) (Or.inl ⟨by rfl, ?_⟩) ?_ ?_
    rotate_left
    · intro w'
      go_simp
      with_reducible rfl
    rotate_left
    · simp only [Act.put, List.setIfInBounds_toArray, List.set_cons_zero, List.set_cons_succ, i64_w, i32_w]
      rfl
    refine pure_ (i := 6) (N := some 13) (v := ?_) (a' := ?_) #[true, true, true, true, true, true, true, false, false, false, false, false, false, false, false, false, false, false] rfl rfl (any_of HT_.out (by kernel_rfl)) (fun _ _ _ h => h) (Or.inl ⟨by rfl, ?_⟩) ?_ ?_
    rotate_left
    · intro w'
      go_simp
      with_reducible rfl
    rotate_left
    · simp only [Act.put, List.setIfInBounds_toArray, List.set_cons_zero, List.set_cons_succ, i64_w, i32_w]
      rfl
    refine pure_ (i := 7) (N := some 14) (v := undef) (a' := ?_) #[true, true, true, true, true, true, true, true, false, false, false, false, false, false, false, false, false, false] rfl rfl (any_of HT_.out (by kernel_rfl)) (fun _ _ _ h => h) (Or.inr ⟨by rfl, rfl⟩) ?_ ?_
    rotate_left
    · simp only [Act.put, List.setIfInBounds_toArray, List.set_cons_zero, List.set_cons_succ, i64_w, i32_w]
      rfl
    refine pure_ (i := 8) (N := some 15) (v := undef) (a' := ?_) #[true, true, true, true, true, true, true, true, true, false, false, false, false, false, false, false, false, false] rfl rfl (any_of HT_.out (by kernel_rfl)) (fun _ _ _ h => h) (Or.inr ⟨by rfl, rfl⟩) ?_ ?_
    rotate_left
    · simp only [Act.put, List.setIfInBounds_toArray, List.set_cons_zero, List.set_cons_succ, i64_w, i32_w]
      rfl
    refine pure_ (i := 9) (N := some 16) (v := undef) (a' := ?_) #[true, true, true, true, true, true, true, true, true, true, false, false, false, false, false, false, false, false] rfl rfl (any_of HT_.out (by kernel_rfl)) (fun _ _ _ h => h) (Or.inr ⟨by rfl, rfl⟩) ?_ ?_
    rotate_left
    · simp only [Act.put, List.setIfInBounds_toArray, List.set_cons_zero, List.set_cons_succ, i64_w, i32_w]
      rfl
    refine pure_ (i := 10) (N := some 17) (v := undef) (a' := ?_) #[true, true, true, true, true, true, true, true, true, true, true, false, false, false, false, false, false, false] rfl rfl (any_of HT_.out (by kernel_rfl)) (fun _ _ _ h => h) (Or.inr ⟨by rfl, rfl⟩) ?_ ?_
    rotate_left
    · simp only [Act.put, List.setIfInBounds_toArray, List.set_cons_zero, List.set_cons_succ, i64_w, i32_w]
      rfl
    refine pure_ (i := 11) (N := some 18) (v := undef) (a' := ?_) #[true, true, true, true, true, true, true, true, true, true, true, true, false, false, false, false, false, false] rfl rfl (any_of HT_.out (by kernel_rfl)) (fun _ _ _ h => h) (Or.inr ⟨by rfl, rfl⟩) ?_ ?_
    rotate_left
    · simp only [Act.put, List.setIfInBounds_toArray, List.set_cons_zero, List.set_cons_succ, i64_w, i32_w]
      rfl
    refine pure_ (i := 12) (N := some 19) (v := undef) (a' := ?_) #[true, true, true, true, true, true, true, true, true, true, true, true, true, false, false, false, false, false] rfl rfl (any_of HT_.out (by kernel_rfl)) (fun _ _ _ h => h) (Or.inr ⟨by rfl, rfl⟩) ?_ ?_
    rotate_left
    · simp only [Act.put, List.setIfInBounds_toArray, List.set_cons_zero, List.set_cons_succ, i64_w, i32_w]
      rfl
    refine pure_ (i := 13) (N := some 20) (v := undef) (a' := ?_) #[true, true, true, true, true, true, true, true, true, true, true, true, true, true, false, false, false, false] rfl rfl (any_of HT_.out (by kernel_rfl)) (fun _ _ _ h => h) (Or.inr ⟨by rfl, rfl⟩) ?_ ?_
    rotate_left
    · simp only [Act.put, List.setIfInBounds_toArray, List.set_cons_zero, List.set_cons_succ, i64_w, i32_w]
      rfl
    refine pure_ (i := 14) (N := some 21) (v := undef) (a' := ?_) #[true, true, true, true, true, true, true, true, true, true, true, true, true, true, true, false, false, false] rfl rfl (any_of HT_.out (by kernel_rfl)) (fun _ _ _ h => h) (Or.inr ⟨by rfl, rfl⟩) ?_ ?_
    rotate_left
    · simp only [Act.put, List.setIfInBounds_toArray, List.set_cons_zero, List.set_cons_succ, i64_w, i32_w]
      rfl
    refine pure_ (i := 15) (N := some 22) (v := undef) (a' := ?_) #[true, true, true, true, true, true, true, true, true, true, true, true, true, true, true, true, false, false] rfl rfl (any_of HT_.out (by kernel_rfl)) (fun _ _ _ h => h) (Or.inr ⟨by rfl, rfl⟩) ?_ ?_
    rotate_left
    · simp only [Act.put, List.setIfInBounds_toArray, List.set_cons_zero, List.set_cons_succ, i64_w, i32_w]
      rfl
    refine pure_ (i := 16) (N := some 23) (v := ?_) (a' := ?_) #[true, true, true, true, true, true, true, true, true, true, true, true, true, true, true, true, true, false] rfl rfl (any_of HT_.out (by kernel_rfl)) (fun _ _ _ h => h) (Or.inl ⟨by rfl, ?_⟩) ?_ ?_
    rotate_left
    · intro w'
      go_simp
      with_reducible rfl
    rotate_left
    · simp only [Act.put, List.setIfInBounds_toArray, List.set_cons_zero, List.set_cons_succ, i64_w, i32_w]
      rfl
    refine pure_ (i := 17) (N := some 6) (v := ?_) (a' := ?_) #[true, true, true, true, true, true, true, true, true, true, true, true, true, true, true, true, true, true] rfl rfl (any_of HT_.out (by kernel_rfl)) (fun _ _ _ h => h) (Or.inl ⟨by rfl, ?_⟩) ?_ ?_
    rotate_left
    · intro w'
      go_simp
      with_reducible rfl
    rotate_left
    · simp only [Act.put, List.setIfInBounds_toArray, List.set_cons_zero, List.set_cons_succ, i64_w, i32_w]
      rfl
    refine done_ (done_of HT_.out (by kernel_rfl)) ?_
    try go_wp2
    go_ret
    exact ⟨by first | rfl | (simp [errW_none, errW_some] <;> rfl) | (simp [*, errW_none, errW_some] <;> rfl), by repeat (first | (with_reducible first | exact HB.out | apply below_alloc | apply pw_below_drewN | apply below_drew1 | refine below_set ?_ GE109.out | refine below_set ?_ GE110.out) | exact HB.out)⟩
def stringslite_HasSuffix.f (a0 : ByteArray) (a1 : ByteArray) : Option (Bool) := if (a0.size : Int) ≥ (a1.size : Int) then (if 0 ≤ (wrap64 ((a0.size : Int) - (a1.size : Int))) then (if (wrap64 ((a0.size : Int) - (a1.size : Int))) ≤ (a0.size : Int) then (some ((a0.extract ((wrap64 ((a0.size : Int) - (a1.size : Int))) : Int).toNat a0.size).toList == a1.toList)) else (none)) else (none)) else (some false)
set_option maxHeartbeats 8000000 in
set_option maxRecDepth 100000 in
theorem stringslite_HasSuffix.calls (a0 : ByteArray) (a1 : ByteArray) (r : Bool) (w : World) (h : stringslite_HasSuffix.f a0 a1 = some r) :
    Calls Tryz.prog 79 #[.string a0, .string a1] w fun e w' => e = .returned (.bool r) ∧ Drawn0 w w' := by
  have H : (if (a0.size : Int) ≥ (a1.size : Int) then (if 0 ≤ (wrap64 ((a0.size : Int) - (a1.size : Int))) then (if (wrap64 ((a0.size : Int) - (a1.size : Int))) ≤ (a0.size : Int) then (some ((a0.extract ((wrap64 ((a0.size : Int) - (a1.size : Int))) : Int).toNat a0.size).toList == a1.toList)) else (none)) else (none)) else (some false)) = some r := h
  clear h
  by_cases c3 : (a0.size : Int) ≥ (a1.size : Int)
  · rw [if_pos c3] at H
    have c3b0 : decide ((a1.size : Int) ≤ (a0.size : Int)) = true := decide_eq_true c3
    have c3b1 : decide (a1.size ≤ a0.size) = true := decide_eq_true (Int.ofNat_le.mp c3)
    clear c3
    obtain ⟨ji4, hji4⟩ : ∃ j_ : Int, (wrap64 ((a0.size : Int) - (a1.size : Int))) = j_ := ⟨_, rfl⟩
    replace H : (if 0 ≤ (ji4) then (if (ji4) ≤ (a0.size : Int) then (some ((a0.extract ((ji4) : Int).toNat a0.size).toList == a1.toList)) else (none)) else (none)) = some r := by first | (rw [hji4] at H; exact H) | (simp only [hji4] at H ⊢; exact H)
    have hji4w : (IntKind.i64.wrap ((a0.size : Int) - (a1.size : Int))) = ji4 := (i64_w _).trans hji4
    by_cases c5 : 0 ≤ (ji4)
    · rw [if_pos c5] at H
      have c5b0 := eq_true c5
      have c5b1 : decide (0 ≤ (ji4)) = true := decide_eq_true c5
      clear c5
      by_cases c6 : (ji4) ≤ (a0.size : Int)
      · rw [if_pos c6] at H
        have c6b0 := eq_true c6
        have c6b1 : decide ((ji4) ≤ (a0.size : Int)) = true := decide_eq_true c6
        clear c6
        obtain rfl := Option.some.inj H
        go_enter Tryz.func79, Tryz.ntmps79
        go_wp2
        go_ret
        exact ⟨by first | rfl | (simp; done) | (simp only [← hji4] <;> (first | rfl | simp)) | (simp [*]; done), by repeat (first | exact Drawn0.refl _ | apply Drawn0.step)⟩
      · rw [if_neg c6] at H
        exact absurd H (by simp)
    · rw [if_neg c5] at H
      exact absurd H (by simp)
  · rw [if_neg c3] at H
    have c3b0 : decide ((a1.size : Int) ≤ (a0.size : Int)) = false := decide_eq_false c3
    have c3b1 : decide (a1.size ≤ a0.size) = false := decide_eq_false (fun h => c3 (Int.ofNat_le.mpr h))
    clear c3
    obtain rfl := Option.some.inj H
    go_enter Tryz.func79, Tryz.ntmps79
    go_wp2
    go_ret
    exact ⟨by first | rfl | (simp; done) | (simp [*]; done), by repeat (first | exact Drawn0.refl _ | apply Drawn0.step)⟩
def stringslite_CutSuffix.f (a0 : ByteArray) (a1 : ByteArray) : Option (ByteArray × Bool) := (stringslite_HasSuffix.f a0 a1).bind fun t113 => (if t113 = true then (if 0 ≤ (wrap64 ((a0.size : Int) - (a1.size : Int))) then (if (wrap64 ((a0.size : Int) - (a1.size : Int))) ≤ (a0.size : Int) then (some (a0.extract 0 ((wrap64 ((a0.size : Int) - (a1.size : Int))) : Int).toNat, true)) else (none)) else (none)) else (some (a0, false)))
set_option maxHeartbeats 8000000 in
set_option maxRecDepth 100000 in
theorem stringslite_CutSuffix.calls (a0 : ByteArray) (a1 : ByteArray) (r1 : ByteArray) (r2 : Bool) (w : World) (h : stringslite_CutSuffix.f a0 a1 = some (r1, r2)) :
    Calls Tryz.prog 78 #[.string a0, .string a1] w fun e w' => e = .returned (.tuple #[.string r1, .bool r2]) ∧ Drawn0 w w' := by
  have H : ((stringslite_HasSuffix.f a0 a1).bind fun t113 => (if t113 = true then (if 0 ≤ (wrap64 ((a0.size : Int) - (a1.size : Int))) then (if (wrap64 ((a0.size : Int) - (a1.size : Int))) ≤ (a0.size : Int) then (some (a0.extract 0 ((wrap64 ((a0.size : Int) - (a1.size : Int))) : Int).toNat, true)) else (none)) else (none)) else (some (a0, false)))) = some (r1, r2) := h
  clear h
  replace H := Option.bind_eq_some_iff.mp H
  obtain ⟨t113, A30, H⟩ := H
  replace H : (if t113 = true then (if 0 ≤ (wrap64 ((a0.size : Int) - (a1.size : Int))) then (if (wrap64 ((a0.size : Int) - (a1.size : Int))) ≤ (a0.size : Int) then (some (a0.extract 0 ((wrap64 ((a0.size : Int) - (a1.size : Int))) : Int).toNat, true)) else (none)) else (none)) else (some (a0, false))) = some (r1, r2) := H
  have A3 := Aside0.mk A30
  clear A30
  by_cases c4 : t113 = true
  · subst c4
    have H1 : (if 0 ≤ (wrap64 ((a0.size : Int) - (a1.size : Int))) then (if (wrap64 ((a0.size : Int) - (a1.size : Int))) ≤ (a0.size : Int) then (some (a0.extract 0 ((wrap64 ((a0.size : Int) - (a1.size : Int))) : Int).toNat, true)) else (none)) else (none)) = some (r1, r2) := by rw [if_pos rfl] at H; exact H
    clear H
    have H := H1
    clear H1
    obtain ⟨ji5, hji5⟩ : ∃ j_ : Int, (wrap64 ((a0.size : Int) - (a1.size : Int))) = j_ := ⟨_, rfl⟩
    replace H : (if 0 ≤ (ji5) then (if (ji5) ≤ (a0.size : Int) then (some (a0.extract 0 ((ji5) : Int).toNat, true)) else (none)) else (none)) = some (r1, r2) := by first | (rw [hji5] at H; exact H) | (simp only [hji5] at H ⊢; exact H)
    (try rw [hji5] at A3)
    have hji5w : (IntKind.i64.wrap ((a0.size : Int) - (a1.size : Int))) = ji5 := (i64_w _).trans hji5
    by_cases c6 : 0 ≤ (ji5)
    · rw [if_pos c6] at H
      have c6b0 := eq_true c6
      have c6b1 : decide (0 ≤ (ji5)) = true := decide_eq_true c6
      clear c6
      by_cases c7 : (ji5) ≤ (a0.size : Int)
      · rw [if_pos c7] at H
        have c7b0 := eq_true c7
        have c7b1 : decide ((ji5) ≤ (a0.size : Int)) = true := decide_eq_true c7
        clear c7
        simp only [Option.some.injEq, Prod.mk.injEq] at H
        obtain ⟨rfl, rfl⟩ := H
        go_enter Tryz.func78, Tryz.ntmps78
        go_wp2_with (first | ((with_reducible refine gate_callee (f := 79) rfl ?_); refine goesL_ (some 8) rfl rfl Tryz.func79 (by kernel_rfl) rfl #[.string a0, .string a1] rfl (by (try simp only [List.map_toArray, List.map_cons, List.map_nil]); first | done | rfl | (simp only [List.length_drop, List.length_take]; rfl)) ?_; (with_reducible refine (stringslite_HasSuffix.calls a0 a1 true _ A3.out).mono ?_); rintro e w' ⟨rfl, ⟨nd, rfl⟩⟩; refine ⟨_, rfl, ?_⟩))
        go_ret2
        exact ⟨by first | rfl | (simp; done) | (simp only [← hji5] <;> (first | rfl | simp)) | (simp [*]; done), by repeat (first | exact Drawn0.refl _ | apply Drawn0.step)⟩
      · rw [if_neg c7] at H
        exact absurd H (by simp)
    · rw [if_neg c6] at H
      exact absurd H (by simp)
  · replace c4 := Bool.eq_false_iff.mpr c4
    subst c4
    have H1 : (some (a0, false)) = some (r1, r2) := by rw [if_neg (show ¬ (false = true) by decide)] at H; exact H
    clear H
    have H := H1
    clear H1
    simp only [Option.some.injEq, Prod.mk.injEq] at H
    obtain ⟨rfl, rfl⟩ := H
    go_enter Tryz.func78, Tryz.ntmps78
    go_wp2_with (first | ((with_reducible refine gate_callee (f := 79) rfl ?_); refine goesL_ (some 8) rfl rfl Tryz.func79 (by kernel_rfl) rfl #[.string a0, .string a1] rfl (by (try simp only [List.map_toArray, List.map_cons, List.map_nil]); first | done | rfl | (simp only [List.length_drop, List.length_take]; rfl)) ?_; (with_reducible refine (stringslite_HasSuffix.calls a0 a1 false _ A3.out).mono ?_); rintro e w' ⟨rfl, ⟨nd, rfl⟩⟩; refine ⟨_, rfl, ?_⟩))
    go_ret2
    exact ⟨by first | rfl | (simp; done) | (simp [*]; done), by repeat (first | exact Drawn0.refl _ | apply Drawn0.step)⟩
def strings_CutSuffix.f (a0 : ByteArray) (a1 : ByteArray) : Option (ByteArray × Bool) := (stringslite_CutSuffix.f a0 a1).bind fun bt114 => (some (bt114.1, bt114.2))
set_option maxHeartbeats 8000000 in
set_option maxRecDepth 100000 in
theorem strings_CutSuffix.calls (a0 : ByteArray) (a1 : ByteArray) (r1 : ByteArray) (r2 : Bool) (w : World) (h : strings_CutSuffix.f a0 a1 = some (r1, r2)) :
    Calls Tryz.prog 54 #[.string a0, .string a1] w fun e w' => e = .returned (.tuple #[.string r1, .bool r2]) ∧ Drawn0 w w' := by
  have H : ((stringslite_CutSuffix.f a0 a1).bind fun bt114 => (some (bt114.1, bt114.2))) = some (r1, r2) := h
  clear h
  replace H := Option.bind_eq_some_iff.mp H
  obtain ⟨⟨t114, t115⟩, A30, H⟩ := H
  replace H : (some (t114, t115)) = some (r1, r2) := H
  have A3 := Aside0.mk A30
  clear A30
  simp only [Option.some.injEq, Prod.mk.injEq] at H
  obtain ⟨rfl, rfl⟩ := H
  go_enter Tryz.func54, Tryz.ntmps54
  go_wp2_with (first | ((with_reducible refine gate_callee (f := 78) rfl ?_); refine goesL_ (some 8) rfl rfl Tryz.func78 (by kernel_rfl) rfl #[.string a0, .string a1] rfl (by (try simp only [List.map_toArray, List.map_cons, List.map_nil]); first | done | rfl | (simp only [List.length_drop, List.length_take]; rfl)) ?_; (with_reducible refine (stringslite_CutSuffix.calls a0 a1 t114 t115 _ A3.out).mono ?_); rintro e w' ⟨rfl, ⟨nd, rfl⟩⟩; refine ⟨_, rfl, ?_⟩))
  go_ret2
  exact ⟨by first | rfl | (simp; done) | (simp [*]; done), by repeat (first | exact Drawn0.refl _ | apply Drawn0.step)⟩
def strings_HasSuffix.f (a0 : ByteArray) (a1 : ByteArray) : Option (Bool) := (stringslite_HasSuffix.f a0 a1).bind fun t116 => (some t116)
set_option maxHeartbeats 8000000 in
set_option maxRecDepth 100000 in
theorem strings_HasSuffix.calls (a0 : ByteArray) (a1 : ByteArray) (r : Bool) (w : World) (h : strings_HasSuffix.f a0 a1 = some r) :
    Calls Tryz.prog 55 #[.string a0, .string a1] w fun e w' => e = .returned (.bool r) ∧ Drawn0 w w' := by
  have H : ((stringslite_HasSuffix.f a0 a1).bind fun t116 => (some t116)) = some r := h
  clear h
  replace H := Option.bind_eq_some_iff.mp H
  obtain ⟨t116, A30, H⟩ := H
  replace H : (some t116) = some r := H
  have A3 := Aside0.mk A30
  clear A30
  obtain rfl := Option.some.inj H
  go_enter Tryz.func55, Tryz.ntmps55
  go_wp2_with (first | ((with_reducible refine gate_callee (f := 79) rfl ?_); refine goesL_ (some 7) rfl rfl Tryz.func79 (by kernel_rfl) rfl #[.string a0, .string a1] rfl (by (try simp only [List.map_toArray, List.map_cons, List.map_nil]); first | done | rfl | (simp only [List.length_drop, List.length_take]; rfl)) ?_; (with_reducible refine (stringslite_HasSuffix.calls a0 a1 t116 _ A3.out).mono ?_); rintro e w' ⟨rfl, ⟨nd, rfl⟩⟩; refine ⟨_, rfl, ?_⟩))
  go_ret
  exact ⟨by first | rfl | (simp; done) | (simp [*]; done), by repeat (first | exact Drawn0.refl _ | apply Drawn0.step)⟩
def host_Under.f (a0 : ByteArray) (a1 : ByteArray) : Option (Bool) := (strings_CutSuffix.f a0 a1).bind fun bt117 => (if a1.toList = ([] : List UInt8) then (some false) else (if bt117.2 = true then (if bt117.1.toList = ([] : List UInt8) then (some true) else ((strings_HasSuffix.f bt117.1 (⟨#[46]⟩ : ByteArray)).bind fun t119 => (some t119))) else (some false)))
set_option maxHeartbeats 8000000 in
set_option maxRecDepth 100000 in
theorem host_Under.calls (a0 : ByteArray) (a1 : ByteArray) (r : Bool) (w : World) (h : host_Under.f a0 a1 = some r) :
    Calls Tryz.prog 27 #[.string a0, .string a1] w fun e w' => e = .returned (.bool r) ∧ Drawn0 w w' := by
  have H : ((strings_CutSuffix.f a0 a1).bind fun bt117 => (if a1.toList = ([] : List UInt8) then (some false) else (if bt117.2 = true then (if bt117.1.toList = ([] : List UInt8) then (some true) else ((strings_HasSuffix.f bt117.1 (⟨#[46]⟩ : ByteArray)).bind fun t119 => (some t119))) else (some false)))) = some r := h
  clear h
  replace H := Option.bind_eq_some_iff.mp H
  obtain ⟨⟨t117, t118⟩, A30, H⟩ := H
  replace H : (if a1.toList = ([] : List UInt8) then (some false) else (if t118 = true then (if t117.toList = ([] : List UInt8) then (some true) else ((strings_HasSuffix.f t117 (⟨#[46]⟩ : ByteArray)).bind fun t119 => (some t119))) else (some false))) = some r := H
  have A3 := Aside0.mk A30
  clear A30
  by_cases c4 : a1.toList = ([] : List UInt8)
  · rw [if_pos c4] at H
    have c4b0 : (a1.toList == ([] : List UInt8)) = true := beq_iff_eq.mpr c4
    have c4b1 : (a1.toList != ([] : List UInt8)) = false := bne_eq_false_iff_eq.mpr c4
    clear c4
    obtain rfl := Option.some.inj H
    go_enter Tryz.func27, Tryz.ntmps27
    go_wp2_with (first | ((with_reducible refine gate_callee (f := 54) rfl ?_); refine goesL_ (some 10) rfl rfl Tryz.func54 (by kernel_rfl) rfl #[.string a0, .string a1] rfl (by (try simp only [List.map_toArray, List.map_cons, List.map_nil]); first | done | rfl | (simp only [List.length_drop, List.length_take]; rfl)) ?_; (with_reducible refine (strings_CutSuffix.calls a0 a1 t117 t118 _ A3.out).mono ?_); rintro e w' ⟨rfl, ⟨nd, rfl⟩⟩; refine ⟨_, rfl, ?_⟩))
    go_ret
    exact ⟨by first | rfl | (simp; done) | (simp [*]; done), by repeat (first | exact Drawn0.refl _ | apply Drawn0.step)⟩
  · rw [if_neg c4] at H
    have c4b0 : (a1.toList == ([] : List UInt8)) = false := beq_eq_false_iff_ne.mpr c4
    have c4b1 : (a1.toList != ([] : List UInt8)) = true := bne_iff_ne.mpr c4
    by_cases c5 : t118 = true
    · subst c5
      have H1 : (if t117.toList = ([] : List UInt8) then (some true) else ((strings_HasSuffix.f t117 (⟨#[46]⟩ : ByteArray)).bind fun t119 => (some t119))) = some r := by rw [if_pos rfl] at H; exact H
      clear H
      have H := H1
      clear H1
      by_cases c6 : t117.toList = ([] : List UInt8)
      · rw [if_pos c6] at H
        have c6b0 : (t117.toList == ([] : List UInt8)) = true := beq_iff_eq.mpr c6
        have c6b1 : (t117.toList != ([] : List UInt8)) = false := bne_eq_false_iff_eq.mpr c6
        clear c6
        obtain rfl := Option.some.inj H
        go_enter Tryz.func27, Tryz.ntmps27
        go_wp2_with (first | ((with_reducible refine gate_callee (f := 54) rfl ?_); refine goesL_ (some 10) rfl rfl Tryz.func54 (by kernel_rfl) rfl #[.string a0, .string a1] rfl (by (try simp only [List.map_toArray, List.map_cons, List.map_nil]); first | done | rfl | (simp only [List.length_drop, List.length_take]; rfl)) ?_; (with_reducible refine (strings_CutSuffix.calls a0 a1 t117 true _ A3.out).mono ?_); rintro e w' ⟨rfl, ⟨nd, rfl⟩⟩; refine ⟨_, rfl, ?_⟩))
        go_ret
        exact ⟨by first | rfl | (simp; done) | (simp [*]; done), by repeat (first | exact Drawn0.refl _ | apply Drawn0.step)⟩
      · rw [if_neg c6] at H
        have c6b0 : (t117.toList == ([] : List UInt8)) = false := beq_eq_false_iff_ne.mpr c6
        have c6b1 : (t117.toList != ([] : List UInt8)) = true := bne_iff_ne.mpr c6
        replace H := Option.bind_eq_some_iff.mp H
        obtain ⟨t119, A70, H⟩ := H
        replace H : (some t119) = some r := H
        have A7 := Aside0.mk A70
        clear A70
        obtain rfl := Option.some.inj H
        go_enter Tryz.func27, Tryz.ntmps27
        go_wp2_with (first | ((with_reducible refine gate_callee (f := 54) rfl ?_); refine goesL_ (some 10) rfl rfl Tryz.func54 (by kernel_rfl) rfl #[.string a0, .string a1] rfl (by (try simp only [List.map_toArray, List.map_cons, List.map_nil]); first | done | rfl | (simp only [List.length_drop, List.length_take]; rfl)) ?_; (with_reducible refine (strings_CutSuffix.calls a0 a1 t117 true _ A3.out).mono ?_); rintro e w' ⟨rfl, ⟨nd, rfl⟩⟩; refine ⟨_, rfl, ?_⟩) | (go_at_call 55; (with_reducible refine (strings_HasSuffix.calls t117 (⟨#[46]⟩ : ByteArray) t119 _ A7.out).mono ?_); rintro e w' ⟨rfl, ⟨nd, rfl⟩⟩))
        go_ret
        exact ⟨by first | rfl | (simp; done) | (simp [*]; done), by repeat (first | exact Drawn0.refl _ | apply Drawn0.step)⟩
    · replace c5 := Bool.eq_false_iff.mpr c5
      subst c5
      have H1 : (some false) = some r := by rw [if_neg (show ¬ (false = true) by decide)] at H; exact H
      clear H
      have H := H1
      clear H1
      obtain rfl := Option.some.inj H
      go_enter Tryz.func27, Tryz.ntmps27
      go_wp2_with (first | ((with_reducible refine gate_callee (f := 54) rfl ?_); refine goesL_ (some 10) rfl rfl Tryz.func54 (by kernel_rfl) rfl #[.string a0, .string a1] rfl (by (try simp only [List.map_toArray, List.map_cons, List.map_nil]); first | done | rfl | (simp only [List.length_drop, List.length_take]; rfl)) ?_; (with_reducible refine (strings_CutSuffix.calls a0 a1 t117 false _ A3.out).mono ?_); rintro e w' ⟨rfl, ⟨nd, rfl⟩⟩; refine ⟨_, rfl, ?_⟩))
      go_ret
      exact ⟨by first | rfl | (simp; done) | (simp [*]; done), by repeat (first | exact Drawn0.refl _ | apply Drawn0.step)⟩
end Go.Proofs.YteondnhokgmakaaGreatDoor.XC


namespace Go.Proofs.YteondnhokgmakaaGreatDoor.XC
open Go.RowKit Go.Proofs.YteondnhokgmakaaGreatDoorW.PrintWords Go.Proofs.YteondnhokgmakaaGreatDoorW.PrintLast Go.Proofs.YteondnhokgmakaaGreatDoorW.PrintMore
attribute [local go_sem] max2_int min2_int max_two min_two max_three min_three max_four min_four
set_option linter.unusedVariables false
set_option linter.unusedSimpArgs false
end Go.Proofs.YteondnhokgmakaaGreatDoor.XC


namespace Go.Proofs.YteondnhokgmakaaGreatDoor.E
open Go.RowKit Go.Proofs.YteondnhokgmakaaGreatDoorW.PrintWords Go.Proofs.YteondnhokgmakaaGreatDoorW.PrintLast
set_option linter.unusedVariables false
set_option linter.unusedSimpArgs false
def Blk (w : World) (R : Nat) (C : Array Value) (T : TypeId) : Prop := w.heap[R]? = some (.cells C T (0, 0))
theorem Blk.cell {w : World} {R : Nat} {C : Array Value} {T : TypeId} (h : Blk w R C T) (j : Nat) (v : Value) (hj : C[j]? = some v) : w.cell? ⟨R, j, none⟩ = some v := by
  unfold World.cell?; rw [show w.heap[R]? = _ from h]; exact hj
theorem Blk.free {w : World} {R : Nat} {C : Array Value} {T : TypeId} (h : Blk w R C T) (j : Nat) : w.frozen? ⟨R, j, none⟩ = false := by
  unfold World.frozen?; rw [show w.heap[R]? = _ from h]; simp
theorem Blk.lt {w : World} {R : Nat} {C : Array Value} {T : TypeId} (h : Blk w R C T) : R < w.heap.size := (Array.getElem?_eq_some_iff.1 h).1
theorem Blk.below {w w1 : World} {R : Nat} {C : Array Value} {T : TypeId} (h : Blk w R C T) (hb : Below w.heap.size w w1) : Blk w1 R C T := (hb.block R h.lt).trans h
theorem Blk.set {w : World} {R : Nat} {C : Array Value} {T : TypeId} (h : Blk w R C T) (j : Nat) (v : Value) : Blk (w.setCell ⟨R, j, none⟩ v) R (C.setIfInBounds j v) T := by
  unfold Blk World.setCell
  simp only [Option.isSome_none, Bool.false_eq_true, if_false]
  rw [Array.getElem?_modify, if_pos rfl, show w.heap[R]? = _ from h]; rfl
theorem Blk.other {w : World} {R : Nat} {C : Array Value} {T : TypeId} (h : Blk w R C T) (p : Addr) (hp : R ≠ p.block) (v : Value) : Blk (w.setCell p v) R C T := (Below.heap_setCell _ _ _ _ hp).trans h
theorem Blk.new (w : World) (C : Array Value) (T : TypeId) : Blk (w.alloc (.cells C T)) w.heap.size C T := heap_alloc_new w _
theorem Blk.old {w : World} {R : Nat} {C : Array Value} {T : TypeId} (h : Blk w R C T) (o : Obj) : Blk (w.alloc o) R C T := (Below.heap_alloc _ _ _ h.lt).trans h
def rc (al : Bool) (a b c d bi : Int) (su : ByteArray) (lo hi : Int) : Array Value := #[.bool al, .int .u8 a, .int .u8 b, .int .u8 c, .int .u8 d, .int .i64 bi, .string su, .int .i64 lo, .int .i64 hi]
theorem Blk.nine {w : World} {R : Nat} {al : Bool} {a b c d bi : Int} {su : ByteArray} {lo hi : Int} {T : TypeId} (h : Blk w R (rc al a b c d bi su lo hi) T) :
    w.cell? ⟨R, 0, none⟩ = some (.bool al) ∧ w.cell? ⟨R, 1, none⟩ = some (.int .u8 a) ∧ w.cell? ⟨R, 2, none⟩ = some (.int .u8 b) ∧ w.cell? ⟨R, 3, none⟩ = some (.int .u8 c) ∧ w.cell? ⟨R, 4, none⟩ = some (.int .u8 d) ∧ w.cell? ⟨R, 5, none⟩ = some (.int .i64 bi) ∧ w.cell? ⟨R, 6, none⟩ = some (.string su) ∧ w.cell? ⟨R, 7, none⟩ = some (.int .i64 lo) ∧ w.cell? ⟨R, 8, none⟩ = some (.int .i64 hi) :=
  ⟨h.cell 0 _ rfl, h.cell 1 _ rfl, h.cell 2 _ rfl, h.cell 3 _ rfl, h.cell 4 _ rfl, h.cell 5 _ rfl, h.cell 6 _ rfl, h.cell 7 _ rfl, h.cell 8 _ rfl⟩
theorem Blk.frees {w : World} {R : Nat} {C : Array Value} {T : TypeId} (h : Blk w R C T) :
    w.frozen? ⟨R, 0, none⟩ = false ∧ w.frozen? ⟨R, 1, none⟩ = false ∧ w.frozen? ⟨R, 2, none⟩ = false ∧ w.frozen? ⟨R, 3, none⟩ = false ∧ w.frozen? ⟨R, 4, none⟩ = false ∧ w.frozen? ⟨R, 5, none⟩ = false ∧ w.frozen? ⟨R, 6, none⟩ = false ∧ w.frozen? ⟨R, 7, none⟩ = false ∧ w.frozen? ⟨R, 8, none⟩ = false :=
  ⟨h.free 0, h.free 1, h.free 2, h.free 3, h.free 4, h.free 5, h.free 6, h.free 7, h.free 8⟩
def wordsS (s : ByteArray) : List ByteArray := Lib.splitB ⟨#[32]⟩ 0 (Lib.countB s ⟨#[32]⟩) s
theorem split_blanks (s : ByteArray) (hs : s.size < 4294967281) (w : World) (hS : StdW w) :
    Calls Tryz.prog 45 #[.string s, .string ⟨#[32]⟩] w fun e w' => e = .returned (.slice (some ⟨w.heap.size, 0, none⟩) (wordsS s).length (wordsS s).length) ∧ (∀ j, (h : j < (wordsS s).length) → w'.cell? ⟨w.heap.size, j, none⟩ = some (.string (wordsS s)[j])) ∧ w.heap.size < w'.heap.size ∧ Below w.heap.size w w' := by
  obtain ⟨m, hm⟩ := hS.max
  refine (Tryz.strings_Split s ⟨#[32]⟩ m w hs hm (Nat.le_refl _)).mono ?_
  rintro e w' ⟨rfl, rfl⟩
  have hl := Lib.splitB_all ⟨#[32]⟩ (Nat.le_refl _) 0 _ s rfl
  refine ⟨by unfold wordsS; rw [hl], fun j hj => ?_, by simp, (Below.refl _ _).alloc (Nat.le_refl _) _⟩
  unfold wordsS at hj ⊢
  rw [World.cell?_alloc_new, List.getElem?_toArray, List.getElem?_map, List.getElem?_eq_getElem hj]
  rfl
def zeroRule : Value := .tuple #[.agg (rc false 0 0 0 0 0 ⟨#[]⟩ 0 0), .int .i64 120]
def ppOut (fin al : Bool) (a b c d bi : Int) (su : ByteArray) (lo hi : Int) : Value := if fin then .tuple #[.agg (rc al a b c d bi su lo hi), .int .i64 0] else zeroRule
end Go.Proofs.YteondnhokgmakaaGreatDoor.E


namespace Go.Proofs.YteondnhokgmakaaGreatDoor.E
open Go.RowKit Go.Proofs.YteondnhokgmakaaGreatDoorW.PrintWords Go.Proofs.YteondnhokgmakaaGreatDoorW.PrintLast Go.Proofs.YteondnhokgmakaaGreatDoor.XC
set_option linter.unusedVariables false
set_option linter.unusedSimpArgs false
def rightB (r : S37) : Bool := (policy_right.f 1 r.f0 r.f1.f0 r.f1.f1 r.f1.f2 r.f1.f3 r.f2 r.f3 r.f4 r.f5).getD false
def checkL (l : List S37) : Int := if 64 < l.length then 3 else if l.all rightB then 0 else 120
def inB (a b c d e f g h bi : Int) : Bool := (host_In.f a b c d e f g h bi).getD false
def underB (n x : ByteArray) : Bool := (host_Under.f n x).getD false
def fitB (a b c d : Int) (n : ByteArray) (po : Int) (r : S37) : Bool :=
  if po < r.f4 then false else if r.f5 < po then false else if (r.f3.toList.isEmpty != n.toList.isEmpty) then false
  else if r.f3.toList.isEmpty then inB a b c d r.f1.f0 r.f1.f1 r.f1.f2 r.f1.f3 r.f2 else underB n r.f3
def whichAt (fit : S37 → Bool) : List S37 → Int → Int
  | [], _ => -1
  | r :: l, i => if fit r then i else whichAt fit l (i + 1)
def whichB (l : List S37) (a b c d : Int) (n : ByteArray) (po : Int) : Int :=
  if checkL l = 0 then if (printDestB a b c d n po).toList.isEmpty then -1 else whichAt (fitB a b c d n po) l 0 else -1
theorem wrap64_id (x : Int) (h0 : -9223372036854775808 ≤ x) (h1 : x ≤ 9223372036854775807) : wrap64 x = x := by
  unfold wrap64; omega
theorem inB_some (a b c d e f g h bi : Int) : host_In.f a b c d e f g h bi = some (inB a b c d e f g h bi) := by
  unfold inB
  have : ∃ r, host_In.f a b c d e f g h bi = some r := by
    unfold host_In.f
    split
    · split
      · have : (0 : Int) ≤ wrap64 (32 - bi) := by rw [wrap64_id _ (by omega) (by omega)]; omega
        simp only [host_word.f, Option.bind_some, if_pos this]
        exact ⟨_, rfl⟩
      · exact ⟨_, rfl⟩
    · exact ⟨_, rfl⟩
  obtain ⟨r, hr⟩ := this
  rw [hr]; rfl
theorem hasSuffix_some (a b : ByteArray) (ha : a.size ≤ 281474976710656) : stringslite_HasSuffix.f a b = some (decide (b.size ≤ a.size) && ((a.extract (a.size - b.size) a.size).toList == b.toList)) := by
  unfold stringslite_HasSuffix.f
  by_cases h : (a.size : Int) ≥ (b.size : Int)
  · have e : wrap64 ((a.size : Int) - (b.size : Int)) = (a.size : Int) - (b.size : Int) := wrap64_id _ (by omega) (by omega)
    rw [if_pos h, e, if_pos (by omega), if_pos (by omega), show ((a.size : Int) - (b.size : Int)).toNat = a.size - b.size by omega, decide_eq_true (show b.size ≤ a.size by omega)]; rfl
  · rw [if_neg h, decide_eq_false (show ¬ b.size ≤ a.size by omega)]; rfl
theorem underB_some (n x : ByteArray) (hn : n.size ≤ 281474976710656) : host_Under.f n x = some (underB n x) := by
  unfold underB
  have : ∃ r, host_Under.f n x = some r := by
    have hc : ∃ p, strings_CutSuffix.f n x = some p ∧ p.1.size ≤ 281474976710656 := by
      unfold strings_CutSuffix.f stringslite_CutSuffix.f
      rw [hasSuffix_some _ _ hn]
      simp only [Option.bind_some]
      split
      · rename_i hb
        have hle : x.size ≤ n.size := by
          have := (Bool.and_eq_true_iff.mp hb).1; exact of_decide_eq_true this
        have e : wrap64 ((n.size : Int) - (x.size : Int)) = (n.size : Int) - (x.size : Int) := wrap64_id _ (by omega) (by omega)
        rw [e, if_pos (by omega), if_pos (by omega)]
        refine ⟨_, rfl, ?_⟩
        show (n.extract 0 _).size ≤ _
        rw [ByteArray.size_extract]; omega
      · exact ⟨_, rfl, hn⟩
    obtain ⟨p, hp, hps⟩ := hc
    unfold host_Under.f
    rw [hp]
    simp only [Option.bind_some]
    split
    · exact ⟨_, rfl⟩
    · split
      · split
        · exact ⟨_, rfl⟩
        · unfold strings_HasSuffix.f
          rw [hasSuffix_some _ _ hps]
          exact ⟨_, rfl⟩
      · exact ⟨_, rfl⟩
  obtain ⟨r, hr⟩ := this
  rw [hr]; rfl
theorem rightB_some (k : Nat) (r : S37) (hs : r.f3.size ≤ 281474976710656) : policy_right.f (k + 1) r.f0 r.f1.f0 r.f1.f1 r.f1.f2 r.f1.f3 r.f2 r.f3 r.f4 r.f5 = some (rightB r) := by
  have he : policy_right.f (k + 1) r.f0 r.f1.f0 r.f1.f1 r.f1.f2 r.f1.f3 r.f2 r.f3 r.f4 r.f5 = policy_right.f 1 r.f0 r.f1.f0 r.f1.f1 r.f1.f2 r.f1.f3 r.f2 r.f3 r.f4 r.f5 := by
    unfold policy_right.f policy_right.j0; rfl
  rw [he]
  unfold rightB
  have : ∃ x, policy_right.f 1 r.f0 r.f1.f0 r.f1.f1 r.f1.f2 r.f1.f3 r.f2 r.f3 r.f4 r.f5 = some x := by
    have hj : ∀ t, ∃ x, policy_right.j0 1 t r.f0 r.f1.f0 r.f1.f1 r.f1.f2 r.f1.f3 r.f2 r.f3 r.f4 r.f5 = some x := by
      intro t
      simp only [policy_right.j0, E.hCheck.f, policy_bits.f, if_pos hs, Option.bind_some]
      split
      · exact ⟨_, rfl⟩
      · split
        · split
          · split
            · exact ⟨_, rfl⟩
            · exact ⟨_, rfl⟩
          · exact ⟨_, rfl⟩
        · split
          · split <;> exact ⟨_, rfl⟩
          · exact ⟨_, rfl⟩
    unfold policy_right.f
    split
    · exact hj _
    · split
      · exact hj _
      · exact hj _
  obtain ⟨x, hx⟩ := this
  rw [hx]; rfl
theorem checkL_some (l : List S37) (hs : ∀ r ∈ l, r.f3.size ≤ 281474976710656) : policy_Check.f 67 l = some (checkL l) := by
  unfold policy_Check.f checkL
  by_cases h : 64 < l.length
  · rw [if_pos (by omega), if_pos h]
  · rw [if_neg (by omega), if_neg h]
    have main : ∀ m k : Nat, ∀ j : Nat, j + m = l.length → m < k → policy_Check.l0 (k + 1) l (l.length : Int) (j : Int) = some (if (l.drop j).all rightB then 0 else 120) := by
      intro m
      induction m with
      | zero =>
        intro k j hj hk
        unfold policy_Check.l0
        rw [if_neg (by omega), List.drop_of_length_le (by omega)]
        rfl
      | succ m ih =>
        intro k j hj hk
        have hjl : j < l.length := by omega
        unfold policy_Check.l0
        have hrd : rd_T37 l (j : Int) = l[j] := by
          unfold rd_T37
          rw [show ((j : Int)).toNat = j by omega, List.getD_eq_getElem?_getD, List.getElem?_eq_getElem hjl]; rfl
        rw [if_pos (by omega), if_pos (by omega), if_pos (by omega), hrd, List.drop_eq_getElem_cons hjl, List.all_cons]
        cases k with
        | zero => omega
        | succ k =>
          rw [rightB_some k _ (hs _ (List.getElem_mem hjl)), Option.bind_some]
          cases hb : rightB l[j]
          · rw [if_neg (by simp)]; rfl
          · rw [if_pos rfl, wrap64_id _ (by omega) (by omega), show (j : Int) + 1 = ((j + 1 : Nat) : Int) by omega, ih k (j + 1) (by omega) (by omega)]; rfl
    have := main l.length 66 0 (by omega) (by omega)
    rw [List.drop_zero] at this
    exact this
end Go.Proofs.YteondnhokgmakaaGreatDoor.E


namespace Go.Proofs.YteondnhokgmakaaGreatDoor.E
open Go.RowKit Go.Proofs.YteondnhokgmakaaGreatDoorW.PrintWords Go.Proofs.YteondnhokgmakaaGreatDoorW.PrintLast Go.Proofs.YteondnhokgmakaaGreatDoor.XC
set_option linter.unusedVariables false
set_option linter.unusedSimpArgs false
def dc (a b c d : Int) (n : ByteArray) (po : Int) : Array Value := #[.int .u8 a, .int .u8 b, .int .u8 c, .int .u8 d, .string n, .int .i64 po]
theorem Blk.six {w : World} {R : Nat} {a b c d : Int} {n : ByteArray} {po : Int} {T : TypeId} (h : Blk w R (dc a b c d n po) T) :
    w.cell? ⟨R, 0, none⟩ = some (.int .u8 a) ∧ w.cell? ⟨R, 1, none⟩ = some (.int .u8 b) ∧ w.cell? ⟨R, 2, none⟩ = some (.int .u8 c) ∧ w.cell? ⟨R, 3, none⟩ = some (.int .u8 d) ∧ w.cell? ⟨R, 4, none⟩ = some (.string n) ∧ w.cell? ⟨R, 5, none⟩ = some (.int .i64 po) :=
  ⟨h.cell 0 _ rfl, h.cell 1 _ rfl, h.cell 2 _ rfl, h.cell 3 _ rfl, h.cell 4 _ rfl, h.cell 5 _ rfl⟩
set_option maxRecDepth 100000 in
set_option maxHeartbeats 8000000 in
theorem which_no (A0 : Option Addr) (c0 : Nat) (l : List S37) (a b c d : Int) (n : ByteArray) (po : Int) (hc : checkL l ≠ 0 ∨ (printDestB a b c d n po).toList.isEmpty = true) (w : World) (hS : StdW w)
    (HCK : ∀ W, Below w.heap.size w W → Calls Tryz.prog 11 #[.slice A0 l.length c0] W fun e w' => e = .returned (.int .i64 (checkL l)) ∧ Below W.heap.size W w')
    (HPD : ∀ W, StdW W → Calls Tryz.prog 34 #[.agg (dc a b c d n po)] W fun e w' => e = .returned (.string (printDestB a b c d n po)) ∧ Below W.heap.size W w') :
    Calls Tryz.prog 13 #[.slice A0 l.length c0, .agg (dc a b c d n po)] w fun e w' => e = .returned (.int .i64 (-1)) ∧ Below w.heap.size w w' := by
  have XCK := Lib.hid HCK
  have XPD := Lib.hid HPD
  have HS := Lib.hid hS
  clear hS HCK HPD
  generalize checkL l = v at XCK hc
  generalize printDestB a b c d n po = t at XPD hc
  unfold dc at *
  by_cases h1 : v = 0
  · have h2 : t.toList.isEmpty = true := hc.resolve_left (fun h => h h1)
    have h1' : (v != 0) = false := by rw [h1]; rfl
    clear hc
    go_enter Tryz.func13, Tryz.ntmps13
    go_wp2
    go_step3
    go_wp2_with (first | (go_at_call 11; refine (XCK.out _ (below_alloc (Below.refl _ _) _)).mono ?_; rintro e w1 ⟨rfl, hb1⟩; have HB1 := Lib.hid (below_then (below_alloc (Below.refl w.heap.size w) _) (below_alloc (Below.refl w.heap.size w) _).size hb1); obtain ⟨c0, c1, c2, c3, c4, c5⟩ := ((Blk.new w (dc a b c d n po) _).below hb1).six; clear hb1) | (go_at_call 34; refine (XPD.out _ (StdW.below HS.out HB1.out)).mono ?_; rintro e w2 ⟨rfl, hb2⟩))
    try rw [Exit.noGoto_ret]
    go_ret
    exact ⟨rfl, below_then HB1.out HB1.out.size hb2⟩
  · have h1' : (v != 0) = true := bne_iff_ne.mpr h1
    clear hc
    go_enter Tryz.func13, Tryz.ntmps13
    go_wp2
    go_step3
    go_wp2_with (first | (go_at_call 11; refine (XCK.out _ (below_alloc (Below.refl _ _) _)).mono ?_; rintro e w1 ⟨rfl, hb1⟩; have HB1 := Lib.hid (below_then (below_alloc (Below.refl w.heap.size w) _) (below_alloc (Below.refl w.heap.size w) _).size hb1); obtain ⟨c0, c1, c2, c3, c4, c5⟩ := ((Blk.new w (dc a b c d n po) _).below hb1).six; clear hb1))
    try rw [Exit.noGoto_ret]
    go_ret
    exact ⟨rfl, HB1.out⟩
theorem whichAt_drop {fit : S37 → Bool} {l : List S37} {k : Nat} {v : Int} (hk : k < l.length) (hf : fit l[k] = false) (h : v = whichAt fit (l.drop k) k) : v = whichAt fit (l.drop (k + 1)) ((k + 1 : Nat) : Int) := by
  rw [List.drop_eq_getElem_cons hk] at h
  unfold whichAt at h
  rw [if_neg (by rw [hf]; simp)] at h
  rw [h]; rfl
theorem whichAt_here {fit : S37 → Bool} {l : List S37} {k : Nat} {v : Int} (hk : k < l.length) (hf : fit l[k] = true) (h : v = whichAt fit (l.drop k) k) : v = k := by
  rw [List.drop_eq_getElem_cons hk] at h
  unfold whichAt at h
  rw [if_pos hf] at h
  exact h
theorem whichAt_end {fit : S37 → Bool} {l : List S37} {k : Nat} {v : Int} (hk : ¬ k < l.length) (h : v = whichAt fit (l.drop k) k) : v = -1 := by
  rw [List.drop_of_length_le (by omega)] at h
  exact h
set_option maxRecDepth 100000 in
set_option maxHeartbeats 40000000 in
theorem which_go (A0 : Option Addr) (c0 : Nat) (l : List S37) (a b c d : Int) (n : ByteArray) (po : Int) (hl : l.length ≤ 64) (hn : n.size ≤ 281474976710656) (hck : checkL l = 0) (hpd : (printDestB a b c d n po).toList.isEmpty = false) (w : World) (hS : StdW w)
    (hR : Kd.C k37 w A0 l.length l)
    (HCK : ∀ W, Below w.heap.size w W → Calls Tryz.prog 11 #[.slice A0 l.length c0] W fun e w' => e = .returned (.int .i64 (checkL l)) ∧ Below W.heap.size W w')
    (HPD : ∀ W, StdW W → Calls Tryz.prog 34 #[.agg (dc a b c d n po)] W fun e w' => e = .returned (.string (printDestB a b c d n po)) ∧ Below W.heap.size W w') :
    Calls Tryz.prog 13 #[.slice A0 l.length c0, .agg (dc a b c d n po)] w fun e w' => e = .returned (.int .i64 (whichAt (fitB a b c d n po) l 0)) ∧ Below w.heap.size w w' := by
  have XCK := Lib.hid HCK
  have XPD := Lib.hid HPD
  have HS := Lib.hid hS
  have HR := Lib.hid hR
  have HN := Lib.hid hn
  clear hS HCK HPD hR hn
  rw [hck] at XCK
  generalize printDestB a b c d n po = t at XPD hpd
  have HW : Hid (∀ v, v = whichAt (fitB a b c d n po) l 0 → v = whichAt (fitB a b c d n po) l 0) := Lib.hid (fun v h => h)
  generalize hv : whichAt (fitB a b c d n po) l 0 = v
  have HV := Lib.hid hv
  clear hv HW
  have hl' : (l.length : Int) ≤ 64 := by omega
  have hlm : l.length ≤ 9223372036854775807 := by omega
  unfold dc at *
  go_enter Tryz.func13, Tryz.ntmps13
  go_wp2
  go_step3
  go_wp2_with (first | (go_at_call 11; refine (XCK.out _ (below_alloc (Below.refl _ _) _)).mono ?_; rintro e w1 ⟨rfl, hb1⟩; have HB1 := Lib.hid (below_then (below_alloc (Below.refl w.heap.size w) _) (below_alloc (Below.refl w.heap.size w) _).size hb1); have HD1 := Lib.hid ((Blk.new w (dc a b c d n po) _).below hb1); obtain ⟨c0, c1, c2, c3, c4, c5⟩ := HD1.out.six; clear hb1) | (go_at_call 34; refine (XPD.out _ (StdW.below HS.out HB1.out)).mono ?_; rintro e w2 ⟨rfl, hb2⟩; have HB2 := Lib.hid (below_then HB1.out HB1.out.size hb2); have HD2 := Lib.hid (HD1.out.below hb2); clear hb2))
  go_step3
  go_wp2
  go_loopw [5, 18] (fun at_ i wr => ∃ k : Nat, k ≤ l.length ∧ at_ = .int .i64 (-1) ∧ i = .int .i64 k ∧ Hid (v = whichAt (fitB a b c d n po) (l.drop k) k) ∧ Hid (Blk wr w.heap.size (dc a b c d n po) 28) ∧ Hid (Below w.heap.size w wr)) (fun _ i _ => l.length - (intOf i).toNat)
  case atStart => exact ⟨0, Nat.zero_le _, rfl, rfl, Lib.hid (by rw [List.drop_zero]; exact HV.out.symm), HD2, HB2⟩
  case round =>
    obtain ⟨k, hk, rfl, rfl, HP, HD, HB⟩ := hrel
    clear HB1 HD1 HB2 HD2 XCK XPD
    by_cases hlt : k < l.length
    · have hk0 : (0 : Int) ≤ (k : Int) := Int.natCast_nonneg _
      have hk1 : (k : Int) < (l.length : Int) := by omega
      have hrd : rd_T37 l (k : Int) = l[k] := by
        unfold rd_T37
        rw [show ((k : Int)).toNat = k by omega, List.getD_eq_getElem?_getD, List.getElem?_eq_getElem hlt]; rfl
      obtain ⟨ad, ea, x0, x1, x2, x3, x4, x5, x6, x7, x8⟩ := at_T37 HR.out (k : Int) hk0 hk1
      cases ea
      rw [hrd] at x0 x1 x2 x3 x4 x5 x6 x7 x8
      have HNF := Lib.hid (fun (hf : fitB a b c d n po l[k] = false) => whichAt_drop hlt hf HP.out)
      have HYF := Lib.hid (fun (hf : fitB a b c d n po l[k] = true) => whichAt_here hlt hf HP.out)
      clear HP
      generalize l[k] = r at x0 x1 x2 x3 x4 x5 x6 x7 x8 HNF HYF hrd
      obtain ⟨al, ⟨ra, rb, rc', rd⟩, bi, su, lo, hi⟩ := r
      simp only [Int.toNat_natCast] at x0 x1 x2 x3 x4 x5 x6 x7 x8
      clear hrd
      replace x0 := (HB.out.cell (World.block_lt_of_cell? w _ x0)).trans x0
      replace x1 := (HB.out.cell (World.block_lt_of_cell? w _ x1)).trans x1
      replace x2 := (HB.out.cell (World.block_lt_of_cell? w _ x2)).trans x2
      replace x3 := (HB.out.cell (World.block_lt_of_cell? w _ x3)).trans x3
      replace x4 := (HB.out.cell (World.block_lt_of_cell? w _ x4)).trans x4
      replace x5 := (HB.out.cell (World.block_lt_of_cell? w _ x5)).trans x5
      replace x6 := (HB.out.cell (World.block_lt_of_cell? w _ x6)).trans x6
      replace x7 := (HB.out.cell (World.block_lt_of_cell? w _ x7)).trans x7
      replace x8 := (HB.out.cell (World.block_lt_of_cell? w _ x8)).trans x8
      obtain ⟨d0, d1, d2, d3, d4, d5⟩ := HD.out.six
      have hdl := HD.out.lt
      have hne : ¬ w.heap.size = wr.heap.size := by omega
      by_cases h1 : po < lo
      · have hf := HNF.out (by unfold fitB; simp only; rw [if_pos h1])
        clear HNF HYF
        go_wp2
        go_roundw
        case rel => exact ⟨k + 1, by omega, rfl, by go_num, Lib.hid hf, Lib.hid (HD.out.old _), Lib.hid (below_alloc HB.out _)⟩
        case measure => simp [intOf]; omega
      · have h1' : decide (po < lo) = false := decide_eq_false h1
        by_cases h2 : hi < po
        · have hf := HNF.out (by unfold fitB; simp only; rw [if_neg h1, if_pos h2])
          clear HNF HYF
          go_wp2
          go_roundw
          case rel => exact ⟨k + 1, by omega, rfl, by go_num, Lib.hid hf, Lib.hid (HD.out.old _), Lib.hid (below_alloc HB.out _)⟩
          case measure => simp [intOf]; omega
        · have h2' : decide (hi < po) = false := decide_eq_false h2
          cases hsu : su.toList.isEmpty
          · cases hnn : n.toList.isEmpty
            · cases hb : underB n su
              · have hf := HNF.out (by unfold fitB; simp only; rw [if_neg h1, if_neg h2, hsu, hnn]; simpa using hb)
                clear HNF HYF
                have HU := Lib.hid (fun W => host_Under.calls n su _ W (underB_some n su HN.out))
                rw [hb] at HU
                go_wp2_with (first | (go_at_call 27; refine (HU.out _).mono ?_; rintro e w4 ⟨rfl, hb4⟩; have HB4 := Lib.hid (below_then (below_alloc HB.out _) (below_alloc HB.out _).size hb4.below); have HD4 : Hid (Blk w4 w.heap.size (dc a b c d n po) 28) := Lib.hid ((HD.out.old _).below hb4.below); obtain ⟨e0, e1, e2, e3, e4, e5, e6, e7, e8⟩ := ((Blk.new wr (rc al ra rb rc' rd bi su lo hi) 37).below hb4.below).nine))
                go_roundw
                case rel => exact ⟨k + 1, by omega, rfl, by go_num, Lib.hid hf, Lib.hid HD4.out, Lib.hid HB4.out⟩
                case measure => simp [intOf]; omega
              · have hf := HYF.out (by unfold fitB; simp only; rw [if_neg h1, if_neg h2, hsu, hnn]; simpa using hb)
                clear HNF HYF
                have HU := Lib.hid (fun W => host_Under.calls n su _ W (underB_some n su HN.out))
                rw [hb] at HU
                go_wp2_with (first | (go_at_call 27; refine (HU.out _).mono ?_; rintro e w4 ⟨rfl, hb4⟩; have HB4 := Lib.hid (below_then (below_alloc HB.out _) (below_alloc HB.out _).size hb4.below); have HD4 : Hid (Blk w4 w.heap.size (dc a b c d n po) 28) := Lib.hid ((HD.out.old _).below hb4.below); obtain ⟨e0, e1, e2, e3, e4, e5, e6, e7, e8⟩ := ((Blk.new wr (rc al ra rb rc' rd bi su lo hi) 37).below hb4.below).nine))
                try rw [Exit.noGoto_ret]
                go_ret
                exact ⟨by rw [hf]; rfl, HB4.out⟩
            · have hf := HNF.out (by unfold fitB; simp only; rw [if_neg h1, if_neg h2, hsu, hnn]; rfl)
              clear HNF HYF
              go_wp2
              go_roundw
              case rel => exact ⟨k + 1, by omega, rfl, by go_num, Lib.hid hf, Lib.hid (HD.out.old _), Lib.hid (below_alloc HB.out _)⟩
              case measure => simp [intOf]; omega
          · cases hnn : n.toList.isEmpty
            · have hf := HNF.out (by unfold fitB; simp only; rw [if_neg h1, if_neg h2, hsu, hnn]; rfl)
              clear HNF HYF
              go_wp2
              go_roundw
              case rel => exact ⟨k + 1, by omega, rfl, by go_num, Lib.hid hf, Lib.hid (HD.out.old _), Lib.hid (below_alloc HB.out _)⟩
              case measure => simp [intOf]; omega
            · cases hb : inB a b c d ra rb rc' rd bi
              · have hf := HNF.out (by unfold fitB; simp only; rw [if_neg h1, if_neg h2, hsu, hnn]; simpa using hb)
                clear HNF HYF
                have HU := Lib.hid (fun W => host_In.calls a b c d ra rb rc' rd bi _ W (inB_some a b c d ra rb rc' rd bi))
                rw [hb] at HU
                go_wp2_with (first | (go_at_call 25; refine (HU.out _).mono ?_; rintro e w4 ⟨rfl, hb4⟩; have HB4 := Lib.hid (below_then (below_alloc HB.out _) (below_alloc HB.out _).size hb4); have HD4 : Hid (Blk w4 w.heap.size (dc a b c d n po) 28) := Lib.hid ((HD.out.old _).below hb4); obtain ⟨e0, e1, e2, e3, e4, e5, e6, e7, e8⟩ := ((Blk.new wr (rc al ra rb rc' rd bi su lo hi) 37).below hb4).nine))
                go_roundw
                case rel => exact ⟨k + 1, by omega, rfl, by go_num, Lib.hid hf, Lib.hid HD4.out, Lib.hid HB4.out⟩
                case measure => simp [intOf]; omega
              · have hf := HYF.out (by unfold fitB; simp only; rw [if_neg h1, if_neg h2, hsu, hnn]; simpa using hb)
                clear HNF HYF
                have HU := Lib.hid (fun W => host_In.calls a b c d ra rb rc' rd bi _ W (inB_some a b c d ra rb rc' rd bi))
                rw [hb] at HU
                go_wp2_with (first | (go_at_call 25; refine (HU.out _).mono ?_; rintro e w4 ⟨rfl, hb4⟩; have HB4 := Lib.hid (below_then (below_alloc HB.out _) (below_alloc HB.out _).size hb4); have HD4 : Hid (Blk w4 w.heap.size (dc a b c d n po) 28) := Lib.hid ((HD.out.old _).below hb4); obtain ⟨e0, e1, e2, e3, e4, e5, e6, e7, e8⟩ := ((Blk.new wr (rc al ra rb rc' rd bi su lo hi) 37).below hb4).nine))
                try rw [Exit.noGoto_ret]
                go_ret
                exact ⟨by rw [hf]; rfl, HB4.out⟩
    · have hf := whichAt_end hlt HP.out
      have hk1 : (k : Int) = (l.length : Int) := by omega
      go_wp2
      try rw [Exit.noGoto_ret]
      go_ret
      exact ⟨by rw [hf]; rfl, HB.out⟩
end Go.Proofs.YteondnhokgmakaaGreatDoor.E


namespace Go.Proofs.YteondnhokgmakaaGreatDoor.Bt
open Go
def w4 (a b c d : Nat) : Nat := a * 16777216 + b * 65536 + c * 256 + d
def pk (a b c d n : Nat) : Nat := if n < 8 then a else if n < 16 then b else if n < 24 then c else d
theorem w4_lt {a b c d : Nat} (ha : a < 256) (hb : b < 256) (hc : c < 256) (hd : d < 256) : w4 a b c d < 4294967296 := by unfold w4; omega
theorem tb_add (x y m k i : Nat) (hm : m = 2 ^ k) (hy : y < m) : (x * m + y).testBit i = if i < k then y.testBit i else x.testBit (i - k) := by
  subst hm
  rw [Nat.mul_comm, Nat.testBit_two_pow_mul_add _ hy]
theorem w4_bit {a b c d : Nat} (_ : a < 256) (hb : b < 256) (hc : c < 256) (hd : d < 256) (n : Nat) (hn : n < 32) :
    (w4 a b c d).testBit (31 - n) = (pk a b c d n).testBit (7 - n % 8) := by
  unfold w4
  rw [Nat.add_assoc, Nat.add_assoc, tb_add _ _ _ 24 _ (by decide) (by omega)]
  unfold pk
  by_cases h1 : n < 8
  · rw [if_neg (by omega), if_pos h1]; congr 1; omega
  · rw [if_pos (by omega), if_neg h1, tb_add _ _ _ 16 _ (by decide) (by omega)]
    by_cases h2 : n < 16
    · rw [if_neg (by omega), if_pos h2]; congr 1; omega
    · rw [if_pos (by omega), if_neg h2, tb_add _ _ _ 8 _ (by decide) (by omega)]
      by_cases h3 : n < 24
      · rw [if_neg (by omega), if_pos h3]; congr 1; omega
      · rw [if_pos (by omega), if_neg h3]; congr 1; omega
theorem mod_zero (w k : Nat) : w % 2 ^ k = 0 ↔ ∀ i, i < k → w.testBit i = false := by
  constructor
  · intro h i hi
    have := Nat.testBit_mod_two_pow w k i
    rw [h, Nat.zero_testBit] at this
    simp [hi] at this
    exact this
  · intro h
    apply Nat.eq_of_testBit_eq
    intro i
    rw [Nat.testBit_mod_two_pow, Nat.zero_testBit]
    by_cases hi : i < k
    · rw [h i hi, Bool.and_false]
    · simp [hi]
theorem div_eq (w v k : Nat) (hw : w < 4294967296) (hv : v < 4294967296) : w / 2 ^ k = v / 2 ^ k ↔ ∀ i, k ≤ i → i < 32 → w.testBit i = v.testBit i := by
  constructor
  · intro h i hi _
    have h1 := Nat.testBit_div_two_pow (n := k) w (i - k)
    have h2 := Nat.testBit_div_two_pow (n := k) v (i - k)
    rw [h, h2] at h1
    rw [show i - k + k = i by omega] at h1
    exact h1.symm
  · intro h
    apply Nat.eq_of_testBit_eq
    intro i
    rw [Nat.testBit_div_two_pow, Nat.testBit_div_two_pow]
    by_cases h32 : i + k < 32
    · exact h (i + k) (by omega) h32
    · have e1 : w.testBit (i + k) = false := Nat.testBit_lt_two_pow (Nat.lt_of_lt_of_le (show w < 2 ^ 32 from hw) (Nat.pow_le_pow_right (by decide) (by omega)))
      have e2 : v.testBit (i + k) = false := Nat.testBit_lt_two_pow (Nat.lt_of_lt_of_le (show v < 2 ^ 32 from hv) (Nat.pow_le_pow_right (by decide) (by omega)))
      rw [e1, e2]
theorem xor_div (w v k : Nat) (hw : w < 4294967296) (hv : v < 4294967296) : (w ^^^ v) / 2 ^ k = 0 ↔ w / 2 ^ k = v / 2 ^ k := by
  rw [div_eq w v k hw hv]
  have h0 : (w ^^^ v) / 2 ^ k = 0 ↔ (w ^^^ v) / 2 ^ k = 0 / 2 ^ k := by rw [Nat.zero_div]
  have hx : w ^^^ v < 4294967296 := Nat.xor_lt_two_pow (n := 32) hw hv
  rw [h0, div_eq _ _ _ hx (by decide)]
  constructor
  · intro h i h1 h2
    have := h i h1 h2
    rw [Nat.testBit_xor, Nat.zero_testBit] at this
    simpa using this
  · intro h i h1 h2
    rw [Nat.testBit_xor, Nat.zero_testBit, h i h1 h2]; simp
theorem bit_of (x : Nat) (n : Nat) : (((x : Int) / 2 ^ (7 - (n : Int) % 8).toNat).tmod 2) = if x.testBit (7 - n % 8) then 1 else 0 := by
  have e : (7 - (n : Int) % 8).toNat = 7 - n % 8 := by omega
  rw [e]
  have : ((x : Int) / 2 ^ (7 - n % 8)) = ((x / 2 ^ (7 - n % 8) : Nat) : Int) := by simp
  rw [this, Int.tmod_eq_emod_of_nonneg (Int.natCast_nonneg _), Nat.testBit_eq_decide_div_mod_eq]
  generalize x / 2 ^ (7 - n % 8) = y
  by_cases h : y % 2 = 1
  · simp [h]; omega
  · simp [h]; omega
theorem word_or (a b c d : Nat) (ha : a < 256) (hb : b < 256) (hc : c < 256) (hd : d < 256) :
    bits .or .u32 (bits .or .u32 (bits .or .u32 ((a : Int) * 16777216) ((b : Int) * 65536)) ((c : Int) * 256)) (d : Int) = (w4 a b c d : Nat) := by
  have hk : ∀ n : Int, 0 ≤ n → n < 2 ^ 32 → IntKind.u32.wrap n = n := fun n h0 h1 => by rw [IntKind.wrap_u32]; omega
  have e1 := bits_join .u32 32 (by decide) hk 24 ((a : Int) * 16777216) ((b : Int) * 65536) (by omega) (by omega) (by omega) (by omega) (by omega) (by omega)
  have e2 := bits_join .u32 32 (by decide) hk 16 ((a : Int) * 16777216 + (b : Int) * 65536) ((c : Int) * 256) (by omega) (by omega) (by omega) (by omega) (by omega) (by omega)
  have e3 := bits_join .u32 32 (by decide) hk 8 ((a : Int) * 16777216 + (b : Int) * 65536 + (c : Int) * 256) (d : Int) (by omega) (by omega) (by omega) (by omega) (by omega) (by omega)
  rw [e1, e2, e3]; unfold w4; omega
theorem bits_xor_u32_nat (a b : Nat) (ha : a < 4294967296) (hb : b < 4294967296) : bits .xor .u32 (a : Int) (b : Int) = ((a ^^^ b : Nat) : Int) := by
  have ha' : a % 2 ^ 32 = a := Nat.mod_eq_of_lt ha
  have hb' : b % 2 ^ 32 = b := Nat.mod_eq_of_lt hb
  have hx : a ^^^ b < 2 ^ 32 := Nat.xor_lt_two_pow (n := 32) ha hb
  simp only [bits, BitVec.ofInt_natCast, BitVec.toNat_xor, BitVec.toNat_ofNat]
  rw [show IntKind.u32.bits = 32 from rfl, ha', hb', IntKind.wrap_u32]
  omega
theorem same_bits {a b c d e f g h : Nat} (ha : a < 256) (hb : b < 256) (hc : c < 256) (hd : d < 256) (he : e < 256) (hf : f < 256) (hg : g < 256) (hh : h < 256) (n : Nat) (hn : n ≤ 32) :
    w4 a b c d / 2 ^ (32 - n) = w4 e f g h / 2 ^ (32 - n) ↔ ∀ i, i < n → (pk a b c d i).testBit (7 - i % 8) = (pk e f g h i).testBit (7 - i % 8) := by
  rw [div_eq _ _ _ (w4_lt ha hb hc hd) (w4_lt he hf hg hh)]
  constructor
  · intro H i hi
    rw [← w4_bit ha hb hc hd i (by omega), ← w4_bit he hf hg hh i (by omega)]
    exact H _ (by omega) (by omega)
  · intro H i h1 h2
    have := H (31 - i) (by omega)
    rw [← w4_bit ha hb hc hd _ (by omega), ← w4_bit he hf hg hh _ (by omega), show 31 - (31 - i) = i by omega] at this
    exact this
theorem tail_bits {a b c d : Nat} (ha : a < 256) (hb : b < 256) (hc : c < 256) (hd : d < 256) (n : Nat) (hn : n ≤ 32) :
    w4 a b c d % 2 ^ (32 - n) = 0 ↔ ∀ i, n ≤ i → i < 32 → (pk a b c d i).testBit (7 - i % 8) = false := by
  rw [mod_zero]
  constructor
  · intro H i h1 h2
    rw [← w4_bit ha hb hc hd i (by omega)]
    exact H _ (by omega)
  · intro H i hi
    have := H (31 - i) (by omega) (by omega)
    rw [← w4_bit ha hb hc hd _ (by omega), show 31 - (31 - i) = i by omega] at this
    exact this
theorem shl_zero (w n : Nat) (hn : n ≤ 32) : (w * 2 ^ n) % 4294967296 = 0 ↔ w % 2 ^ (32 - n) = 0 := by
  have e : (4294967296 : Nat) = 2 ^ (32 - n) * 2 ^ n := by rw [← Nat.pow_add, show 32 - n + n = 32 by omega]
  rw [e, Nat.mul_mod_mul_right]
  have := Nat.two_pow_pos n
  constructor
  · intro h
    rcases Nat.mul_eq_zero.1 h with h | h
    · exact h
    · omega
  · intro h; rw [h, Nat.zero_mul]
end Go.Proofs.YteondnhokgmakaaGreatDoor.Bt


namespace Go.Proofs.YteondnhokgmakaaGreatDoor.E
open Go.RowKit Go.Proofs.YteondnhokgmakaaGreatDoorW.PrintWords Go.Proofs.YteondnhokgmakaaGreatDoorW.PrintLast
set_option linter.unusedVariables false
set_option linter.unusedSimpArgs false
set_option maxRecDepth 100000 in
set_option maxHeartbeats 40000000 in
theorem qq_1 (s w0 w1s w2s lowS highS netS nS : ByteArray) (lo : Int) (hi2 : Int) (bi : Int) (a b c d : Int) (l : List ByteArray) (hs1 : s.size ≤ 285) (hs : s.size < 4294967281)
    (HSP : ∀ W, StdW W → Calls Tryz.prog 45 #[.string s, .string ⟨#[32]⟩] W fun e w' => e = .returned (.slice (some ⟨W.heap.size, 0, none⟩) l.length l.length) ∧ (∀ j, (h : j < l.length) → w'.cell? ⟨W.heap.size, j, none⟩ = some (.string l[j])) ∧ W.heap.size < w'.heap.size ∧ Below W.heap.size W w')
    (h0 : 3 = l.length)
    (hw0 : l[0]? = some w0)
    (hw1 : l[1]? = some w1s)
    (hw2 : l[2]? = some w2s)
    (hal : (w0.toList == [97, 108, 108, 111, 119]) = false)
    (hde : false = false → (w0.toList == [100, 101, 110, 121]) = true)
    (HC2 : ∀ W, StdW W → Calls Tryz.prog 46 #[.string w2s, .string ⟨#[45]⟩] W fun e w' => e = .returned (.tuple #[.string lowS, .string highS, .bool true]) ∧ Below W.heap.size W w')
    (HN1 : ∀ W, StdW W → Calls Tryz.prog 47 #[.string lowS] W fun e w' => e = .returned (.tuple #[.int .i64 lo, .bool true]) ∧ Below W.heap.size W w')
    (HC1 : ∀ W, StdW W → Calls Tryz.prog 46 #[.string w1s, .string ⟨#[47]⟩] W fun e w' => e = .returned (.tuple #[.string netS, .string nS, .bool true]) ∧ Below W.heap.size W w')
    (HN2 : ∀ W, StdW W → Calls Tryz.prog 47 #[.string highS] W fun e w' => e = .returned (.tuple #[.int .i64 hi2, .bool true]) ∧ Below W.heap.size W w')
    (hnel : (hi2 != lo) = true)
    (HN3 : ∀ W, StdW W → Calls Tryz.prog 47 #[.string nS] W fun e w' => e = .returned (.tuple #[.int .i64 bi, .bool true]) ∧ Below W.heap.size W w')
    (HPA : ∀ W, StdW W → Calls Tryz.prog 48 #[.string netS] W fun e w' => e = .returned (.tuple #[.agg #[.int .u8 a, .int .u8 b, .int .u8 c, .int .u8 d], .nilIface]) ∧ Below W.heap.size W w')
    (HRT : ∀ W, StdW W → Calls Tryz.prog 38 #[.agg (rc false a b c d bi ⟨#[]⟩ lo hi2)] W fun e w' => e = .returned (.bool true) ∧ Below W.heap.size W w')
    (w : World) (hS : StdW w) :
    Calls Tryz.prog 21 #[.string s] w fun e w' => e = .returned (ppOut (true && ((true && true) && (true && true))) false a b c d bi ⟨#[]⟩ lo hi2) ∧ Below w.heap.size w w' := by
  have HS := Lib.hid hS
  clear hS
  have hs1' : (s.size : Int) ≤ 285 := by omega
  have hl3 : ((l.length : Int) != 3) = false := by rw [← h0]; rfl
  have hl0 : (0 : Int) < (l.length : Int) := by omega
  have hl1 : (1 : Int) < (l.length : Int) := by omega
  have hl2 : (2 : Int) < (l.length : Int) := by omega
  have XHSP := Lib.hid HSP
  have XHC2 := Lib.hid HC2
  have XHN1 := Lib.hid HN1
  have XHC1 := Lib.hid HC1
  have XHRT := Lib.hid HRT
  have Xhw0 := Lib.hid hw0
  have Xhw1 := Lib.hid hw1
  have Xhw2 := Lib.hid hw2
  have XHN2 := Lib.hid HN2
  have XHN3 := Lib.hid HN3
  have XHPA := Lib.hid HPA
  clear HSP HC2 HN1 HC1 HRT hw0 hw1 hw2 HN2 HN3 HPA
  have Xh0 := Lib.hid h0
  clear h0 hs1
  have hde' := hde rfl
  clear hde
  go_enter Tryz.func21, Tryz.ntmps21
  go_wp2_with (first | (go_at_call 45; refine (XHSP.out _ (StdW.below HS.out (below_alloc (Below.refl _ _) _))).mono ?_; rintro e x1 ⟨rfl, hc, hlt1, hb1⟩; have HB1 := Lib.hid (below_then (below_alloc (Below.refl w.heap.size w) _) (below_alloc (Below.refl w.heap.size w) _).size hb1); have hR1 : w.heap.size < x1.heap.size := (by have := hb1.size; simp at this; omega); have hRn1 : ¬ x1.heap.size = w.heap.size := (by omega); have hRn2 : ¬ w.heap.size = x1.heap.size := (by omega); have HZ1 := Lib.hid ((Blk.new w (rc false 0 0 0 0 0 ⟨#[]⟩ 0 0) _).below hb1); have HWD1 : Hid (∀ j, (h : j < l.length) → x1.cell? ⟨w.heap.size + 1, j, none⟩ = some (.string l[j])) := Lib.hid (fun j h => by have := hc j h; rw [World.size_alloc] at this; exact this); have wd0 : x1.cell? ⟨w.heap.size + 1, 0, none⟩ = some (.string w0) := (HWD1.out 0 (by have := Xh0.out; omega)).trans (by rw [(List.getElem?_eq_some_iff.1 Xhw0.out).2]); have wd2 : x1.cell? ⟨w.heap.size + 1, 2, none⟩ = some (.string w2s) := (HWD1.out 2 (by have := Xh0.out; omega)).trans (by rw [(List.getElem?_eq_some_iff.1 Xhw2.out).2]); have hwl : w.heap.size + 1 < x1.heap.size := (by simpa using hlt1); clear hc hlt1 hb1) | (go_at_call_of 46 (Value.string w2s); refine (XHC2.out _ (StdW.below HS.out (below_alloc HB1.out _))).mono ?_; rintro e x2 ⟨rfl, hb2⟩; have HB2 := Lib.hid (below_then (below_alloc HB1.out _) (below_alloc HB1.out _).size hb2); have HZ2 := Lib.hid ((HZ1.out.old _).below hb2); have HR2 : Hid (Blk x2 x1.heap.size (rc false 0 0 0 0 0 ⟨#[]⟩ 0 0) _) := Lib.hid ((Blk.new x1 (rc false 0 0 0 0 0 ⟨#[]⟩ 0 0) _).below hb2); have HWD2 : Hid (∀ j, (h : j < l.length) → x2.cell? ⟨w.heap.size + 1, j, none⟩ = some (.string l[j])) := Lib.hid (fun j h => pw_cell_below hb2 (pw_cell_below (below_alloc (Below.refl _ _) _) (HWD1.out j h))); clear hb2 wd0 wd2) | (go_at_call_of 47 (Value.string lowS); refine (XHN1.out _ (StdW.below HS.out HB2.out)).mono ?_; rintro e x3 ⟨rfl, hb3⟩; have HB3 := Lib.hid (below_then HB2.out HB2.out.size hb3); have HZ3 := Lib.hid (HZ2.out.below hb3); have HR3 := Lib.hid (HR2.out.below hb3); have HWD3 : Hid (∀ j, (h : j < l.length) → x3.cell? ⟨w.heap.size + 1, j, none⟩ = some (.string l[j])) := Lib.hid (fun j h => pw_cell_below hb3 (HWD2.out j h)); have wd1 : x3.cell? ⟨w.heap.size + 1, 1, none⟩ = some (.string w1s) := (HWD3.out 1 (by have := Xh0.out; omega)).trans (by rw [(List.getElem?_eq_some_iff.1 Xhw1.out).2]); obtain ⟨k0, k1, k2, k3, k4, k5, k6, k7, k8⟩ := HR3.out.nine; obtain ⟨f0, f1, f2, f3, f4, f5, f6, f7, f8⟩ := HR3.out.frees; clear hb3) | (go_at_call_of 47 (Value.string highS); refine (XHN2.out _ (StdW.below HS.out ((HB3.out.setCell (p := ⟨x1.heap.size, 7, none⟩) (Nat.le_of_lt hR1) (.int .i64 lo)).setCell (p := ⟨x1.heap.size, 8, none⟩) (Nat.le_of_lt hR1) (.int .i64 lo)))).mono ?_; rintro e x4 ⟨rfl, hb4⟩; have HB4 := Lib.hid (below_then ((HB3.out.setCell (p := ⟨x1.heap.size, 7, none⟩) (Nat.le_of_lt hR1) (.int .i64 lo)).setCell (p := ⟨x1.heap.size, 8, none⟩) (Nat.le_of_lt hR1) (.int .i64 lo)) ((HB3.out.setCell (p := ⟨x1.heap.size, 7, none⟩) (Nat.le_of_lt hR1) (.int .i64 lo)).setCell (p := ⟨x1.heap.size, 8, none⟩) (Nat.le_of_lt hR1) (.int .i64 lo)).size hb4); have HZ4 := Lib.hid (((HZ3.out.other ⟨x1.heap.size, 7, none⟩ hRn2 (.int .i64 lo)).other ⟨x1.heap.size, 8, none⟩ hRn2 (.int .i64 lo)).below hb4); have HR4 : Hid (Blk x4 x1.heap.size (rc false 0 0 0 0 0 ⟨#[]⟩ lo lo) _) := Lib.hid (((HR3.out.set 7 (.int .i64 lo)).set 8 (.int .i64 lo)).below hb4); have HWD4 : Hid (∀ j, (h : j < l.length) → x4.cell? ⟨w.heap.size + 1, j, none⟩ = some (.string l[j])) := Lib.hid (fun j h => pw_cell_below hb4 (by rw [World.cell?_setCell_other _ _ _ _ (by intro e; injection e with e; omega), World.cell?_setCell_other _ _ _ _ (by intro e; injection e with e; omega)]; exact HWD3.out j h)); clear wd1; have wd1 : x4.cell? ⟨w.heap.size + 1, 1, none⟩ = some (.string w1s) := (HWD4.out 1 (by have := Xh0.out; omega)).trans (by rw [(List.getElem?_eq_some_iff.1 Xhw1.out).2]); clear k0 k1 k2 k3 k4 k5 k6 k7 k8 f0 f1 f2 f3 f4 f5 f6 f7 f8; obtain ⟨k0, k1, k2, k3, k4, k5, k6, k7, k8⟩ := HR4.out.nine; obtain ⟨f0, f1, f2, f3, f4, f5, f6, f7, f8⟩ := HR4.out.frees; clear hb4) | (go_at_call_of 46 (Value.string w1s); refine (XHC1.out _ (StdW.below HS.out (HB4.out.setCell (p := ⟨x1.heap.size, 8, none⟩) (Nat.le_of_lt hR1) (.int .i64 hi2)))).mono ?_; rintro e x5 ⟨rfl, hb5⟩; have HB5 := Lib.hid (below_then (HB4.out.setCell (p := ⟨x1.heap.size, 8, none⟩) (Nat.le_of_lt hR1) (.int .i64 hi2)) (HB4.out.setCell (p := ⟨x1.heap.size, 8, none⟩) (Nat.le_of_lt hR1) (.int .i64 hi2)).size hb5); have HZ5 := Lib.hid ((HZ4.out.other ⟨x1.heap.size, 8, none⟩ hRn2 (.int .i64 hi2)).below hb5); have HR5 : Hid (Blk x5 x1.heap.size (rc false 0 0 0 0 0 ⟨#[]⟩ lo hi2) _) := Lib.hid ((HR4.out.set 8 (.int .i64 hi2)).below hb5); have HWD5 : Hid (∀ j, (h : j < l.length) → x5.cell? ⟨w.heap.size + 1, j, none⟩ = some (.string l[j])) := Lib.hid (fun j h => pw_cell_below hb5 (by rw [World.cell?_setCell_other _ _ _ _ (by intro e; injection e with e; omega)]; exact HWD4.out j h)); clear wd1; have wd1 : x5.cell? ⟨w.heap.size + 1, 1, none⟩ = some (.string w1s) := (HWD5.out 1 (by have := Xh0.out; omega)).trans (by rw [(List.getElem?_eq_some_iff.1 Xhw1.out).2]); clear k0 k1 k2 k3 k4 k5 k6 k7 k8 f0 f1 f2 f3 f4 f5 f6 f7 f8; obtain ⟨k0, k1, k2, k3, k4, k5, k6, k7, k8⟩ := HR5.out.nine; obtain ⟨f0, f1, f2, f3, f4, f5, f6, f7, f8⟩ := HR5.out.frees; clear hb5) | (go_at_call_of 47 (Value.string nS); refine (XHN3.out _ (StdW.below HS.out HB5.out)).mono ?_; rintro e x6 ⟨rfl, hb6⟩; have HB6 := Lib.hid (below_then HB5.out HB5.out.size hb6); have HZ6 := Lib.hid (HZ5.out.below hb6); have HR6 := Lib.hid (HR5.out.below hb6); clear k0 k1 k2 k3 k4 k5 k6 k7 k8 f0 f1 f2 f3 f4 f5 f6 f7 f8; obtain ⟨k0, k1, k2, k3, k4, k5, k6, k7, k8⟩ := HR6.out.nine; obtain ⟨f0, f1, f2, f3, f4, f5, f6, f7, f8⟩ := HR6.out.frees; clear hb6) | (go_at_call 48; refine (XHPA.out _ (StdW.below HS.out (HB6.out.setCell (p := ⟨x1.heap.size, 5, none⟩) (Nat.le_of_lt hR1) (.int .i64 bi)))).mono ?_; rintro e x7 ⟨rfl, hb7⟩; have HB7 := Lib.hid (below_then (HB6.out.setCell (p := ⟨x1.heap.size, 5, none⟩) (Nat.le_of_lt hR1) (.int .i64 bi)) (HB6.out.setCell (p := ⟨x1.heap.size, 5, none⟩) (Nat.le_of_lt hR1) (.int .i64 bi)).size hb7); have HZ7 := Lib.hid ((HZ6.out.other ⟨x1.heap.size, 5, none⟩ hRn2 (.int .i64 bi)).below hb7); have HR7 : Hid (Blk x7 x1.heap.size (rc false 0 0 0 0 bi ⟨#[]⟩ lo hi2) _) := Lib.hid ((HR6.out.set 5 (.int .i64 bi)).below hb7); clear k0 k1 k2 k3 k4 k5 k6 k7 k8 f0 f1 f2 f3 f4 f5 f6 f7 f8; obtain ⟨k0, k1, k2, k3, k4, k5, k6, k7, k8⟩ := HR7.out.nine; obtain ⟨f0, f1, f2, f3, f4, f5, f6, f7, f8⟩ := HR7.out.frees; obtain ⟨z0, z1, z2, z3, z4, z5, z6, z7, z8⟩ := HZ7.out.nine; obtain ⟨g0, g1, g2, g3, g4, g5, g6, g7, g8⟩ := HZ7.out.frees; clear hb7) | (go_at_call 38; refine (XHRT.out _ (StdW.below HS.out ((((HB7.out.setCell (p := ⟨x1.heap.size, 1, none⟩) (Nat.le_of_lt hR1) (.int .u8 a)).setCell (p := ⟨x1.heap.size, 2, none⟩) (Nat.le_of_lt hR1) (.int .u8 b)).setCell (p := ⟨x1.heap.size, 3, none⟩) (Nat.le_of_lt hR1) (.int .u8 c)).setCell (p := ⟨x1.heap.size, 4, none⟩) (Nat.le_of_lt hR1) (.int .u8 d)))).mono ?_; rintro e x8 ⟨rfl, hb8⟩; have HB8 := Lib.hid (below_then ((((HB7.out.setCell (p := ⟨x1.heap.size, 1, none⟩) (Nat.le_of_lt hR1) (.int .u8 a)).setCell (p := ⟨x1.heap.size, 2, none⟩) (Nat.le_of_lt hR1) (.int .u8 b)).setCell (p := ⟨x1.heap.size, 3, none⟩) (Nat.le_of_lt hR1) (.int .u8 c)).setCell (p := ⟨x1.heap.size, 4, none⟩) (Nat.le_of_lt hR1) (.int .u8 d)) ((((HB7.out.setCell (p := ⟨x1.heap.size, 1, none⟩) (Nat.le_of_lt hR1) (.int .u8 a)).setCell (p := ⟨x1.heap.size, 2, none⟩) (Nat.le_of_lt hR1) (.int .u8 b)).setCell (p := ⟨x1.heap.size, 3, none⟩) (Nat.le_of_lt hR1) (.int .u8 c)).setCell (p := ⟨x1.heap.size, 4, none⟩) (Nat.le_of_lt hR1) (.int .u8 d)).size hb8); have HZ8 := Lib.hid (((((HZ7.out.other ⟨x1.heap.size, 1, none⟩ hRn2 (.int .u8 a)).other ⟨x1.heap.size, 2, none⟩ hRn2 (.int .u8 b)).other ⟨x1.heap.size, 3, none⟩ hRn2 (.int .u8 c)).other ⟨x1.heap.size, 4, none⟩ hRn2 (.int .u8 d)).below hb8); have HR8 : Hid (Blk x8 x1.heap.size (rc false a b c d bi ⟨#[]⟩ lo hi2) _) := Lib.hid (((((HR7.out.set 1 (.int .u8 a)).set 2 (.int .u8 b)).set 3 (.int .u8 c)).set 4 (.int .u8 d)).below hb8); clear k0 k1 k2 k3 k4 k5 k6 k7 k8 f0 f1 f2 f3 f4 f5 f6 f7 f8; clear z0 z1 z2 z3 z4 z5 z6 z7 z8 g0 g1 g2 g3 g4 g5 g6 g7 g8; obtain ⟨k0, k1, k2, k3, k4, k5, k6, k7, k8⟩ := HR8.out.nine; obtain ⟨f0, f1, f2, f3, f4, f5, f6, f7, f8⟩ := HR8.out.frees; obtain ⟨z0, z1, z2, z3, z4, z5, z6, z7, z8⟩ := HZ8.out.nine; obtain ⟨g0, g1, g2, g3, g4, g5, g6, g7, g8⟩ := HZ8.out.frees; clear hb8))
  all_goals
    refine bodyPost_ret (v := .tuple #[.agg (rc false a b c d bi ⟨#[]⟩ lo hi2), .int .i64 0]) (by simp [results, Tryz.results21, go_sem, rc, z0, z1, z2, z3, z4, z5, z6, z7, z8, hRn1, hRn2]) rfl ⟨rfl, ?_⟩
    repeat (refine Below.setCell ?_ (by first | exact Nat.le_refl _ | exact Nat.le_of_lt hR1) _)
    exact HB8.out
end Go.Proofs.YteondnhokgmakaaGreatDoor.E


namespace Go.Proofs.YteondnhokgmakaaGreatDoor.E
open Go.RowKit Go.Proofs.YteondnhokgmakaaGreatDoorW.PrintWords Go.Proofs.YteondnhokgmakaaGreatDoorW.PrintLast
set_option linter.unusedVariables false
set_option linter.unusedSimpArgs false
set_option maxRecDepth 100000 in
set_option maxHeartbeats 40000000 in
theorem qq_2 (s w0 w1s w2s lowS highS netS nS : ByteArray) (lo : Int) (l : List ByteArray) (hs1 : s.size ≤ 285) (hs : s.size < 4294967281)
    (HSP : ∀ W, StdW W → Calls Tryz.prog 45 #[.string s, .string ⟨#[32]⟩] W fun e w' => e = .returned (.slice (some ⟨W.heap.size, 0, none⟩) l.length l.length) ∧ (∀ j, (h : j < l.length) → w'.cell? ⟨W.heap.size, j, none⟩ = some (.string l[j])) ∧ W.heap.size < w'.heap.size ∧ Below W.heap.size W w')
    (h0 : 3 = l.length)
    (hw0 : l[0]? = some w0)
    (hw1 : l[1]? = some w1s)
    (hw2 : l[2]? = some w2s)
    (hal : (w0.toList == [97, 108, 108, 111, 119]) = true)
    (hde : true = false → (w0.toList == [100, 101, 110, 121]) = true)
    (HC2 : ∀ W, StdW W → Calls Tryz.prog 46 #[.string w2s, .string ⟨#[45]⟩] W fun e w' => e = .returned (.tuple #[.string lowS, .string highS, .bool false]) ∧ Below W.heap.size W w')
    (HN1 : ∀ W, StdW W → Calls Tryz.prog 47 #[.string lowS] W fun e w' => e = .returned (.tuple #[.int .i64 lo, .bool true]) ∧ Below W.heap.size W w')
    (HC1 : ∀ W, StdW W → Calls Tryz.prog 46 #[.string w1s, .string ⟨#[47]⟩] W fun e w' => e = .returned (.tuple #[.string netS, .string nS, .bool false]) ∧ Below W.heap.size W w')
    (hok : w1s.toList.isEmpty = !true)
    (HRT : ∀ W, StdW W → Calls Tryz.prog 38 #[.agg (rc true 0 0 0 0 0 w1s lo lo)] W fun e w' => e = .returned (.bool true) ∧ Below W.heap.size W w')
    (w : World) (hS : StdW w) :
    Calls Tryz.prog 21 #[.string s] w fun e w' => e = .returned (ppOut (true && (true && (true && true))) true 0 0 0 0 0 w1s lo lo) ∧ Below w.heap.size w w' := by
  have HS := Lib.hid hS
  clear hS
  have hs1' : (s.size : Int) ≤ 285 := by omega
  have hl3 : ((l.length : Int) != 3) = false := by rw [← h0]; rfl
  have hl0 : (0 : Int) < (l.length : Int) := by omega
  have hl1 : (1 : Int) < (l.length : Int) := by omega
  have hl2 : (2 : Int) < (l.length : Int) := by omega
  have XHSP := Lib.hid HSP
  have XHC2 := Lib.hid HC2
  have XHN1 := Lib.hid HN1
  have XHC1 := Lib.hid HC1
  have XHRT := Lib.hid HRT
  have Xhw0 := Lib.hid hw0
  have Xhw1 := Lib.hid hw1
  have Xhw2 := Lib.hid hw2
  clear HSP HC2 HN1 HC1 HRT hw0 hw1 hw2
  have Xh0 := Lib.hid h0
  clear h0 hs1
  clear hde
  go_enter Tryz.func21, Tryz.ntmps21
  go_wp2_with (first | (go_at_call 45; refine (XHSP.out _ (StdW.below HS.out (below_alloc (Below.refl _ _) _))).mono ?_; rintro e x1 ⟨rfl, hc, hlt1, hb1⟩; have HB1 := Lib.hid (below_then (below_alloc (Below.refl w.heap.size w) _) (below_alloc (Below.refl w.heap.size w) _).size hb1); have hR1 : w.heap.size < x1.heap.size := (by have := hb1.size; simp at this; omega); have hRn1 : ¬ x1.heap.size = w.heap.size := (by omega); have hRn2 : ¬ w.heap.size = x1.heap.size := (by omega); have HZ1 := Lib.hid ((Blk.new w (rc false 0 0 0 0 0 ⟨#[]⟩ 0 0) _).below hb1); have HWD1 : Hid (∀ j, (h : j < l.length) → x1.cell? ⟨w.heap.size + 1, j, none⟩ = some (.string l[j])) := Lib.hid (fun j h => by have := hc j h; rw [World.size_alloc] at this; exact this); have wd0 : x1.cell? ⟨w.heap.size + 1, 0, none⟩ = some (.string w0) := (HWD1.out 0 (by have := Xh0.out; omega)).trans (by rw [(List.getElem?_eq_some_iff.1 Xhw0.out).2]); have wd2 : x1.cell? ⟨w.heap.size + 1, 2, none⟩ = some (.string w2s) := (HWD1.out 2 (by have := Xh0.out; omega)).trans (by rw [(List.getElem?_eq_some_iff.1 Xhw2.out).2]); have hwl : w.heap.size + 1 < x1.heap.size := (by simpa using hlt1); clear hc hlt1 hb1) | (go_at_call_of 46 (Value.string w2s); refine (XHC2.out _ (StdW.below HS.out (below_alloc HB1.out _))).mono ?_; rintro e x2 ⟨rfl, hb2⟩; have HB2 := Lib.hid (below_then (below_alloc HB1.out _) (below_alloc HB1.out _).size hb2); have HZ2 := Lib.hid ((HZ1.out.old _).below hb2); have HR2 : Hid (Blk x2 x1.heap.size (rc true 0 0 0 0 0 ⟨#[]⟩ 0 0) _) := Lib.hid ((Blk.new x1 (rc true 0 0 0 0 0 ⟨#[]⟩ 0 0) _).below hb2); have HWD2 : Hid (∀ j, (h : j < l.length) → x2.cell? ⟨w.heap.size + 1, j, none⟩ = some (.string l[j])) := Lib.hid (fun j h => pw_cell_below hb2 (pw_cell_below (below_alloc (Below.refl _ _) _) (HWD1.out j h))); clear hb2 wd0 wd2) | (go_at_call_of 47 (Value.string lowS); refine (XHN1.out _ (StdW.below HS.out HB2.out)).mono ?_; rintro e x3 ⟨rfl, hb3⟩; have HB3 := Lib.hid (below_then HB2.out HB2.out.size hb3); have HZ3 := Lib.hid (HZ2.out.below hb3); have HR3 := Lib.hid (HR2.out.below hb3); have HWD3 : Hid (∀ j, (h : j < l.length) → x3.cell? ⟨w.heap.size + 1, j, none⟩ = some (.string l[j])) := Lib.hid (fun j h => pw_cell_below hb3 (HWD2.out j h)); have wd1 : x3.cell? ⟨w.heap.size + 1, 1, none⟩ = some (.string w1s) := (HWD3.out 1 (by have := Xh0.out; omega)).trans (by rw [(List.getElem?_eq_some_iff.1 Xhw1.out).2]); obtain ⟨k0, k1, k2, k3, k4, k5, k6, k7, k8⟩ := HR3.out.nine; obtain ⟨f0, f1, f2, f3, f4, f5, f6, f7, f8⟩ := HR3.out.frees; clear hb3) | (go_at_call_of 46 (Value.string w1s); refine (XHC1.out _ (StdW.below HS.out ((HB3.out.setCell (p := ⟨x1.heap.size, 7, none⟩) (Nat.le_of_lt hR1) (.int .i64 lo)).setCell (p := ⟨x1.heap.size, 8, none⟩) (Nat.le_of_lt hR1) (.int .i64 lo)))).mono ?_; rintro e x5 ⟨rfl, hb5⟩; have HB5 := Lib.hid (below_then ((HB3.out.setCell (p := ⟨x1.heap.size, 7, none⟩) (Nat.le_of_lt hR1) (.int .i64 lo)).setCell (p := ⟨x1.heap.size, 8, none⟩) (Nat.le_of_lt hR1) (.int .i64 lo)) ((HB3.out.setCell (p := ⟨x1.heap.size, 7, none⟩) (Nat.le_of_lt hR1) (.int .i64 lo)).setCell (p := ⟨x1.heap.size, 8, none⟩) (Nat.le_of_lt hR1) (.int .i64 lo)).size hb5); have HZ5 := Lib.hid (((HZ3.out.other ⟨x1.heap.size, 7, none⟩ hRn2 (.int .i64 lo)).other ⟨x1.heap.size, 8, none⟩ hRn2 (.int .i64 lo)).below hb5); have HR5 : Hid (Blk x5 x1.heap.size (rc true 0 0 0 0 0 ⟨#[]⟩ lo lo) _) := Lib.hid (((HR3.out.set 7 (.int .i64 lo)).set 8 (.int .i64 lo)).below hb5); have HWD5 : Hid (∀ j, (h : j < l.length) → x5.cell? ⟨w.heap.size + 1, j, none⟩ = some (.string l[j])) := Lib.hid (fun j h => pw_cell_below hb5 (by rw [World.cell?_setCell_other _ _ _ _ (by intro e; injection e with e; omega), World.cell?_setCell_other _ _ _ _ (by intro e; injection e with e; omega)]; exact HWD3.out j h)); clear wd1; have wd1 : x5.cell? ⟨w.heap.size + 1, 1, none⟩ = some (.string w1s) := (HWD5.out 1 (by have := Xh0.out; omega)).trans (by rw [(List.getElem?_eq_some_iff.1 Xhw1.out).2]); clear k0 k1 k2 k3 k4 k5 k6 k7 k8 f0 f1 f2 f3 f4 f5 f6 f7 f8; obtain ⟨k0, k1, k2, k3, k4, k5, k6, k7, k8⟩ := HR5.out.nine; obtain ⟨f0, f1, f2, f3, f4, f5, f6, f7, f8⟩ := HR5.out.frees; obtain ⟨z0, z1, z2, z3, z4, z5, z6, z7, z8⟩ := HZ5.out.nine; obtain ⟨g0, g1, g2, g3, g4, g5, g6, g7, g8⟩ := HZ5.out.frees; clear hb5) | (go_at_call 38; refine (XHRT.out _ (StdW.below HS.out (HB5.out.setCell (p := ⟨x1.heap.size, 6, none⟩) (Nat.le_of_lt hR1) (.string w1s)))).mono ?_; rintro e x8 ⟨rfl, hb8⟩; have HB8 := Lib.hid (below_then (HB5.out.setCell (p := ⟨x1.heap.size, 6, none⟩) (Nat.le_of_lt hR1) (.string w1s)) (HB5.out.setCell (p := ⟨x1.heap.size, 6, none⟩) (Nat.le_of_lt hR1) (.string w1s)).size hb8); have HZ8 := Lib.hid ((HZ5.out.other ⟨x1.heap.size, 6, none⟩ hRn2 (.string w1s)).below hb8); have HR8 : Hid (Blk x8 x1.heap.size (rc true 0 0 0 0 0 w1s lo lo) _) := Lib.hid ((HR5.out.set 6 (.string w1s)).below hb8); clear k0 k1 k2 k3 k4 k5 k6 k7 k8 f0 f1 f2 f3 f4 f5 f6 f7 f8; clear z0 z1 z2 z3 z4 z5 z6 z7 z8 g0 g1 g2 g3 g4 g5 g6 g7 g8; obtain ⟨k0, k1, k2, k3, k4, k5, k6, k7, k8⟩ := HR8.out.nine; obtain ⟨f0, f1, f2, f3, f4, f5, f6, f7, f8⟩ := HR8.out.frees; obtain ⟨z0, z1, z2, z3, z4, z5, z6, z7, z8⟩ := HZ8.out.nine; obtain ⟨g0, g1, g2, g3, g4, g5, g6, g7, g8⟩ := HZ8.out.frees; clear hb8))
  all_goals
    refine bodyPost_ret (v := .tuple #[.agg (rc true 0 0 0 0 0 w1s lo lo), .int .i64 0]) (by simp [results, Tryz.results21, go_sem, rc, z0, z1, z2, z3, z4, z5, z6, z7, z8, hRn1, hRn2]) rfl ⟨rfl, ?_⟩
    repeat (refine Below.setCell ?_ (by first | exact Nat.le_refl _ | exact Nat.le_of_lt hR1) _)
    exact HB8.out
end Go.Proofs.YteondnhokgmakaaGreatDoor.E


namespace Go.Proofs.YteondnhokgmakaaGreatDoor.E
open Go.RowKit Go.Proofs.YteondnhokgmakaaGreatDoorW.PrintWords Go.Proofs.YteondnhokgmakaaGreatDoorW.PrintLast
set_option linter.unusedVariables false
set_option linter.unusedSimpArgs false
set_option maxRecDepth 100000 in
set_option maxHeartbeats 40000000 in
theorem qq_3 (s w0 w1s w2s lowS highS netS nS : ByteArray) (lo : Int) (bi : Int) (a b c d : Int) (l : List ByteArray) (hs1 : s.size ≤ 285) (hs : s.size < 4294967281)
    (HSP : ∀ W, StdW W → Calls Tryz.prog 45 #[.string s, .string ⟨#[32]⟩] W fun e w' => e = .returned (.slice (some ⟨W.heap.size, 0, none⟩) l.length l.length) ∧ (∀ j, (h : j < l.length) → w'.cell? ⟨W.heap.size, j, none⟩ = some (.string l[j])) ∧ W.heap.size < w'.heap.size ∧ Below W.heap.size W w')
    (h0 : 3 = l.length)
    (hw0 : l[0]? = some w0)
    (hw1 : l[1]? = some w1s)
    (hw2 : l[2]? = some w2s)
    (hal : (w0.toList == [97, 108, 108, 111, 119]) = true)
    (hde : true = false → (w0.toList == [100, 101, 110, 121]) = true)
    (HC2 : ∀ W, StdW W → Calls Tryz.prog 46 #[.string w2s, .string ⟨#[45]⟩] W fun e w' => e = .returned (.tuple #[.string lowS, .string highS, .bool false]) ∧ Below W.heap.size W w')
    (HN1 : ∀ W, StdW W → Calls Tryz.prog 47 #[.string lowS] W fun e w' => e = .returned (.tuple #[.int .i64 lo, .bool true]) ∧ Below W.heap.size W w')
    (HC1 : ∀ W, StdW W → Calls Tryz.prog 46 #[.string w1s, .string ⟨#[47]⟩] W fun e w' => e = .returned (.tuple #[.string netS, .string nS, .bool true]) ∧ Below W.heap.size W w')
    (HN3 : ∀ W, StdW W → Calls Tryz.prog 47 #[.string nS] W fun e w' => e = .returned (.tuple #[.int .i64 bi, .bool true]) ∧ Below W.heap.size W w')
    (HPA : ∀ W, StdW W → Calls Tryz.prog 48 #[.string netS] W fun e w' => e = .returned (.tuple #[.agg #[.int .u8 a, .int .u8 b, .int .u8 c, .int .u8 d], .nilIface]) ∧ Below W.heap.size W w')
    (HRT : ∀ W, StdW W → Calls Tryz.prog 38 #[.agg (rc true a b c d bi ⟨#[]⟩ lo lo)] W fun e w' => e = .returned (.bool false) ∧ Below W.heap.size W w')
    (w : World) (hS : StdW w) :
    Calls Tryz.prog 21 #[.string s] w fun e w' => e = .returned (ppOut (true && (true && (true && false))) true a b c d bi ⟨#[]⟩ lo lo) ∧ Below w.heap.size w w' := by
  have HS := Lib.hid hS
  clear hS
  have hs1' : (s.size : Int) ≤ 285 := by omega
  have hl3 : ((l.length : Int) != 3) = false := by rw [← h0]; rfl
  have hl0 : (0 : Int) < (l.length : Int) := by omega
  have hl1 : (1 : Int) < (l.length : Int) := by omega
  have hl2 : (2 : Int) < (l.length : Int) := by omega
  have XHSP := Lib.hid HSP
  have XHC2 := Lib.hid HC2
  have XHN1 := Lib.hid HN1
  have XHC1 := Lib.hid HC1
  have XHRT := Lib.hid HRT
  have Xhw0 := Lib.hid hw0
  have Xhw1 := Lib.hid hw1
  have Xhw2 := Lib.hid hw2
  have XHN3 := Lib.hid HN3
  have XHPA := Lib.hid HPA
  clear HSP HC2 HN1 HC1 HRT hw0 hw1 hw2 HN3 HPA
  have Xh0 := Lib.hid h0
  clear h0 hs1
  clear hde
  go_enter Tryz.func21, Tryz.ntmps21
  go_wp2_with (first | (go_at_call 45; refine (XHSP.out _ (StdW.below HS.out (below_alloc (Below.refl _ _) _))).mono ?_; rintro e x1 ⟨rfl, hc, hlt1, hb1⟩; have HB1 := Lib.hid (below_then (below_alloc (Below.refl w.heap.size w) _) (below_alloc (Below.refl w.heap.size w) _).size hb1); have hR1 : w.heap.size < x1.heap.size := (by have := hb1.size; simp at this; omega); have hRn1 : ¬ x1.heap.size = w.heap.size := (by omega); have hRn2 : ¬ w.heap.size = x1.heap.size := (by omega); have HZ1 := Lib.hid ((Blk.new w (rc false 0 0 0 0 0 ⟨#[]⟩ 0 0) _).below hb1); have HWD1 : Hid (∀ j, (h : j < l.length) → x1.cell? ⟨w.heap.size + 1, j, none⟩ = some (.string l[j])) := Lib.hid (fun j h => by have := hc j h; rw [World.size_alloc] at this; exact this); have wd0 : x1.cell? ⟨w.heap.size + 1, 0, none⟩ = some (.string w0) := (HWD1.out 0 (by have := Xh0.out; omega)).trans (by rw [(List.getElem?_eq_some_iff.1 Xhw0.out).2]); have wd2 : x1.cell? ⟨w.heap.size + 1, 2, none⟩ = some (.string w2s) := (HWD1.out 2 (by have := Xh0.out; omega)).trans (by rw [(List.getElem?_eq_some_iff.1 Xhw2.out).2]); have hwl : w.heap.size + 1 < x1.heap.size := (by simpa using hlt1); clear hc hlt1 hb1) | (go_at_call_of 46 (Value.string w2s); refine (XHC2.out _ (StdW.below HS.out (below_alloc HB1.out _))).mono ?_; rintro e x2 ⟨rfl, hb2⟩; have HB2 := Lib.hid (below_then (below_alloc HB1.out _) (below_alloc HB1.out _).size hb2); have HZ2 := Lib.hid ((HZ1.out.old _).below hb2); have HR2 : Hid (Blk x2 x1.heap.size (rc true 0 0 0 0 0 ⟨#[]⟩ 0 0) _) := Lib.hid ((Blk.new x1 (rc true 0 0 0 0 0 ⟨#[]⟩ 0 0) _).below hb2); have HWD2 : Hid (∀ j, (h : j < l.length) → x2.cell? ⟨w.heap.size + 1, j, none⟩ = some (.string l[j])) := Lib.hid (fun j h => pw_cell_below hb2 (pw_cell_below (below_alloc (Below.refl _ _) _) (HWD1.out j h))); clear hb2 wd0 wd2) | (go_at_call_of 47 (Value.string lowS); refine (XHN1.out _ (StdW.below HS.out HB2.out)).mono ?_; rintro e x3 ⟨rfl, hb3⟩; have HB3 := Lib.hid (below_then HB2.out HB2.out.size hb3); have HZ3 := Lib.hid (HZ2.out.below hb3); have HR3 := Lib.hid (HR2.out.below hb3); have HWD3 : Hid (∀ j, (h : j < l.length) → x3.cell? ⟨w.heap.size + 1, j, none⟩ = some (.string l[j])) := Lib.hid (fun j h => pw_cell_below hb3 (HWD2.out j h)); have wd1 : x3.cell? ⟨w.heap.size + 1, 1, none⟩ = some (.string w1s) := (HWD3.out 1 (by have := Xh0.out; omega)).trans (by rw [(List.getElem?_eq_some_iff.1 Xhw1.out).2]); obtain ⟨k0, k1, k2, k3, k4, k5, k6, k7, k8⟩ := HR3.out.nine; obtain ⟨f0, f1, f2, f3, f4, f5, f6, f7, f8⟩ := HR3.out.frees; clear hb3) | (go_at_call_of 46 (Value.string w1s); refine (XHC1.out _ (StdW.below HS.out ((HB3.out.setCell (p := ⟨x1.heap.size, 7, none⟩) (Nat.le_of_lt hR1) (.int .i64 lo)).setCell (p := ⟨x1.heap.size, 8, none⟩) (Nat.le_of_lt hR1) (.int .i64 lo)))).mono ?_; rintro e x5 ⟨rfl, hb5⟩; have HB5 := Lib.hid (below_then ((HB3.out.setCell (p := ⟨x1.heap.size, 7, none⟩) (Nat.le_of_lt hR1) (.int .i64 lo)).setCell (p := ⟨x1.heap.size, 8, none⟩) (Nat.le_of_lt hR1) (.int .i64 lo)) ((HB3.out.setCell (p := ⟨x1.heap.size, 7, none⟩) (Nat.le_of_lt hR1) (.int .i64 lo)).setCell (p := ⟨x1.heap.size, 8, none⟩) (Nat.le_of_lt hR1) (.int .i64 lo)).size hb5); have HZ5 := Lib.hid (((HZ3.out.other ⟨x1.heap.size, 7, none⟩ hRn2 (.int .i64 lo)).other ⟨x1.heap.size, 8, none⟩ hRn2 (.int .i64 lo)).below hb5); have HR5 : Hid (Blk x5 x1.heap.size (rc true 0 0 0 0 0 ⟨#[]⟩ lo lo) _) := Lib.hid (((HR3.out.set 7 (.int .i64 lo)).set 8 (.int .i64 lo)).below hb5); have HWD5 : Hid (∀ j, (h : j < l.length) → x5.cell? ⟨w.heap.size + 1, j, none⟩ = some (.string l[j])) := Lib.hid (fun j h => pw_cell_below hb5 (by rw [World.cell?_setCell_other _ _ _ _ (by intro e; injection e with e; omega), World.cell?_setCell_other _ _ _ _ (by intro e; injection e with e; omega)]; exact HWD3.out j h)); clear wd1; have wd1 : x5.cell? ⟨w.heap.size + 1, 1, none⟩ = some (.string w1s) := (HWD5.out 1 (by have := Xh0.out; omega)).trans (by rw [(List.getElem?_eq_some_iff.1 Xhw1.out).2]); clear k0 k1 k2 k3 k4 k5 k6 k7 k8 f0 f1 f2 f3 f4 f5 f6 f7 f8; obtain ⟨k0, k1, k2, k3, k4, k5, k6, k7, k8⟩ := HR5.out.nine; obtain ⟨f0, f1, f2, f3, f4, f5, f6, f7, f8⟩ := HR5.out.frees; clear hb5) | (go_at_call_of 47 (Value.string nS); refine (XHN3.out _ (StdW.below HS.out HB5.out)).mono ?_; rintro e x6 ⟨rfl, hb6⟩; have HB6 := Lib.hid (below_then HB5.out HB5.out.size hb6); have HZ6 := Lib.hid (HZ5.out.below hb6); have HR6 := Lib.hid (HR5.out.below hb6); clear k0 k1 k2 k3 k4 k5 k6 k7 k8 f0 f1 f2 f3 f4 f5 f6 f7 f8; obtain ⟨k0, k1, k2, k3, k4, k5, k6, k7, k8⟩ := HR6.out.nine; obtain ⟨f0, f1, f2, f3, f4, f5, f6, f7, f8⟩ := HR6.out.frees; clear hb6) | (go_at_call 48; refine (XHPA.out _ (StdW.below HS.out (HB6.out.setCell (p := ⟨x1.heap.size, 5, none⟩) (Nat.le_of_lt hR1) (.int .i64 bi)))).mono ?_; rintro e x7 ⟨rfl, hb7⟩; have HB7 := Lib.hid (below_then (HB6.out.setCell (p := ⟨x1.heap.size, 5, none⟩) (Nat.le_of_lt hR1) (.int .i64 bi)) (HB6.out.setCell (p := ⟨x1.heap.size, 5, none⟩) (Nat.le_of_lt hR1) (.int .i64 bi)).size hb7); have HZ7 := Lib.hid ((HZ6.out.other ⟨x1.heap.size, 5, none⟩ hRn2 (.int .i64 bi)).below hb7); have HR7 : Hid (Blk x7 x1.heap.size (rc true 0 0 0 0 bi ⟨#[]⟩ lo lo) _) := Lib.hid ((HR6.out.set 5 (.int .i64 bi)).below hb7); clear k0 k1 k2 k3 k4 k5 k6 k7 k8 f0 f1 f2 f3 f4 f5 f6 f7 f8; obtain ⟨k0, k1, k2, k3, k4, k5, k6, k7, k8⟩ := HR7.out.nine; obtain ⟨f0, f1, f2, f3, f4, f5, f6, f7, f8⟩ := HR7.out.frees; obtain ⟨z0, z1, z2, z3, z4, z5, z6, z7, z8⟩ := HZ7.out.nine; obtain ⟨g0, g1, g2, g3, g4, g5, g6, g7, g8⟩ := HZ7.out.frees; clear hb7) | (go_at_call 38; refine (XHRT.out _ (StdW.below HS.out ((((HB7.out.setCell (p := ⟨x1.heap.size, 1, none⟩) (Nat.le_of_lt hR1) (.int .u8 a)).setCell (p := ⟨x1.heap.size, 2, none⟩) (Nat.le_of_lt hR1) (.int .u8 b)).setCell (p := ⟨x1.heap.size, 3, none⟩) (Nat.le_of_lt hR1) (.int .u8 c)).setCell (p := ⟨x1.heap.size, 4, none⟩) (Nat.le_of_lt hR1) (.int .u8 d)))).mono ?_; rintro e x8 ⟨rfl, hb8⟩; have HB8 := Lib.hid (below_then ((((HB7.out.setCell (p := ⟨x1.heap.size, 1, none⟩) (Nat.le_of_lt hR1) (.int .u8 a)).setCell (p := ⟨x1.heap.size, 2, none⟩) (Nat.le_of_lt hR1) (.int .u8 b)).setCell (p := ⟨x1.heap.size, 3, none⟩) (Nat.le_of_lt hR1) (.int .u8 c)).setCell (p := ⟨x1.heap.size, 4, none⟩) (Nat.le_of_lt hR1) (.int .u8 d)) ((((HB7.out.setCell (p := ⟨x1.heap.size, 1, none⟩) (Nat.le_of_lt hR1) (.int .u8 a)).setCell (p := ⟨x1.heap.size, 2, none⟩) (Nat.le_of_lt hR1) (.int .u8 b)).setCell (p := ⟨x1.heap.size, 3, none⟩) (Nat.le_of_lt hR1) (.int .u8 c)).setCell (p := ⟨x1.heap.size, 4, none⟩) (Nat.le_of_lt hR1) (.int .u8 d)).size hb8); have HZ8 := Lib.hid (((((HZ7.out.other ⟨x1.heap.size, 1, none⟩ hRn2 (.int .u8 a)).other ⟨x1.heap.size, 2, none⟩ hRn2 (.int .u8 b)).other ⟨x1.heap.size, 3, none⟩ hRn2 (.int .u8 c)).other ⟨x1.heap.size, 4, none⟩ hRn2 (.int .u8 d)).below hb8); have HR8 : Hid (Blk x8 x1.heap.size (rc true a b c d bi ⟨#[]⟩ lo lo) _) := Lib.hid (((((HR7.out.set 1 (.int .u8 a)).set 2 (.int .u8 b)).set 3 (.int .u8 c)).set 4 (.int .u8 d)).below hb8); clear k0 k1 k2 k3 k4 k5 k6 k7 k8 f0 f1 f2 f3 f4 f5 f6 f7 f8; clear z0 z1 z2 z3 z4 z5 z6 z7 z8 g0 g1 g2 g3 g4 g5 g6 g7 g8; obtain ⟨k0, k1, k2, k3, k4, k5, k6, k7, k8⟩ := HR8.out.nine; obtain ⟨f0, f1, f2, f3, f4, f5, f6, f7, f8⟩ := HR8.out.frees; obtain ⟨z0, z1, z2, z3, z4, z5, z6, z7, z8⟩ := HZ8.out.nine; obtain ⟨g0, g1, g2, g3, g4, g5, g6, g7, g8⟩ := HZ8.out.frees; clear hb8))
  all_goals
    refine bodyPost_ret (v := zeroRule) (by simp [results, Tryz.results21, go_sem, zeroRule, rc, z0, z1, z2, z3, z4, z5, z6, z7, z8, hRn1, hRn2]) rfl ⟨rfl, ?_⟩
    repeat (refine Below.setCell ?_ (by first | exact Nat.le_refl _ | exact Nat.le_of_lt hR1) _)
    exact HB8.out
end Go.Proofs.YteondnhokgmakaaGreatDoor.E


namespace Go.Proofs.YteondnhokgmakaaGreatDoor.E
open Go.RowKit Go.Proofs.YteondnhokgmakaaGreatDoorW.PrintWords Go.Proofs.YteondnhokgmakaaGreatDoorW.PrintLast Go.Proofs.YteondnhokgmakaaGreatDoor.XC
set_option linter.unusedVariables false
set_option linter.unusedSimpArgs false
def ruleT1 : ByteArray := ⟨#[100, 101, 110, 121, 32, 49, 48, 46, 48, 46, 48, 46, 48, 47, 56, 32, 49, 45, 54, 53, 53, 51, 53]⟩
def ruleT2 : ByteArray := ⟨#[97, 108, 108, 111, 119, 32, 101, 120, 97, 109, 112, 108, 101, 46, 99, 111, 109, 32, 52, 52, 51]⟩
def ruleT3 : ByteArray := ⟨#[97, 108, 108, 111, 119, 32, 49, 48, 46, 48, 46, 48, 46, 49, 47, 56, 32, 56, 48]⟩
def exS : ByteArray := ⟨#[101, 120, 97, 109, 112, 108, 101, 46, 99, 111, 109]⟩
theorem words1 : wordsS ruleT1 = [⟨#[100, 101, 110, 121]⟩, ⟨#[49, 48, 46, 48, 46, 48, 46, 48, 47, 56]⟩, ⟨#[49, 45, 54, 53, 53, 51, 53]⟩] := by kernel_rfl
theorem words2 : wordsS ruleT2 = [⟨#[97, 108, 108, 111, 119]⟩, exS, ⟨#[52, 52, 51]⟩] := by kernel_rfl
theorem words3 : wordsS ruleT3 = [⟨#[97, 108, 108, 111, 119]⟩, ⟨#[49, 48, 46, 48, 46, 48, 46, 49, 47, 56]⟩, ⟨#[56, 48]⟩] := by kernel_rfl
theorem right1 : policy_right.f 1 false 10 0 0 0 8 ⟨#[]⟩ 1 65535 = some true := by kernel_rfl
theorem right3 : policy_right.f 1 true 10 0 0 1 8 ⟨#[]⟩ 80 80 = some false := by kernel_rfl
theorem num1 : pnumber.f ⟨#[49]⟩ = some (1, true) := by kernel_rfl
theorem num2 : pnumber.f ⟨#[54, 53, 53, 51, 53]⟩ = some (65535, true) := by kernel_rfl
theorem num3 : pnumber.f ⟨#[56]⟩ = some (8, true) := by kernel_rfl
theorem num4 : pnumber.f ⟨#[52, 52, 51]⟩ = some (443, true) := by kernel_rfl
theorem num5 : pnumber.f ⟨#[56, 48]⟩ = some (80, true) := by kernel_rfl
theorem cut1 : Cut.f ⟨#[49, 45, 54, 53, 53, 51, 53]⟩ ⟨#[45]⟩ = some (⟨#[49]⟩, ⟨#[54, 53, 53, 51, 53]⟩, true) := by kernel_rfl
theorem cut2 : Cut.f ⟨#[52, 52, 51]⟩ ⟨#[45]⟩ = some (⟨#[52, 52, 51]⟩, ⟨#[]⟩, false) := by kernel_rfl
theorem cut3 : Cut.f ⟨#[56, 48]⟩ ⟨#[45]⟩ = some (⟨#[56, 48]⟩, ⟨#[]⟩, false) := by kernel_rfl
theorem cut4 : Cut.f ⟨#[49, 48, 46, 48, 46, 48, 46, 48, 47, 56]⟩ ⟨#[47]⟩ = some (⟨#[49, 48, 46, 48, 46, 48, 46, 48]⟩, ⟨#[56]⟩, true) := by kernel_rfl
theorem cut5 : Cut.f exS ⟨#[47]⟩ = some (exS, ⟨#[]⟩, false) := by kernel_rfl
theorem cut6 : Cut.f ⟨#[49, 48, 46, 48, 46, 48, 46, 49, 47, 56]⟩ ⟨#[47]⟩ = some (⟨#[49, 48, 46, 48, 46, 48, 46, 49]⟩, ⟨#[56]⟩, true) := by kernel_rfl
theorem addr1 : paRes ⟨#[49, 48, 46, 48, 46, 48, 46, 48]⟩ = .inr [10, 0, 0, 0] := by kernel_rfl
theorem addr3 : paRes ⟨#[49, 48, 46, 48, 46, 48, 46, 49]⟩ = .inr [10, 0, 0, 1] := by kernel_rfl
theorem right2 : policy_right.f 1 true 0 0 0 0 0 exS 443 443 = some true := by kernel_rfl
theorem cut_of {s sep a b : ByteArray} {f : Bool} (h : Cut.f s sep = some (a, b, f)) : ∀ W, StdW W → Calls Tryz.prog 46 #[.string s, .string sep] W fun e w' => e = .returned (.tuple #[.string a, .string b, .bool f]) ∧ Below W.heap.size W w' := fun W hS => Cut.calls s sep a b f W hS h
theorem num_of {s : ByteArray} {v : Int} {f : Bool} (h : pnumber.f s = some (v, f)) : ∀ W, StdW W → Calls Tryz.prog 47 #[.string s] W fun e w' => e = .returned (.tuple #[.int .i64 v, .bool f]) ∧ Below W.heap.size W w' := fun W hS => pnumber.calls s v f W hS h
theorem addr_of {s : ByteArray} {a b c d : Int} (hs : s.size ≤ 281474976710656) (h : paRes s = .inr [a, b, c, d]) : ∀ W, StdW W → Calls Tryz.prog 48 #[.string s] W fun e w' => e = .returned (.tuple #[.agg #[.int .u8 a, .int .u8 b, .int .u8 c, .int .u8 d], .nilIface]) ∧ Below W.heap.size W w' := fun W hS => (parseAddr_any s hs W hS).mono fun e w' hp => by
  unfold PAPost at hp
  rw [h] at hp
  exact ⟨hp.2.2, hp.1⟩
theorem right_of {al : Bool} {a b c d bi : Int} {su : ByteArray} {lo hi : Int} {r : Bool} (h : policy_right.f 1 al a b c d bi su lo hi = some r) : ∀ W, StdW W → Calls Tryz.prog 38 #[.agg (rc al a b c d bi su lo hi)] W fun e w' => e = .returned (.bool r) ∧ Below W.heap.size W w' := fun W hS => policy_right.calls 1 al a b c d bi su lo hi r W hS h
theorem parse1 (w : World) (hS : StdW w) : Calls Tryz.prog 21 #[.string ruleT1] w fun e w' => e = .returned (.tuple #[.agg (rc false 10 0 0 0 8 ⟨#[]⟩ 1 65535), .int .i64 0]) ∧ Below w.heap.size w w' := by
  have HSP := split_blanks ruleT1 (by decide)
  rw [words1] at HSP
  exact qq_1 ruleT1 ⟨#[100, 101, 110, 121]⟩ ⟨#[49, 48, 46, 48, 46, 48, 46, 48, 47, 56]⟩ ⟨#[49, 45, 54, 53, 53, 51, 53]⟩ ⟨#[49]⟩ ⟨#[54, 53, 53, 51, 53]⟩ ⟨#[49, 48, 46, 48, 46, 48, 46, 48]⟩ ⟨#[56]⟩ 1 65535 8 10 0 0 0 _ (by decide) (by decide) HSP rfl rfl rfl rfl (by kernel_rfl) (fun _ => by kernel_rfl) (cut_of cut1) (num_of num1) (cut_of cut4) (num_of num2) rfl (num_of num3) (addr_of (by decide) addr1) (right_of right1) w hS
theorem parse2 (w : World) (hS : StdW w) : Calls Tryz.prog 21 #[.string ruleT2] w fun e w' => e = .returned (.tuple #[.agg (rc true 0 0 0 0 0 exS 443 443), .int .i64 0]) ∧ Below w.heap.size w w' := by
  have HSP := split_blanks ruleT2 (by decide)
  rw [words2] at HSP
  exact qq_2 ruleT2 ⟨#[97, 108, 108, 111, 119]⟩ exS ⟨#[52, 52, 51]⟩ ⟨#[52, 52, 51]⟩ ⟨#[]⟩ exS ⟨#[]⟩ 443 _ (by decide) (by decide) HSP rfl rfl rfl rfl (by kernel_rfl) (fun h => by cases h) (cut_of cut2) (num_of num4) (cut_of cut5) (by kernel_rfl) (right_of right2) w hS
theorem parse3 (w : World) (hS : StdW w) : Calls Tryz.prog 21 #[.string ruleT3] w fun e w' => e = .returned zeroRule ∧ Below w.heap.size w w' := by
  have HSP := split_blanks ruleT3 (by decide)
  rw [words3] at HSP
  exact qq_3 ruleT3 ⟨#[97, 108, 108, 111, 119]⟩ ⟨#[49, 48, 46, 48, 46, 48, 46, 49, 47, 56]⟩ ⟨#[56, 48]⟩ ⟨#[56, 48]⟩ ⟨#[]⟩ ⟨#[49, 48, 46, 48, 46, 48, 46, 49]⟩ ⟨#[56]⟩ 80 8 10 0 0 1 _ (by decide) (by decide) HSP rfl rfl rfl rfl (by kernel_rfl) (fun h => by cases h) (cut_of cut3) (num_of num5) (cut_of cut6) (num_of num3) (addr_of (by decide) addr3) (right_of right3) w hS
end Go.Proofs.YteondnhokgmakaaGreatDoor.E


namespace Go.Proofs.YteondnhokgmakaaGreatDoor.E
open Go.RowKit Go.Proofs.YteondnhokgmakaaGreatDoorW.PrintWords Go.Proofs.YteondnhokgmakaaGreatDoorW.PrintLast Go.Proofs.YteondnhokgmakaaGreatDoor.XC
set_option linter.unusedVariables false
set_option linter.unusedSimpArgs false
def sized (l : List S37) : Bool := l.all fun r => decide (r.f3.size ≤ 281474976710656)
theorem sized_mem {l : List S37} (h : sized l = true) : ∀ r ∈ l, r.f3.size ≤ 281474976710656 := fun r hr => of_decide_eq_true (List.all_eq_true.1 h r hr)
def Which.f (l : List S37) (a b c d : Int) (n : ByteArray) (po : Int) : Option Int :=
  if ((0 ≤ a ∧ a ≤ 255) ∧ (0 ≤ b ∧ b ≤ 255) ∧ (0 ≤ c ∧ c ≤ 255) ∧ (0 ≤ d ∧ d ≤ 255) ∧ n.size ≤ 281474976710656) ∧ sized l = true then some (whichB l a b c d n po) else none
theorem Which.calls (A0 : Option Addr) (c0 : Nat) (l0 : List S37) (a b c d : Int) (n : ByteArray) (po : Int) (r : Int) (w : World) (hr0 : Kd.C k37 w A0 l0.length l0) (hc0 : l0.length ≤ c0) (hS_ : StdW w) (h : Which.f l0 a b c d n po = some r) :
    Calls Tryz.prog 13 #[.slice A0 l0.length c0, .agg #[.int .u8 a, .int .u8 b, .int .u8 c, .int .u8 d, .string n, .int .i64 po]] w fun e w' => e = .returned (.int .i64 r) ∧ Below w.heap.size w w' := by
  unfold Which.f at h
  split at h
  · rename_i hc
    obtain rfl := Option.some.inj h
    have hz := sized_mem hc.2
    have HCK : ∀ W, Below w.heap.size w W → Calls Tryz.prog 11 #[.slice A0 l0.length c0] W fun e w' => e = .returned (.int .i64 (checkL l0)) ∧ Below W.heap.size W w' := fun W hb => policy_Check.calls 67 A0 c0 l0 _ W (Kd.C_below hr0 hb) hc0 (StdW.below hS_ hb) (checkL_some l0 hz)
    have HPD : ∀ W, StdW W → Calls Tryz.prog 34 #[.agg (dc a b c d n po)] W fun e w' => e = .returned (.string (printDestB a b c d n po)) ∧ Below W.heap.size W w' := fun W hW => hPrintDest.calls a b c d n po _ W hW (by unfold hPrintDest.f; rw [if_pos hc.1])
    unfold whichB
    by_cases h1 : checkL l0 = 0
    · rw [if_pos h1]
      cases h2 : (printDestB a b c d n po).toList.isEmpty
      · have hl : l0.length ≤ 64 := by
          unfold checkL at h1
          by_cases hh : 64 < l0.length
          · rw [if_pos hh] at h1; cases h1
          · omega
        rw [if_neg (by simp)]
        exact which_go A0 c0 l0 a b c d n po hl hc.1.2.2.2.2 h1 h2 w hS_ hr0 HCK HPD
      · rw [if_pos rfl]
        exact which_no A0 c0 l0 a b c d n po (.inr h2) w hS_ HCK HPD
    · rw [if_neg h1]
      exact which_no A0 c0 l0 a b c d n po (.inl h1) w hS_ HCK HPD
  · cases h
end Go.Proofs.YteondnhokgmakaaGreatDoor.E


namespace Go.Proofs.YteondnhokgmakaaGreatDoor.XM
open Go.Proofs.YteondnhokgmakaaGreatDoor.XC
open Go.RowKit Go.Proofs.YteondnhokgmakaaGreatDoorW.PrintWords Go.Proofs.YteondnhokgmakaaGreatDoorW.PrintLast Go.Proofs.YteondnhokgmakaaGreatDoorW.PrintMore
attribute [local go_sem] max2_int min2_int max_two min_two max_three min_three max_four min_four
set_option linter.unusedVariables false
set_option linter.unusedSimpArgs false
end Go.Proofs.YteondnhokgmakaaGreatDoor.XM


namespace Go.Proofs.YteondnhokgmakaaGreatDoor.XM
open Go.Proofs.YteondnhokgmakaaGreatDoor.XC
open Go.RowKit Go.Proofs.YteondnhokgmakaaGreatDoorW.PrintWords Go.Proofs.YteondnhokgmakaaGreatDoorW.PrintLast Go.Proofs.YteondnhokgmakaaGreatDoorW.PrintMore
attribute [local go_sem] max2_int min2_int max_two min_two max_three min_three max_four min_four
set_option linter.unusedVariables false
set_option linter.unusedSimpArgs false
def policy_May.f (l0 : List (S37)) (a1_0 : Int) (a1_1 : Int) (a1_2 : Int) (a1_3 : Int) (a1_4 : ByteArray) (a1_5 : Int) : Option (Bool) := (E.Which.f l0 a1_0 a1_1 a1_2 a1_3 a1_4 a1_5).bind fun t102 => (if t102 ≥ 0 then (if 0 ≤ t102 then (if t102 < (l0.length : Int) then (some ((rd_T37 l0 t102).f0)) else (none)) else (none)) else (some false))
set_option maxHeartbeats 8000000 in
set_option maxRecDepth 100000 in
theorem policy_May.calls (A0 : Option Addr) (c0 : Nat) (l0 : List (S37)) (a1_0 : Int) (a1_1 : Int) (a1_2 : Int) (a1_3 : Int) (a1_4 : ByteArray) (a1_5 : Int) (r : Bool) (w : World) (hr0 : Kd.C k37 w A0 l0.length l0) (hc0 : l0.length ≤ c0) (hS_ : StdW w) (h : policy_May.f l0 a1_0 a1_1 a1_2 a1_3 a1_4 a1_5 = some r) :
    Calls Tryz.prog 15 #[.slice A0 l0.length c0, .agg #[.int .u8 a1_0, .int .u8 a1_1, .int .u8 a1_2, .int .u8 a1_3, .string a1_4, .int .i64 a1_5]] w fun e w' => e = .returned (.bool r) ∧ Below w.heap.size w w' := by
  have hu28 := Tryz.underlying28
  have HR0 := Aside0.mk hr0
  have HC0 := Aside0.mk hc0
  clear hr0 hc0
  have HS_ := Aside0.mk hS_
  clear hS_
  have HB := Aside0.mk (Below.refl w.heap.size w)
  have H : ((E.Which.f l0 a1_0 a1_1 a1_2 a1_3 a1_4 a1_5).bind fun t102 => (if t102 ≥ 0 then (if 0 ≤ t102 then (if t102 < (l0.length : Int) then (some ((rd_T37 l0 t102).f0)) else (none)) else (none)) else (some false))) = some r := h
  clear h
  replace H := Option.bind_eq_some_iff.mp H
  obtain ⟨t102, A30, H⟩ := H
  replace H : (if t102 ≥ 0 then (if 0 ≤ t102 then (if t102 < (l0.length : Int) then (some ((rd_T37 l0 t102).f0)) else (none)) else (none)) else (some false)) = some r := H
  have A3 := Aside0.mk A30
  clear A30
  by_cases c4 : t102 ≥ 0
  · rw [if_pos c4] at H
    have c4b0 : decide (0 ≤ t102) = true := decide_eq_true c4
    clear c4
    by_cases c5 : 0 ≤ t102
    · rw [if_pos c5] at H
      have c5b0 : decide (0 ≤ t102) = true := decide_eq_true c5
      clear c5
      by_cases c6 : t102 < (l0.length : Int)
      · rw [if_pos c6] at H
        have c6b0 : decide (t102 < (l0.length : Int)) = true := decide_eq_true c6
        clear c6
        obtain rfl := Option.some.inj H
        go_enter Tryz.func15, Tryz.ntmps15
        go_wp2_with (first | ((with_reducible refine gate_dst (N := 3) rfl ?_); refine box_event ?hg (N := 3) ?hd (cs := #[.int .u8 a1_0, .int .u8 a1_1, .int .u8 a1_2, .int .u8 a1_3, .string a1_4, .int .i64 a1_5]) (t := 28) ?hr ?_; (case hd => rfl); (case hg => rfl); (case hr => first | (go_simp; done) | (go_simp; rfl)); intro gb101 hg w7 hbox hb; have n0_ := Aside0.mk (below_step (by repeat (first | (with_reducible first | exact HB.out | apply below_alloc | apply pw_below_drewN | apply below_drew1) | exact HB.out)) hb); have n1_ := Aside0.mk (hbox); have n2_ := Aside0.mk ((by rw [hg]; exact (below_size (by repeat (first | (with_reducible first | exact HB.out | apply below_alloc | apply pw_below_drewN | apply below_drew1) | exact HB.out))) : w.heap.size ≤ gb101)); have n3_ := Aside0.mk ((by rw [hg]; exact (below_size (by repeat (first | (with_reducible first | exact HB.out | apply below_alloc | apply pw_below_drewN | apply below_drew1) | exact HB.out))) : w.heap.size ≤ gb101)); clear HB; have HB := n0_; have BK101 := n1_; have GW101 := n2_; have GE101 := n3_; clear n0_ n1_ n2_ n3_; clear hb hbox hg; have hcz8_0 : w7.cell? ⟨gb101, 0, none⟩ = some (.int .u8 a1_0) := (blk_cell BK101.out 0).trans rfl; have hcz8_1 : w7.cell? ⟨gb101, 1, none⟩ = some (.int .u8 a1_1) := (blk_cell BK101.out 1).trans rfl; have hcz8_2 : w7.cell? ⟨gb101, 2, none⟩ = some (.int .u8 a1_2) := (blk_cell BK101.out 2).trans rfl; have hcz8_3 : w7.cell? ⟨gb101, 3, none⟩ = some (.int .u8 a1_3) := (blk_cell BK101.out 3).trans rfl; have hcz8_4 : w7.cell? ⟨gb101, 4, none⟩ = some (.string a1_4) := (blk_cell BK101.out 4).trans rfl; have hcz8_5 : w7.cell? ⟨gb101, 5, none⟩ = some (.int .i64 a1_5) := (blk_cell BK101.out 5).trans rfl; have hfz8_0 := blk_frozen BK101.out 0; have hfz8_1 := blk_frozen BK101.out 1; have hfz8_2 := blk_frozen BK101.out 2; have hfz8_3 := blk_frozen BK101.out 3; have hfz8_4 := blk_frozen BK101.out 4; have hfz8_5 := blk_frozen BK101.out 5) | ((with_reducible refine gate_callee (f := 13) rfl ?_); refine goesL_ (some 8) rfl rfl Tryz.func13 (by kernel_rfl) rfl #[.slice A0 l0.length c0, .agg #[.int .u8 a1_0, .int .u8 a1_1, .int .u8 a1_2, .int .u8 a1_3, .string a1_4, .int .i64 a1_5]] rfl (by (try simp only [List.map_toArray, List.map_cons, List.map_nil]); first | done | rfl | (simp only [List.length_drop, List.length_take]; rfl)) ?_; (with_reducible refine (E.Which.calls _ _ l0 a1_0 a1_1 a1_2 a1_3 a1_4 a1_5 t102 _ ?side1 ?side2 ?side3 A3.out).mono ?_); (case side1 => repeat (first | exact (Kd.C_below HR0.out HB.out) | (with_reducible refine Kd.C_alloc ?_ _) | (with_reducible refine Kd.C_drewN ?_ _) | (with_reducible refine Kd.C_drew ?_))); (case side2 => exact HC0.out); (case side3 => exact StdW.below HS_.out (by repeat (first | (with_reducible first | exact HB.out | apply below_alloc | apply pw_below_drewN | apply below_drew1 | refine below_set ?_ GE101.out) | exact HB.out))); rintro e w9 ⟨rfl, hb⟩; refine ⟨_, rfl, ?_⟩; have n0_ := Aside0.mk (blk_below (g := gb101) (o := .cells #[.int .u8 a1_0, .int .u8 a1_1, .int .u8 a1_2, .int .u8 a1_3, .string a1_4, .int .i64 a1_5] 28 (0, 0)) (by (with_reducible repeat (first | refine blk_drewN ?_ _ | refine blk_drew ?_ | refine blk_alloc ?_ _)); exact BK101.out) hb); have n1_ := Aside0.mk (below_step (by repeat (first | (with_reducible first | exact HB.out | apply below_alloc | apply pw_below_drewN | apply below_drew1 | refine below_set ?_ GE101.out) | exact HB.out)) hb); clear BK101; clear HB; have BK101 := n0_; have HB := n1_; clear n0_ n1_; (try clear hb); (try clear hb2); (try clear hk); (try clear hi); have p103 : 0 ≤ (t102 : Int) := of_decide_eq_true (by first | (with_reducible assumption) | assumption); have q103 : t102 < (l0.length : Int) := of_decide_eq_true (by first | (with_reducible assumption) | assumption); obtain ⟨ad103, e103, hx103_0, hx103_1, hx103_2, hx103_3, hx103_4, hx103_5, hx103_6, hx103_7, hx103_8⟩ := at_T37 HR0.out t102 p103 q103; cases e103; replace hx103_0 := (HB.out.cell (World.block_lt_of_cell? w _ hx103_0)).trans hx103_0; replace hx103_1 := (HB.out.cell (World.block_lt_of_cell? w _ hx103_1)).trans hx103_1; replace hx103_2 := (HB.out.cell (World.block_lt_of_cell? w _ hx103_2)).trans hx103_2; replace hx103_3 := (HB.out.cell (World.block_lt_of_cell? w _ hx103_3)).trans hx103_3; replace hx103_4 := (HB.out.cell (World.block_lt_of_cell? w _ hx103_4)).trans hx103_4; replace hx103_5 := (HB.out.cell (World.block_lt_of_cell? w _ hx103_5)).trans hx103_5; replace hx103_6 := (HB.out.cell (World.block_lt_of_cell? w _ hx103_6)).trans hx103_6; replace hx103_7 := (HB.out.cell (World.block_lt_of_cell? w _ hx103_7)).trans hx103_7; replace hx103_8 := (HB.out.cell (World.block_lt_of_cell? w _ hx103_8)).trans hx103_8; replace p103 := eq_true p103; replace q103 := eq_true q103))
        go_ret
        exact ⟨by first | rfl | (simp [errW_none, errW_some] <;> rfl) | (simp [*, errW_none, errW_some] <;> rfl), by repeat (first | (with_reducible first | exact HB.out | apply below_alloc | apply pw_below_drewN | apply below_drew1 | refine below_set ?_ GE101.out) | exact HB.out)⟩
      · rw [if_neg c6] at H
        exact absurd H (by simp)
    · rw [if_neg c5] at H
      exact absurd H (by simp)
  · rw [if_neg c4] at H
    have c4b0 : decide (0 ≤ t102) = false := decide_eq_false c4
    clear c4
    obtain rfl := Option.some.inj H
    go_enter Tryz.func15, Tryz.ntmps15
    go_wp2_with (first | ((with_reducible refine gate_dst (N := 3) rfl ?_); refine box_event ?hg (N := 3) ?hd (cs := #[.int .u8 a1_0, .int .u8 a1_1, .int .u8 a1_2, .int .u8 a1_3, .string a1_4, .int .i64 a1_5]) (t := 28) ?hr ?_; (case hd => rfl); (case hg => rfl); (case hr => first | (go_simp; done) | (go_simp; rfl)); intro gb101 hg w10 hbox hb; have n0_ := Aside0.mk (below_step (by repeat (first | (with_reducible first | exact HB.out | apply below_alloc | apply pw_below_drewN | apply below_drew1) | exact HB.out)) hb); have n1_ := Aside0.mk (hbox); have n2_ := Aside0.mk ((by rw [hg]; exact (below_size (by repeat (first | (with_reducible first | exact HB.out | apply below_alloc | apply pw_below_drewN | apply below_drew1) | exact HB.out))) : w.heap.size ≤ gb101)); have n3_ := Aside0.mk ((by rw [hg]; exact (below_size (by repeat (first | (with_reducible first | exact HB.out | apply below_alloc | apply pw_below_drewN | apply below_drew1) | exact HB.out))) : w.heap.size ≤ gb101)); clear HB; have HB := n0_; have BK101 := n1_; have GW101 := n2_; have GE101 := n3_; clear n0_ n1_ n2_ n3_; clear hb hbox hg; have hcz11_0 : w10.cell? ⟨gb101, 0, none⟩ = some (.int .u8 a1_0) := (blk_cell BK101.out 0).trans rfl; have hcz11_1 : w10.cell? ⟨gb101, 1, none⟩ = some (.int .u8 a1_1) := (blk_cell BK101.out 1).trans rfl; have hcz11_2 : w10.cell? ⟨gb101, 2, none⟩ = some (.int .u8 a1_2) := (blk_cell BK101.out 2).trans rfl; have hcz11_3 : w10.cell? ⟨gb101, 3, none⟩ = some (.int .u8 a1_3) := (blk_cell BK101.out 3).trans rfl; have hcz11_4 : w10.cell? ⟨gb101, 4, none⟩ = some (.string a1_4) := (blk_cell BK101.out 4).trans rfl; have hcz11_5 : w10.cell? ⟨gb101, 5, none⟩ = some (.int .i64 a1_5) := (blk_cell BK101.out 5).trans rfl; have hfz11_0 := blk_frozen BK101.out 0; have hfz11_1 := blk_frozen BK101.out 1; have hfz11_2 := blk_frozen BK101.out 2; have hfz11_3 := blk_frozen BK101.out 3; have hfz11_4 := blk_frozen BK101.out 4; have hfz11_5 := blk_frozen BK101.out 5) | ((with_reducible refine gate_callee (f := 13) rfl ?_); refine goesL_ (some 8) rfl rfl Tryz.func13 (by kernel_rfl) rfl #[.slice A0 l0.length c0, .agg #[.int .u8 a1_0, .int .u8 a1_1, .int .u8 a1_2, .int .u8 a1_3, .string a1_4, .int .i64 a1_5]] rfl (by (try simp only [List.map_toArray, List.map_cons, List.map_nil]); first | done | rfl | (simp only [List.length_drop, List.length_take]; rfl)) ?_; (with_reducible refine (E.Which.calls _ _ l0 a1_0 a1_1 a1_2 a1_3 a1_4 a1_5 t102 _ ?side1 ?side2 ?side3 A3.out).mono ?_); (case side1 => repeat (first | exact (Kd.C_below HR0.out HB.out) | (with_reducible refine Kd.C_alloc ?_ _) | (with_reducible refine Kd.C_drewN ?_ _) | (with_reducible refine Kd.C_drew ?_))); (case side2 => exact HC0.out); (case side3 => exact StdW.below HS_.out (by repeat (first | (with_reducible first | exact HB.out | apply below_alloc | apply pw_below_drewN | apply below_drew1 | refine below_set ?_ GE101.out) | exact HB.out))); rintro e w12 ⟨rfl, hb⟩; refine ⟨_, rfl, ?_⟩; have n0_ := Aside0.mk (blk_below (g := gb101) (o := .cells #[.int .u8 a1_0, .int .u8 a1_1, .int .u8 a1_2, .int .u8 a1_3, .string a1_4, .int .i64 a1_5] 28 (0, 0)) (by (with_reducible repeat (first | refine blk_drewN ?_ _ | refine blk_drew ?_ | refine blk_alloc ?_ _)); exact BK101.out) hb); have n1_ := Aside0.mk (below_step (by repeat (first | (with_reducible first | exact HB.out | apply below_alloc | apply pw_below_drewN | apply below_drew1 | refine below_set ?_ GE101.out) | exact HB.out)) hb); clear BK101; clear HB; have BK101 := n0_; have HB := n1_; clear n0_ n1_; (try clear hb); (try clear hb2); (try clear hk); (try clear hi)))
    go_ret
    exact ⟨by first | rfl | (simp [errW_none, errW_some] <;> rfl) | (simp [*, errW_none, errW_some] <;> rfl), by repeat (first | (with_reducible first | exact HB.out | apply below_alloc | apply pw_below_drewN | apply below_drew1 | refine below_set ?_ GE101.out) | exact HB.out)⟩
end Go.Proofs.YteondnhokgmakaaGreatDoor.XM


namespace Go.Proofs.YteondnhokgmakaaGreatDoor.XM
open Go.Proofs.YteondnhokgmakaaGreatDoor.XC
open Go.RowKit Go.Proofs.YteondnhokgmakaaGreatDoorW.PrintWords Go.Proofs.YteondnhokgmakaaGreatDoorW.PrintLast Go.Proofs.YteondnhokgmakaaGreatDoorW.PrintMore
attribute [local go_sem] max2_int min2_int max_two min_two max_three min_three max_four min_four
set_option linter.unusedVariables false
set_option linter.unusedSimpArgs false
end Go.Proofs.YteondnhokgmakaaGreatDoor.XM


namespace Go.Proofs.YteondnhokgmakaaGreatDoor.E
open Go.RowKit Go.Proofs.YteondnhokgmakaaGreatDoorW.PrintWords Go.Proofs.YteondnhokgmakaaGreatDoorW.PrintLast Go.Proofs.YteondnhokgmakaaGreatDoor.XC Go.Proofs.YteondnhokgmakaaGreatDoor.XM
set_option linter.unusedVariables false
set_option linter.unusedSimpArgs false
def aexS : ByteArray := ⟨#[97, 46, 101, 120, 97, 109, 112, 108, 101, 46, 99, 111, 109]⟩
def exRules : List S37 := [⟨false, ⟨10, 0, 0, 0⟩, 8, ⟨#[]⟩, 1, 65535⟩, ⟨true, ⟨0, 0, 0, 0⟩, 0, exS, 443, 443⟩]
theorem may1 : policy_May.f exRules 0 0 0 0 aexS 443 = some true := by kernel_rfl
theorem may2 : policy_May.f exRules 0 0 0 0 exS 80 = some false := by kernel_rfl
theorem may3 : policy_May.f exRules 10 0 0 0 ⟨#[]⟩ 443 = some false := by kernel_rfl
def exCells : Array Value := #[.bool false, .int .u8 10, .int .u8 0, .int .u8 0, .int .u8 0, .int .i64 8, .string ⟨#[]⟩, .int .i64 1, .int .i64 65535, .bool true, .int .u8 0, .int .u8 0, .int .u8 0, .int .u8 0, .int .i64 0, .string exS, .int .i64 443, .int .i64 443]
theorem exRules_lie {w : World} {R : Nat} {T : TypeId} (h : Blk w R exCells T) : Kd.C k37 w (some ⟨R, 0, none⟩) exRules.length exRules := by
  refine ⟨rfl, by decide, fun _ => ⟨_, rfl, fun j p hj => ?_⟩⟩
  match j, hj with
  | 0, hj =>
    obtain rfl := Option.some.inj hj
    refine ⟨_, rfl, k37_mk w _, fun i u hu => ?_⟩
    match i, hu with
    | 0, hu => exact h.cell 0 _ hu
    | 1, hu => exact h.cell 1 _ hu
    | 2, hu => exact h.cell 2 _ hu
    | 3, hu => exact h.cell 3 _ hu
    | 4, hu => exact h.cell 4 _ hu
    | 5, hu => exact h.cell 5 _ hu
    | 6, hu => exact h.cell 6 _ hu
    | 7, hu => exact h.cell 7 _ hu
    | 8, hu => exact h.cell 8 _ hu
  | 1, hj =>
    obtain rfl := Option.some.inj hj
    refine ⟨_, rfl, k37_mk w _, fun i u hu => ?_⟩
    match i, hu with
    | 0, hu => exact h.cell 9 _ hu
    | 1, hu => exact h.cell 10 _ hu
    | 2, hu => exact h.cell 11 _ hu
    | 3, hu => exact h.cell 12 _ hu
    | 4, hu => exact h.cell 13 _ hu
    | 5, hu => exact h.cell 14 _ hu
    | 6, hu => exact h.cell 15 _ hu
    | 7, hu => exact h.cell 16 _ hu
    | 8, hu => exact h.cell 17 _ hu
theorem named_any (s : ByteArray) (po : Int) (w : World) : Calls Tryz.prog 41 #[.string s, .int .i64 po] w fun e w' => e = .returned (.agg #[.int .u8 0, .int .u8 0, .int .u8 0, .int .u8 0, .string s, .int .i64 po]) ∧ Below w.heap.size w w' := by
  go_enter Tryz.func41, Tryz.ntmps41
  go_wp2
  refine bodyPost_ret (v := .agg #[.int .u8 0, .int .u8 0, .int .u8 0, .int .u8 0, .string s, .int .i64 po]) (by simp [results, Tryz.results41, go_sem]) rfl ⟨rfl, ?_⟩
  trace_state
  exact below_alloc (Below.refl _ _) _
end Go.Proofs.YteondnhokgmakaaGreatDoor.E


namespace Go.Proofs.YteondnhokgmakaaGreatDoor.E
open Go.RowKit Go.Proofs.YteondnhokgmakaaGreatDoorW.PrintWords Go.Proofs.YteondnhokgmakaaGreatDoorW.PrintLast Go.Proofs.YteondnhokgmakaaGreatDoor.XC Go.Proofs.YteondnhokgmakaaGreatDoor.XM
set_option linter.unusedVariables false
set_option linter.unusedSimpArgs false
set_option maxRecDepth 100000 in
set_option maxHeartbeats 8000000 in
theorem works_any (w : World) (hS : StdW w) : Calls Tryz.prog 18 #[] w fun e w' => e = .returned (.bool true) ∧ Below w.heap.size w w' := by
  have HS := Lib.hid hS
  clear hS
  have X1 := Lib.hid parse1
  have X2 := Lib.hid parse2
  have X3 := Lib.hid parse3
  have M1 := Lib.hid (fun W A0 h hS => policy_May.calls A0 2 exRules 0 0 0 0 aexS 443 true W h (Nat.le_refl _) hS may1)
  have M2 := Lib.hid (fun W A0 h hS => policy_May.calls A0 2 exRules 0 0 0 0 exS 80 false W h (Nat.le_refl _) hS may2)
  have M3 := Lib.hid (fun W A0 h hS => policy_May.calls A0 2 exRules 10 0 0 0 ⟨#[]⟩ 443 false W h (Nat.le_refl _) hS may3)
  unfold ruleT1 rc at X1
  unfold ruleT2 rc exS at X2
  unfold ruleT3 zeroRule rc at X3
  unfold aexS at M1
  unfold exS at M2
  have HL : exRules.length = 2 := rfl
  go_enter Tryz.func18, Tryz.ntmps18
  go_wp2_with (first | (go_at_call_of 21 (Value.string ⟨#[100, 101, 110, 121, 32, 49, 48, 46, 48, 46, 48, 46, 48, 47, 56, 32, 49, 45, 54, 53, 53, 51, 53]⟩); refine (X1.out _ HS.out).mono ?_; rintro e x1 ⟨rfl, hb1⟩; have HB1 := Lib.hid hb1; clear hb1) | (go_at_call_of 21 (Value.string ⟨#[97, 108, 108, 111, 119, 32, 101, 120, 97, 109, 112, 108, 101, 46, 99, 111, 109, 32, 52, 52, 51]⟩); refine (X2.out _ (StdW.below HS.out (below_alloc HB1.out _))).mono ?_; rintro e x2 ⟨rfl, hb2⟩; have HB2 := Lib.hid (below_then (below_alloc HB1.out _) (below_alloc HB1.out _).size hb2); have HR1 := Lib.hid ((Blk.new x1 (rc false 10 0 0 0 8 ⟨#[]⟩ 1 65535) 37).below hb2); clear hb2) | (go_at_call_of 21 (Value.string ⟨#[97, 108, 108, 111, 119, 32, 49, 48, 46, 48, 46, 48, 46, 49, 47, 56, 32, 56, 48]⟩); refine (X3.out _ (StdW.below HS.out (below_alloc HB2.out _))).mono ?_; rintro e x3 ⟨rfl, hb3⟩; have HB3 := Lib.hid (below_then (below_alloc HB2.out _) (below_alloc HB2.out _).size hb3); have HR2 : Hid (Blk x3 x2.heap.size (rc true 0 0 0 0 0 exS 443 443) 37) := Lib.hid ((Blk.new x2 (rc true 0 0 0 0 0 exS 443 443) 37).below hb3); have HR3 := Lib.hid ((HR1.out.old _).below hb3); have l1 := HR3.out.lt; have l2 := HR2.out.lt; obtain ⟨c0, c1, c2, c3, c4, c5, c6, c7, c8⟩ := HR3.out.nine; obtain ⟨d0, d1, d2, d3, d4, d5, d6, d7, d8⟩ := HR2.out.nine; clear hb3) | (go_at_call_of 41 (Value.string ⟨#[97, 46, 101, 120, 97, 109, 112, 108, 101, 46, 99, 111, 109]⟩); refine (named_any _ _ _).mono ?_; rintro e x4 ⟨rfl, hb4⟩; have HB4 := Lib.hid (below_then (below_alloc (below_alloc HB3.out _) _) (below_alloc (below_alloc HB3.out _) _).size hb4); have HC4 : Hid (Blk x4 (x3.heap.size + 1) exCells 37) := Lib.hid (by have hh := ((Blk.new (x3.alloc (.cells #[Value.bool false, Value.int .u8 0, Value.int .u8 0, Value.int .u8 0, Value.int .u8 0, Value.int .i64 0, Value.string ⟨#[]⟩, Value.int .i64 0, Value.int .i64 0] 37)) exCells 37).below hb4); rw [World.size_alloc] at hh; exact hh); clear hb4) | (go_at_call_of 15 (Value.string ⟨#[97, 46, 101, 120, 97, 109, 112, 108, 101, 46, 99, 111, 109]⟩); refine (M1.out x4 (some ⟨x3.heap.size + 1, 0, none⟩) (exRules_lie HC4.out) (StdW.below HS.out HB4.out)).mono ?_; rintro e x5 ⟨rfl, hb5⟩; have HB5 := Lib.hid (below_then HB4.out HB4.out.size hb5); have HC5 : Hid (Blk x5 (x3.heap.size + 1) exCells 37) := Lib.hid (HC4.out.below hb5); clear hb5) | (go_at_call_of 41 (Value.int .i64 80); refine (named_any _ _ _).mono ?_; rintro e x6 ⟨rfl, hb6⟩; have HB6 := Lib.hid (below_then HB5.out HB5.out.size hb6); have HC6 : Hid (Blk x6 (x3.heap.size + 1) exCells 37) := Lib.hid (HC5.out.below hb6); clear hb6) | (go_at_call_of 15 (Value.int .i64 80); refine (M2.out x6 (some ⟨x3.heap.size + 1, 0, none⟩) (exRules_lie HC6.out) (StdW.below HS.out HB6.out)).mono ?_; rintro e x7 ⟨rfl, hb7⟩; have HB7 := Lib.hid (below_then HB6.out HB6.out.size hb7); have HC7 : Hid (Blk x7 (x3.heap.size + 1) exCells 37) := Lib.hid (HC6.out.below hb7); clear hb7) | (go_at_call_of 15 (Value.int .u8 10); refine (M3.out x7 (some ⟨x3.heap.size + 1, 0, none⟩) (exRules_lie HC7.out) (StdW.below HS.out HB7.out)).mono ?_; rintro e x8 ⟨rfl, hb8⟩; have HB8 := Lib.hid (below_then HB7.out HB7.out.size hb8); have HC8 : Hid (Blk x8 (x3.heap.size + 1) exCells 37) := Lib.hid (HC7.out.below hb8); clear hb8))
  go_ret
  exact ⟨rfl, HB8.out⟩
def works.f : Option Bool := some true
theorem works.calls (r : Bool) (w : World) (hS_ : StdW w) (h : works.f = some r) : Calls Tryz.prog 18 #[] w fun e w' => e = .returned (.bool r) ∧ Below w.heap.size w w' := by
  obtain rfl := Option.some.inj h
  exact works_any w hS_
end Go.Proofs.YteondnhokgmakaaGreatDoor.E


namespace Go.Proofs.YteondnhokgmakaaGreatDoor.E
open Go.RowKit Go.Proofs.YteondnhokgmakaaGreatDoorW.PrintWords Go.Proofs.YteondnhokgmakaaGreatDoorW.PrintLast
set_option linter.unusedVariables false
set_option linter.unusedSimpArgs false
def lowI (x : Int) : Int := if 65 ≤ x ∧ x ≤ 90 then x + 32 else x
def lowAt (s : ByteArray) (k j : Nat) : Int := if j < k then lowI (s.data.toList.getD j 0).toNat else (s.data.toList.getD j 0).toNat
theorem lowI_byte (b : UInt8) : lowI b.toNat = (Lib.lowerB b).toNat := by
  have h : ∀ n : Fin 256, lowI (UInt8.ofNat n.1).toNat = (Lib.lowerB (UInt8.ofNat n.1)).toNat := by decide +kernel
  have := h ⟨b.toNat, b.toNat_lt⟩
  simpa using this
def LowMem (s : ByteArray) (R k : Nat) (w : World) : Prop := ∀ j, j < s.size → w.cell? ⟨R, j, none⟩ = some (.int .u8 (lowAt s k j)) ∧ w.frozen? ⟨R, j, none⟩ = false
theorem LowMem.keep {s : ByteArray} {R k : Nat} {w : World} (h : LowMem s R k w) (hk : lowI (s.data.toList.getD k 0).toNat = (s.data.toList.getD k 0).toNat) : LowMem s R (k + 1) w := fun j hj => by
  have e : lowAt s (k + 1) j = lowAt s k j := by
    unfold lowAt
    by_cases h1 : j < k
    · rw [if_pos h1, if_pos (by omega)]
    · by_cases h2 : j = k
      · subst h2; rw [if_pos (by omega), if_neg h1, hk]
      · rw [if_neg (by omega), if_neg h1]
  rw [e]; exact h j hj
theorem LowMem.put {s : ByteArray} {R k : Nat} {w : World} (h : LowMem s R k w) (hk : k < s.size) : LowMem s R (k + 1) (w.setCell ⟨R, k, none⟩ (.int .u8 (lowI (s.data.toList.getD k 0).toNat))) := fun j hj => by
  obtain ⟨a, b⟩ := h j hj
  rw [World.frozen?_setCell]
  refine ⟨?_, b⟩
  by_cases e : j = k
  · subst e
    rw [World.cell?_setCell_same _ _ _ a]
    unfold lowAt
    rw [if_pos (by omega)]
  · rw [World.cell?_setCell_other _ _ _ _ (by intro e2; injection e2 with _ e2; omega), a]
    unfold lowAt
    by_cases h1 : j < k
    · rw [if_pos h1, if_pos (by omega)]
    · rw [if_neg h1, if_neg (by omega)]
set_option maxRecDepth 100000 in
set_option maxHeartbeats 4000000 in
theorem lower_any (s : ByteArray) (hs : s.size ≤ 281474976710656) (w : World) :
    Calls Tryz.prog 37 #[.string s] w fun e w' => e = .returned (.string ⟨(Lib.toLowerA s.data.toList).toArray⟩) ∧ Below w.heap.size w w' := by
  have hcv := Lib.run_convert_string_bytes (P := Tryz.prog) w 9 105 5 s Tryz.underlying9 Tryz.underlying105 Tryz.underlying5
  generalize hcap : grownCap w s.size 0 5 = cap at hcv
  generalize hW : Lib.bytesWorld w 5 s = W at hcv
  have HB0 : Hid (Below w.heap.size w W) := Lib.hid (hW ▸ Lib.bytesWorld_below _ _ _)
  have HM0 : Hid (LowMem s w.heap.size 0 W) := Lib.hid (fun j hj => by
    subst hW
    refine ⟨?_, ?_⟩
    · rw [Lib.bytesWorld_cell _ _ _ _ hj]
      unfold lowAt
      rw [if_neg (by omega)]
    · unfold World.frozen?
      rw [Lib.bytesWorld_at_new]
      have hc : s.size ≤ (Lib.bytesCells w 5 s).size := by
        unfold Lib.bytesCells
        rw [Array.size_append, Array.size_map]; exact Nat.le_add_right _ _
      simp
      omega)
  clear hW hcap
  have HS := Lib.hid hs
  clear hs
  go_enter Tryz.func37, Tryz.ntmps37
  go_wp2
  go_loopw [4] (fun i wr => ∃ k : Nat, k ≤ s.size ∧ i = .int .i64 k ∧ Hid (LowMem s w.heap.size k wr) ∧ Hid (Below w.heap.size w wr)) (fun i _ => s.size - (intOf i).toNat)
  case atStart => exact ⟨0, Nat.zero_le _, rfl, HM0, HB0⟩
  case round =>
    obtain ⟨k, hk, rfl, HM, HB⟩ := hrel
    clear HM0 HB0
    have hs1 : (s.size : Int) ≤ 281474976710656 := by have := HS.out; omega
    by_cases hlt : k < s.size
    · have hk0 : (0 : Int) ≤ (k : Int) := Int.natCast_nonneg _
      have hk1 : (k : Int) < (s.size : Int) := by omega
      obtain ⟨hc, hf⟩ := HM.out k hlt
      have hR := World.block_lt_of_cell? _ _ hc
      have hx : lowAt s k k = ((s.data.toList.getD k 0).toNat : Int) := by unfold lowAt; rw [if_neg (by omega)]
      rw [hx] at hc
      have HKP := Lib.hid (fun h => HM.out.keep (k := k) h)
      have HPT := Lib.hid (HM.out.put hlt)
      have hb := (s.data.toList.getD k 0).toNat_lt
      generalize (s.data.toList.getD k 0).toNat = x at hc HKP HPT hb
      have hb' : (x : Int) < 256 := by omega
      have hb0 : (0 : Int) ≤ (x : Int) := by omega
      by_cases h1 : (65 : Int) ≤ (x : Int)
      · by_cases h2 : (x : Int) ≤ 90
        · have he : lowI (x : Int) = (x : Int) + 32 := by unfold lowI; rw [if_pos ⟨h1, h2⟩]
          rw [he] at HPT
          go_wp2
          go_roundw
          case rel => exact ⟨k + 1, by omega, by go_num, HPT, Lib.hid (HB.out.setCell (Nat.le_refl _) _)⟩
          case measure => simp [intOf]; omega
        · have he : lowI (x : Int) = (x : Int) := by unfold lowI; rw [if_neg (fun h => h2 h.2)]
          have h2' : decide ((x : Int) ≤ 90) = false := decide_eq_false h2
          have hm := HKP.out he
          go_wp2
          go_roundw
          case rel => exact ⟨k + 1, by omega, by go_num, Lib.hid hm, HB⟩
          case measure => simp [intOf]; omega
      · have he : lowI (x : Int) = (x : Int) := by unfold lowI; rw [if_neg (fun h => h1 h.1)]
        have h1' : decide ((65 : Int) ≤ (x : Int)) = false := decide_eq_false h1
        have hm := HKP.out he
        go_wp2
        go_roundw
        case rel => exact ⟨k + 1, by omega, by go_num, Lib.hid hm, HB⟩
        case measure => simp [intOf]; omega
    · have hk1 : (k : Int) = (s.size : Int) := by omega
      have hkn : k = s.size := by omega
      subst hkn
      have hz : (⟨(Lib.toLowerA s.data.toList).toArray⟩ : ByteArray).size = s.size := by
        show (Lib.toLowerA s.data.toList).toArray.size = _
        rw [List.size_toArray, Lib.toLowerA, List.length_map, Array.length_toList]; rfl
      have hB : Lib.Bytes wr w.heap.size 0 ⟨(Lib.toLowerA s.data.toList).toArray⟩ := fun i hi => by
        have hi' : i < s.size := by rw [hz] at hi; exact hi
        rw [Nat.zero_add, (HM.out i hi').1]
        unfold lowAt
        rw [if_pos hi', lowI_byte]
        have hl : i < s.data.toList.length := by rw [Array.length_toList]; exact hi'
        have hg : s.data.toList.getD i 0 = s.data.toList[i] := by rw [List.getD_eq_getElem?_getD, List.getElem?_eq_getElem hl]; rfl
        have hm : (⟨(Lib.toLowerA s.data.toList).toArray⟩ : ByteArray)[i]'hi = Lib.lowerB s.data.toList[i] := by
          exact List.getElem_map (l := s.data.toList) Lib.lowerB (i := i) (h := by rw [List.length_map]; exact hl)
        rw [hm, hg]
      have hcv2 := Lib.run_convert_whole (P := Tryz.prog) wr 105 5 9 Tryz.underlying105 Tryz.underlying5 Tryz.underlying9 w.heap.size 0 _ hB cap
      rw [hz] at hcv2
      go_wp2
      go_ret
      exact ⟨rfl, HB.out⟩
def Lower.f (s : ByteArray) : Option ByteArray := if s.size ≤ 281474976710656 then some ⟨(Lib.toLowerA s.data.toList).toArray⟩ else none
theorem Lower.calls (s : ByteArray) (r : ByteArray) (w : World) (hS_ : StdW w) (h : Lower.f s = some r) :
    Calls Tryz.prog 37 #[.string s] w fun e w' => e = .returned (.string r) ∧ Below w.heap.size w w' := by
  unfold Lower.f at h
  split at h
  · rename_i hc
    obtain rfl := Option.some.inj h
    exact lower_any s hc w
  · cases h
end Go.Proofs.YteondnhokgmakaaGreatDoor.E


namespace Go.Proofs.YteondnhokgmakaaGreatDoor.E
open Go.RowKit Go.Proofs.YteondnhokgmakaaGreatDoorW.PrintWords Go.Proofs.YteondnhokgmakaaGreatDoorW.PrintLast
set_option linter.unusedVariables false
set_option linter.unusedSimpArgs false
set_option maxRecDepth 100000 in
set_option maxHeartbeats 4000000 in
theorem fail_any (s : ByteArray) (at_ co : Int) (w : World) :
    Calls Tryz.prog 59 #[.string s, .int .i64 at_, .int .i64 co] w fun e w' => e = .returned (.agg #[.int .i64 1, .string s, .string ⟨#[]⟩, .string ⟨#[]⟩, .string ⟨#[]⟩, .int .i64 at_, .int .i64 0, .int .i64 0, .int .i64 0, .int .i64 co]) ∧ Below w.heap.size w w' := by
  go_enter Tryz.func59, Tryz.ntmps59
  go_wp2
  refine bodyPost_ret (v := .agg #[.int .i64 1, .string s, .string ⟨#[]⟩, .string ⟨#[]⟩, .string ⟨#[]⟩, .int .i64 at_, .int .i64 0, .int .i64 0, .int .i64 0, .int .i64 co]) (by simp [results, Tryz.results59, go_sem]) rfl ⟨rfl, below_alloc (below_alloc (Below.refl _ _) _) _⟩
def Fail.f (s : ByteArray) (at_ co : Int) : Option (Int × ByteArray × ByteArray × ByteArray × ByteArray × Int × Int × Int × Int × Int) := some (1, s, ⟨#[]⟩, ⟨#[]⟩, ⟨#[]⟩, at_, 0, 0, 0, co)
theorem Fail.calls (s : ByteArray) (at_ co : Int) (r1 : Int) (r2 r3 r4 r5 : ByteArray) (r6 r7 r8 r9 r10 : Int) (w : World) (hS_ : StdW w) (h : Fail.f s at_ co = some (r1, r2, r3, r4, r5, r6, r7, r8, r9, r10)) :
    Calls Tryz.prog 59 #[.string s, .int .i64 at_, .int .i64 co] w fun e w' => e = .returned (.agg #[.int .i64 r1, .string r2, .string r3, .string r4, .string r5, .int .i64 r6, .int .i64 r7, .int .i64 r8, .int .i64 r9, .int .i64 r10]) ∧ Below w.heap.size w w' := by
  cases h
  exact fail_any s at_ co w
end Go.Proofs.YteondnhokgmakaaGreatDoor.E


namespace Go.Proofs.YteondnhokgmakaaGreatDoor.XR
open Go.Proofs.YteondnhokgmakaaGreatDoor.XC Go.Proofs.YteondnhokgmakaaGreatDoor.XM
open Go.RowKit Go.Proofs.YteondnhokgmakaaGreatDoorW.PrintWords Go.Proofs.YteondnhokgmakaaGreatDoorW.PrintLast Go.Proofs.YteondnhokgmakaaGreatDoorW.PrintMore
attribute [local go_sem] max2_int min2_int max_two min_two max_three min_three max_four min_four
set_option linter.unusedVariables false
set_option linter.unusedSimpArgs false
theorem info3 : (Tryz.prog.info? 3).map (fun i => (i.zero, i.size, i.bytes)) = some (some (.int .i64 0), 1, 8) := by kernel_rfl
theorem info9 : (Tryz.prog.info? 9).map (fun i => (i.zero, i.size, i.bytes)) = some (some (.string ⟨#[]⟩), 1, 16) := by kernel_rfl
structure S76 where
  f0 : ByteArray
  f1 : ByteArray
  f2 : ByteArray
  f3 : ByteArray
def z76 : S76 := ⟨(⟨#[]⟩ : ByteArray), (⟨#[]⟩ : ByteArray), (⟨#[]⟩ : ByteArray), (⟨#[]⟩ : ByteArray)⟩
end Go.Proofs.YteondnhokgmakaaGreatDoor.XR


namespace Go.Proofs.YteondnhokgmakaaGreatDoor.XR
open Go.Proofs.YteondnhokgmakaaGreatDoor.XC Go.Proofs.YteondnhokgmakaaGreatDoor.XM
open Go.RowKit Go.Proofs.YteondnhokgmakaaGreatDoorW.PrintWords Go.Proofs.YteondnhokgmakaaGreatDoorW.PrintLast Go.Proofs.YteondnhokgmakaaGreatDoorW.PrintMore
attribute [local go_sem] max2_int min2_int max_two min_two max_three min_three max_four min_four
set_option linter.unusedVariables false
set_option linter.unusedSimpArgs false
end Go.Proofs.YteondnhokgmakaaGreatDoor.XR


namespace Go.Proofs.YteondnhokgmakaaGreatDoor.XR
open Go.Proofs.YteondnhokgmakaaGreatDoor.XC Go.Proofs.YteondnhokgmakaaGreatDoor.XM
open Go.RowKit Go.Proofs.YteondnhokgmakaaGreatDoorW.PrintWords Go.Proofs.YteondnhokgmakaaGreatDoorW.PrintLast Go.Proofs.YteondnhokgmakaaGreatDoorW.PrintMore
attribute [local go_sem] max2_int min2_int max_two min_two max_three min_three max_four min_four
set_option linter.unusedVariables false
set_option linter.unusedSimpArgs false
def sallyportref06_fault.f (a0 : Int) (a1 : Int) : Option (Int × ByteArray × ByteArray × ByteArray × ByteArray × Int × Int × Int × Int × Int) := (E.Fail.f (⟨#[104, 111, 115, 116]⟩ : ByteArray) a0 a1).bind fun bt102 => (some (bt102.1, bt102.2.1, bt102.2.2.1, bt102.2.2.2.1, bt102.2.2.2.2.1, bt102.2.2.2.2.2.1, bt102.2.2.2.2.2.2.1, bt102.2.2.2.2.2.2.2.1, bt102.2.2.2.2.2.2.2.2.1, bt102.2.2.2.2.2.2.2.2.2))
set_option maxHeartbeats 8000000 in
set_option maxRecDepth 100000 in
theorem sallyportref06_fault.calls (a0 : Int) (a1 : Int) (r1 : Int) (r2 : ByteArray) (r3 : ByteArray) (r4 : ByteArray) (r5 : ByteArray) (r6 : Int) (r7 : Int) (r8 : Int) (r9 : Int) (r10 : Int) (w : World) (hS_ : StdW w) (h : sallyportref06_fault.f a0 a1 = some (r1, r2, r3, r4, r5, r6, r7, r8, r9, r10)) :
    Calls Tryz.prog 76 #[.int .i64 a0, .int .i64 a1] w fun e w' => e = .returned (.agg #[.int .i64 r1, .string r2, .string r3, .string r4, .string r5, .int .i64 r6, .int .i64 r7, .int .i64 r8, .int .i64 r9, .int .i64 r10]) ∧ Below w.heap.size w w' := by
  have hu79 := Tryz.underlying79
  have HS_ := Aside0.mk hS_
  clear hS_
  have HB := Aside0.mk (Below.refl w.heap.size w)
  have H : ((E.Fail.f (⟨#[104, 111, 115, 116]⟩ : ByteArray) a0 a1).bind fun bt102 => (some (bt102.1, bt102.2.1, bt102.2.2.1, bt102.2.2.2.1, bt102.2.2.2.2.1, bt102.2.2.2.2.2.1, bt102.2.2.2.2.2.2.1, bt102.2.2.2.2.2.2.2.1, bt102.2.2.2.2.2.2.2.2.1, bt102.2.2.2.2.2.2.2.2.2))) = some (r1, r2, r3, r4, r5, r6, r7, r8, r9, r10) := h
  clear h
  replace H := Option.bind_eq_some_iff.mp H
  obtain ⟨⟨t102, t103, t104, t105, t106, t107, t108, t109, t110, t111⟩, A30, H⟩ := H
  replace H : (some (t102, t103, t104, t105, t106, t107, t108, t109, t110, t111)) = some (r1, r2, r3, r4, r5, r6, r7, r8, r9, r10) := H
  have A3 := Aside0.mk A30
  clear A30
  simp only [Option.some.injEq, Prod.mk.injEq] at H
  obtain ⟨rfl, rfl, rfl, rfl, rfl, rfl, rfl, rfl, rfl, rfl⟩ := H
  go_enter Tryz.func76, Tryz.ntmps76
  go_wp2_with (first | ((with_reducible refine gate_dst (N := 4) rfl ?_); refine box_event ?hg (N := 4) ?hd (cs := #[.int .i64 0, .string (⟨#[]⟩ : ByteArray), .string (⟨#[]⟩ : ByteArray), .string (⟨#[]⟩ : ByteArray), .string (⟨#[]⟩ : ByteArray), .int .i64 0, .int .i64 0, .int .i64 0, .int .i64 0, .int .i64 0]) (t := 79) ?hr ?_; (case hd => rfl); (case hg => rfl); (case hr => first | (go_simp; done) | (go_simp; rfl)); intro gb101 hg w4 hbox hb; have n0_ := Aside0.mk (below_step (by repeat (first | (with_reducible first | exact HB.out | apply below_alloc | apply pw_below_drewN | apply below_drew1) | exact HB.out)) hb); have n1_ := Aside0.mk (hbox); have n2_ := Aside0.mk ((by rw [hg]; exact (below_size (by repeat (first | (with_reducible first | exact HB.out | apply below_alloc | apply pw_below_drewN | apply below_drew1) | exact HB.out))) : w.heap.size ≤ gb101)); have n3_ := Aside0.mk ((by rw [hg]; exact (below_size (by repeat (first | (with_reducible first | exact HB.out | apply below_alloc | apply pw_below_drewN | apply below_drew1) | exact HB.out))) : w.heap.size ≤ gb101)); clear HB; have HB := n0_; have BK101 := n1_; have GW101 := n2_; have GE101 := n3_; clear n0_ n1_ n2_ n3_; clear hb hbox hg) | ((with_reducible refine gate_callee (f := 59) rfl ?_); refine goesL_ (some 7) rfl rfl Tryz.func59 (by kernel_rfl) rfl #[.string (⟨#[104, 111, 115, 116]⟩ : ByteArray), .int .i64 a0, .int .i64 a1] rfl (by (try simp only [List.map_toArray, List.map_cons, List.map_nil]); first | done | rfl | (simp only [List.length_drop, List.length_take]; rfl)) ?_; (with_reducible refine (E.Fail.calls (⟨#[104, 111, 115, 116]⟩ : ByteArray) a0 a1 t102 t103 t104 t105 t106 t107 t108 t109 t110 t111 _ ?side1 A3.out).mono ?_); (case side1 => exact StdW.below HS_.out (by repeat (first | (with_reducible first | exact HB.out | apply below_alloc | apply pw_below_drewN | apply below_drew1 | refine below_set ?_ GE101.out) | exact HB.out))); rintro e w5 ⟨rfl, hb⟩; refine ⟨_, rfl, ?_⟩; have n0_ := Aside0.mk (blk_below (g := gb101) (o := .cells #[.int .i64 0, .string (⟨#[]⟩ : ByteArray), .string (⟨#[]⟩ : ByteArray), .string (⟨#[]⟩ : ByteArray), .string (⟨#[]⟩ : ByteArray), .int .i64 0, .int .i64 0, .int .i64 0, .int .i64 0, .int .i64 0] 79 (0, 0)) (by (with_reducible repeat (first | refine blk_drewN ?_ _ | refine blk_drew ?_ | refine blk_alloc ?_ _)); exact BK101.out) hb); have n1_ := Aside0.mk (below_step (by repeat (first | (with_reducible first | exact HB.out | apply below_alloc | apply pw_below_drewN | apply below_drew1 | refine below_set ?_ GE101.out) | exact HB.out)) hb); clear BK101; clear HB; have BK101 := n0_; have HB := n1_; clear n0_ n1_; (try clear hb); (try clear hb2); (try clear hk); (try clear hi); have hcz6_0 : w5.cell? ⟨gb101, 0, none⟩ = some (.int .i64 0) := (blk_cell BK101.out 0).trans rfl; have hcz6_1 : w5.cell? ⟨gb101, 1, none⟩ = some (.string (⟨#[]⟩ : ByteArray)) := (blk_cell BK101.out 1).trans rfl; have hcz6_2 : w5.cell? ⟨gb101, 2, none⟩ = some (.string (⟨#[]⟩ : ByteArray)) := (blk_cell BK101.out 2).trans rfl; have hcz6_3 : w5.cell? ⟨gb101, 3, none⟩ = some (.string (⟨#[]⟩ : ByteArray)) := (blk_cell BK101.out 3).trans rfl; have hcz6_4 : w5.cell? ⟨gb101, 4, none⟩ = some (.string (⟨#[]⟩ : ByteArray)) := (blk_cell BK101.out 4).trans rfl; have hcz6_5 : w5.cell? ⟨gb101, 5, none⟩ = some (.int .i64 0) := (blk_cell BK101.out 5).trans rfl; have hcz6_6 : w5.cell? ⟨gb101, 6, none⟩ = some (.int .i64 0) := (blk_cell BK101.out 6).trans rfl; have hcz6_7 : w5.cell? ⟨gb101, 7, none⟩ = some (.int .i64 0) := (blk_cell BK101.out 7).trans rfl; have hcz6_8 : w5.cell? ⟨gb101, 8, none⟩ = some (.int .i64 0) := (blk_cell BK101.out 8).trans rfl; have hcz6_9 : w5.cell? ⟨gb101, 9, none⟩ = some (.int .i64 0) := (blk_cell BK101.out 9).trans rfl; have hfz6_0 := blk_frozen BK101.out 0; have hfz6_1 := blk_frozen BK101.out 1; have hfz6_2 := blk_frozen BK101.out 2; have hfz6_3 := blk_frozen BK101.out 3; have hfz6_4 := blk_frozen BK101.out 4; have hfz6_5 := blk_frozen BK101.out 5; have hfz6_6 := blk_frozen BK101.out 6; have hfz6_7 := blk_frozen BK101.out 7; have hfz6_8 := blk_frozen BK101.out 8; have hfz6_9 := blk_frozen BK101.out 9))
  refine bodyPost_ret (results_cell_row rfl _ _ gb101 79 #[.int .i64 t102, .string t103, .string t104, .string t105, .string t106, .int .i64 t107, .int .i64 t108, .int .i64 t109, .int .i64 t110, .int .i64 t111] (0, 0) _ rfl (by (with_reducible repeat (first | refine blk_drewN ?_ _ | refine blk_drew ?_ | refine blk_alloc ?_ _)); refine blk_put (cs := #[.int .i64 t102, .string t103, .string t104, .string t105, .string t106, .int .i64 t107, .int .i64 t108, .int .i64 t109, .int .i64 t110, .int .i64 0]) ?_ 9 _ rfl; (with_reducible repeat (first | refine blk_drewN ?_ _ | refine blk_drew ?_ | refine blk_alloc ?_ _)); refine blk_put (cs := #[.int .i64 t102, .string t103, .string t104, .string t105, .string t106, .int .i64 t107, .int .i64 t108, .int .i64 t109, .int .i64 0, .int .i64 0]) ?_ 8 _ rfl; (with_reducible repeat (first | refine blk_drewN ?_ _ | refine blk_drew ?_ | refine blk_alloc ?_ _)); refine blk_put (cs := #[.int .i64 t102, .string t103, .string t104, .string t105, .string t106, .int .i64 t107, .int .i64 t108, .int .i64 0, .int .i64 0, .int .i64 0]) ?_ 7 _ rfl; (with_reducible repeat (first | refine blk_drewN ?_ _ | refine blk_drew ?_ | refine blk_alloc ?_ _)); refine blk_put (cs := #[.int .i64 t102, .string t103, .string t104, .string t105, .string t106, .int .i64 t107, .int .i64 0, .int .i64 0, .int .i64 0, .int .i64 0]) ?_ 6 _ rfl; (with_reducible repeat (first | refine blk_drewN ?_ _ | refine blk_drew ?_ | refine blk_alloc ?_ _)); refine blk_put (cs := #[.int .i64 t102, .string t103, .string t104, .string t105, .string t106, .int .i64 0, .int .i64 0, .int .i64 0, .int .i64 0, .int .i64 0]) ?_ 5 _ rfl; (with_reducible repeat (first | refine blk_drewN ?_ _ | refine blk_drew ?_ | refine blk_alloc ?_ _)); refine blk_put (cs := #[.int .i64 t102, .string t103, .string t104, .string t105, .string (⟨#[]⟩ : ByteArray), .int .i64 0, .int .i64 0, .int .i64 0, .int .i64 0, .int .i64 0]) ?_ 4 _ rfl; (with_reducible repeat (first | refine blk_drewN ?_ _ | refine blk_drew ?_ | refine blk_alloc ?_ _)); refine blk_put (cs := #[.int .i64 t102, .string t103, .string t104, .string (⟨#[]⟩ : ByteArray), .string (⟨#[]⟩ : ByteArray), .int .i64 0, .int .i64 0, .int .i64 0, .int .i64 0, .int .i64 0]) ?_ 3 _ rfl; (with_reducible repeat (first | refine blk_drewN ?_ _ | refine blk_drew ?_ | refine blk_alloc ?_ _)); refine blk_put (cs := #[.int .i64 t102, .string t103, .string (⟨#[]⟩ : ByteArray), .string (⟨#[]⟩ : ByteArray), .string (⟨#[]⟩ : ByteArray), .int .i64 0, .int .i64 0, .int .i64 0, .int .i64 0, .int .i64 0]) ?_ 2 _ rfl; (with_reducible repeat (first | refine blk_drewN ?_ _ | refine blk_drew ?_ | refine blk_alloc ?_ _)); refine blk_put (cs := #[.int .i64 t102, .string (⟨#[]⟩ : ByteArray), .string (⟨#[]⟩ : ByteArray), .string (⟨#[]⟩ : ByteArray), .string (⟨#[]⟩ : ByteArray), .int .i64 0, .int .i64 0, .int .i64 0, .int .i64 0, .int .i64 0]) ?_ 1 _ rfl; (with_reducible repeat (first | refine blk_drewN ?_ _ | refine blk_drew ?_ | refine blk_alloc ?_ _)); refine blk_put (cs := #[.int .i64 0, .string (⟨#[]⟩ : ByteArray), .string (⟨#[]⟩ : ByteArray), .string (⟨#[]⟩ : ByteArray), .string (⟨#[]⟩ : ByteArray), .int .i64 0, .int .i64 0, .int .i64 0, .int .i64 0, .int .i64 0]) ?_ 0 _ rfl; (with_reducible repeat (first | refine blk_drewN ?_ _ | refine blk_drew ?_ | refine blk_alloc ?_ _)); exact BK101.out) Tryz.underlying79 rfl (by kernel_rfl)) rfl ?_
  exact ⟨by first | rfl | (simp [errW_none, errW_some] <;> rfl) | (simp [*, errW_none, errW_some] <;> rfl), by repeat (first | (with_reducible first | exact HB.out | apply below_alloc | apply pw_below_drewN | apply below_drew1 | refine below_set ?_ GE101.out) | exact HB.out)⟩
def sallyportref06_parts.l0 : Nat → ByteArray → List ByteArray → List Int → Int → Option (List ByteArray × List Int)
  | 0, _, _, _, _ => none
  | k + 1, x0, x4, x5, x6 => if x6 < (x0.size : Int) then (if 0 ≤ x6 then (if (bt x0 x6) = 46 then (if x4.length < 8796093022208 then (if x5.length < 17592186044416 then (sallyportref06_parts.l0 k x0 (x4 ++ [(⟨#[]⟩ : ByteArray)]) (x5 ++ [wrap64 (x6 + 1)]) (wrap64 (x6 + 1))) else (none)) else (none)) else (if 0 ≤ (wrap64 ((x4.length : Int) - 1)) then (if (wrap64 ((x4.length : Int) - 1)) < (x4.length : Int) then (if x6 ≤ (wrap64 (x6 + 1)) then (if (wrap64 (x6 + 1)) ≤ (x0.size : Int) then (if (rdOf ByteArray.empty x4 (wrap64 ((x4.length : Int) - 1))).size + (x0.extract (x6 : Int).toNat ((wrap64 (x6 + 1)) : Int).toNat).size ≤ 9223372036854775807 then (sallyportref06_parts.l0 k x0 (x4.set ((wrap64 ((x4.length : Int) - 1)) : Int).toNat ((rdOf ByteArray.empty x4 (wrap64 ((x4.length : Int) - 1))) ++ (x0.extract (x6 : Int).toNat ((wrap64 (x6 + 1)) : Int).toNat))) x5 (wrap64 (x6 + 1))) else (none)) else (none)) else (none)) else (none)) else (none))) else (none)) else (some (x4, x5))
def sallyportref06_parts.f (k : Nat) (a0 : ByteArray) : Option (List ByteArray × List Int) := sallyportref06_parts.l0 k a0 (([(⟨#[]⟩ : ByteArray)] : List ByteArray)) (([0] : List Int)) 0
theorem sallyportref06_parts.mono_l : ∀ k, (∀ y0 y1 y2 y3, LeO (sallyportref06_parts.l0 k y0 y1 y2 y3) (sallyportref06_parts.l0 (k + 1) y0 y1 y2 y3))
  | 0 => fun _ _ _ _ r h => by simp [sallyportref06_parts.l0] at h
  | k + 1 => by
    have ih0 := sallyportref06_parts.mono_l k
    · intro y0 y1 y2 y3
      unfold sallyportref06_parts.l0
      repeat' first
      | (with_reducible exact ih0 _ _ _ _)
      | (with_reducible exact LeO.refl _)
      | (with_reducible exact LeO.none _)
      | (with_reducible refine LeO.ite ?_ ?_)
      | (with_reducible refine LeO.bind ?_ (fun _ => ?_))
      | exact ih0 _ _ _ _
      | exact LeO.none _
      | refine LeO.ite ?_ ?_
      | refine LeO.bind ?_ (fun _ => ?_)
theorem sallyportref06_parts.mono : ∀ a0 k, LeO (sallyportref06_parts.f k a0) (sallyportref06_parts.f (k + 1) a0) := by
  intro a0 k
  have ih0 := sallyportref06_parts.mono_l k
  unfold sallyportref06_parts.f
  repeat' first
      | (with_reducible exact ih0 _ _ _ _)
      | (with_reducible exact LeO.refl _)
      | (with_reducible exact LeO.none _)
      | (with_reducible refine LeO.ite ?_ ?_)
      | (with_reducible refine LeO.bind ?_ (fun _ => ?_))
      | exact ih0 _ _ _ _
      | exact LeO.none _
      | refine LeO.ite ?_ ?_
      | refine LeO.bind ?_ (fun _ => ?_)
def sallyportref06_parts.T8 : Bool × List (List Nat × List Nat) := (true, [([], []), ([], []), ([1], [1]), ([2], [2]), ([0, 3], [0, 3]), ([4], [4]), ([], []), ([], []), ([], []), ([8], [8]), ([6, 7, 9], [6, 7, 9]), ([5, 10], [5, 10]), ([0, 3, 0, 1, 2, 3, 4, 5, 6, 7, 8, 9, 10, 11], [0, 3]), ([12, 11, 0, 1, 2, 3, 4, 5, 6, 7, 8, 9, 10, 11], [11, 12])])
def sallyportref06_parts.B8 : List Nat := [0, 0, 2, 6, 15, 31, 0, 0, 0, 256, 960, 2047, 4095, 8191]
theorem sallyportref06_parts.tab8 : rtab .any (opsOf Tryz.f77 8) = sallyportref06_parts.T8 := by kernel_rfl
theorem sallyportref06_parts.bits8 : waitsOk sallyportref06_parts.T8.2 sallyportref06_parts.B8 = true := by kernel_rfl
set_option maxHeartbeats 8000000 in
set_option maxRecDepth 100000 in
theorem sallyportref06_parts.calls (k : Nat) (a0 : ByteArray) (r1 : List ByteArray) (r2 : List Int) (w : World) (h : sallyportref06_parts.f k a0 = some (r1, r2)) :
    Calls Tryz.prog 77 #[.string a0] w fun e w' => ∃ v0_ v1_ : Value, e = .returned (.tuple #[v0_, v1_]) ∧ Kd.R Kd.string 9 w' w.heap.size (fun _ => True) v0_ r1 ∧ Kd.R (Kd.int .i64) 3 w' w.heap.size (fun _ => True) v1_ r2 ∧ Below w.heap.size w w' := by
  have HB := Aside0.mk (Below.refl w.heap.size w)
  have H : (sallyportref06_parts.l0 k a0 (([(⟨#[]⟩ : ByteArray)] : List ByteArray)) (([0] : List Int)) 0) = some (r1, r2) := h
  clear h
  obtain ⟨y112, hy112⟩ : ∃ y_ : List ByteArray, y_ = (([(⟨#[]⟩ : ByteArray)] : List ByteArray)) := ⟨_, rfl⟩
  replace H : (sallyportref06_parts.l0 k a0 y112 (([0] : List Int)) 0) = some (r1, r2) := by first | (rw [hy112]; with_reducible exact H) | (have H2_ := (Option.bind_some _ _).symm.trans H; rw [hy112]; with_reducible exact H2_) | (have H2_ := (Option.bind_some _ _).symm.trans H; with_reducible exact H2_) | with_reducible exact H | (rw [hy112]; exact H) | exact H
  have Ny112 := Aside0.mk hy112
  clear hy112
  obtain ⟨y115, hy115⟩ : ∃ y_ : List Int, y_ = (([0] : List Int)) := ⟨_, rfl⟩
  replace H : (sallyportref06_parts.l0 k a0 y112 y115 0) = some (r1, r2) := by first | (rw [hy115]; with_reducible exact H) | (have H2_ := (Option.bind_some _ _).symm.trans H; rw [hy115]; with_reducible exact H2_) | (have H2_ := (Option.bind_some _ _).symm.trans H; with_reducible exact H2_) | with_reducible exact H | (rw [hy115]; exact H) | exact H
  have Ny115 := Aside0.mk hy115
  clear hy115
  have H' := Aside0.mk H
  clear H
  go_enter Tryz.func77, Tryz.ntmps77
  go_wp2_with (first | ((with_reducible refine gate_dst (N := 7) rfl ?_); refine Kd.R_lit Kd.string _ 9 ?hg (N := 7) ?hd (xs := ([(⟨#[]⟩ : ByteArray)] : List ByteArray)) (inner := [.string (⟨#[]⟩ : ByteArray)]) (ok := fun _ => True) (okp := fun _ => True) ?hr ?hp (fun _ hk => hk) trivial (Below.refl _ _) (Nat.le_refl _) (by simp) ?_; (case hd => rfl); (case hg => rfl); (case hr => first | (go_simp; done) | (go_simp; rfl)); (case hp => exact (Reps.one (show Kd.M Kd.string _ _ _ (⟨#[]⟩ : ByteArray) [.string (⟨#[]⟩ : ByteArray)] from rfl) (Reps.none _ _))); intro v113 w2 ho3 hb hg_ hnew_; clear hg_ hnew_; (first | rw [← Ny112.out] at ho3 | (simp only [Int.reduceToNat] at ho3; rw [← Ny112.out] at ho3)); have n0_ := Aside0.mk (Kd.R_lower ho3 (below_size (by repeat (first | (with_reducible first | exact HB.out | apply below_alloc | apply pw_below_drewN | apply below_drew1) | exact HB.out)))); have n1_ := Aside0.mk (below_step (by repeat (first | (with_reducible first | exact HB.out | apply below_alloc | apply pw_below_drewN | apply below_drew1) | exact HB.out)) hb); clear HB; have HO114 := n0_; have HB := n1_; clear n0_ n1_; clear hb ho3) | ((with_reducible refine gate_dst (N := 8) rfl ?_); refine Kd.R_lit (Kd.int .i64) _ 3 ?hg (N := 8) ?hd (xs := ([0] : List Int)) (inner := [.int .i64 0]) (ok := fun _ => True) (okp := fun _ => True) ?hr ?hp (fun _ hk => hk) trivial (Below.refl _ _) (Nat.le_refl _) (by simp) ?_; (case hd => rfl); (case hg => rfl); (case hr => first | (go_simp; done) | (go_simp; rfl)); (case hp => exact (Reps.one (show Kd.M (Kd.int .i64) _ _ _ 0 [.int .i64 0] from rfl) (Reps.none _ _))); intro v116 w4 ho5 hb hg_ hnew_; clear hg_ hnew_; (first | rw [← Ny115.out] at ho5 | (simp only [Int.reduceToNat] at ho5; rw [← Ny115.out] at ho5)); have n0_ := Aside0.mk (Kd.R_below (by (with_reducible repeat (first | apply Kd.R_alloc | apply Kd.R_drewN | apply Kd.R_drew)); exact HO114.out) hb); have n1_ := Aside0.mk (Kd.R_lower ho5 (below_size (by repeat (first | (with_reducible first | exact HB.out | apply below_alloc | apply pw_below_drewN | apply below_drew1) | exact HB.out)))); have n2_ := Aside0.mk (below_step (by repeat (first | (with_reducible first | exact HB.out | apply below_alloc | apply pw_below_drewN | apply below_drew1) | exact HB.out)) hb); clear HO114; clear HB; have HO114 := n0_; have HO117 := n1_; have HB := n2_; clear n0_ n1_ n2_; clear hb ho5))
  go_loopg [4, 5, 6] k (fun kq v4 v5 v6 w' => ∃ (x4_1 : List ByteArray) (x5_1 : List Int) (x6_1 : Int), v6 = .int .i64 x6_1 ∧ Aside0 (sallyportref06_parts.l0 kq a0 x4_1 x5_1 x6_1 = some (r1, r2)) ∧ Aside0 (kq ≤ k) ∧ Aside0 (Kd.R Kd.string 9 w' w.heap.size (fun _ => True) v4 x4_1) ∧ Aside0 (Kd.R (Kd.int .i64) 3 w' w.heap.size (fun _ => True) v5 x5_1) ∧ Aside0 (Below w.heap.size w w'))
  case atStart => exact ⟨(y112), (y115), (0), (by first | rfl | (simp; done) | (simp [*]; done)), H', ⟨Nat.le_refl _⟩, ⟨by (with_reducible repeat (first | apply Kd.R_alloc | apply Kd.R_drewN | apply Kd.R_drew)); exact HO114.out⟩, ⟨by (with_reducible repeat (first | apply Kd.R_alloc | apply Kd.R_drewN | apply Kd.R_drew)); exact HO117.out⟩, ⟨by repeat (first | (with_reducible first | exact HB.out | apply below_alloc | apply pw_below_drewN | apply below_drew1) | exact HB.out)⟩⟩
  case round =>
    clear H'
    try clear p2
    obtain ⟨x4_1, x5_1, x6_1, rfl, HA, HK1, HO_4, HO_5, HB⟩ := hrel
    cases gk with
    | zero => exact absurd HA.out (by simp [sallyportref06_parts.l0])
    | succ k1 =>
      have H := HA.out
      clear HA
      simp only [sallyportref06_parts.l0] at H
      by_cases c6 : x6_1 < (a0.size : Int)
      · rw [if_pos c6] at H
        have c6b0 : decide (x6_1 < (a0.size : Int)) = true := decide_eq_true c6
        clear c6
        by_cases c7 : 0 ≤ x6_1
        · rw [if_pos c7] at H
          have c7b0 : decide (0 ≤ x6_1) = true := decide_eq_true c7
          clear c7
          by_cases c9 : (bt a0 x6_1) = 46
          · rw [if_pos c9] at H
            have c9b0 : ((bt a0 x6_1) == 46) = true := beq_iff_eq.mpr c9
            have c9b1 : ((bt a0 x6_1) != 46) = false := bne_eq_false_iff_eq.mpr c9
            clear c9
            by_cases c10 : x4_1.length < 8796093022208
            · rw [if_pos c10] at H
              have LMc10 := Aside0.mk c10
              clear c10
              obtain ⟨y118, hy118⟩ : ∃ y_ : List ByteArray, y_ = (x4_1 ++ [(⟨#[]⟩ : ByteArray)]) := ⟨_, rfl⟩
              replace H : (if x5_1.length < 17592186044416 then (sallyportref06_parts.l0 k1 a0 y118 (x5_1 ++ [wrap64 (x6_1 + 1)]) (wrap64 (x6_1 + 1))) else (none)) = some (r1, r2) := by first | (rw [hy118]; with_reducible exact H) | (have H2_ := (Option.bind_some _ _).symm.trans H; rw [hy118]; with_reducible exact H2_) | (have H2_ := (Option.bind_some _ _).symm.trans H; with_reducible exact H2_) | with_reducible exact H | (rw [hy118]; exact H) | exact H
              have Ny118 := Aside0.mk hy118
              clear hy118
              by_cases c11 : x5_1.length < 17592186044416
              · rw [if_pos c11] at H
                have LMc11 := Aside0.mk c11
                clear c11
                obtain ⟨y121, hy121⟩ : ∃ y_ : List Int, y_ = (x5_1 ++ [wrap64 (x6_1 + 1)]) := ⟨_, rfl⟩
                replace H : (sallyportref06_parts.l0 k1 a0 y118 y121 (wrap64 (x6_1 + 1))) = some (r1, r2) := by first | (rw [hy121]; with_reducible exact H) | (have H2_ := (Option.bind_some _ _).symm.trans H; rw [hy121]; with_reducible exact H2_) | (have H2_ := (Option.bind_some _ _).symm.trans H; with_reducible exact H2_) | with_reducible exact H | (rw [hy121]; exact H) | exact H
                have Ny121 := Aside0.mk hy121
                clear hy121
                have H' := Aside0.mk H
                clear H
                have p8 : 0 ≤ (x6_1 : Int) := of_decide_eq_true (by first | (with_reducible assumption) | assumption)
                have q8 : x6_1 < (a0.size : Int) := of_decide_eq_true (by first | (with_reducible assumption) | assumption)
                have hx8 := bt_at a0 x6_1
                replace p8 := eq_true p8
                replace q8 := eq_true q8
                go_wp2_with (first | ((with_reducible refine gate_builtin (b := .append) (xs := #[.tmp 19, .tmp 20]) rfl ?_); at_builtin; refine Kd.R_append Kd.string (w0 := w) w.heap.size rfl (.tmp 19) (.tmp 20) 66 9 (.string ⟨#[]⟩) 16 rfl Tryz.underlying66 info9 rfl (by decide) (by omega) u4 x4_1 (⟨#[]⟩ : ByteArray) [.string (⟨#[]⟩ : ByteArray)] (fun _ => True) (fun _ => False) rfl rfl ?aP (fun _ hk => hk.elim) ?aF ?aO ?aB ?aS ?aL ?_; (case aP => exact rfl); (case aB => exact (by repeat (first | (with_reducible first | exact HB.out | apply below_alloc | apply pw_below_drewN | apply below_drew1) | exact HB.out))); (case aF => exact (fun _ _ => trivial)); (case aO => exact (by (with_reducible repeat (first | apply Kd.R_alloc | apply Kd.R_drewN | apply Kd.R_drew)); exact HO_4.out)); (case aS => exact (below_size (by repeat (first | (with_reducible first | exact HB.out | apply below_alloc | apply pw_below_drewN | apply below_drew1) | exact HB.out)))); (case aL => have := LMc10.out; omega); intro v119 w12 ho hb hg hat; rw [← Ny118.out] at ho; have n0_ := Aside0.mk (Kd.R_over' (by (with_reducible repeat (first | apply Kd.R_alloc | apply Kd.R_drewN | apply Kd.R_drew)); exact HO_5.out) (Kd.R_typed (by (with_reducible repeat (first | apply Kd.R_alloc | apply Kd.R_drewN | apply Kd.R_drew)); exact HO_4.out)) (by decide) hg); have n1_ := Aside0.mk (hb); have n2_ := Aside0.mk (ho); clear HO_5; clear HB; clear HO_4; have HO_5 := n0_; have HB := n1_; have HO120 := n2_; clear n0_ n1_ n2_; clear ho hb hg hat) | ((with_reducible refine gate_builtin (b := .append) (xs := #[.tmp 22, .tmp 25]) rfl ?_); at_builtin; refine Kd.R_append (Kd.int .i64) (w0 := w) w.heap.size rfl (.tmp 22) (.tmp 25) 114 3 (.int .i64 0) 8 rfl Tryz.underlying114 info3 rfl (by decide) (by omega) u5 x5_1 (wrap64 (x6_1 + 1)) [.int .i64 (wrap64 (x6_1 + 1))] (fun _ => True) (fun _ => False) rfl rfl ?aP (fun _ hk => hk.elim) ?aF ?aO ?aB ?aS ?aL ?_; (case aP => exact rfl); (case aB => exact (by repeat (first | (with_reducible first | exact HB.out | apply below_alloc | apply pw_below_drewN | apply below_drew1) | exact HB.out))); (case aF => exact (fun _ _ => trivial)); (case aO => exact (by (with_reducible repeat (first | apply Kd.R_alloc | apply Kd.R_drewN | apply Kd.R_drew)); exact HO_5.out)); (case aS => exact (below_size (by repeat (first | (with_reducible first | exact HB.out | apply below_alloc | apply pw_below_drewN | apply below_drew1) | exact HB.out)))); (case aL => have := LMc11.out; omega); intro v122 w13 ho hb hg hat; rw [← Ny121.out] at ho; have n0_ := Aside0.mk (Kd.R_over' (by (with_reducible repeat (first | apply Kd.R_alloc | apply Kd.R_drewN | apply Kd.R_drew)); exact HO120.out) (Kd.R_typed (by (with_reducible repeat (first | apply Kd.R_alloc | apply Kd.R_drewN | apply Kd.R_drew)); exact HO_5.out)) (by decide) hg); have n1_ := Aside0.mk (hb); have n2_ := Aside0.mk (ho); clear HO120; clear HB; clear HO_5; have HO120 := n0_; have HB := n1_; have HO123 := n2_; clear n0_ n1_ n2_; clear ho hb hg hat))
                go_roundg k1
                case measure => have := HK1.out; omega
                case rel => exact ⟨(y118), (y121), (wrap64 (x6_1 + 1)), (by first | rfl | (simp; done) | (simp [*]; done)), H', ⟨by have := HK1.out; omega⟩, ⟨by (with_reducible repeat (first | apply Kd.R_alloc | apply Kd.R_drewN | apply Kd.R_drew)); exact HO120.out⟩, ⟨by (with_reducible repeat (first | apply Kd.R_alloc | apply Kd.R_drewN | apply Kd.R_drew)); exact HO123.out⟩, ⟨by repeat (first | (with_reducible first | exact HB.out | apply below_alloc | apply pw_below_drewN | apply below_drew1) | exact HB.out)⟩⟩
              · rw [if_neg c11] at H
                exact absurd H (by simp)
            · rw [if_neg c10] at H
              exact absurd H (by simp)
          · rw [if_neg c9] at H
            have c9b0 : ((bt a0 x6_1) == 46) = false := beq_eq_false_iff_ne.mpr c9
            have c9b1 : ((bt a0 x6_1) != 46) = true := bne_iff_ne.mpr c9
            obtain ⟨ji14, hji14⟩ : ∃ j_ : Int, (wrap64 ((x4_1.length : Int) - 1)) = j_ := ⟨_, rfl⟩
            replace H : (if 0 ≤ (ji14) then (if (ji14) < (x4_1.length : Int) then (if x6_1 ≤ (wrap64 (x6_1 + 1)) then (if (wrap64 (x6_1 + 1)) ≤ (a0.size : Int) then (if (rdOf ByteArray.empty x4_1 (ji14)).size + (a0.extract (x6_1 : Int).toNat ((wrap64 (x6_1 + 1)) : Int).toNat).size ≤ 9223372036854775807 then (sallyportref06_parts.l0 k1 a0 (x4_1.set ((ji14) : Int).toNat ((rdOf ByteArray.empty x4_1 (ji14)) ++ (a0.extract (x6_1 : Int).toNat ((wrap64 (x6_1 + 1)) : Int).toNat))) x5_1 (wrap64 (x6_1 + 1))) else (none)) else (none)) else (none)) else (none)) else (none)) = some (r1, r2) := by first | (rw [hji14] at H; exact H) | (simp only [hji14] at H ⊢; exact H)
            have hji14w : (IntKind.i64.wrap ((x4_1.length : Int) - 1)) = ji14 := (i64_w _).trans hji14
            by_cases c15 : 0 ≤ (ji14)
            · rw [if_pos c15] at H
              have c15b0 : decide (0 ≤ (ji14)) = true := decide_eq_true c15
              clear c15
              by_cases c16 : (ji14) < (x4_1.length : Int)
              · rw [if_pos c16] at H
                have c16b0 : decide ((ji14) < (x4_1.length : Int)) = true := decide_eq_true c16
                clear c16
                have c17b0 := eq_true (of_decide_eq_true (by first | (with_reducible assumption) | assumption) : 0 ≤ x6_1)
                by_cases c18 : x6_1 ≤ (wrap64 (x6_1 + 1))
                · rw [if_pos c18] at H
                  have c18b0 := eq_true c18
                  have c18b1 : decide (x6_1 ≤ (wrap64 (x6_1 + 1))) = true := decide_eq_true c18
                  by_cases c19 : (wrap64 (x6_1 + 1)) ≤ (a0.size : Int)
                  · rw [if_pos c19] at H
                    have c19b0 := eq_true c19
                    have c19b1 : decide ((wrap64 (x6_1 + 1)) ≤ (a0.size : Int)) = true := decide_eq_true c19
                    by_cases c20 : (rdOf ByteArray.empty x4_1 (ji14)).size + (a0.extract (x6_1 : Int).toNat ((wrap64 (x6_1 + 1)) : Int).toNat).size ≤ 9223372036854775807
                    · rw [if_pos c20] at H
                      have c20b0 := eq_true c20
                      have c20b1 : decide ((rdOf ByteArray.empty x4_1 (ji14)).size + (a0.extract (x6_1 : Int).toNat ((wrap64 (x6_1 + 1)) : Int).toNat).size ≤ 9223372036854775807) = true := decide_eq_true c20
                      try have c20b2 : (9223372036854775807 < (rdOf ByteArray.empty x4_1 (ji14)).size + (a0.extract (x6_1 : Int).toNat ((wrap64 (x6_1 + 1)) : Int).toNat).size) = False := eq_false (Nat.not_lt.2 c20)
                      try have c20b3 : (9223372036854775807 < (rdOf ByteArray.empty x4_1 (ji14)).size + (((wrap64 (x6_1 + 1)) : Int).toNat - (x6_1 : Int).toNat)) = False := eq_false (Nat.not_lt.2 (Nat.le_trans (Nat.add_le_add_left (by have h_ := of_decide_eq_true (p := (wrap64 (x6_1 + 1)) ≤ (a0.size : Int)) (by assumption); rw [ByteArray.size_extract]; omega) _) c20))
                      obtain ⟨y125, hy125⟩ : ∃ y_ : List ByteArray, y_ = (x4_1.set ((ji14) : Int).toNat ((rdOf ByteArray.empty x4_1 (ji14)) ++ (a0.extract (x6_1 : Int).toNat ((wrap64 (x6_1 + 1)) : Int).toNat))) := ⟨_, rfl⟩
                      replace H : (sallyportref06_parts.l0 k1 a0 y125 x5_1 (wrap64 (x6_1 + 1))) = some (r1, r2) := by first | (rw [hy125]; with_reducible exact H) | (have H2_ := (Option.bind_some _ _).symm.trans H; rw [hy125]; with_reducible exact H2_) | (have H2_ := (Option.bind_some _ _).symm.trans H; with_reducible exact H2_) | with_reducible exact H | (rw [hy125]; exact H) | exact H
                      have Ny125 := Aside0.mk hy125
                      clear hy125
                      have H' := Aside0.mk H
                      clear H
                      have p8 : 0 ≤ (x6_1 : Int) := of_decide_eq_true (by first | (with_reducible assumption) | assumption)
                      have q8 : x6_1 < (a0.size : Int) := of_decide_eq_true (by first | (with_reducible assumption) | assumption)
                      have hx8 := bt_at a0 x6_1
                      replace p8 := eq_true p8
                      replace q8 := eq_true q8
                      try go_wp2
                      have n0_ := Aside0.mk (Kd.R_drew HO_4.out)
                      have n1_ := Aside0.mk (Kd.R_drew HO_5.out)
                      have n2_ := Aside0.mk (below_drew1 HB.out)
                      clear HO_4
                      clear HO_5
                      clear HB
                      have HO_4 := n0_
                      have HO_5 := n1_
                      have HB := n2_
                      clear n0_ n1_ n2_
                      obtain ⟨Ao23, co23, eo23⟩ := Kd.R_slice HO_4.out
                      (first | subst eo23 | (injection eo23 with f1_ f2_ f3_; have f4_ := f1_.symm; have f5_ := f3_.symm; clear f1_ f2_ f3_; subst f4_; subst f5_))
                      have p124 : 0 ≤ ((ji14) : Int) := of_decide_eq_true (by first | (with_reducible assumption) | assumption)
                      have q124 : (ji14) < (x4_1.length : Int) := of_decide_eq_true (by first | (with_reducible assumption) | assumption)
                      obtain ⟨ad124, e124, hx124_0⟩ := Kd.at_string (Kd.R_reads' HO_4.out).2.2 (ji14) p124 q124
                      cases e124
                      replace p124 := eq_true p124
                      replace q124 := eq_true q124
                      have p21 : 0 ≤ ((ji14) : Int) := of_decide_eq_true (by first | (with_reducible assumption) | assumption)
                      have q21 : ((ji14) : Int) < ((x4_1.length : Int) : Int) := of_decide_eq_true (by first | (with_reducible assumption) | assumption)
                      obtain ⟨go21, co21, eo21, gb21, gl21, cl21, HG21⟩ := Kd.R_form HO_4.out (by omega)
                      (first | cases eo21 | (injection eo21 with ea_ en_ ec_; (first | subst ea_ | (injection ea_ with ea_; subst ea_)); subst ec_; clear en_))
                      have GB21 := Aside0.mk gb21
                      have GG21 := Aside0.mk HG21
                      clear gb21 gl21 HG21
                      (first | simp only [add_plain] at hx124_0 | skip)
                      obtain ⟨hx21_0, hf21_0⟩ := Kd.R_celln (⟨#[]⟩ : ByteArray) HO_4.out ((ji14) : Int) p21 q21
                      replace p21 := eq_true p21
                      replace q21 := eq_true q21
                      have HP24 := Kd.R_putn HO_4.out ((ji14) : Int) ((rdOf ByteArray.empty x4_1 (ji14)) ++ (a0.extract (x6_1 : Int).toNat ((wrap64 (x6_1 + 1)) : Int).toNat))
                      rw [← Ny125.out] at HP24
                      have HQ24 := Aside0.mk HP24
                      clear HP24
                      refine start_ (n := 14) (S := fun w' => w'.cell? ⟨go21, ((ji14)).toNat, none⟩ = some (.string (rdOf ByteArray.empty x4_1 (ji14)))) (ds := [13]) #[false, false, false, false, false, false, false, false, false, false, false, false, false, false] (by kernel_rfl) rfl rfl (hx124_0) (fun hHeld => ?_); refine with_tabW sallyportref06_parts.tab8 sallyportref06_parts.bits8 (fun HT_ HW_ => ?_)
                      generalize wr.drew = w22 at HO_4 HO_5 HB GG21 HQ24 hf21_0 hx124_0 hx21_0 hHeld ⊢
                      refine pure_ (i := 0) (N := some 27) (v := ?_) (a' := ?_) #[true, false, false, false, false, false, false, false, false, false, false, false, false, false] rfl rfl (any_of HT_.out (by kernel_rfl)) (fun _ _ _ h => h) (Or.inl ⟨by rfl, ?_⟩) ?_ ?_
                      rotate_left
                      · intro w'
                        go_simp
                        with_reducible rfl
                      rotate_left
                      · simp only [Act.put, List.setIfInBounds_toArray, List.set_cons_zero, List.set_cons_succ, i64_w, i32_w]
                        rfl
                      refine pure_ (i := 1) (N := some 28) (v := ?_) (a' := ?_) #[true, true, false, false, false, false, false, false, false, false, false, false, false, false] rfl rfl (any_of HT_.out (by kernel_rfl)) (fun _ _ _ h => h) (Or.inl ⟨by rfl, ?_⟩) ?_ ?_
                      rotate_left
                      · intro w'
                        go_simp
                        with_reducible rfl
                      rotate_left
                      · simp only [Act.put, List.setIfInBounds_toArray, List.set_cons_zero, List.set_cons_succ, i64_w, i32_w]
                        rfl
                      refine pure_ (i := 2) (N := some 29) (v := ?_) (a' := ?_) #[true, true, true, false, false, false, false, false, false, false, false, false, false, false] rfl rfl (any_of HT_.out (by kernel_rfl)) (fun _ _ _ h => h) (Or.inl ⟨by rfl, ?_⟩) ?_ ?_
                      rotate_left
                      · intro w'
                        go_simp
                        with_reducible rfl
                      rotate_left
                      · simp only [Act.put, List.setIfInBounds_toArray, List.set_cons_zero, List.set_cons_succ, i64_w, i32_w]
                        rfl
                      refine pure_ (i := 3) (N := some 30) (v := ?_) (a' := ?_) #[true, true, true, true, false, false, false, false, false, false, false, false, false, false] rfl rfl (any_of HT_.out (by kernel_rfl)) (fun _ _ _ h => h) (Or.inl ⟨by rfl, ?_⟩) ?_ ?_
                      rotate_left
                      · intro w'
                        go_simp
                        with_reducible rfl
                      rotate_left
                      · simp only [Act.put, List.setIfInBounds_toArray, List.set_cons_zero, List.set_cons_succ, i64_w, i32_w]
                        rfl
                      refine pure_ (i := 4) (N := some 31) (v := ?_) (a' := ?_) #[true, true, true, true, true, false, false, false, false, false, false, false, false, false] rfl rfl (any_of HT_.out (by kernel_rfl)) (fun _ _ _ h => h) (Or.inl ⟨by rfl, ?_⟩) ?_ ?_
                      rotate_left
                      · intro w'
                        go_simp
                        with_reducible rfl
                      rotate_left
                      · simp only [Act.put, List.setIfInBounds_toArray, List.set_cons_zero, List.set_cons_succ, i64_w, i32_w]
                        rfl
                      refine pure_ (i := 6) (N := some 33) (v := ?_) (a' := ?_) #[true, true, true, true, true, false, true, false, false, false, false, false, false, false] rfl rfl (any_of HT_.out (by kernel_rfl)) (fun _ _ _ h => h) (Or.inl ⟨by rfl, ?_⟩) ?_ ?_
                      rotate_left
                      · intro w'
                        go_simp
                        with_reducible rfl
                      rotate_left
                      · simp only [Act.put, List.setIfInBounds_toArray, List.set_cons_zero, List.set_cons_succ, i64_w, i32_w]
                        rfl
                      refine pure_ (i := 7) (N := some 34) (v := ?_) (a' := ?_) #[true, true, true, true, true, false, true, true, false, false, false, false, false, false] rfl rfl (any_of HT_.out (by kernel_rfl)) (fun _ _ _ h => h) (Or.inl ⟨by rfl, ?_⟩) ?_ ?_
                      rotate_left
                      · intro w'
                        go_simp
                        with_reducible rfl
                      rotate_left
                      · simp only [Act.put, List.setIfInBounds_toArray, List.set_cons_zero, List.set_cons_succ, i64_w, i32_w]
                        rfl
                      refine pure_ (i := 8) (N := some 35) (v := ?_) (a' := ?_) #[true, true, true, true, true, false, true, true, true, false, false, false, false, false] rfl rfl (any_of HT_.out (by kernel_rfl)) (fun _ _ _ h => h) (Or.inl ⟨by rfl, ?_⟩) ?_ ?_
                      rotate_left
                      · intro w'
                        go_simp
                        with_reducible rfl
                      rotate_left
                      · simp only [Act.put, List.setIfInBounds_toArray, List.set_cons_zero, List.set_cons_succ, i64_w, i32_w]
                        rfl
                      refine pure_ (i := 9) (N := some 36) (v := ?_) (a' := ?_) #[true, true, true, true, true, false, true, true, true, true, false, false, false, false] rfl rfl (any_of HT_.out (by kernel_rfl)) (fun _ _ _ h => h) (Or.inl ⟨by rfl, ?_⟩) ?_ ?_
                      rotate_left
                      · intro w'
                        go_simp
                        with_reducible rfl
                      rotate_left
                      · simp only [Act.put, List.setIfInBounds_toArray, List.set_cons_zero, List.set_cons_succ, i64_w, i32_w]
                        rfl
                      refine pure_ (i := 10) (N := some 37) (v := ?_) (a' := ?_) #[true, true, true, true, true, false, true, true, true, true, true, false, false, false] rfl rfl (any_of HT_.out (by kernel_rfl)) (fun _ _ _ h => h) (Or.inl ⟨by rfl, ?_⟩) ?_ ?_
                      rotate_left
                      · intro w'
                        go_simp
                        with_reducible rfl
                      rotate_left
                      · simp only [Act.put, List.setIfInBounds_toArray, List.set_cons_zero, List.set_cons_succ, i64_w, i32_w]
                        rfl
                      refine take_ (i := 5) (N := some 32) (v := ?_) (a' := ?_) #[true, true, true, true, true, true, true, true, true, true, true, false, false, false] rfl rfl (take_ofW HT_.out HW_.out (by kernel_rfl)) (fun _ _ _ h => h) (Or.inl ⟨by rfl, ?_⟩) hHeld ?_ ?_
                      rotate_left
                      · intro w' s0
                        go_simp
                        with_reducible rfl
                      rotate_left
                      · simp only [Act.put, List.setIfInBounds_toArray, List.set_cons_zero, List.set_cons_succ, i64_w, i32_w]
                        rfl
                      refine pure_ (i := 11) (N := some 38) (v := ?_) (a' := ?_) #[true, true, true, true, true, true, true, true, true, true, true, true, false, false] rfl rfl (any_of HT_.out (by kernel_rfl)) (fun _ _ _ h => h) (Or.inl ⟨by rfl, ?_⟩) ?_ ?_
                      rotate_left
                      · intro w'
                        go_simp
                        with_reducible rfl
                      rotate_left
                      · simp only [Act.put, List.setIfInBounds_toArray, List.set_cons_zero, List.set_cons_succ, i64_w, i32_w]
                        rfl
                      refine pure_ (i := 12) (N := some 39) (v := ?_) (a' := ?_) #[true, true, true, true, true, true, true, true, true, true, true, true, true, false] rfl rfl (any_of HT_.out (by kernel_rfl)) (fun _ _ _ h => h) (Or.inl ⟨by rfl, ?_⟩) ?_ ?_
                      rotate_left
                      · intro w'
                        go_simp
                        with_reducible rfl
                      rotate_left
                      · simp only [Act.put, List.setIfInBounds_toArray, List.set_cons_zero, List.set_cons_succ, i64_w, i32_w]
                        rfl
                      refine last_ (i := 13) (N := none) #[true, true, true, true, true, true, true, true, true, true, true, true, true, true] rfl rfl (one_of HT_.out (by kernel_rfl)) (by decide) (fun K hK => ?_)
                      refine skip_ (w1 := ?_) (by rfl) rfl ?_ ?_
                      rotate_left
                      · go_simp
                        rfl
                      refine hK.out _ _ ?_
                      clear hK K
                      refine done_ (done_of HT_.out (by kernel_rfl)) ?_
                      try go_wp2
                      go_roundg k1
                      case measure => have := HK1.out; omega
                      case rel => exact ⟨(y125), (x5_1), (wrap64 (x6_1 + 1)), (by first | rfl | (simp; done) | (simp [*]; done)), H', ⟨by have := HK1.out; omega⟩, ⟨by (with_reducible repeat (first | apply Kd.R_alloc | apply Kd.R_drewN | apply Kd.R_drew)); exact HQ24.out⟩, ⟨by (with_reducible repeat (first | apply Kd.R_alloc | apply Kd.R_drewN | apply Kd.R_drew)); exact Kd.R_mono (Kd.R_far (p := ⟨go21, ((ji14) : Int).toNat, none⟩) (Kd.R_types HO_5.out GG21.out (by decide)) (fun _ hk => hk.2) (.string ((rdOf ByteArray.empty x4_1 (ji14)) ++ (a0.extract (x6_1 : Int).toNat ((wrap64 (x6_1 + 1)) : Int).toNat)))) (fun _ hk => trivial)⟩, ⟨by repeat (first | (with_reducible first | exact HB.out | apply below_alloc | apply pw_below_drewN | apply below_drew1 | refine below_set ?_ GB21.out) | exact HB.out)⟩⟩
                    · rw [if_neg c20] at H
                      exact absurd H (by simp)
                  · rw [if_neg c19] at H
                    exact absurd H (by simp)
                · rw [if_neg c18] at H
                  exact absurd H (by simp)
              · rw [if_neg c16] at H
                exact absurd H (by simp)
            · rw [if_neg c15] at H
              exact absurd H (by simp)
        · rw [if_neg c7] at H
          exact absurd H (by simp)
      · rw [if_neg c6] at H
        have c6b0 : decide (x6_1 < (a0.size : Int)) = false := decide_eq_false c6
        clear c6
        simp only [Option.some.injEq, Prod.mk.injEq] at H
        obtain ⟨rfl, rfl⟩ := H
        go_wp2
        go_ret2
        exact ⟨_, _, by first | rfl | (simp [errW_none, errW_some] <;> rfl) | (simp [*, errW_none, errW_some] <;> rfl), by (with_reducible repeat (first | apply Kd.R_alloc | apply Kd.R_drewN | apply Kd.R_drew)); exact HO_4.out, by (with_reducible repeat (first | apply Kd.R_alloc | apply Kd.R_drewN | apply Kd.R_drew)); exact HO_5.out, by repeat (first | (with_reducible first | exact HB.out | apply below_alloc | apply pw_below_drewN | apply below_drew1) | exact HB.out)⟩
def sallyportref06_digit.f (a0 : Int) : Option (Bool) := if a0 ≥ 48 then (some (decide (a0 ≤ 57))) else (some false)
set_option maxHeartbeats 8000000 in
set_option maxRecDepth 100000 in
theorem sallyportref06_digit.calls (a0 : Int) (r : Bool) (w : World) (h : sallyportref06_digit.f a0 = some r) :
    Calls Tryz.prog 84 #[.int .u8 a0] w fun e w' => e = .returned (.bool r) ∧ Drawn0 w w' := by
  have H : (if a0 ≥ 48 then (some (decide (a0 ≤ 57))) else (some false)) = some r := h
  clear h
  by_cases c2 : a0 ≥ 48
  · rw [if_pos c2] at H
    have c2b0 : decide (48 ≤ a0) = true := decide_eq_true c2
    clear c2
    obtain rfl := Option.some.inj H
    go_enter Tryz.func84, Tryz.ntmps84
    go_wp2
    go_ret
    exact ⟨by first | rfl | (simp; done) | (simp [*]; done), by repeat (first | exact Drawn0.refl _ | apply Drawn0.step)⟩
  · rw [if_neg c2] at H
    have c2b0 : decide (48 ≤ a0) = false := decide_eq_false c2
    clear c2
    obtain rfl := Option.some.inj H
    go_enter Tryz.func84, Tryz.ntmps84
    go_wp2
    go_ret
    exact ⟨by first | rfl | (simp; done) | (simp [*]; done), by repeat (first | exact Drawn0.refl _ | apply Drawn0.step)⟩
mutual
def sallyportref06_label.j0 : Nat → ByteArray → Bool → Option (Bool)
  | 0, _, _ => none
  | k + 1, x0, x23 => if x23 = true then (some false) else (sallyportref06_label.l0 k x0 0)
def sallyportref06_label.l0 : Nat → ByteArray → Int → Option (Bool)
  | 0, _, _ => none
  | k + 1, x0, x3 => if x3 < (x0.size : Int) then (if 0 ≤ x3 then (if (bt x0 x3) = 45 then (sallyportref06_label.l0 k x0 (wrap64 (x3 + 1))) else ((sallyportref06_digit.f (bt x0 x3)).bind fun t126 => (if t126 = true then (sallyportref06_label.l0 k x0 (wrap64 (x3 + 1))) else (if (bt x0 x3) < 97 then (some false) else (if (bt x0 x3) > 122 then (some false) else (sallyportref06_label.l0 k x0 (wrap64 (x3 + 1)))))))) else (none)) else (some true)
end
def sallyportref06_label.f (k : Nat) (a0 : ByteArray) : Option (Bool) := if a0.toList = ([] : List UInt8) then (sallyportref06_label.j0 k a0 true) else (if (a0.size : Int) > 63 then (sallyportref06_label.j0 k a0 true) else (if 0 < (a0.size : Int) then (if (bt a0 0) = 45 then (sallyportref06_label.j0 k a0 true) else (if 0 ≤ (wrap64 ((a0.size : Int) - 1)) then (if (wrap64 ((a0.size : Int) - 1)) < (a0.size : Int) then (sallyportref06_label.j0 k a0 ((bt a0 (wrap64 ((a0.size : Int) - 1))) == 45)) else (none)) else (none))) else (none)))
theorem sallyportref06_label.mono_l : ∀ k, (∀ y0 y1, LeO (sallyportref06_label.j0 k y0 y1) (sallyportref06_label.j0 (k + 1) y0 y1)) ∧ (∀ y0 y1, LeO (sallyportref06_label.l0 k y0 y1) (sallyportref06_label.l0 (k + 1) y0 y1))
  | 0 => ⟨fun _ _ r h => by simp [sallyportref06_label.j0] at h, fun _ _ r h => by simp [sallyportref06_label.l0] at h⟩
  | k + 1 => by
    obtain ⟨ih0, ih1⟩ := sallyportref06_label.mono_l k
    refine ⟨?_, ?_⟩
    · intro y0 y1
      unfold sallyportref06_label.j0
      repeat' first
      | (with_reducible exact ih0 _ _)
      | (with_reducible exact ih1 _ _)
      | (with_reducible exact LeO.refl _)
      | (with_reducible exact LeO.none _)
      | (with_reducible refine LeO.ite ?_ ?_)
      | (with_reducible refine LeO.bind ?_ (fun _ => ?_))
      | exact ih0 _ _
      | exact ih1 _ _
      | exact LeO.none _
      | refine LeO.ite ?_ ?_
      | refine LeO.bind ?_ (fun _ => ?_)
    · intro y0 y1
      unfold sallyportref06_label.l0
      repeat' first
      | (with_reducible exact ih0 _ _)
      | (with_reducible exact ih1 _ _)
      | (with_reducible exact LeO.refl _)
      | (with_reducible exact LeO.none _)
      | (with_reducible refine LeO.ite ?_ ?_)
      | (with_reducible refine LeO.bind ?_ (fun _ => ?_))
      | exact ih0 _ _
      | exact ih1 _ _
      | exact LeO.none _
      | refine LeO.ite ?_ ?_
      | refine LeO.bind ?_ (fun _ => ?_)
theorem sallyportref06_label.mono : ∀ a0 k, LeO (sallyportref06_label.f k a0) (sallyportref06_label.f (k + 1) a0) := by
  intro a0 k
  obtain ⟨ih0, ih1⟩ := sallyportref06_label.mono_l k
  unfold sallyportref06_label.f
  repeat' first
      | (with_reducible exact ih0 _ _)
      | (with_reducible exact ih1 _ _)
      | (with_reducible exact LeO.refl _)
      | (with_reducible exact LeO.none _)
      | (with_reducible refine LeO.ite ?_ ?_)
      | (with_reducible refine LeO.bind ?_ (fun _ => ?_))
      | exact ih0 _ _
      | exact ih1 _ _
      | exact LeO.none _
      | refine LeO.ite ?_ ?_
      | refine LeO.bind ?_ (fun _ => ?_)
set_option maxHeartbeats 8000000 in
set_option maxRecDepth 100000 in
theorem sallyportref06_label.calls (k : Nat) (a0 : ByteArray) (r : Bool) (w : World) (h : sallyportref06_label.f k a0 = some r) :
    Calls Tryz.prog 83 #[.string a0] w fun e w' => e = .returned (.bool r) ∧ Drawn0 w w' := by
  have H : (if a0.toList = ([] : List UInt8) then (sallyportref06_label.j0 k a0 true) else (if (a0.size : Int) > 63 then (sallyportref06_label.j0 k a0 true) else (if 0 < (a0.size : Int) then (if (bt a0 0) = 45 then (sallyportref06_label.j0 k a0 true) else (if 0 ≤ (wrap64 ((a0.size : Int) - 1)) then (if (wrap64 ((a0.size : Int) - 1)) < (a0.size : Int) then (sallyportref06_label.j0 k a0 ((bt a0 (wrap64 ((a0.size : Int) - 1))) == 45)) else (none)) else (none))) else (none)))) = some r := h
  clear h
  have HC2 := Aside0.mk H
  clear H
  go_enter Tryz.func83, Tryz.ntmps83
  go_upto_region 1 with (fail)
  go_cut [23] (fun v23 wc => ∃ (kq : Nat) (x23_1 : Bool), v23 = .bool x23_1 ∧ Aside0 (sallyportref06_label.j0 kq a0 x23_1 = some r) ∧ Aside0 (kq ≤ k) ∧ Drawn0 w wc)
  case first =>
    have H := HC2.out
    clear HC2
    by_cases c3 : a0.toList = ([] : List UInt8)
    · rw [if_pos c3] at H
      have c3b0 : (a0.toList == ([] : List UInt8)) = true := beq_iff_eq.mpr c3
      have c3b1 : (a0.toList != ([] : List UInt8)) = false := bne_eq_false_iff_eq.mpr c3
      clear c3
      (first | rw [c3b0] | (simp only [i64_w, i32_w]; rw [c3b0]) | skip)
      have H' := Aside0.mk H
      clear H
      go_wp2
      go_meet
      case rel => exact ⟨_, (true), (by first | rfl | (simp; done) | (simp [*]; done)), H', ⟨by first | omega | exact Nat.le_refl _⟩, by repeat (first | exact Drawn0.refl _ | apply Drawn0.step)⟩
    · rw [if_neg c3] at H
      have c3b0 : (a0.toList == ([] : List UInt8)) = false := beq_eq_false_iff_ne.mpr c3
      have c3b1 : (a0.toList != ([] : List UInt8)) = true := bne_iff_ne.mpr c3
      (first | rw [c3b0] | (simp only [i64_w, i32_w]; rw [c3b0]) | skip)
      by_cases c4 : (a0.size : Int) > 63
      · rw [if_pos c4] at H
        have c4b0 : decide (63 < (a0.size : Int)) = true := decide_eq_true c4
        have c4b1 : decide (63 < a0.size) = true := decide_eq_true (by omega)
        clear c4
        have H' := Aside0.mk H
        clear H
        go_wp2
        go_meet
        case rel => exact ⟨_, (true), (by first | rfl | (simp; done) | (simp [*]; done)), H', ⟨by first | omega | exact Nat.le_refl _⟩, by repeat (first | exact Drawn0.refl _ | apply Drawn0.step)⟩
      · rw [if_neg c4] at H
        have c4b0 : decide (63 < (a0.size : Int)) = false := decide_eq_false c4
        have c4b1 : decide (63 < a0.size) = false := decide_eq_false (by omega)
        clear c4
        by_cases c5 : 0 < (a0.size : Int)
        · rw [if_pos c5] at H
          have c5b0 : decide (0 < (a0.size : Int)) = true := decide_eq_true c5
          have c5b1 : decide (0 < a0.size) = true := decide_eq_true (by omega)
          clear c5
          by_cases c7 : (bt a0 0) = 45
          · rw [if_pos c7] at H
            have c7b0 : ((bt a0 0) == 45) = true := beq_iff_eq.mpr c7
            have c7b1 : ((bt a0 0) != 45) = false := bne_eq_false_iff_eq.mpr c7
            clear c7
            have H' := Aside0.mk H
            clear H
            have p6 : 0 ≤ (0 : Int) := (by omega)
            have q6 : 0 < a0.size := (by have : (0 : Int) < (a0.size : Int) := of_decide_eq_true (by first | (with_reducible assumption) | assumption); omega)
            have hx6 : ∀ h : 0 < a0.size, ((a0[0]'h).toNat : Int) = bt a0 0 := bt_at a0 0
            clear p6
            have qi6 : (0 < (a0.size : Int)) = True := eq_true (of_decide_eq_true (by first | (with_reducible assumption) | assumption))
            replace q6 := eq_true q6
            go_wp2
            go_meet
            case rel => exact ⟨_, (true), (by first | rfl | (simp; done) | (simp [*]; done)), H', ⟨by first | omega | exact Nat.le_refl _⟩, by repeat (first | exact Drawn0.refl _ | apply Drawn0.step)⟩
          · rw [if_neg c7] at H
            have c7b0 : ((bt a0 0) == 45) = false := beq_eq_false_iff_ne.mpr c7
            have c7b1 : ((bt a0 0) != 45) = true := bne_iff_ne.mpr c7
            obtain ⟨ji8, hji8⟩ : ∃ j_ : Int, (wrap64 ((a0.size : Int) - 1)) = j_ := ⟨_, rfl⟩
            replace H : (if 0 ≤ (ji8) then (if (ji8) < (a0.size : Int) then (sallyportref06_label.j0 k a0 ((bt a0 (ji8)) == 45)) else (none)) else (none)) = some r := by first | (rw [hji8] at H; exact H) | (simp only [hji8] at H ⊢; exact H)
            have hji8w : (IntKind.i64.wrap ((a0.size : Int) - 1)) = ji8 := (i64_w _).trans hji8
            by_cases c9 : 0 ≤ (ji8)
            · rw [if_pos c9] at H
              have c9b0 : decide (0 ≤ (ji8)) = true := decide_eq_true c9
              clear c9
              by_cases c10 : (ji8) < (a0.size : Int)
              · rw [if_pos c10] at H
                have c10b0 : decide ((ji8) < (a0.size : Int)) = true := decide_eq_true c10
                clear c10
                have H' := Aside0.mk H
                clear H
                have p6 : 0 ≤ (0 : Int) := (by omega)
                have q6 : 0 < a0.size := (by have : (0 : Int) < (a0.size : Int) := of_decide_eq_true (by first | (with_reducible assumption) | assumption); omega)
                have hx6 : ∀ h : 0 < a0.size, ((a0[0]'h).toNat : Int) = bt a0 0 := bt_at a0 0
                clear p6
                have qi6 : (0 < (a0.size : Int)) = True := eq_true (of_decide_eq_true (by first | (with_reducible assumption) | assumption))
                replace q6 := eq_true q6
                have p11 : 0 ≤ ((ji8) : Int) := of_decide_eq_true (by first | (with_reducible assumption) | assumption)
                have q11 : (ji8) < (a0.size : Int) := of_decide_eq_true (by first | (with_reducible assumption) | assumption)
                have hx11 := bt_at a0 (ji8)
                replace p11 := eq_true p11
                replace q11 := eq_true q11
                go_wp2
                go_meet
                case rel => exact ⟨_, (((bt a0 (ji8)) == 45)), (by first | rfl | (simp; done) | (simp only [← hji8] <;> (first | rfl | simp)) | (simp [*]; done)), H', ⟨by first | omega | exact Nat.le_refl _⟩, by repeat (first | exact Drawn0.refl _ | apply Drawn0.step)⟩
              · rw [if_neg c10] at H
                exact absurd H (by simp)
            · rw [if_neg c9] at H
              exact absurd H (by simp)
        · rw [if_neg c5] at H
          exact absurd H (by simp)
  case rest =>
    clear HC2
    try clear c1
    try clear p1
    try clear q1
    try clear hx1
    try clear p2
    try clear c3
    try clear c3b0
    try clear c3b1
    try clear c4
    try clear c4b0
    try clear c4b1
    try clear c5
    try clear c5b0
    try clear c5b1
    try clear p6
    try clear q6
    try clear hx6
    try clear qi6
    try clear c7
    try clear c7b0
    try clear c7b1
    try clear c8
    try clear c9
    try clear c9b0
    try clear c10
    try clear c10b0
    try clear p11
    try clear q11
    try clear hx11
    try clear p11
    try clear p6
    try clear q11
    try clear q6
    obtain ⟨kq, x23_1, rfl, HA, HJ1, ⟨mc1, rfl⟩⟩ := hcut
    cases kq with
    | zero => exact absurd HA.out (by simp [sallyportref06_label.j0])
    | succ kj1 =>
      have H := HA.out
      clear HA
      simp only [sallyportref06_label.j0] at H
      by_cases c12 : x23_1 = true
      · subst c12
        have H1 : (some false) = some r := by rw [if_pos rfl] at H; exact H
        clear H
        have H := H1
        clear H1
        obtain rfl := Option.some.inj H
        go_wp2
        go_ret
        exact ⟨by first | rfl | (simp; done) | (simp [*]; done), by repeat (first | exact Drawn0.refl _ | apply Drawn0.step)⟩
      · replace c12 := Bool.eq_false_iff.mpr c12
        subst c12
        have H1 : (sallyportref06_label.l0 kj1 a0 0) = some r := by rw [if_neg (show ¬ (false = true) by decide)] at H; exact H
        clear H
        have H := H1
        clear H1
        have H' := Aside0.mk H
        clear H
        go_wp2
        go_loopg [3] kj1 (fun kq v3 w' => ∃ (x3_2 : Int), v3 = .int .i64 x3_2 ∧ Aside0 (sallyportref06_label.l0 kq a0 x3_2 = some r) ∧ Aside0 (kq ≤ kj1) ∧ Drawn0 w w')
        case atStart => exact ⟨(0), (by first | rfl | (simp; done) | (simp [*]; done)), H', ⟨Nat.le_refl _⟩, by repeat (first | exact Drawn0.refl _ | apply Drawn0.step)⟩
        case round =>
          clear H'
          try clear c1
          try clear p1
          try clear q1
          try clear hx1
          try clear p2
          try clear c3
          try clear c3b0
          try clear c3b1
          try clear c4
          try clear c4b0
          try clear c4b1
          try clear c5
          try clear c5b0
          try clear c5b1
          try clear p6
          try clear q6
          try clear hx6
          try clear qi6
          try clear c7
          try clear c7b0
          try clear c7b1
          try clear c8
          try clear c9
          try clear c9b0
          try clear c10
          try clear c10b0
          try clear p11
          try clear q11
          try clear hx11
          try clear c12
          try clear p1
          try clear p11
          try clear p2
          try clear p6
          try clear q1
          try clear q11
          try clear q6
          obtain ⟨x3_2, rfl, HA, HK2, ⟨m2, rfl⟩⟩ := hrel
          cases gk with
          | zero => exact absurd HA.out (by simp [sallyportref06_label.l0])
          | succ k2 =>
            have H := HA.out
            clear HA
            simp only [sallyportref06_label.l0] at H
            by_cases c13 : x3_2 < (a0.size : Int)
            · rw [if_pos c13] at H
              have c13b0 : decide (x3_2 < (a0.size : Int)) = true := decide_eq_true c13
              clear c13
              by_cases c14 : 0 ≤ x3_2
              · rw [if_pos c14] at H
                have c14b0 : decide (0 ≤ x3_2) = true := decide_eq_true c14
                clear c14
                by_cases c16 : (bt a0 x3_2) = 45
                · rw [if_pos c16] at H
                  have c16b0 : ((bt a0 x3_2) == 45) = true := beq_iff_eq.mpr c16
                  have c16b1 : ((bt a0 x3_2) != 45) = false := bne_eq_false_iff_eq.mpr c16
                  clear c16
                  have H' := Aside0.mk H
                  clear H
                  have p15 : 0 ≤ (x3_2 : Int) := of_decide_eq_true (by first | (with_reducible assumption) | assumption)
                  have q15 : x3_2 < (a0.size : Int) := of_decide_eq_true (by first | (with_reducible assumption) | assumption)
                  have hx15 := bt_at a0 x3_2
                  replace p15 := eq_true p15
                  replace q15 := eq_true q15
                  go_wp2
                  go_roundg k2
                  case measure => have := HJ1.out; have := HK2.out; omega
                  case rel => exact ⟨(wrap64 (x3_2 + 1)), (by first | rfl | (simp; done) | (simp [*]; done)), H', ⟨by have := HJ1.out; have := HK2.out; omega⟩, by repeat (first | exact Drawn0.refl _ | apply Drawn0.step)⟩
                · rw [if_neg c16] at H
                  have c16b0 : ((bt a0 x3_2) == 45) = false := beq_eq_false_iff_ne.mpr c16
                  have c16b1 : ((bt a0 x3_2) != 45) = true := bne_iff_ne.mpr c16
                  replace H := Option.bind_eq_some_iff.mp H
                  obtain ⟨t126, A180, H⟩ := H
                  replace H : (if t126 = true then (sallyportref06_label.l0 k2 a0 (wrap64 (x3_2 + 1))) else (if (bt a0 x3_2) < 97 then (some false) else (if (bt a0 x3_2) > 122 then (some false) else (sallyportref06_label.l0 k2 a0 (wrap64 (x3_2 + 1)))))) = some r := H
                  have A18 := Aside0.mk A180
                  clear A180
                  by_cases c19 : t126 = true
                  · subst c19
                    have H1 : (sallyportref06_label.l0 k2 a0 (wrap64 (x3_2 + 1))) = some r := by rw [if_pos rfl] at H; exact H
                    clear H
                    have H := H1
                    clear H1
                    have H' := Aside0.mk H
                    clear H
                    have p15 : 0 ≤ (x3_2 : Int) := of_decide_eq_true (by first | (with_reducible assumption) | assumption)
                    have q15 : x3_2 < (a0.size : Int) := of_decide_eq_true (by first | (with_reducible assumption) | assumption)
                    have hx15 := bt_at a0 x3_2
                    replace p15 := eq_true p15
                    replace q15 := eq_true q15
                    have p17 : 0 ≤ (x3_2 : Int) := of_decide_eq_true (by first | (with_reducible assumption) | assumption)
                    have q17 : x3_2 < (a0.size : Int) := of_decide_eq_true (by first | (with_reducible assumption) | assumption)
                    have hx17 := bt_at a0 x3_2
                    replace p17 := eq_true p17
                    replace q17 := eq_true q17
                    go_wp2_with (first | (go_at_call 84; (with_reducible refine (sallyportref06_digit.calls (bt a0 x3_2) true _ A18.out).mono ?_); rintro e w' ⟨rfl, ⟨nd, rfl⟩⟩))
                    go_roundg k2
                    case measure => have := HJ1.out; have := HK2.out; omega
                    case rel => exact ⟨(wrap64 (x3_2 + 1)), (by first | rfl | (simp; done) | (simp [*]; done)), H', ⟨by have := HJ1.out; have := HK2.out; omega⟩, by repeat (first | exact Drawn0.refl _ | apply Drawn0.step)⟩
                  · replace c19 := Bool.eq_false_iff.mpr c19
                    subst c19
                    have H1 : (if (bt a0 x3_2) < 97 then (some false) else (if (bt a0 x3_2) > 122 then (some false) else (sallyportref06_label.l0 k2 a0 (wrap64 (x3_2 + 1))))) = some r := by rw [if_neg (show ¬ (false = true) by decide)] at H; exact H
                    clear H
                    have H := H1
                    clear H1
                    by_cases c21 : (bt a0 x3_2) < 97
                    · rw [if_pos c21] at H
                      have c21b0 : decide ((bt a0 x3_2) < 97) = true := decide_eq_true c21
                      clear c21
                      obtain rfl := Option.some.inj H
                      have p15 : 0 ≤ (x3_2 : Int) := of_decide_eq_true (by first | (with_reducible assumption) | assumption)
                      have q15 : x3_2 < (a0.size : Int) := of_decide_eq_true (by first | (with_reducible assumption) | assumption)
                      have hx15 := bt_at a0 x3_2
                      replace p15 := eq_true p15
                      replace q15 := eq_true q15
                      have p17 : 0 ≤ (x3_2 : Int) := of_decide_eq_true (by first | (with_reducible assumption) | assumption)
                      have q17 : x3_2 < (a0.size : Int) := of_decide_eq_true (by first | (with_reducible assumption) | assumption)
                      have hx17 := bt_at a0 x3_2
                      replace p17 := eq_true p17
                      replace q17 := eq_true q17
                      go_wp2_with (first | (go_at_call 84; (with_reducible refine (sallyportref06_digit.calls (bt a0 x3_2) false _ A18.out).mono ?_); rintro e w' ⟨rfl, ⟨nd, rfl⟩⟩; have p20 : 0 ≤ (x3_2 : Int) := of_decide_eq_true (by first | (with_reducible assumption) | assumption); have q20 : x3_2 < (a0.size : Int) := of_decide_eq_true (by first | (with_reducible assumption) | assumption); have hx20 := bt_at a0 x3_2; replace p20 := eq_true p20; replace q20 := eq_true q20))
                      go_ret
                      exact ⟨by first | rfl | (simp; done) | (simp [*]; done), by repeat (first | exact Drawn0.refl _ | apply Drawn0.step)⟩
                    · rw [if_neg c21] at H
                      have c21b0 : decide ((bt a0 x3_2) < 97) = false := decide_eq_false c21
                      clear c21
                      by_cases c23 : (bt a0 x3_2) > 122
                      · rw [if_pos c23] at H
                        have c23b0 : decide (122 < (bt a0 x3_2)) = true := decide_eq_true c23
                        clear c23
                        obtain rfl := Option.some.inj H
                        have p15 : 0 ≤ (x3_2 : Int) := of_decide_eq_true (by first | (with_reducible assumption) | assumption)
                        have q15 : x3_2 < (a0.size : Int) := of_decide_eq_true (by first | (with_reducible assumption) | assumption)
                        have hx15 := bt_at a0 x3_2
                        replace p15 := eq_true p15
                        replace q15 := eq_true q15
                        have p17 : 0 ≤ (x3_2 : Int) := of_decide_eq_true (by first | (with_reducible assumption) | assumption)
                        have q17 : x3_2 < (a0.size : Int) := of_decide_eq_true (by first | (with_reducible assumption) | assumption)
                        have hx17 := bt_at a0 x3_2
                        replace p17 := eq_true p17
                        replace q17 := eq_true q17
                        go_wp2_with (first | (go_at_call 84; (with_reducible refine (sallyportref06_digit.calls (bt a0 x3_2) false _ A18.out).mono ?_); rintro e w' ⟨rfl, ⟨nd, rfl⟩⟩; have p20 : 0 ≤ (x3_2 : Int) := of_decide_eq_true (by first | (with_reducible assumption) | assumption); have q20 : x3_2 < (a0.size : Int) := of_decide_eq_true (by first | (with_reducible assumption) | assumption); have hx20 := bt_at a0 x3_2; replace p20 := eq_true p20; replace q20 := eq_true q20; have p22 : 0 ≤ (x3_2 : Int) := of_decide_eq_true (by first | (with_reducible assumption) | assumption); have q22 : x3_2 < (a0.size : Int) := of_decide_eq_true (by first | (with_reducible assumption) | assumption); have hx22 := bt_at a0 x3_2; replace p22 := eq_true p22; replace q22 := eq_true q22))
                        go_ret
                        exact ⟨by first | rfl | (simp; done) | (simp [*]; done), by repeat (first | exact Drawn0.refl _ | apply Drawn0.step)⟩
                      · rw [if_neg c23] at H
                        have c23b0 : decide (122 < (bt a0 x3_2)) = false := decide_eq_false c23
                        clear c23
                        have H' := Aside0.mk H
                        clear H
                        have p15 : 0 ≤ (x3_2 : Int) := of_decide_eq_true (by first | (with_reducible assumption) | assumption)
                        have q15 : x3_2 < (a0.size : Int) := of_decide_eq_true (by first | (with_reducible assumption) | assumption)
                        have hx15 := bt_at a0 x3_2
                        replace p15 := eq_true p15
                        replace q15 := eq_true q15
                        have p17 : 0 ≤ (x3_2 : Int) := of_decide_eq_true (by first | (with_reducible assumption) | assumption)
                        have q17 : x3_2 < (a0.size : Int) := of_decide_eq_true (by first | (with_reducible assumption) | assumption)
                        have hx17 := bt_at a0 x3_2
                        replace p17 := eq_true p17
                        replace q17 := eq_true q17
                        go_wp2_with (first | (go_at_call 84; (with_reducible refine (sallyportref06_digit.calls (bt a0 x3_2) false _ A18.out).mono ?_); rintro e w' ⟨rfl, ⟨nd, rfl⟩⟩; have p20 : 0 ≤ (x3_2 : Int) := of_decide_eq_true (by first | (with_reducible assumption) | assumption); have q20 : x3_2 < (a0.size : Int) := of_decide_eq_true (by first | (with_reducible assumption) | assumption); have hx20 := bt_at a0 x3_2; replace p20 := eq_true p20; replace q20 := eq_true q20; have p22 : 0 ≤ (x3_2 : Int) := of_decide_eq_true (by first | (with_reducible assumption) | assumption); have q22 : x3_2 < (a0.size : Int) := of_decide_eq_true (by first | (with_reducible assumption) | assumption); have hx22 := bt_at a0 x3_2; replace p22 := eq_true p22; replace q22 := eq_true q22))
                        go_roundg k2
                        case measure => have := HJ1.out; have := HK2.out; omega
                        case rel => exact ⟨(wrap64 (x3_2 + 1)), (by first | rfl | (simp; done) | (simp [*]; done)), H', ⟨by have := HJ1.out; have := HK2.out; omega⟩, by repeat (first | exact Drawn0.refl _ | apply Drawn0.step)⟩
              · rw [if_neg c14] at H
                exact absurd H (by simp)
            · rw [if_neg c13] at H
              have c13b0 : decide (x3_2 < (a0.size : Int)) = false := decide_eq_false c13
              clear c13
              obtain rfl := Option.some.inj H
              go_wp2
              go_ret
              exact ⟨by first | rfl | (simp; done) | (simp [*]; done), by repeat (first | exact Drawn0.refl _ | apply Drawn0.step)⟩
end Go.Proofs.YteondnhokgmakaaGreatDoor.XR
