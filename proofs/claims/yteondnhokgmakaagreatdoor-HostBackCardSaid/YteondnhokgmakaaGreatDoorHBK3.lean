/- What the cards of this seat rest on: the walks and plain laws, part 3. -/
import Derived.Test.YteondnhokgmakaaGreatDoorHBK2
import Derived.Deep.RegionWith
import Derived.Deep.LoopGhost
import Derived.WalkMore
import Derived.Test.YteondnhokgmakaaGreatDoorProg
import Derived.Below
import Derived.Deep.Draws
import Derived.Deep.AppendLies
import Derived.Maps.AppendAt
import Derived.OwnWalk
import Derived.Laws.BytesArg
import Derived.Laws.MakeOwn
import Derived.Laws.OwnMore
import Derived.Deep.OwnRows
import Derived.Tactics
import Derived.Lib.ConvBytes
import Derived.Laws.Slices
import Derived.WalkKit
import Derived.KernelRfl
import Derived.RowKit3
import Derived.Deep.QuietTactic
import Derived.BigQuiet
import Derived.WideLaws
import Derived.Deep.DeepCutAuto
import Derived.Deep.CutBlock
import Derived.Deep.RegionHeld3
import Derived.Laws.Rows
import Derived.Lib.AppendStr
import Derived.ArgAppend
import Derived.Laws.IdiomCopy
import Derived.OrdersHeld
import Derived.Laws.BitsLemmas
import Derived.RowKit
import Derived.Test.YteondnhokgmakaaGreatDoorHBK1
import Derived.Lib.SlBytesRow


namespace Go.Proofs.YteondnhokgmakaaGreatDoor.XC
open Go.RowKit Go.Proofs.YteondnhokgmakaaGreatDoorW.PrintWords Go.Proofs.YteondnhokgmakaaGreatDoorW.PrintLast Go.Proofs.YteondnhokgmakaaGreatDoorW.PrintMore
attribute [local go_sem] max2_int min2_int max_two min_two max_three min_three max_four min_four
set_option linter.unusedVariables false
set_option linter.unusedSimpArgs false
def policy_Check.l0 : Nat → List (S37) → Int → Int → Option (Int)
  | 0, _, _, _ => none
  | k + 1, x8, x9, x10 => if x10 < x9 then (if 0 ≤ x10 then (if x10 < (x8.length : Int) then ((policy_right.f k ((rd_T37 x8 x10).f0) ((rd_T37 x8 x10).f1.f0) ((rd_T37 x8 x10).f1.f1) ((rd_T37 x8 x10).f1.f2) ((rd_T37 x8 x10).f1.f3) ((rd_T37 x8 x10).f2) ((rd_T37 x8 x10).f3) ((rd_T37 x8 x10).f4) ((rd_T37 x8 x10).f5)).bind fun t107 => (if t107 = true then (policy_Check.l0 k x8 x9 (wrap64 (x10 + 1))) else (some 120))) else (none)) else (none)) else (some 0)
def policy_Check.f (k : Nat) (l0 : List (S37)) : Option (Int) := if (l0.length : Int) > 64 then (some 3) else (policy_Check.l0 k l0 (l0.length : Int) 0)
theorem policy_Check.mono_l : ∀ k, (∀ y0 y1 y2, LeO (policy_Check.l0 k y0 y1 y2) (policy_Check.l0 (k + 1) y0 y1 y2))
  | 0 => fun _ _ _ r h => by simp [policy_Check.l0] at h
  | k + 1 => by
    have ih0 := policy_Check.mono_l k
    · intro y0 y1 y2
      unfold policy_Check.l0
      repeat' first
      | (with_reducible exact ih0 _ _ _)
      | (with_reducible exact policy_right.mono _ _ _ _ _ _ _ _ _ _)
      | (with_reducible exact LeO.refl _)
      | (with_reducible exact LeO.none _)
      | (with_reducible refine LeO.ite ?_ ?_)
      | (with_reducible refine LeO.bind ?_ (fun _ => ?_))
      | exact ih0 _ _ _
      | exact policy_right.mono _ _ _ _ _ _ _ _ _ _
      | exact LeO.none _
      | refine LeO.ite ?_ ?_
      | refine LeO.bind ?_ (fun _ => ?_)
theorem policy_Check.mono : ∀ a0 k, LeO (policy_Check.f k a0) (policy_Check.f (k + 1) a0) := by
  intro a0 k
  have ih0 := policy_Check.mono_l k
  unfold policy_Check.f
  repeat' first
      | (with_reducible exact ih0 _ _ _)
      | (with_reducible exact policy_right.mono _ _ _ _ _ _ _ _ _ _)
      | (with_reducible exact LeO.refl _)
      | (with_reducible exact LeO.none _)
      | (with_reducible refine LeO.ite ?_ ?_)
      | (with_reducible refine LeO.bind ?_ (fun _ => ?_))
      | exact ih0 _ _ _
      | exact policy_right.mono _ _ _ _ _ _ _ _ _ _
      | exact LeO.none _
      | refine LeO.ite ?_ ?_
      | refine LeO.bind ?_ (fun _ => ?_)
set_option maxHeartbeats 8000000 in
set_option maxRecDepth 100000 in
theorem policy_Check.calls (k : Nat) (A0 : Option Addr) (c0 : Nat) (l0 : List (S37)) (r : Int) (w : World) (hr0 : Kd.C k37 w A0 l0.length l0) (hc0 : l0.length ≤ c0) (hS_ : StdW w) (h : policy_Check.f k l0 = some r) :
    Calls Tryz.prog 11 #[.slice A0 l0.length c0] w fun e w' => e = .returned (.int .i64 r) ∧ Below w.heap.size w w' := by
  have hu37 := Tryz.underlying37
  have HR0 := Aside0.mk hr0
  have HC0 := Aside0.mk hc0
  clear hr0 hc0
  have HS_ := Aside0.mk hS_
  clear hS_
  have HB := Aside0.mk (Below.refl w.heap.size w)
  have H : (if (l0.length : Int) > 64 then (some 3) else (policy_Check.l0 k l0 (l0.length : Int) 0)) = some r := h
  clear h
  by_cases c2 : (l0.length : Int) > 64
  · rw [if_pos c2] at H
    have c2b0 : decide (64 < (l0.length : Int)) = true := decide_eq_true c2
    have c2b1 : decide (64 < l0.length) = true := decide_eq_true (by omega)
    clear c2
    obtain rfl := Option.some.inj H
    go_enter Tryz.func11, Tryz.ntmps11
    go_wp2
    go_ret
    exact ⟨by first | rfl | (simp [errW_none, errW_some] <;> rfl) | (simp [*, errW_none, errW_some] <;> rfl), by repeat (first | (with_reducible first | exact HB.out | apply below_alloc | apply pw_below_drewN | apply below_drew1) | exact HB.out)⟩
  · rw [if_neg c2] at H
    have c2b0 : decide (64 < (l0.length : Int)) = false := decide_eq_false c2
    have c2b1 : decide (64 < l0.length) = false := decide_eq_false (by omega)
    clear c2
    have H' := Aside0.mk H
    clear H
    go_enter Tryz.func11, Tryz.ntmps11
    go_wp2
    go_loopg [10] k (fun kq v10 w' => ∃ (x10_1 : Int), v10 = .int .i64 x10_1 ∧ Aside0 (policy_Check.l0 kq l0 (l0.length : Int) x10_1 = some r) ∧ Aside0 (kq ≤ k) ∧ Aside0 (Below w.heap.size w w'))
    case atStart => exact ⟨(0), (by first | rfl | (simp; done) | (simp [*]; done)), H', ⟨Nat.le_refl _⟩, ⟨by repeat (first | (with_reducible first | exact HB.out | apply below_alloc | apply pw_below_drewN | apply below_drew1) | exact HB.out)⟩⟩
    case round =>
      clear H'
      try clear c1
      try clear c2
      try clear c2b0
      try clear c2b1
      try clear p2
      obtain ⟨x10_1, rfl, HA, HK1, HB⟩ := hrel
      cases gk with
      | zero => exact absurd HA.out (by simp [policy_Check.l0])
      | succ k1 =>
        have H := HA.out
        clear HA
        simp only [policy_Check.l0] at H
        by_cases c3 : x10_1 < (l0.length : Int)
        · rw [if_pos c3] at H
          have c3b0 : decide (x10_1 < (l0.length : Int)) = true := decide_eq_true c3
          clear c3
          by_cases c4 : 0 ≤ x10_1
          · rw [if_pos c4] at H
            have c4b0 : decide (0 ≤ x10_1) = true := decide_eq_true c4
            clear c4
            by_cases c5 : x10_1 < (l0.length : Int)
            · rw [if_pos c5] at H
              have c5b0 : decide (x10_1 < (l0.length : Int)) = true := decide_eq_true c5
              clear c5
              replace H := Option.bind_eq_some_iff.mp H
              obtain ⟨t107, A60, H⟩ := H
              replace H : (if t107 = true then (policy_Check.l0 k1 l0 (l0.length : Int) (wrap64 (x10_1 + 1))) else (some 120)) = some r := H
              have A6 := Aside0.mk A60
              clear A60
              by_cases c7 : t107 = true
              · subst c7
                have H1 : (policy_Check.l0 k1 l0 (l0.length : Int) (wrap64 (x10_1 + 1))) = some r := by rw [if_pos rfl] at H; exact H
                clear H
                have H := H1
                clear H1
                have H' := Aside0.mk H
                clear H
                have p105 : 0 ≤ (x10_1 : Int) := of_decide_eq_true (by first | (with_reducible assumption) | assumption)
                have q105 : x10_1 < (l0.length : Int) := of_decide_eq_true (by first | (with_reducible assumption) | assumption)
                obtain ⟨ad105, e105, hx105_0, hx105_1, hx105_2, hx105_3, hx105_4, hx105_5, hx105_6, hx105_7, hx105_8⟩ := at_T37 HR0.out x10_1 p105 q105
                cases e105
                replace hx105_0 := (HB.out.cell (World.block_lt_of_cell? w _ hx105_0)).trans hx105_0
                replace hx105_1 := (HB.out.cell (World.block_lt_of_cell? w _ hx105_1)).trans hx105_1
                replace hx105_2 := (HB.out.cell (World.block_lt_of_cell? w _ hx105_2)).trans hx105_2
                replace hx105_3 := (HB.out.cell (World.block_lt_of_cell? w _ hx105_3)).trans hx105_3
                replace hx105_4 := (HB.out.cell (World.block_lt_of_cell? w _ hx105_4)).trans hx105_4
                replace hx105_5 := (HB.out.cell (World.block_lt_of_cell? w _ hx105_5)).trans hx105_5
                replace hx105_6 := (HB.out.cell (World.block_lt_of_cell? w _ hx105_6)).trans hx105_6
                replace hx105_7 := (HB.out.cell (World.block_lt_of_cell? w _ hx105_7)).trans hx105_7
                replace hx105_8 := (HB.out.cell (World.block_lt_of_cell? w _ hx105_8)).trans hx105_8
                replace p105 := eq_true p105
                replace q105 := eq_true q105
                go_wp2_with (first | ((with_reducible refine gate_dst (N := 4) rfl ?_); refine box_event ?hg (N := 4) ?hd (cs := #[.bool false, .int .u8 0, .int .u8 0, .int .u8 0, .int .u8 0, .int .i64 0, .string (⟨#[]⟩ : ByteArray), .int .i64 0, .int .i64 0]) (t := 37) ?hr ?_; (case hd => rfl); (case hg => rfl); (case hr => first | (go_simp; done) | (go_simp; rfl)); intro gb106 hg w8 hbox hb; have n0_ := Aside0.mk (below_step (by repeat (first | (with_reducible first | exact HB.out | apply below_alloc | apply pw_below_drewN | apply below_drew1) | exact HB.out)) hb); have n1_ := Aside0.mk (hbox); have n2_ := Aside0.mk ((by rw [hg]; exact (below_size (by repeat (first | (with_reducible first | exact HB.out | apply below_alloc | apply pw_below_drewN | apply below_drew1) | exact HB.out))) : w.heap.size ≤ gb106)); have n3_ := Aside0.mk ((by rw [hg]; exact (below_size (by repeat (first | (with_reducible first | exact HB.out | apply below_alloc | apply pw_below_drewN | apply below_drew1) | exact HB.out))) : w.heap.size ≤ gb106)); clear HB; have HB := n0_; have BK106 := n1_; have GW106 := n2_; have GE106 := n3_; clear n0_ n1_ n2_ n3_; clear hb hbox hg; have hcz9_0 : w8.cell? ⟨gb106, 0, none⟩ = some (.bool false) := (blk_cell BK106.out 0).trans rfl; have hcz9_1 : w8.cell? ⟨gb106, 1, none⟩ = some (.int .u8 0) := (blk_cell BK106.out 1).trans rfl; have hcz9_2 : w8.cell? ⟨gb106, 2, none⟩ = some (.int .u8 0) := (blk_cell BK106.out 2).trans rfl; have hcz9_3 : w8.cell? ⟨gb106, 3, none⟩ = some (.int .u8 0) := (blk_cell BK106.out 3).trans rfl; have hcz9_4 : w8.cell? ⟨gb106, 4, none⟩ = some (.int .u8 0) := (blk_cell BK106.out 4).trans rfl; have hcz9_5 : w8.cell? ⟨gb106, 5, none⟩ = some (.int .i64 0) := (blk_cell BK106.out 5).trans rfl; have hcz9_6 : w8.cell? ⟨gb106, 6, none⟩ = some (.string (⟨#[]⟩ : ByteArray)) := (blk_cell BK106.out 6).trans rfl; have hcz9_7 : w8.cell? ⟨gb106, 7, none⟩ = some (.int .i64 0) := (blk_cell BK106.out 7).trans rfl; have hcz9_8 : w8.cell? ⟨gb106, 8, none⟩ = some (.int .i64 0) := (blk_cell BK106.out 8).trans rfl; have hfz9_0 := blk_frozen BK106.out 0; have hfz9_1 := blk_frozen BK106.out 1; have hfz9_2 := blk_frozen BK106.out 2; have hfz9_3 := blk_frozen BK106.out 3; have hfz9_4 := blk_frozen BK106.out 4; have hfz9_5 := blk_frozen BK106.out 5; have hfz9_6 := blk_frozen BK106.out 6; have hfz9_7 := blk_frozen BK106.out 7; have hfz9_8 := blk_frozen BK106.out 8) | ((with_reducible refine gate_callee (f := 38) rfl ?_); refine goesL_ (some 15) rfl rfl Tryz.func38 (by kernel_rfl) rfl #[.agg #[.bool ((rd_T37 l0 x10_1).f0), .int .u8 ((rd_T37 l0 x10_1).f1.f0), .int .u8 ((rd_T37 l0 x10_1).f1.f1), .int .u8 ((rd_T37 l0 x10_1).f1.f2), .int .u8 ((rd_T37 l0 x10_1).f1.f3), .int .i64 ((rd_T37 l0 x10_1).f2), .string ((rd_T37 l0 x10_1).f3), .int .i64 ((rd_T37 l0 x10_1).f4), .int .i64 ((rd_T37 l0 x10_1).f5)]] rfl (by (try simp only [List.map_toArray, List.map_cons, List.map_nil]); first | done | rfl | (simp only [List.length_drop, List.length_take]; rfl)) ?_; (with_reducible refine (policy_right.calls k1 ((rd_T37 l0 x10_1).f0) ((rd_T37 l0 x10_1).f1.f0) ((rd_T37 l0 x10_1).f1.f1) ((rd_T37 l0 x10_1).f1.f2) ((rd_T37 l0 x10_1).f1.f3) ((rd_T37 l0 x10_1).f2) ((rd_T37 l0 x10_1).f3) ((rd_T37 l0 x10_1).f4) ((rd_T37 l0 x10_1).f5) true _ ?side1 A6.out).mono ?_); (case side1 => exact StdW.below HS_.out (by repeat (first | (with_reducible first | exact HB.out | apply below_alloc | apply pw_below_drewN | apply below_drew1 | refine below_set ?_ GE106.out) | exact HB.out))); rintro e w10 ⟨rfl, hb⟩; refine ⟨_, rfl, ?_⟩; have n0_ := Aside0.mk (blk_below (g := gb106) (o := .cells #[.bool ((rd_T37 l0 x10_1).f0), .int .u8 ((rd_T37 l0 x10_1).f1.f0), .int .u8 ((rd_T37 l0 x10_1).f1.f1), .int .u8 ((rd_T37 l0 x10_1).f1.f2), .int .u8 ((rd_T37 l0 x10_1).f1.f3), .int .i64 ((rd_T37 l0 x10_1).f2), .string ((rd_T37 l0 x10_1).f3), .int .i64 ((rd_T37 l0 x10_1).f4), .int .i64 ((rd_T37 l0 x10_1).f5)] 37 (0, 0)) (by (with_reducible repeat (first | refine blk_drewN ?_ _ | refine blk_drew ?_ | refine blk_alloc ?_ _)); refine blk_put (cs := #[.bool ((rd_T37 l0 x10_1).f0), .int .u8 ((rd_T37 l0 x10_1).f1.f0), .int .u8 ((rd_T37 l0 x10_1).f1.f1), .int .u8 ((rd_T37 l0 x10_1).f1.f2), .int .u8 ((rd_T37 l0 x10_1).f1.f3), .int .i64 ((rd_T37 l0 x10_1).f2), .string ((rd_T37 l0 x10_1).f3), .int .i64 ((rd_T37 l0 x10_1).f4), .int .i64 0]) ?_ 8 _ rfl; (with_reducible repeat (first | refine blk_drewN ?_ _ | refine blk_drew ?_ | refine blk_alloc ?_ _)); refine blk_put (cs := #[.bool ((rd_T37 l0 x10_1).f0), .int .u8 ((rd_T37 l0 x10_1).f1.f0), .int .u8 ((rd_T37 l0 x10_1).f1.f1), .int .u8 ((rd_T37 l0 x10_1).f1.f2), .int .u8 ((rd_T37 l0 x10_1).f1.f3), .int .i64 ((rd_T37 l0 x10_1).f2), .string ((rd_T37 l0 x10_1).f3), .int .i64 0, .int .i64 0]) ?_ 7 _ rfl; (with_reducible repeat (first | refine blk_drewN ?_ _ | refine blk_drew ?_ | refine blk_alloc ?_ _)); refine blk_put (cs := #[.bool ((rd_T37 l0 x10_1).f0), .int .u8 ((rd_T37 l0 x10_1).f1.f0), .int .u8 ((rd_T37 l0 x10_1).f1.f1), .int .u8 ((rd_T37 l0 x10_1).f1.f2), .int .u8 ((rd_T37 l0 x10_1).f1.f3), .int .i64 ((rd_T37 l0 x10_1).f2), .string (⟨#[]⟩ : ByteArray), .int .i64 0, .int .i64 0]) ?_ 6 _ rfl; (with_reducible repeat (first | refine blk_drewN ?_ _ | refine blk_drew ?_ | refine blk_alloc ?_ _)); refine blk_put (cs := #[.bool ((rd_T37 l0 x10_1).f0), .int .u8 ((rd_T37 l0 x10_1).f1.f0), .int .u8 ((rd_T37 l0 x10_1).f1.f1), .int .u8 ((rd_T37 l0 x10_1).f1.f2), .int .u8 ((rd_T37 l0 x10_1).f1.f3), .int .i64 0, .string (⟨#[]⟩ : ByteArray), .int .i64 0, .int .i64 0]) ?_ 5 _ rfl; (with_reducible repeat (first | refine blk_drewN ?_ _ | refine blk_drew ?_ | refine blk_alloc ?_ _)); refine blk_put (cs := #[.bool ((rd_T37 l0 x10_1).f0), .int .u8 ((rd_T37 l0 x10_1).f1.f0), .int .u8 ((rd_T37 l0 x10_1).f1.f1), .int .u8 ((rd_T37 l0 x10_1).f1.f2), .int .u8 0, .int .i64 0, .string (⟨#[]⟩ : ByteArray), .int .i64 0, .int .i64 0]) ?_ 4 _ rfl; (with_reducible repeat (first | refine blk_drewN ?_ _ | refine blk_drew ?_ | refine blk_alloc ?_ _)); refine blk_put (cs := #[.bool ((rd_T37 l0 x10_1).f0), .int .u8 ((rd_T37 l0 x10_1).f1.f0), .int .u8 ((rd_T37 l0 x10_1).f1.f1), .int .u8 0, .int .u8 0, .int .i64 0, .string (⟨#[]⟩ : ByteArray), .int .i64 0, .int .i64 0]) ?_ 3 _ rfl; (with_reducible repeat (first | refine blk_drewN ?_ _ | refine blk_drew ?_ | refine blk_alloc ?_ _)); refine blk_put (cs := #[.bool ((rd_T37 l0 x10_1).f0), .int .u8 ((rd_T37 l0 x10_1).f1.f0), .int .u8 0, .int .u8 0, .int .u8 0, .int .i64 0, .string (⟨#[]⟩ : ByteArray), .int .i64 0, .int .i64 0]) ?_ 2 _ rfl; (with_reducible repeat (first | refine blk_drewN ?_ _ | refine blk_drew ?_ | refine blk_alloc ?_ _)); refine blk_put (cs := #[.bool ((rd_T37 l0 x10_1).f0), .int .u8 0, .int .u8 0, .int .u8 0, .int .u8 0, .int .i64 0, .string (⟨#[]⟩ : ByteArray), .int .i64 0, .int .i64 0]) ?_ 1 _ rfl; (with_reducible repeat (first | refine blk_drewN ?_ _ | refine blk_drew ?_ | refine blk_alloc ?_ _)); refine blk_put (cs := #[.bool false, .int .u8 0, .int .u8 0, .int .u8 0, .int .u8 0, .int .i64 0, .string (⟨#[]⟩ : ByteArray), .int .i64 0, .int .i64 0]) ?_ 0 _ rfl; (with_reducible repeat (first | refine blk_drewN ?_ _ | refine blk_drew ?_ | refine blk_alloc ?_ _)); exact BK106.out) hb); have n1_ := Aside0.mk (below_step (by repeat (first | (with_reducible first | exact HB.out | apply below_alloc | apply pw_below_drewN | apply below_drew1 | refine below_set ?_ GE106.out) | exact HB.out)) hb); clear BK106; clear HB; have BK106 := n0_; have HB := n1_; clear n0_ n1_; (try clear hb); (try clear hb2); (try clear hk); (try clear hi)))
                go_roundg k1
                case measure => have := HK1.out; omega
                case rel => exact ⟨(wrap64 (x10_1 + 1)), (by first | rfl | (simp; done) | (simp [*]; done)), H', ⟨by have := HK1.out; omega⟩, ⟨by repeat (first | (with_reducible first | exact HB.out | apply below_alloc | apply pw_below_drewN | apply below_drew1 | refine below_set ?_ GE106.out) | exact HB.out)⟩⟩
              · replace c7 := Bool.eq_false_iff.mpr c7
                subst c7
                have H1 : (some 120) = some r := by rw [if_neg (show ¬ (false = true) by decide)] at H; exact H
                clear H
                have H := H1
                clear H1
                obtain rfl := Option.some.inj H
                have p105 : 0 ≤ (x10_1 : Int) := of_decide_eq_true (by first | (with_reducible assumption) | assumption)
                have q105 : x10_1 < (l0.length : Int) := of_decide_eq_true (by first | (with_reducible assumption) | assumption)
                obtain ⟨ad105, e105, hx105_0, hx105_1, hx105_2, hx105_3, hx105_4, hx105_5, hx105_6, hx105_7, hx105_8⟩ := at_T37 HR0.out x10_1 p105 q105
                cases e105
                replace hx105_0 := (HB.out.cell (World.block_lt_of_cell? w _ hx105_0)).trans hx105_0
                replace hx105_1 := (HB.out.cell (World.block_lt_of_cell? w _ hx105_1)).trans hx105_1
                replace hx105_2 := (HB.out.cell (World.block_lt_of_cell? w _ hx105_2)).trans hx105_2
                replace hx105_3 := (HB.out.cell (World.block_lt_of_cell? w _ hx105_3)).trans hx105_3
                replace hx105_4 := (HB.out.cell (World.block_lt_of_cell? w _ hx105_4)).trans hx105_4
                replace hx105_5 := (HB.out.cell (World.block_lt_of_cell? w _ hx105_5)).trans hx105_5
                replace hx105_6 := (HB.out.cell (World.block_lt_of_cell? w _ hx105_6)).trans hx105_6
                replace hx105_7 := (HB.out.cell (World.block_lt_of_cell? w _ hx105_7)).trans hx105_7
                replace hx105_8 := (HB.out.cell (World.block_lt_of_cell? w _ hx105_8)).trans hx105_8
                replace p105 := eq_true p105
                replace q105 := eq_true q105
                go_wp2_with (first | ((with_reducible refine gate_dst (N := 4) rfl ?_); refine box_event ?hg (N := 4) ?hd (cs := #[.bool false, .int .u8 0, .int .u8 0, .int .u8 0, .int .u8 0, .int .i64 0, .string (⟨#[]⟩ : ByteArray), .int .i64 0, .int .i64 0]) (t := 37) ?hr ?_; (case hd => rfl); (case hg => rfl); (case hr => first | (go_simp; done) | (go_simp; rfl)); intro gb106 hg w11 hbox hb; have n0_ := Aside0.mk (below_step (by repeat (first | (with_reducible first | exact HB.out | apply below_alloc | apply pw_below_drewN | apply below_drew1) | exact HB.out)) hb); have n1_ := Aside0.mk (hbox); have n2_ := Aside0.mk ((by rw [hg]; exact (below_size (by repeat (first | (with_reducible first | exact HB.out | apply below_alloc | apply pw_below_drewN | apply below_drew1) | exact HB.out))) : w.heap.size ≤ gb106)); have n3_ := Aside0.mk ((by rw [hg]; exact (below_size (by repeat (first | (with_reducible first | exact HB.out | apply below_alloc | apply pw_below_drewN | apply below_drew1) | exact HB.out))) : w.heap.size ≤ gb106)); clear HB; have HB := n0_; have BK106 := n1_; have GW106 := n2_; have GE106 := n3_; clear n0_ n1_ n2_ n3_; clear hb hbox hg; have hcz12_0 : w11.cell? ⟨gb106, 0, none⟩ = some (.bool false) := (blk_cell BK106.out 0).trans rfl; have hcz12_1 : w11.cell? ⟨gb106, 1, none⟩ = some (.int .u8 0) := (blk_cell BK106.out 1).trans rfl; have hcz12_2 : w11.cell? ⟨gb106, 2, none⟩ = some (.int .u8 0) := (blk_cell BK106.out 2).trans rfl; have hcz12_3 : w11.cell? ⟨gb106, 3, none⟩ = some (.int .u8 0) := (blk_cell BK106.out 3).trans rfl; have hcz12_4 : w11.cell? ⟨gb106, 4, none⟩ = some (.int .u8 0) := (blk_cell BK106.out 4).trans rfl; have hcz12_5 : w11.cell? ⟨gb106, 5, none⟩ = some (.int .i64 0) := (blk_cell BK106.out 5).trans rfl; have hcz12_6 : w11.cell? ⟨gb106, 6, none⟩ = some (.string (⟨#[]⟩ : ByteArray)) := (blk_cell BK106.out 6).trans rfl; have hcz12_7 : w11.cell? ⟨gb106, 7, none⟩ = some (.int .i64 0) := (blk_cell BK106.out 7).trans rfl; have hcz12_8 : w11.cell? ⟨gb106, 8, none⟩ = some (.int .i64 0) := (blk_cell BK106.out 8).trans rfl; have hfz12_0 := blk_frozen BK106.out 0; have hfz12_1 := blk_frozen BK106.out 1; have hfz12_2 := blk_frozen BK106.out 2; have hfz12_3 := blk_frozen BK106.out 3; have hfz12_4 := blk_frozen BK106.out 4; have hfz12_5 := blk_frozen BK106.out 5; have hfz12_6 := blk_frozen BK106.out 6; have hfz12_7 := blk_frozen BK106.out 7; have hfz12_8 := blk_frozen BK106.out 8) | ((with_reducible refine gate_callee (f := 38) rfl ?_); refine goesL_ (some 15) rfl rfl Tryz.func38 (by kernel_rfl) rfl #[.agg #[.bool ((rd_T37 l0 x10_1).f0), .int .u8 ((rd_T37 l0 x10_1).f1.f0), .int .u8 ((rd_T37 l0 x10_1).f1.f1), .int .u8 ((rd_T37 l0 x10_1).f1.f2), .int .u8 ((rd_T37 l0 x10_1).f1.f3), .int .i64 ((rd_T37 l0 x10_1).f2), .string ((rd_T37 l0 x10_1).f3), .int .i64 ((rd_T37 l0 x10_1).f4), .int .i64 ((rd_T37 l0 x10_1).f5)]] rfl (by (try simp only [List.map_toArray, List.map_cons, List.map_nil]); first | done | rfl | (simp only [List.length_drop, List.length_take]; rfl)) ?_; (with_reducible refine (policy_right.calls k1 ((rd_T37 l0 x10_1).f0) ((rd_T37 l0 x10_1).f1.f0) ((rd_T37 l0 x10_1).f1.f1) ((rd_T37 l0 x10_1).f1.f2) ((rd_T37 l0 x10_1).f1.f3) ((rd_T37 l0 x10_1).f2) ((rd_T37 l0 x10_1).f3) ((rd_T37 l0 x10_1).f4) ((rd_T37 l0 x10_1).f5) false _ ?side1 A6.out).mono ?_); (case side1 => exact StdW.below HS_.out (by repeat (first | (with_reducible first | exact HB.out | apply below_alloc | apply pw_below_drewN | apply below_drew1 | refine below_set ?_ GE106.out) | exact HB.out))); rintro e w13 ⟨rfl, hb⟩; refine ⟨_, rfl, ?_⟩; have n0_ := Aside0.mk (blk_below (g := gb106) (o := .cells #[.bool ((rd_T37 l0 x10_1).f0), .int .u8 ((rd_T37 l0 x10_1).f1.f0), .int .u8 ((rd_T37 l0 x10_1).f1.f1), .int .u8 ((rd_T37 l0 x10_1).f1.f2), .int .u8 ((rd_T37 l0 x10_1).f1.f3), .int .i64 ((rd_T37 l0 x10_1).f2), .string ((rd_T37 l0 x10_1).f3), .int .i64 ((rd_T37 l0 x10_1).f4), .int .i64 ((rd_T37 l0 x10_1).f5)] 37 (0, 0)) (by (with_reducible repeat (first | refine blk_drewN ?_ _ | refine blk_drew ?_ | refine blk_alloc ?_ _)); refine blk_put (cs := #[.bool ((rd_T37 l0 x10_1).f0), .int .u8 ((rd_T37 l0 x10_1).f1.f0), .int .u8 ((rd_T37 l0 x10_1).f1.f1), .int .u8 ((rd_T37 l0 x10_1).f1.f2), .int .u8 ((rd_T37 l0 x10_1).f1.f3), .int .i64 ((rd_T37 l0 x10_1).f2), .string ((rd_T37 l0 x10_1).f3), .int .i64 ((rd_T37 l0 x10_1).f4), .int .i64 0]) ?_ 8 _ rfl; (with_reducible repeat (first | refine blk_drewN ?_ _ | refine blk_drew ?_ | refine blk_alloc ?_ _)); refine blk_put (cs := #[.bool ((rd_T37 l0 x10_1).f0), .int .u8 ((rd_T37 l0 x10_1).f1.f0), .int .u8 ((rd_T37 l0 x10_1).f1.f1), .int .u8 ((rd_T37 l0 x10_1).f1.f2), .int .u8 ((rd_T37 l0 x10_1).f1.f3), .int .i64 ((rd_T37 l0 x10_1).f2), .string ((rd_T37 l0 x10_1).f3), .int .i64 0, .int .i64 0]) ?_ 7 _ rfl; (with_reducible repeat (first | refine blk_drewN ?_ _ | refine blk_drew ?_ | refine blk_alloc ?_ _)); refine blk_put (cs := #[.bool ((rd_T37 l0 x10_1).f0), .int .u8 ((rd_T37 l0 x10_1).f1.f0), .int .u8 ((rd_T37 l0 x10_1).f1.f1), .int .u8 ((rd_T37 l0 x10_1).f1.f2), .int .u8 ((rd_T37 l0 x10_1).f1.f3), .int .i64 ((rd_T37 l0 x10_1).f2), .string (⟨#[]⟩ : ByteArray), .int .i64 0, .int .i64 0]) ?_ 6 _ rfl; (with_reducible repeat (first | refine blk_drewN ?_ _ | refine blk_drew ?_ | refine blk_alloc ?_ _)); refine blk_put (cs := #[.bool ((rd_T37 l0 x10_1).f0), .int .u8 ((rd_T37 l0 x10_1).f1.f0), .int .u8 ((rd_T37 l0 x10_1).f1.f1), .int .u8 ((rd_T37 l0 x10_1).f1.f2), .int .u8 ((rd_T37 l0 x10_1).f1.f3), .int .i64 0, .string (⟨#[]⟩ : ByteArray), .int .i64 0, .int .i64 0]) ?_ 5 _ rfl; (with_reducible repeat (first | refine blk_drewN ?_ _ | refine blk_drew ?_ | refine blk_alloc ?_ _)); refine blk_put (cs := #[.bool ((rd_T37 l0 x10_1).f0), .int .u8 ((rd_T37 l0 x10_1).f1.f0), .int .u8 ((rd_T37 l0 x10_1).f1.f1), .int .u8 ((rd_T37 l0 x10_1).f1.f2), .int .u8 0, .int .i64 0, .string (⟨#[]⟩ : ByteArray), .int .i64 0, .int .i64 0]) ?_ 4 _ rfl; (with_reducible repeat (first | refine blk_drewN ?_ _ | refine blk_drew ?_ | refine blk_alloc ?_ _)); refine blk_put (cs := #[.bool ((rd_T37 l0 x10_1).f0), .int .u8 ((rd_T37 l0 x10_1).f1.f0), .int .u8 ((rd_T37 l0 x10_1).f1.f1), .int .u8 0, .int .u8 0, .int .i64 0, .string (⟨#[]⟩ : ByteArray), .int .i64 0, .int .i64 0]) ?_ 3 _ rfl; (with_reducible repeat (first | refine blk_drewN ?_ _ | refine blk_drew ?_ | refine blk_alloc ?_ _)); refine blk_put (cs := #[.bool ((rd_T37 l0 x10_1).f0), .int .u8 ((rd_T37 l0 x10_1).f1.f0), .int .u8 0, .int .u8 0, .int .u8 0, .int .i64 0, .string (⟨#[]⟩ : ByteArray), .int .i64 0, .int .i64 0]) ?_ 2 _ rfl; (with_reducible repeat (first | refine blk_drewN ?_ _ | refine blk_drew ?_ | refine blk_alloc ?_ _)); refine blk_put (cs := #[.bool ((rd_T37 l0 x10_1).f0), .int .u8 0, .int .u8 0, .int .u8 0, .int .u8 0, .int .i64 0, .string (⟨#[]⟩ : ByteArray), .int .i64 0, .int .i64 0]) ?_ 1 _ rfl; (with_reducible repeat (first | refine blk_drewN ?_ _ | refine blk_drew ?_ | refine blk_alloc ?_ _)); refine blk_put (cs := #[.bool false, .int .u8 0, .int .u8 0, .int .u8 0, .int .u8 0, .int .i64 0, .string (⟨#[]⟩ : ByteArray), .int .i64 0, .int .i64 0]) ?_ 0 _ rfl; (with_reducible repeat (first | refine blk_drewN ?_ _ | refine blk_drew ?_ | refine blk_alloc ?_ _)); exact BK106.out) hb); have n1_ := Aside0.mk (below_step (by repeat (first | (with_reducible first | exact HB.out | apply below_alloc | apply pw_below_drewN | apply below_drew1 | refine below_set ?_ GE106.out) | exact HB.out)) hb); clear BK106; clear HB; have BK106 := n0_; have HB := n1_; clear n0_ n1_; (try clear hb); (try clear hb2); (try clear hk); (try clear hi)))
                go_ret
                exact ⟨by first | rfl | (simp [errW_none, errW_some] <;> rfl) | (simp [*, errW_none, errW_some] <;> rfl), by repeat (first | (with_reducible first | exact HB.out | apply below_alloc | apply pw_below_drewN | apply below_drew1 | refine below_set ?_ GE106.out) | exact HB.out)⟩
            · rw [if_neg c5] at H
              exact absurd H (by simp)
          · rw [if_neg c4] at H
            exact absurd H (by simp)
        · rw [if_neg c3] at H
          have c3b0 : decide (x10_1 < (l0.length : Int)) = false := decide_eq_false c3
          clear c3
          obtain rfl := Option.some.inj H
          go_wp2
          go_ret
          exact ⟨by first | rfl | (simp [errW_none, errW_some] <;> rfl) | (simp [*, errW_none, errW_some] <;> rfl), by repeat (first | (with_reducible first | exact HB.out | apply below_alloc | apply pw_below_drewN | apply below_drew1) | exact HB.out)⟩
def host_word.f (a0_0 : Int) (a0_1 : Int) (a0_2 : Int) (a0_3 : Int) : Option (Int) := some (Go.bits .or .u32 (Go.bits .or .u32 (Go.bits .or .u32 ((((a0_0) % 4294967296) * 16777216) % 4294967296) ((((a0_1) % 4294967296) * 65536) % 4294967296)) ((((a0_2) % 4294967296) * 256) % 4294967296)) ((a0_3) % 4294967296))
set_option maxHeartbeats 8000000 in
set_option maxRecDepth 100000 in
theorem host_word.calls (a0_0 : Int) (a0_1 : Int) (a0_2 : Int) (a0_3 : Int) (r : Int) (w : World) (h : host_word.f a0_0 a0_1 a0_2 a0_3 = some r) :
    Calls Tryz.prog 52 #[.agg #[.int .u8 a0_0, .int .u8 a0_1, .int .u8 a0_2, .int .u8 a0_3]] w fun e w' => e = .returned (.int .u32 r) ∧ Below w.heap.size w w' := by
  have hu24 := Tryz.underlying24
  have HB := Aside0.mk (Below.refl w.heap.size w)
  have H : (some (Go.bits .or .u32 (Go.bits .or .u32 (Go.bits .or .u32 ((((a0_0) % 4294967296) * 16777216) % 4294967296) ((((a0_1) % 4294967296) * 65536) % 4294967296)) ((((a0_2) % 4294967296) * 256) % 4294967296)) ((a0_3) % 4294967296))) = some r := h
  clear h
  obtain rfl := Option.some.inj H
  go_enter Tryz.func52, Tryz.ntmps52
  go_wp2_with (first | ((with_reducible refine gate_dst (N := 1) rfl ?_); refine box_event ?hg (N := 1) ?hd (cs := #[.int .u8 a0_0, .int .u8 a0_1, .int .u8 a0_2, .int .u8 a0_3]) (t := 24) ?hr ?_; (case hd => rfl); (case hg => rfl); (case hr => first | (go_simp; done) | (go_simp; rfl)); intro gb108 hg w2 hbox hb; have n0_ := Aside0.mk (below_step (by repeat (first | (with_reducible first | exact HB.out | apply below_alloc | apply pw_below_drewN | apply below_drew1) | exact HB.out)) hb); have n1_ := Aside0.mk (hbox); have n2_ := Aside0.mk ((by rw [hg]; exact (below_size (by repeat (first | (with_reducible first | exact HB.out | apply below_alloc | apply pw_below_drewN | apply below_drew1) | exact HB.out))) : w.heap.size ≤ gb108)); have n3_ := Aside0.mk ((by rw [hg]; exact (below_size (by repeat (first | (with_reducible first | exact HB.out | apply below_alloc | apply pw_below_drewN | apply below_drew1) | exact HB.out))) : w.heap.size ≤ gb108)); clear HB; have HB := n0_; have BK108 := n1_; have GW108 := n2_; have GE108 := n3_; clear n0_ n1_ n2_ n3_; clear hb hbox hg; have hcz3_0 : w2.cell? ⟨gb108, 0, none⟩ = some (.int .u8 a0_0) := (blk_cell BK108.out 0).trans rfl; have hcz3_1 : w2.cell? ⟨gb108, 1, none⟩ = some (.int .u8 a0_1) := (blk_cell BK108.out 1).trans rfl; have hcz3_2 : w2.cell? ⟨gb108, 2, none⟩ = some (.int .u8 a0_2) := (blk_cell BK108.out 2).trans rfl; have hcz3_3 : w2.cell? ⟨gb108, 3, none⟩ = some (.int .u8 a0_3) := (blk_cell BK108.out 3).trans rfl; have hfz3_0 := blk_frozen BK108.out 0; have hfz3_1 := blk_frozen BK108.out 1; have hfz3_2 := blk_frozen BK108.out 2; have hfz3_3 := blk_frozen BK108.out 3))
  go_ret
  exact ⟨by first | rfl | (simp [errW_none, errW_some] <;> rfl) | (simp [*, errW_none, errW_some] <;> rfl), by repeat (first | (with_reducible first | exact HB.out | apply below_alloc | apply pw_below_drewN | apply below_drew1 | refine below_set ?_ GE108.out) | exact HB.out)⟩
def host_In.f (a0_0 : Int) (a0_1 : Int) (a0_2 : Int) (a0_3 : Int) (a1_0 : Int) (a1_1 : Int) (a1_2 : Int) (a1_3 : Int) (a2 : Int) : Option (Bool) := if a2 ≥ 0 then (if a2 ≤ 32 then ((host_word.f a0_0 a0_1 a0_2 a0_3).bind fun t111 => ((host_word.f a1_0 a1_1 a1_2 a1_3).bind fun t112 => (if 0 ≤ (wrap64 (32 - a2)) then (some ((shr .u32 (Go.bits .xor .u32 t111 t112) (wrap64 (32 - a2))) == 0)) else (none)))) else (some false)) else (some false)
def host_In.T1 : Bool × List (List Nat × List Nat) := (true, [([], []), ([0], [0]), ([1], [1]), ([2], [2]), ([3, 2], [2, 3]), ([2, 4], [2, 4]), ([5, 2], [5]), ([6], [6]), ([7, 6, 6], [6, 7]), ([6], [6]), ([9, 8, 6], [6, 9]), ([8, 10, 6], [6, 8, 10]), ([6], [6]), ([12, 6], [6, 12]), ([11, 13, 6], [6, 11, 13]), ([14, 6], [6, 14]), ([6, 15], [6, 15]), ([16, 10, 0, 1, 2, 3, 4, 5, 6, 7, 8, 9, 10, 11, 12, 13, 14, 15, 16], [16])])
def host_In.B1 : List Nat := [0, 1, 3, 7, 15, 31, 63, 127, 255, 127, 1023, 2047, 127, 4223, 16383, 32767, 65535, 131071]
theorem host_In.tab1 : rtab .any (opsOf Tryz.f25 1) = host_In.T1 := by kernel_rfl
theorem host_In.bits1 : waitsOk host_In.T1.2 host_In.B1 = true := by kernel_rfl
set_option maxHeartbeats 8000000 in
set_option maxRecDepth 100000 in
theorem host_In.calls (a0_0 : Int) (a0_1 : Int) (a0_2 : Int) (a0_3 : Int) (a1_0 : Int) (a1_1 : Int) (a1_2 : Int) (a1_3 : Int) (a2 : Int) (r : Bool) (w : World) (h : host_In.f a0_0 a0_1 a0_2 a0_3 a1_0 a1_1 a1_2 a1_3 a2 = some r) :
    Calls Tryz.prog 25 #[.agg #[.int .u8 a0_0, .int .u8 a0_1, .int .u8 a0_2, .int .u8 a0_3], .agg #[.int .u8 a1_0, .int .u8 a1_1, .int .u8 a1_2, .int .u8 a1_3], .int .i64 a2] w fun e w' => e = .returned (.bool r) ∧ Below w.heap.size w w' := by
  have hu24 := Tryz.underlying24
  have HB := Aside0.mk (Below.refl w.heap.size w)
  have H : (if a2 ≥ 0 then (if a2 ≤ 32 then ((host_word.f a0_0 a0_1 a0_2 a0_3).bind fun t111 => ((host_word.f a1_0 a1_1 a1_2 a1_3).bind fun t112 => (if 0 ≤ (wrap64 (32 - a2)) then (some ((shr .u32 (Go.bits .xor .u32 t111 t112) (wrap64 (32 - a2))) == 0)) else (none)))) else (some false)) else (some false)) = some r := h
  clear h
  by_cases c4 : a2 ≥ 0
  · rw [if_pos c4] at H
    have c4b0 : decide (0 ≤ a2) = true := decide_eq_true c4
    clear c4
    by_cases c5 : a2 ≤ 32
    · rw [if_pos c5] at H
      have c5b0 : decide (a2 ≤ 32) = true := decide_eq_true c5
      clear c5
      replace H := Option.bind_eq_some_iff.mp H
      obtain ⟨t111, A60, H⟩ := H
      replace H : ((host_word.f a1_0 a1_1 a1_2 a1_3).bind fun t112 => (if 0 ≤ (wrap64 (32 - a2)) then (some ((shr .u32 (Go.bits .xor .u32 t111 t112) (wrap64 (32 - a2))) == 0)) else (none))) = some r := H
      have A6 := Aside0.mk A60
      clear A60
      replace H := Option.bind_eq_some_iff.mp H
      obtain ⟨t112, A70, H⟩ := H
      replace H : (if 0 ≤ (wrap64 (32 - a2)) then (some ((shr .u32 (Go.bits .xor .u32 t111 t112) (wrap64 (32 - a2))) == 0)) else (none)) = some r := H
      have A7 := Aside0.mk A70
      clear A70
      obtain ⟨ji8, hji8⟩ : ∃ j_ : Int, (wrap64 (32 - a2)) = j_ := ⟨_, rfl⟩
      replace H : (if 0 ≤ (ji8) then (some ((shr .u32 (Go.bits .xor .u32 t111 t112) (ji8)) == 0)) else (none)) = some r := by first | (rw [hji8] at H; exact H) | (simp only [hji8] at H ⊢; exact H)
      (try rw [hji8] at A6)
      (try rw [hji8] at A7)
      have hji8w : (IntKind.i64.wrap (32 - a2)) = ji8 := (i64_w _).trans hji8
      by_cases c9 : 0 ≤ (ji8)
      · rw [if_pos c9] at H
        have c9b0 := eq_true c9
        have c9b1 : decide (0 ≤ (ji8)) = true := decide_eq_true c9
        clear c9
        obtain ⟨ji10, hji10⟩ : ∃ j_ : Int, (shr .u32 (Go.bits .xor .u32 t111 t112) (ji8)) = j_ := ⟨_, rfl⟩
        replace H : (some ((ji10) == 0)) = some r := by first | (rw [hji10] at H; exact H) | (simp only [hji10] at H ⊢; exact H)
        (try rw [hji10] at A6)
        (try rw [hji10] at A7)
        have hji10_ : ((Go.bits .xor .u32 t111 t112) / 2 ^ min (ji8).toNat 32) = ji10 := hji10
        have hji10z : (ji8) ≤ 32 → ((Go.bits .xor .u32 t111 t112) / 2 ^ (ji8).toNat) = ji10 := shr_small hji10
        obtain rfl := Option.some.inj H
        go_enter Tryz.func25, Tryz.ntmps25
        try go_wp2_with (first | ((with_reducible refine gate_dst (N := 3) rfl ?_); refine box_event ?hg (N := 3) ?hd (cs := #[.int .u8 a0_0, .int .u8 a0_1, .int .u8 a0_2, .int .u8 a0_3]) (t := 24) ?hr ?_; (case hd => rfl); (case hg => rfl); (case hr => first | (go_simp; done) | (go_simp; rfl)); intro gb109 hg w11 hbox hb; have n0_ := Aside0.mk (below_step (by repeat (first | (with_reducible first | exact HB.out | apply below_alloc | apply pw_below_drewN | apply below_drew1) | exact HB.out)) hb); have n1_ := Aside0.mk (hbox); have n2_ := Aside0.mk ((by rw [hg]; exact (below_size (by repeat (first | (with_reducible first | exact HB.out | apply below_alloc | apply pw_below_drewN | apply below_drew1) | exact HB.out))) : w.heap.size ≤ gb109)); have n3_ := Aside0.mk ((by rw [hg]; exact (below_size (by repeat (first | (with_reducible first | exact HB.out | apply below_alloc | apply pw_below_drewN | apply below_drew1) | exact HB.out))) : w.heap.size ≤ gb109)); clear HB; have HB := n0_; have BK109 := n1_; have GW109 := n2_; have GE109 := n3_; clear n0_ n1_ n2_ n3_; clear hb hbox hg) | ((with_reducible refine gate_dst (N := 4) rfl ?_); refine box_event ?hg (N := 4) ?hd (cs := #[.int .u8 a1_0, .int .u8 a1_1, .int .u8 a1_2, .int .u8 a1_3]) (t := 24) ?hr ?_; (case hd => rfl); (case hg => rfl); (case hr => first | (go_simp; done) | (go_simp; rfl)); intro gb110 hg w12 hbox hb; have n0_ := Aside0.mk (blk_below (g := gb109) (o := .cells #[.int .u8 a0_0, .int .u8 a0_1, .int .u8 a0_2, .int .u8 a0_3] 24 (0, 0)) (by (with_reducible repeat (first | refine blk_drewN ?_ _ | refine blk_drew ?_ | refine blk_alloc ?_ _)); exact BK109.out) hb); have n1_ := Aside0.mk (below_step (by repeat (first | (with_reducible first | exact HB.out | apply below_alloc | apply pw_below_drewN | apply below_drew1 | refine below_set ?_ GE109.out) | exact HB.out)) hb); have n2_ := Aside0.mk (hbox); have n3_ := Aside0.mk ((by rw [hg]; exact (below_size (by repeat (first | (with_reducible first | exact HB.out | apply below_alloc | apply pw_below_drewN | apply below_drew1 | refine below_set ?_ GE109.out) | exact HB.out))) : w.heap.size ≤ gb110)); have n4_ := Aside0.mk ((by rw [hg]; exact (below_size (by repeat (first | (with_reducible first | exact HB.out | apply below_alloc | apply pw_below_drewN | apply below_drew1 | refine below_set ?_ GE109.out) | exact HB.out))) : w.heap.size ≤ gb110)); have n5_ := Aside0.mk ((by rw [hg]; exact Nat.ne_of_lt (blk_lt (g := gb109) (o := .cells #[.int .u8 a0_0, .int .u8 a0_1, .int .u8 a0_2, .int .u8 a0_3] 24 (0, 0)) (by (with_reducible repeat (first | refine blk_drewN ?_ _ | refine blk_drew ?_ | refine blk_alloc ?_ _)); exact BK109.out)) : gb109 ≠ gb110)); have n6_ := Aside0.mk ((by rw [hg]; exact Nat.ne_of_gt (blk_lt (g := gb109) (o := .cells #[.int .u8 a0_0, .int .u8 a0_1, .int .u8 a0_2, .int .u8 a0_3] 24 (0, 0)) (by (with_reducible repeat (first | refine blk_drewN ?_ _ | refine blk_drew ?_ | refine blk_alloc ?_ _)); exact BK109.out)) : gb110 ≠ gb109)); clear BK109; clear HB; have BK109 := n0_; have HB := n1_; have BK110 := n2_; have GW110 := n3_; have GE110 := n4_; have NB109_110 := n5_; have NB110_109 := n6_; clear n0_ n1_ n2_ n3_ n4_ n5_ n6_; clear hb hbox hg))
        have n0_ := Aside0.mk (blk_drew BK109.out)
        have n1_ := Aside0.mk (blk_drew BK110.out)
        have n2_ := Aside0.mk (below_drew1 HB.out)
        clear BK109
        clear BK110
        clear HB
        have BK109 := n0_
        have BK110 := n1_
        have HB := n2_
        clear n0_ n1_ n2_
        refine start_ (n := 18) (S := fun w' => w'.cell? ⟨gb109, 0, none⟩ = some (.int .u8 a0_0) ∧ w'.cell? ⟨gb109, 1, none⟩ = some (.int .u8 a0_1) ∧ w'.cell? ⟨gb109, 2, none⟩ = some (.int .u8 a0_2) ∧ w'.cell? ⟨gb109, 3, none⟩ = some (.int .u8 a0_3) ∧ w'.cell? ⟨gb110, 0, none⟩ = some (.int .u8 a1_0) ∧ w'.cell? ⟨gb110, 1, none⟩ = some (.int .u8 a1_1) ∧ w'.cell? ⟨gb110, 2, none⟩ = some (.int .u8 a1_2) ∧ w'.cell? ⟨gb110, 3, none⟩ = some (.int .u8 a1_3)) (ds := []) #[false, false, false, false, false, false, false, false, false, false, false, false, false, false, false, false, false, false] (by kernel_rfl) rfl rfl ⟨(blk_cell BK109.out 0).trans rfl, (blk_cell BK109.out 1).trans rfl, (blk_cell BK109.out 2).trans rfl, (blk_cell BK109.out 3).trans rfl, (blk_cell BK110.out 0).trans rfl, (blk_cell BK110.out 1).trans rfl, (blk_cell BK110.out 2).trans rfl, (blk_cell BK110.out 3).trans rfl⟩ (fun hHeld => ?_); refine with_tabW host_In.tab1 host_In.bits1 (fun HT_ HW_ => ?_)
        generalize w12.drew = w13 at BK109 BK110 HB hHeld ⊢
        refine pure_ (i := 0) (N := some 7) (v := ?_) (a' := ?_) #[true, false, false, false, false, false, false, false, false, false, false, false, false, false, false, false, false, false] rfl rfl (any_of HT_.out (by kernel_rfl)) (fun _ _ _ h => h) (Or.inl ⟨by rfl, ?_⟩) ?_ ?_
        rotate_left
        · intro w'
          go_simp
          with_reducible rfl
        rotate_left
        · simp only [Act.put, List.setIfInBounds_toArray, List.set_cons_zero, List.set_cons_succ, i64_w, i32_w]
          rfl
        refine pure_ (i := 1) (N := some 8) (v := ?_) (a' := ?_) #[true, true, false, false, false, false, false, false, false, false, false, false, false, false, false, false, false, false] rfl rfl (any_of HT_.out (by kernel_rfl)) (fun _ _ _ h => h) (Or.inl ⟨by rfl, ?_⟩) ?_ ?_
        rotate_left
        · intro w'
          go_simp
          with_reducible rfl
        rotate_left
        · simp only [Act.put, List.setIfInBounds_toArray, List.set_cons_zero, List.set_cons_succ, i64_w, i32_w]
          rfl
        refine pure_ (i := 2) (N := some 9) (v := ?_) (a' := ?_) #[true, true, true, false, false, false, false, false, false, false, false, false, false, false, false, false, false, false] rfl rfl (any_of HT_.out (by kernel_rfl)) (fun _ _ _ h => h) (Or.inl ⟨by rfl, ?_⟩) ?_ ?_
        rotate_left
        · intro w'
          go_simp
          with_reducible rfl
        rotate_left
        · simp only [Act.put, List.setIfInBounds_toArray, List.set_cons_zero, List.set_cons_succ, i64_w, i32_w]
          rfl
        refine pure_ (i := 3) (N := some 10) (v := ?_) (a' := ?_) #[true, true, true, true, false, false, false, false, false, false, false, false, false, false, false, false, false, false] rfl rfl (any_of HT_.out (by kernel_rfl)) (fun _ _ _ h => h) (Or.inl ⟨by rfl, ?_⟩) ?_ ?_
        rotate_left
        · intro w'
          go_simp
          with_reducible rfl
        rotate_left
        · simp only [Act.put, List.setIfInBounds_toArray, List.set_cons_zero, List.set_cons_succ, i64_w, i32_w]
          rfl
        refine pure_ (i := 4) (N := some 11) (v := ?_) (a' := ?_) #[true, true, true, true, true, false, false, false, false, false, false, false, false, false, false, false, false, false] rfl rfl (any_of HT_.out (by kernel_rfl)) (fun _ _ _ h => h) (Or.inl ⟨by rfl, ?_⟩) ?_ ?_
        rotate_left
        · intro w'
          go_simp
          with_reducible rfl
        rotate_left
        · simp only [Act.put, List.setIfInBounds_toArray, List.set_cons_zero, List.set_cons_succ, i64_w, i32_w]
          rfl
        refine pure_ (i := 5) (N := some 12) (v := ?_) (a' := ?_) #[true, true, true, true, true, true, false, false, false, false, false, false, false, false, false, false, false, false] rfl rfl (any_of HT_.out (by kernel_rfl)) (fun _ _ _ h => h) (Or.inl ⟨by rfl, ?_⟩) ?_ ?_
        rotate_left
        · intro w'
          go_simp
          with_reducible rfl
        rotate_left
        · simp only [Act.put, List.setIfInBounds_toArray, List.set_cons_zero, List.set_cons_succ, i64_w, i32_w]
          rfl
        refine pure_ (i := 6) (N := some 13) (v := ?_) (a' := ?_) #[true, true, true, true, true, true, true, false, false, false, false, false, false, false, false, false, false, false] rfl rfl (any_of HT_.out (by kernel_rfl)) (fun _ _ _ h => h) (Or.inl ⟨by rfl, ?_⟩) ?_ ?_
        rotate_left
        · intro w'
          go_simp
          with_reducible rfl
        rotate_left
        · simp only [Act.put, List.setIfInBounds_toArray, List.set_cons_zero, List.set_cons_succ, i64_w, i32_w]
          rfl
        refine pure_ (i := 12) (N := some 19) (v := ?_) (a' := ?_) #[true, true, true, true, true, true, true, false, false, false, false, false, true, false, false, false, false, false] rfl rfl (any_of HT_.out (by kernel_rfl)) (fun _ _ _ h => h) (Or.inl ⟨by rfl, ?_⟩) ?_ ?_
        rotate_left
        · intro w'
          go_simp
          with_reducible rfl
        rotate_left
        · simp only [Act.put, List.setIfInBounds_toArray, List.set_cons_zero, List.set_cons_succ, i64_w, i32_w]
          rfl
        refine pure_ (i := 13) (N := some 20) (v := ?_) (a' := ?_) #[true, true, true, true, true, true, true, false, false, false, false, false, true, true, false, false, false, false] rfl rfl (any_of HT_.out (by kernel_rfl)) (fun _ _ _ h => h) (Or.inl ⟨by rfl, ?_⟩) ?_ ?_
        rotate_left
        · intro w'
          go_simp
          with_reducible rfl
        rotate_left
        · simp only [Act.put, List.setIfInBounds_toArray, List.set_cons_zero, List.set_cons_succ, i64_w, i32_w]
          rfl
        refine take_ (i := 7) (N := some 14) (v := ?_) (a' := ?_) #[true, true, true, true, true, true, true, true, false, false, false, false, true, true, false, false, false, false] rfl rfl (take_ofW HT_.out HW_.out (by kernel_rfl)) (fun _ _ _ h => h) (Or.inl ⟨by rfl, ?_⟩) hHeld ?_ ?_
        rotate_left
        · rintro w' ⟨s0, s1, s2, s3, s4, s5, s6, s7⟩
          go_simp
          with_reducible rfl
        rotate_left
        · simp only [Act.put, List.setIfInBounds_toArray, List.set_cons_zero, List.set_cons_succ, i64_w, i32_w]
          rfl
        refine take_ (i := 9) (N := some 16) (v := ?_) (a' := ?_) #[true, true, true, true, true, true, true, true, false, true, false, false, true, true, false, false, false, false] rfl rfl (take_ofW HT_.out HW_.out (by kernel_rfl)) (fun _ _ _ h => h) (Or.inl ⟨by rfl, ?_⟩) hHeld ?_ ?_
        rotate_left
        · rintro w' ⟨s0, s1, s2, s3, s4, s5, s6, s7⟩
          go_simp
          with_reducible rfl
        rotate_left
        · simp only [Act.put, List.setIfInBounds_toArray, List.set_cons_zero, List.set_cons_succ, i64_w, i32_w]
          rfl
        refine one_ (i := 8) (N := some 15) #[true, true, true, true, true, true, true, true, true, true, false, false, true, true, false, false, false, false] rfl rfl (one_of HT_.out (by kernel_rfl)) (by decide) (fun K hK => ?_)
        refine goes_ Tryz.func52 (by kernel_rfl) rfl #[.agg #[.int .u8 a0_0, .int .u8 a0_1, .int .u8 a0_2, .int .u8 a0_3]] (by rfl) rfl rfl (by (try simp only [List.map_toArray, List.map_cons, List.map_nil]); first | done | rfl | (simp only [List.length_drop, List.length_take]; rfl)) ?_
        with_reducible refine (host_word.calls a0_0 a0_1 a0_2 a0_3 t111 _ A6.out).mono ?_
        rintro e w14 ⟨rfl, hb⟩
        refine ⟨_, rfl, ?_⟩
        have n0_ := Aside0.mk (blk_below (g := gb109) (o := .cells #[.int .u8 a0_0, .int .u8 a0_1, .int .u8 a0_2, .int .u8 a0_3] 24 (0, 0)) (by (with_reducible repeat (first | refine blk_drewN ?_ _ | refine blk_drew ?_ | refine blk_alloc ?_ _)); exact BK109.out) hb)
        have n1_ := Aside0.mk (blk_below (g := gb110) (o := .cells #[.int .u8 a1_0, .int .u8 a1_1, .int .u8 a1_2, .int .u8 a1_3] 24 (0, 0)) (by (with_reducible repeat (first | refine blk_drewN ?_ _ | refine blk_drew ?_ | refine blk_alloc ?_ _)); exact BK110.out) hb)
        have n2_ := Aside0.mk (below_step (by repeat (first | (with_reducible first | exact HB.out | apply below_alloc | apply pw_below_drewN | apply below_drew1 | refine below_set ?_ GE109.out | refine below_set ?_ GE110.out) | exact HB.out)) hb)
        clear BK109
        clear BK110
        clear HB
        have BK109 := n0_
        have BK110 := n1_
        have HB := n2_
        clear n0_ n1_ n2_
        (try clear hb)
        (try clear hb2)
        (try clear hk)
        (try clear hi)
        refine hK.out _ _ ⟨(blk_cell BK109.out 0).trans rfl, (blk_cell BK109.out 1).trans rfl, (blk_cell BK109.out 2).trans rfl, (blk_cell BK109.out 3).trans rfl, (blk_cell BK110.out 0).trans rfl, (blk_cell BK110.out 1).trans rfl, (blk_cell BK110.out 2).trans rfl, (blk_cell BK110.out 3).trans rfl⟩ (fun hHeld => ?_)
        clear hK K
        refine norm_ (a' := ?_) ?_ ?_
        rotate_left
        · show Act.put _ (some 15) _ = _
          simp only [Act.put, List.setIfInBounds_toArray, List.set_cons_zero, List.set_cons_succ, i64_w, i32_w]
          rfl
        refine one_ (i := 10) (N := some 17) #[true, true, true, true, true, true, true, true, true, true, true, false, true, true, false, false, false, false] rfl rfl (one_of HT_.out (by kernel_rfl)) (by decide) (fun K hK => ?_)
        refine goes_ Tryz.func52 (by kernel_rfl) rfl #[.agg #[.int .u8 a1_0, .int .u8 a1_1, .int .u8 a1_2, .int .u8 a1_3]] (by rfl) rfl rfl (by (try simp only [List.map_toArray, List.map_cons, List.map_nil]); first | done | rfl | (simp only [List.length_drop, List.length_take]; rfl)) ?_
        with_reducible refine (host_word.calls a1_0 a1_1 a1_2 a1_3 t112 _ A7.out).mono ?_
        rintro e w15 ⟨rfl, hb⟩
        refine ⟨_, rfl, ?_⟩
        have n0_ := Aside0.mk (blk_below (g := gb109) (o := .cells #[.int .u8 a0_0, .int .u8 a0_1, .int .u8 a0_2, .int .u8 a0_3] 24 (0, 0)) (by (with_reducible repeat (first | refine blk_drewN ?_ _ | refine blk_drew ?_ | refine blk_alloc ?_ _)); exact BK109.out) hb)
        have n1_ := Aside0.mk (blk_below (g := gb110) (o := .cells #[.int .u8 a1_0, .int .u8 a1_1, .int .u8 a1_2, .int .u8 a1_3] 24 (0, 0)) (by (with_reducible repeat (first | refine blk_drewN ?_ _ | refine blk_drew ?_ | refine blk_alloc ?_ _)); exact BK110.out) hb)
        have n2_ := Aside0.mk (below_step (by repeat (first | (with_reducible first | exact HB.out | apply below_alloc | apply pw_below_drewN | apply below_drew1 | refine below_set ?_ GE109.out | refine below_set ?_ GE110.out) | exact HB.out)) hb)
        clear BK109
        clear BK110
        clear HB
        have BK109 := n0_
        have BK110 := n1_
        have HB := n2_
        clear n0_ n1_ n2_
        (try clear hb)
        (try clear hb2)
        (try clear hk)
        (try clear hi)
        refine hK.out _ _ ⟨(blk_cell BK109.out 0).trans rfl, (blk_cell BK109.out 1).trans rfl, (blk_cell BK109.out 2).trans rfl, (blk_cell BK109.out 3).trans rfl, (blk_cell BK110.out 0).trans rfl, (blk_cell BK110.out 1).trans rfl, (blk_cell BK110.out 2).trans rfl, (blk_cell BK110.out 3).trans rfl⟩ (fun hHeld => ?_)
        clear hK K
        refine norm_ (a' := ?_) ?_ ?_
        rotate_left
        · show Act.put _ (some 17) _ = _
          simp only [Act.put, List.setIfInBounds_toArray, List.set_cons_zero, List.set_cons_succ, i64_w, i32_w]
          rfl
        refine pure_ (i := 11) (N := some 18) (v := ?_) (a' := ?_) #[true, true, true, true, true, true, true, true, true, true, true, true, true, true, false, false, false, false] rfl rfl (any_of HT_.out (by kernel_rfl)) (fun _ _ _ h => h) (Or.inl ⟨by rfl, ?_⟩) ?_ ?_
        rotate_left
        · intro w'
          go_simp
          with_reducible rfl
        rotate_left
        · simp only [Act.put, List.setIfInBounds_toArray, List.set_cons_zero, List.set_cons_succ, i64_w, i32_w]
          rfl
        refine pure_ (i := 14) (N := some 21) (v := ?_) (a' := ?_) #[true, true, true, true, true, true, true, true, true, true, true, true, true, true, true, false, false, false] rfl rfl (any_of HT_.out (by kernel_rfl)) (fun _ _ _ h => h) (Or.inl ⟨by rfl, ?_⟩) ?_ ?_
        rotate_left
        · intro w'
          go_simp
          with_reducible rfl
        rotate_left
        · simp only [Act.put, List.setIfInBounds_toArray, List.set_cons_zero, List.set_cons_succ, i64_w, i32_w]
          rfl
        refine pure_ (i := 15) (N := some 22) (v := ?_) (a' := ?_) #[true, true, true, true, true, true, true, true, true, true, true, true, true, true, true, true, false, false] rfl rfl (any_of HT_.out (by kernel_rfl)) (fun _ _ _ h => h) (Or.inl ⟨by rfl, ?_⟩) ?_ ?_
        rotate_left
        · intro w'
          go_simp
          with_reducible rfl
        rotate_left
        · simp only [Act.put, List.setIfInBounds_toArray, List.set_cons_zero, List.set_cons_succ, i64_w, i32_w]
          rfl
        refine pure_ (i := 16) (N := some 23) (v := ?_) (a' := ?_) #[true, true, true, true, true, true, true, true, true, true, true, true, true, true, true, true, true, false] rfl rfl (any_of HT_.out (by kernel_rfl)) (fun _ _ _ h => h) (Or.inl ⟨by rfl, ?_⟩) ?_ ?_
        rotate_left
        · intro w'
          go_simp
          with_reducible rfl
        rotate_left
        · simp only [Act.put, List.setIfInBounds_toArray, List.set_cons_zero, List.set_cons_succ, i64_w, i32_w]
          rfl
        refine pure_ (i := 17) (N := some 6) (v := ?_) (a' := ?_) #[true, true, true, true, true, true, true, true, true, true, true, true, true, true, true, true, true, true] rfl rfl (any_of HT_.out (by kernel_rfl)) (fun _ _ _ h => h) (Or.inl ⟨by rfl, ?_⟩) ?_ ?_
        rotate_left
        · intro w'
          go_simp
          with_reducible rfl
        rotate_left
        · simp only [Act.put, List.setIfInBounds_toArray, List.set_cons_zero, List.set_cons_succ, i64_w, i32_w]
          rfl
        refine done_ (done_of HT_.out (by kernel_rfl)) ?_
        try go_wp2
        go_ret
        exact ⟨by first | rfl | (simp [errW_none, errW_some] <;> rfl) | (simp only [← hji8, ← hji10]; first | rfl | (simp [errW_none, errW_some] <;> rfl)) | (simp [*, errW_none, errW_some] <;> rfl), by repeat (first | (with_reducible first | exact HB.out | apply below_alloc | apply pw_below_drewN | apply below_drew1 | refine below_set ?_ GE109.out | refine below_set ?_ GE110.out) | exact HB.out)⟩
      · rw [if_neg c9] at H
        exact absurd H (by simp)
    · rw [if_neg c5] at H
      have c5b0 : decide (a2 ≤ 32) = false := decide_eq_false c5
      clear c5
      obtain rfl := Option.some.inj H
      go_enter Tryz.func25, Tryz.ntmps25
      try go_wp2_with (first | ((with_reducible refine gate_dst (N := 3) rfl ?_); refine box_event ?hg (N := 3) ?hd (cs := #[.int .u8 a0_0, .int .u8 a0_1, .int .u8 a0_2, .int .u8 a0_3]) (t := 24) ?hr ?_; (case hd => rfl); (case hg => rfl); (case hr => first | (go_simp; done) | (go_simp; rfl)); intro gb109 hg w16 hbox hb; have n0_ := Aside0.mk (below_step (by repeat (first | (with_reducible first | exact HB.out | apply below_alloc | apply pw_below_drewN | apply below_drew1) | exact HB.out)) hb); have n1_ := Aside0.mk (hbox); have n2_ := Aside0.mk ((by rw [hg]; exact (below_size (by repeat (first | (with_reducible first | exact HB.out | apply below_alloc | apply pw_below_drewN | apply below_drew1) | exact HB.out))) : w.heap.size ≤ gb109)); have n3_ := Aside0.mk ((by rw [hg]; exact (below_size (by repeat (first | (with_reducible first | exact HB.out | apply below_alloc | apply pw_below_drewN | apply below_drew1) | exact HB.out))) : w.heap.size ≤ gb109)); clear HB; have HB := n0_; have BK109 := n1_; have GW109 := n2_; have GE109 := n3_; clear n0_ n1_ n2_ n3_; clear hb hbox hg) | ((with_reducible refine gate_dst (N := 4) rfl ?_); refine box_event ?hg (N := 4) ?hd (cs := #[.int .u8 a1_0, .int .u8 a1_1, .int .u8 a1_2, .int .u8 a1_3]) (t := 24) ?hr ?_; (case hd => rfl); (case hg => rfl); (case hr => first | (go_simp; done) | (go_simp; rfl)); intro gb110 hg w17 hbox hb; have n0_ := Aside0.mk (blk_below (g := gb109) (o := .cells #[.int .u8 a0_0, .int .u8 a0_1, .int .u8 a0_2, .int .u8 a0_3] 24 (0, 0)) (by (with_reducible repeat (first | refine blk_drewN ?_ _ | refine blk_drew ?_ | refine blk_alloc ?_ _)); exact BK109.out) hb); have n1_ := Aside0.mk (below_step (by repeat (first | (with_reducible first | exact HB.out | apply below_alloc | apply pw_below_drewN | apply below_drew1 | refine below_set ?_ GE109.out) | exact HB.out)) hb); have n2_ := Aside0.mk (hbox); have n3_ := Aside0.mk ((by rw [hg]; exact (below_size (by repeat (first | (with_reducible first | exact HB.out | apply below_alloc | apply pw_below_drewN | apply below_drew1 | refine below_set ?_ GE109.out) | exact HB.out))) : w.heap.size ≤ gb110)); have n4_ := Aside0.mk ((by rw [hg]; exact (below_size (by repeat (first | (with_reducible first | exact HB.out | apply below_alloc | apply pw_below_drewN | apply below_drew1 | refine below_set ?_ GE109.out) | exact HB.out))) : w.heap.size ≤ gb110)); have n5_ := Aside0.mk ((by rw [hg]; exact Nat.ne_of_lt (blk_lt (g := gb109) (o := .cells #[.int .u8 a0_0, .int .u8 a0_1, .int .u8 a0_2, .int .u8 a0_3] 24 (0, 0)) (by (with_reducible repeat (first | refine blk_drewN ?_ _ | refine blk_drew ?_ | refine blk_alloc ?_ _)); exact BK109.out)) : gb109 ≠ gb110)); have n6_ := Aside0.mk ((by rw [hg]; exact Nat.ne_of_gt (blk_lt (g := gb109) (o := .cells #[.int .u8 a0_0, .int .u8 a0_1, .int .u8 a0_2, .int .u8 a0_3] 24 (0, 0)) (by (with_reducible repeat (first | refine blk_drewN ?_ _ | refine blk_drew ?_ | refine blk_alloc ?_ _)); exact BK109.out)) : gb110 ≠ gb109)); clear BK109; clear HB; have BK109 := n0_; have HB := n1_; have BK110 := n2_; have GW110 := n3_; have GE110 := n4_; have NB109_110 := n5_; have NB110_109 := n6_; clear n0_ n1_ n2_ n3_ n4_ n5_ n6_; clear hb hbox hg))
      have n0_ := Aside0.mk (blk_drew BK109.out)
      have n1_ := Aside0.mk (blk_drew BK110.out)
      have n2_ := Aside0.mk (below_drew1 HB.out)
      clear BK109
      clear BK110
      clear HB
      have BK109 := n0_
      have BK110 := n1_
      have HB := n2_
      clear n0_ n1_ n2_
      refine start_ (n := 18) (S := fun w' => True) (ds := []) #[false, false, false, false, false, false, false, false, false, false, false, false, false, false, false, false, false, false] (by kernel_rfl) rfl rfl trivial (fun hHeld => ?_); refine with_tabW host_In.tab1 host_In.bits1 (fun HT_ HW_ => ?_)
      generalize w17.drew = w18 at BK109 BK110 HB hHeld ⊢
      refine pure_ (i := 0) (N := some 7) (v := ?_) (a' := ?_) #[true, false, false, false, false, false, false, false, false, false, false, false, false, false, false, false, false, false] rfl rfl (any_of HT_.out (by kernel_rfl)) (fun _ _ _ h => h) (Or.inl ⟨by rfl, ?_⟩) ?_ ?_
      rotate_left
      · intro w'
        go_simp
        with_reducible rfl
      rotate_left
      · simp only [Act.put, List.setIfInBounds_toArray, List.set_cons_zero, List.set_cons_succ, i64_w, i32_w]
        rfl
      refine pure_ (i := 1) (N := some 8) (v := ?_) (a' := ?_) #[true, true, false, false, false, false, false, false, false, false, false, false, false, false, false, false, false, false] rfl rfl (any_of HT_.out (by kernel_rfl)) (fun _ _ _ h => h) (Or.inl ⟨by rfl, ?_⟩) ?_ ?_
      rotate_left
      · intro w'
        go_simp
        with_reducible rfl
      rotate_left
      · simp only [Act.put, List.setIfInBounds_toArray, List.set_cons_zero, List.set_cons_succ, i64_w, i32_w]
        rfl
      refine pure_ (i := 2) (N := some 9) (v := ?_) (a' := ?_) #[true, true, true, false, false, false, false, false, false, false, false, false, false, false, false, false, false, false] rfl rfl (any_of HT_.out (by kernel_rfl)) (fun _ _ _ h => h) (Or.inl ⟨by rfl, ?_⟩) ?_ ?_
      rotate_left
      · intro w'
        go_simp
        with_reducible rfl
      rotate_left
      · simp only [Act.put, List.setIfInBounds_toArray, List.set_cons_zero, List.set_cons_succ, i64_w, i32_w]
        rfl
      refine pure_ (i := 3) (N := some 10) (v := ?_) (a' := ?_) #[true, true, true, true, false, false, false, false, false, false, false, false, false, false, false, false, false, false] rfl rfl (any_of HT_.out (by kernel_rfl)) (fun _ _ _ h => h) (Or.inl ⟨by rfl, ?_⟩) ?_ ?_
      rotate_left
      · intro w'
        go_simp
        with_reducible rfl
      rotate_left
      · simp only [Act.put, List.setIfInBounds_toArray, List.set_cons_zero, List.set_cons_succ, i64_w, i32_w]
        rfl
      refine pure_ (i := 4) (N := some 11) (v := ?_) (a' := ?_) #[true, true, true, true, true, false, false, false, false, false, false, false, false, false, false, false, false, false] rfl rfl (any_of HT_.out (by kernel_rfl)) (fun _ _ _ h => h) (Or.inl ⟨by rfl, ?_⟩) ?_ ?_
      rotate_left
      · intro w'
        go_simp
        with_reducible rfl
      rotate_left
      · simp only [Act.put, List.setIfInBounds_toArray, List.set_cons_zero, List.set_cons_succ, i64_w, i32_w]
        rfl
      refine pure_ (i := 5) (N := some 12) (v := ?_) (a' := ?_) #[true, true, true, true, true, true, false, false, false, false, false, false, false, false, false, false, false, false] rfl rfl (any_of HT_.out (by kernel_rfl)) (fun _ _ _ h => h) (Or.inl ⟨by rfl, ?_⟩) ?_ ?_
      rotate_left
      · intro w'
        go_simp
        with_reducible rfl
      rotate_left
      · simp only [Act.put, List.setIfInBounds_toArray, List.set_cons_zero, List.set_cons_succ, i64_w, i32_w]
        rfl
      refine pure_ (i := 6) (N := some 13) (v := ?_) (a' := ?_) #[true, true, true, true, true, true, true, false, false, false, false, false, false, false, false, false, false, false] rfl rfl (any_of HT_.out (by kernel_rfl)) (fun _ _ _ h => h) (Or.inl ⟨by rfl, ?_⟩) ?_ ?_
      rotate_left
      · intro w'
        go_simp
        with_reducible rfl
      rotate_left
      · simp only [Act.put, List.setIfInBounds_toArray, List.set_cons_zero, List.set_cons_succ, i64_w, i32_w]
        rfl
      refine pure_ (i := 7) (N := some 14) (v := undef) (a' := ?_) #[true, true, true, true, true, true, true, true, false, false, false, false, false, false, false, false, false, false] rfl rfl (any_of HT_.out (by kernel_rfl)) (fun _ _ _ h => h) (Or.inr ⟨by rfl, rfl⟩) ?_ ?_
      rotate_left
      · simp only [Act.put, List.setIfInBounds_toArray, List.set_cons_zero, List.set_cons_succ, i64_w, i32_w]
        rfl
      refine pure_ (i := 8) (N := some 15) (v := undef) (a' := ?_) #[true, true, true, true, true, true, true, true, true, false, false, false, false, false, false, false, false, false] rfl rfl (any_of HT_.out (by kernel_rfl)) (fun _ _ _ h => h) (Or.inr ⟨by rfl, rfl⟩) ?_ ?_
      rotate_left
      · simp only [Act.put, List.setIfInBounds_toArray, List.set_cons_zero, List.set_cons_succ, i64_w, i32_w]
        rfl
      refine pure_ (i := 9) (N := some 16) (v := undef) (a' := ?_) #[true, true, true, true, true, true, true, true, true, true, false, false, false, false, false, false, false, false] rfl rfl (any_of HT_.out (by kernel_rfl)) (fun _ _ _ h => h) (Or.inr ⟨by rfl, rfl⟩) ?_ ?_
      rotate_left
      · simp only [Act.put, List.setIfInBounds_toArray, List.set_cons_zero, List.set_cons_succ, i64_w, i32_w]
        rfl
      refine pure_ (i := 10) (N := some 17) (v := undef) (a' := ?_) #[true, true, true, true, true, true, true, true, true, true, true, false, false, false, false, false, false, false] rfl rfl (any_of HT_.out (by kernel_rfl)) (fun _ _ _ h => h) (Or.inr ⟨by rfl, rfl⟩) ?_ ?_
      rotate_left
      · simp only [Act.put, List.setIfInBounds_toArray, List.set_cons_zero, List.set_cons_succ, i64_w, i32_w]
        rfl
      refine pure_ (i := 11) (N := some 18) (v := undef) (a' := ?_) #[true, true, true, true, true, true, true, true, true, true, true, true, false, false, false, false, false, false] rfl rfl (any_of HT_.out (by kernel_rfl)) (fun _ _ _ h => h) (Or.inr ⟨by rfl, rfl⟩) ?_ ?_
      rotate_left
      · simp only [Act.put, List.setIfInBounds_toArray, List.set_cons_zero, List.set_cons_succ, i64_w, i32_w]
        rfl
      refine pure_ (i := 12) (N := some 19) (v := undef) (a' := ?_) #[true, true, true, true, true, true, true, true, true, true, true, true, true, false, false, false, false, false] rfl rfl (any_of HT_.out (by kernel_rfl)) (fun _ _ _ h => h) (Or.inr ⟨by rfl, rfl⟩) ?_ ?_
      rotate_left
      · simp only [Act.put, List.setIfInBounds_toArray, List.set_cons_zero, List.set_cons_succ, i64_w, i32_w]
        rfl
      refine pure_ (i := 13) (N := some 20) (v := undef) (a' := ?_) #[true, true, true, true, true, true, true, true, true, true, true, true, true, true, false, false, false, false] rfl rfl (any_of HT_.out (by kernel_rfl)) (fun _ _ _ h => h) (Or.inr ⟨by rfl, rfl⟩) ?_ ?_
      rotate_left
      · simp only [Act.put, List.setIfInBounds_toArray, List.set_cons_zero, List.set_cons_succ, i64_w, i32_w]
        rfl
      refine pure_ (i := 14) (N := some 21) (v := undef) (a' := ?_) #[true, true, true, true, true, true, true, true, true, true, true, true, true, true, true, false, false, false] rfl rfl (any_of HT_.out (by kernel_rfl)) (fun _ _ _ h => h) (Or.inr ⟨by rfl, rfl⟩) ?_ ?_
      rotate_left
      · simp only [Act.put, List.setIfInBounds_toArray, List.set_cons_zero, List.set_cons_succ, i64_w, i32_w]
        rfl
      refine pure_ (i := 15) (N := some 22) (v := undef) (a' := ?_) #[true, true, true, true, true, true, true, true, true, true, true, true, true, true, true, true, false, false] rfl rfl (any_of HT_.out (by kernel_rfl)) (fun _ _ _ h => h) (Or.inr ⟨by rfl, rfl⟩) ?_ ?_
      rotate_left
      · simp only [Act.put, List.setIfInBounds_toArray, List.set_cons_zero, List.set_cons_succ, i64_w, i32_w]
        rfl
      refine pure_ (i := 16) (N := some 23) (v := ?_) (a' := ?_) #[true, true, true, true, true, true, true, true, true, true, true, true, true, true, true, true, true, false] rfl rfl (any_of HT_.out (by kernel_rfl)) (fun _ _ _ h => h) (Or.inl ⟨by rfl, ?_⟩) ?_ ?_
      rotate_left
      · intro w'
        go_simp
        with_reducible rfl
      rotate_left
      · simp only [Act.put, List.setIfInBounds_toArray, List.set_cons_zero, List.set_cons_succ, i64_w, i32_w]
        rfl
      refine pure_ (i := 17) (N := some 6) (v := ?_) (a' := ?_) #[true, true, true, true, true, true, true, true, true, true, true, true, true, true, true, true, true, true] rfl rfl (any_of HT_.out (by kernel_rfl)) (fun _ _ _ h => h) (Or.inl ⟨by rfl, ?_⟩) ?_ ?_
      rotate_left
      · intro w'
        go_simp
        with_reducible rfl
      rotate_left
      · simp only [Act.put, List.setIfInBounds_toArray, List.set_cons_zero, List.set_cons_succ, i64_w, i32_w]
        rfl
      refine done_ (done_of HT_.out (by kernel_rfl)) ?_
      try go_wp2
      go_ret
      exact ⟨by first | rfl | (simp [errW_none, errW_some] <;> rfl) | (simp [*, errW_none, errW_some] <;> rfl), by repeat (first | (with_reducible first | exact HB.out | apply below_alloc | apply pw_below_drewN | apply below_drew1 | refine below_set ?_ GE109.out | refine below_set ?_ GE110.out) | exact HB.out)⟩
  · rw [if_neg c4] at H
    have c4b0 : decide (0 ≤ a2) = false := decide_eq_false c4
    clear c4
    obtain rfl := Option.some.inj H
    go_enter Tryz.func25, Tryz.ntmps25
    try go_wp2_with (first | ((with_reducible refine gate_dst (N := 3) rfl ?_); refine box_event ?hg (N := 3) ?hd (cs := #[.int .u8 a0_0, .int .u8 a0_1, .int .u8 a0_2, .int .u8 a0_3]) (t := 24) ?hr ?_; (case hd => rfl); (case hg => rfl); (case hr => first | (go_simp; done) | (go_simp; rfl)); intro gb109 hg w19 hbox hb; have n0_ := Aside0.mk (below_step (by repeat (first | (with_reducible first | exact HB.out | apply below_alloc | apply pw_below_drewN | apply below_drew1) | exact HB.out)) hb); have n1_ := Aside0.mk (hbox); have n2_ := Aside0.mk ((by rw [hg]; exact (below_size (by repeat (first | (with_reducible first | exact HB.out | apply below_alloc | apply pw_below_drewN | apply below_drew1) | exact HB.out))) : w.heap.size ≤ gb109)); have n3_ := Aside0.mk ((by rw [hg]; exact (below_size (by repeat (first | (with_reducible first | exact HB.out | apply below_alloc | apply pw_below_drewN | apply below_drew1) | exact HB.out))) : w.heap.size ≤ gb109)); clear HB; have HB := n0_; have BK109 := n1_; have GW109 := n2_; have GE109 := n3_; clear n0_ n1_ n2_ n3_; clear hb hbox hg) | ((with_reducible refine gate_dst (N := 4) rfl ?_); refine box_event ?hg (N := 4) ?hd (cs := #[.int .u8 a1_0, .int .u8 a1_1, .int .u8 a1_2, .int .u8 a1_3]) (t := 24) ?hr ?_; (case hd => rfl); (case hg => rfl); (case hr => first | (go_simp; done) | (go_simp; rfl)); intro gb110 hg w20 hbox hb; have n0_ := Aside0.mk (blk_below (g := gb109) (o := .cells #[.int .u8 a0_0, .int .u8 a0_1, .int .u8 a0_2, .int .u8 a0_3] 24 (0, 0)) (by (with_reducible repeat (first | refine blk_drewN ?_ _ | refine blk_drew ?_ | refine blk_alloc ?_ _)); exact BK109.out) hb); have n1_ := Aside0.mk (below_step (by repeat (first | (with_reducible first | exact HB.out | apply below_alloc | apply pw_below_drewN | apply below_drew1 | refine below_set ?_ GE109.out) | exact HB.out)) hb); have n2_ := Aside0.mk (hbox); have n3_ := Aside0.mk ((by rw [hg]; exact (below_size (by repeat (first | (with_reducible first | exact HB.out | apply below_alloc | apply pw_below_drewN | apply below_drew1 | refine below_set ?_ GE109.out) | exact HB.out))) : w.heap.size ≤ gb110)); have n4_ := Aside0.mk ((by rw [hg]; exact (below_size (by repeat (first | (with_reducible first | exact HB.out | apply below_alloc | apply pw_below_drewN | apply below_drew1 | refine below_set ?_ GE109.out) | exact HB.out))) : w.heap.size ≤ gb110)); have n5_ := Aside0.mk ((by rw [hg]; exact Nat.ne_of_lt (blk_lt (g := gb109) (o := .cells #[.int .u8 a0_0, .int .u8 a0_1, .int .u8 a0_2, .int .u8 a0_3] 24 (0, 0)) (by (with_reducible repeat (first | refine blk_drewN ?_ _ | refine blk_drew ?_ | refine blk_alloc ?_ _)); exact BK109.out)) : gb109 ≠ gb110)); have n6_ := Aside0.mk ((by rw [hg]; exact Nat.ne_of_gt (blk_lt (g := gb109) (o := .cells #[.int .u8 a0_0, .int .u8 a0_1, .int .u8 a0_2, .int .u8 a0_3] 24 (0, 0)) (by (with_reducible repeat (first | refine blk_drewN ?_ _ | refine blk_drew ?_ | refine blk_alloc ?_ _)); exact BK109.out)) : gb110 ≠ gb109)); clear BK109; clear HB; have BK109 := n0_; have HB := n1_; have BK110 := n2_; have GW110 := n3_; have GE110 := n4_; have NB109_110 := n5_; have NB110_109 := n6_; clear n0_ n1_ n2_ n3_ n4_ n5_ n6_; clear hb hbox hg))
    have n0_ := Aside0.mk (blk_drew BK109.out)
    have n1_ := Aside0.mk (blk_drew BK110.out)
    have n2_ := Aside0.mk (below_drew1 HB.out)
    clear BK109
    clear BK110
    clear HB
    have BK109 := n0_
    have BK110 := n1_
    have HB := n2_
    clear n0_ n1_ n2_
    refine start_ (n := 18) (S := fun w' => True) (ds := []) #[false, false, false, false, false, false, false, false, false, false, false, false, false, false, false, false, false, false] (by kernel_rfl) rfl rfl trivial (fun hHeld => ?_); refine with_tabW host_In.tab1 host_In.bits1 (fun HT_ HW_ => ?_)
    generalize w20.drew = w21 at BK109 BK110 HB hHeld ⊢
    refine pure_ (i := 0) (N := some 7) (v := ?_) (a' := ?_) #[true, false, false, false, false, false, false, false, false, false, false, false, false, false, false, false, false, false] rfl rfl (any_of HT_.out (by kernel_rfl)) (fun _ _ _ h => h) (Or.inl ⟨by rfl, ?_⟩) ?_ ?_
    rotate_left
    · intro w'
      go_simp
      with_reducible rfl
    rotate_left
    · simp only [Act.put, List.setIfInBounds_toArray, List.set_cons_zero, List.set_cons_succ, i64_w, i32_w]
      rfl
    refine pure_ (i := 1) (N := some 8) (v := ?_) (a' := ?_) #[true, true, false, false, false, false, false, false, false, false, false, false, false, false, false, false, false, false] rfl rfl (any_of HT_.out (by kernel_rfl)) (fun _ _ _ h => h) (Or.inl ⟨by rfl, ?_⟩) ?_ ?_
    rotate_left
    · intro w'
      go_simp
      with_reducible rfl
    rotate_left
    · simp only [Act.put, List.setIfInBounds_toArray, List.set_cons_zero, List.set_cons_succ, i64_w, i32_w]
      rfl
    refine pure_ (i := 2) (N := some 9) (v := ?_) (a' := ?_) #[true, true, true, false, false, false, false, false, false, false, false, false, false, false, false, false, false, false] rfl rfl (any_of HT_.out (by kernel_rfl)) (fun _ _ _ h => h) (Or.inl ⟨by rfl, ?_⟩) ?_ ?_
    rotate_left
    · intro w'
      go_simp
      with_reducible rfl
    rotate_left
    · simp only [Act.put, List.setIfInBounds_toArray, List.set_cons_zero, List.set_cons_succ, i64_w, i32_w]
      rfl
    refine pure_ (i := 3) (N := some 10) (v := undef) (a' := ?_) #[true, true, true, true, false, false, false, false, false, false, false, false, false, false, false, false, false, false] rfl rfl (any_of HT_.out (by kernel_rfl)) (fun _ _ _ h => h) (Or.inr ⟨by rfl, rfl⟩) ?_ ?_
    rotate_left
    · simp only [Act.put, List.setIfInBounds_toArray, List.set_cons_zero, List.set_cons_succ, i64_w, i32_w]
      rfl
    refine pure_ (i := 4) (N := some 11) (v := undef) (a' := ?_) #[true, true, true, true, true, false, false, false, false, false, false, false, false, false, false, false, false, false] rfl rfl (any_of HT_.out (by kernel_rfl)) (fun _ _ _ h => h) (Or.inr ⟨by rfl, rfl⟩) ?_ ?_
    rotate_left
    · simp only [Act.put, List.setIfInBounds_toArray, List.set_cons_zero, List.set_cons_succ, i64_w, i32_w]
      rfl
    refine pure_ (i := 5) (N := some 12) (v := ?_) (a' := ?_) #[true, true, true, true, true, true, false, false, false, false, false, false, false, false, false, false, false, false] rfl rfl (any_of HT_.out (by kernel_rfl)) (fun _ _ _ h => h) (Or.inl ⟨by rfl, ?_⟩) ?_ ?_
    rotate_left
    · intro w'
      go_simp
      with_reducible rfl
    rotate_left
    · simp only [Act.put, List.setIfInBounds_toArray, List.set_cons_zero, List.set_cons_succ, i64_w, i32_w]
      rfl
    refine pure_ (i := 6) (N := some 13) (v := ?_) (a' := ?_) #[true, true, true, true, true, true, true, false, false, false, false, false, false, false, false, false, false, false] rfl rfl (any_of HT_.out (by kernel_rfl)) (fun _ _ _ h => h) (Or.inl ⟨by rfl, ?_⟩) ?_ ?_
    rotate_left
    · intro w'
      go_simp
      with_reducible rfl
    rotate_left
    · simp only [Act.put, List.setIfInBounds_toArray, List.set_cons_zero, List.set_cons_succ, i64_w, i32_w]
      rfl
    refine pure_ (i := 7) (N := some 14) (v := undef) (a' := ?_) #[true, true, true, true, true, true, true, true, false, false, false, false, false, false, false, false, false, false] rfl rfl (any_of HT_.out (by kernel_rfl)) (fun _ _ _ h => h) (Or.inr ⟨by rfl, rfl⟩) ?_ ?_
    rotate_left
    · simp only [Act.put, List.setIfInBounds_toArray, List.set_cons_zero, List.set_cons_succ, i64_w, i32_w]
      rfl
    refine pure_ (i := 8) (N := some 15) (v := undef) (a' := ?_) #[true, true, true, true, true, true, true, true, true, false, false, false, false, false, false, false, false, false] rfl rfl (any_of HT_.out (by kernel_rfl)) (fun _ _ _ h => h) (Or.inr ⟨by rfl, rfl⟩) ?_ ?_
    rotate_left
    · simp only [Act.put, List.setIfInBounds_toArray, List.set_cons_zero, List.set_cons_succ, i64_w, i32_w]
      rfl
    refine pure_ (i := 9) (N := some 16) (v := undef) (a' := ?_) #[true, true, true, true, true, true, true, true, true, true, false, false, false, false, false, false, false, false] rfl rfl (any_of HT_.out (by kernel_rfl)) (fun _ _ _ h => h) (Or.inr ⟨by rfl, rfl⟩) ?_ ?_
    rotate_left
    · simp only [Act.put, List.setIfInBounds_toArray, List.set_cons_zero, List.set_cons_succ, i64_w, i32_w]
      rfl
    refine pure_ (i := 10) (N := some 17) (v := undef) (a' := ?_) #[true, true, true, true, true, true, true, true, true, true, true, false, false, false, false, false, false, false] rfl rfl (any_of HT_.out (by kernel_rfl)) (fun _ _ _ h => h) (Or.inr ⟨by rfl, rfl⟩) ?_ ?_
    rotate_left
    · simp only [Act.put, List.setIfInBounds_toArray, List.set_cons_zero, List.set_cons_succ, i64_w, i32_w]
      rfl
    refine pure_ (i := 11) (N := some 18) (v := undef) (a' := ?_) #[true, true, true, true, true, true, true, true, true, true, true, true, false, false, false, false, false, false] rfl rfl (any_of HT_.out (by kernel_rfl)) (fun _ _ _ h => h) (Or.inr ⟨by rfl, rfl⟩) ?_ ?_
    rotate_left
    · simp only [Act.put, List.setIfInBounds_toArray, List.set_cons_zero, List.set_cons_succ, i64_w, i32_w]
      rfl
    refine pure_ (i := 12) (N := some 19) (v := undef) (a' := ?_) #[true, true, true, true, true, true, true, true, true, true, true, true, true, false, false, false, false, false] rfl rfl (any_of HT_.out (by kernel_rfl)) (fun _ _ _ h => h) (Or.inr ⟨by rfl, rfl⟩) ?_ ?_
    rotate_left
    · simp only [Act.put, List.setIfInBounds_toArray, List.set_cons_zero, List.set_cons_succ, i64_w, i32_w]
      rfl
    refine pure_ (i := 13) (N := some 20) (v := undef) (a' := ?_) #[true, true, true, true, true, true, true, true, true, true, true, true, true, true, false, false, false, false] rfl rfl (any_of HT_.out (by kernel_rfl)) (fun _ _ _ h => h) (Or.inr ⟨by rfl, rfl⟩) ?_ ?_
    rotate_left
    · simp only [Act.put, List.setIfInBounds_toArray, List.set_cons_zero, List.set_cons_succ, i64_w, i32_w]
      rfl
    refine pure_ (i := 14) (N := some 21) (v := undef) (a' := ?_) #[true, true, true, true, true, true, true, true, true, true, true, true, true, true, true, false, false, false] rfl rfl (any_of HT_.out (by kernel_rfl)) (fun _ _ _ h => h) (Or.inr ⟨by rfl, rfl⟩) ?_ ?_
    rotate_left
    · simp only [Act.put, List.setIfInBounds_toArray, List.set_cons_zero, List.set_cons_succ, i64_w, i32_w]
      rfl
    refine pure_ (i := 15) (N := some 22) (v := undef) (a' := ?_) #[true, true, true, true, true, true, true, true, true, true, true, true, true, true, true, true, false, false] rfl rfl (any_of HT_.out (by kernel_rfl)) (fun _ _ _ h => h) (Or.inr ⟨by rfl, rfl⟩) ?_ ?_
    rotate_left
    · simp only [Act.put, List.setIfInBounds_toArray, List.set_cons_zero, List.set_cons_succ, i64_w, i32_w]
      rfl
    refine pure_ (i := 16) (N := some 23) (v := ?_) (a' := ?_) #[true, true, true, true, true, true, true, true, true, true, true, true, true, true, true, true, true, false] rfl rfl (any_of HT_.out (by kernel_rfl)) (fun _ _ _ h => h) (Or.inl ⟨by rfl, ?_⟩) ?_ ?_
    rotate_left
    · intro w'
      go_simp
      with_reducible rfl
    rotate_left
    · simp only [Act.put, List.setIfInBounds_toArray, List.set_cons_zero, List.set_cons_succ, i64_w, i32_w]
      rfl
    refine pure_ (i := 17) (N := some 6) (v := ?_) (a' := ?_) #[true, true, true, true, true, true, true, true, true, true, true, true, true, true, true, true, true, true] rfl rfl (any_of HT_.out (by kernel_rfl)) (fun _ _ _ h => h) (Or.inl ⟨by rfl, ?_⟩) ?_ ?_
    rotate_left
    · intro w'
      go_simp
      with_reducible rfl
    rotate_left
    · simp only [Act.put, List.setIfInBounds_toArray, List.set_cons_zero, List.set_cons_succ, i64_w, i32_w]
      rfl
    refine done_ (done_of HT_.out (by kernel_rfl)) ?_
    try go_wp2
    go_ret
    exact ⟨by first | rfl | (simp [errW_none, errW_some] <;> rfl) | (simp [*, errW_none, errW_some] <;> rfl), by repeat (first | (with_reducible first | exact HB.out | apply below_alloc | apply pw_below_drewN | apply below_drew1 | refine below_set ?_ GE109.out | refine below_set ?_ GE110.out) | exact HB.out)⟩
def stringslite_HasSuffix.f (a0 : ByteArray) (a1 : ByteArray) : Option (Bool) := if (a0.size : Int) ≥ (a1.size : Int) then (if 0 ≤ (wrap64 ((a0.size : Int) - (a1.size : Int))) then (if (wrap64 ((a0.size : Int) - (a1.size : Int))) ≤ (a0.size : Int) then (some ((a0.extract ((wrap64 ((a0.size : Int) - (a1.size : Int))) : Int).toNat a0.size).toList == a1.toList)) else (none)) else (none)) else (some false)
set_option maxHeartbeats 8000000 in
set_option maxRecDepth 100000 in
theorem stringslite_HasSuffix.calls (a0 : ByteArray) (a1 : ByteArray) (r : Bool) (w : World) (h : stringslite_HasSuffix.f a0 a1 = some r) :
    Calls Tryz.prog 79 #[.string a0, .string a1] w fun e w' => e = .returned (.bool r) ∧ Drawn0 w w' := by
  have H : (if (a0.size : Int) ≥ (a1.size : Int) then (if 0 ≤ (wrap64 ((a0.size : Int) - (a1.size : Int))) then (if (wrap64 ((a0.size : Int) - (a1.size : Int))) ≤ (a0.size : Int) then (some ((a0.extract ((wrap64 ((a0.size : Int) - (a1.size : Int))) : Int).toNat a0.size).toList == a1.toList)) else (none)) else (none)) else (some false)) = some r := h
  clear h
  by_cases c3 : (a0.size : Int) ≥ (a1.size : Int)
  · rw [if_pos c3] at H
    have c3b0 : decide ((a1.size : Int) ≤ (a0.size : Int)) = true := decide_eq_true c3
    have c3b1 : decide (a1.size ≤ a0.size) = true := decide_eq_true (Int.ofNat_le.mp c3)
    clear c3
    obtain ⟨ji4, hji4⟩ : ∃ j_ : Int, (wrap64 ((a0.size : Int) - (a1.size : Int))) = j_ := ⟨_, rfl⟩
    replace H : (if 0 ≤ (ji4) then (if (ji4) ≤ (a0.size : Int) then (some ((a0.extract ((ji4) : Int).toNat a0.size).toList == a1.toList)) else (none)) else (none)) = some r := by first | (rw [hji4] at H; exact H) | (simp only [hji4] at H ⊢; exact H)
    have hji4w : (IntKind.i64.wrap ((a0.size : Int) - (a1.size : Int))) = ji4 := (i64_w _).trans hji4
    by_cases c5 : 0 ≤ (ji4)
    · rw [if_pos c5] at H
      have c5b0 := eq_true c5
      have c5b1 : decide (0 ≤ (ji4)) = true := decide_eq_true c5
      clear c5
      by_cases c6 : (ji4) ≤ (a0.size : Int)
      · rw [if_pos c6] at H
        have c6b0 := eq_true c6
        have c6b1 : decide ((ji4) ≤ (a0.size : Int)) = true := decide_eq_true c6
        clear c6
        obtain rfl := Option.some.inj H
        go_enter Tryz.func79, Tryz.ntmps79
        go_wp2
        go_ret
        exact ⟨by first | rfl | (simp; done) | (simp only [← hji4] <;> (first | rfl | simp)) | (simp [*]; done), by repeat (first | exact Drawn0.refl _ | apply Drawn0.step)⟩
      · rw [if_neg c6] at H
        exact absurd H (by simp)
    · rw [if_neg c5] at H
      exact absurd H (by simp)
  · rw [if_neg c3] at H
    have c3b0 : decide ((a1.size : Int) ≤ (a0.size : Int)) = false := decide_eq_false c3
    have c3b1 : decide (a1.size ≤ a0.size) = false := decide_eq_false (fun h => c3 (Int.ofNat_le.mpr h))
    clear c3
    obtain rfl := Option.some.inj H
    go_enter Tryz.func79, Tryz.ntmps79
    go_wp2
    go_ret
    exact ⟨by first | rfl | (simp; done) | (simp [*]; done), by repeat (first | exact Drawn0.refl _ | apply Drawn0.step)⟩
def stringslite_CutSuffix.f (a0 : ByteArray) (a1 : ByteArray) : Option (ByteArray × Bool) := (stringslite_HasSuffix.f a0 a1).bind fun t113 => (if t113 = true then (if 0 ≤ (wrap64 ((a0.size : Int) - (a1.size : Int))) then (if (wrap64 ((a0.size : Int) - (a1.size : Int))) ≤ (a0.size : Int) then (some (a0.extract 0 ((wrap64 ((a0.size : Int) - (a1.size : Int))) : Int).toNat, true)) else (none)) else (none)) else (some (a0, false)))
set_option maxHeartbeats 8000000 in
set_option maxRecDepth 100000 in
theorem stringslite_CutSuffix.calls (a0 : ByteArray) (a1 : ByteArray) (r1 : ByteArray) (r2 : Bool) (w : World) (h : stringslite_CutSuffix.f a0 a1 = some (r1, r2)) :
    Calls Tryz.prog 78 #[.string a0, .string a1] w fun e w' => e = .returned (.tuple #[.string r1, .bool r2]) ∧ Drawn0 w w' := by
  have H : ((stringslite_HasSuffix.f a0 a1).bind fun t113 => (if t113 = true then (if 0 ≤ (wrap64 ((a0.size : Int) - (a1.size : Int))) then (if (wrap64 ((a0.size : Int) - (a1.size : Int))) ≤ (a0.size : Int) then (some (a0.extract 0 ((wrap64 ((a0.size : Int) - (a1.size : Int))) : Int).toNat, true)) else (none)) else (none)) else (some (a0, false)))) = some (r1, r2) := h
  clear h
  replace H := Option.bind_eq_some_iff.mp H
  obtain ⟨t113, A30, H⟩ := H
  replace H : (if t113 = true then (if 0 ≤ (wrap64 ((a0.size : Int) - (a1.size : Int))) then (if (wrap64 ((a0.size : Int) - (a1.size : Int))) ≤ (a0.size : Int) then (some (a0.extract 0 ((wrap64 ((a0.size : Int) - (a1.size : Int))) : Int).toNat, true)) else (none)) else (none)) else (some (a0, false))) = some (r1, r2) := H
  have A3 := Aside0.mk A30
  clear A30
  by_cases c4 : t113 = true
  · subst c4
    have H1 : (if 0 ≤ (wrap64 ((a0.size : Int) - (a1.size : Int))) then (if (wrap64 ((a0.size : Int) - (a1.size : Int))) ≤ (a0.size : Int) then (some (a0.extract 0 ((wrap64 ((a0.size : Int) - (a1.size : Int))) : Int).toNat, true)) else (none)) else (none)) = some (r1, r2) := by rw [if_pos rfl] at H; exact H
    clear H
    have H := H1
    clear H1
    obtain ⟨ji5, hji5⟩ : ∃ j_ : Int, (wrap64 ((a0.size : Int) - (a1.size : Int))) = j_ := ⟨_, rfl⟩
    replace H : (if 0 ≤ (ji5) then (if (ji5) ≤ (a0.size : Int) then (some (a0.extract 0 ((ji5) : Int).toNat, true)) else (none)) else (none)) = some (r1, r2) := by first | (rw [hji5] at H; exact H) | (simp only [hji5] at H ⊢; exact H)
    (try rw [hji5] at A3)
    have hji5w : (IntKind.i64.wrap ((a0.size : Int) - (a1.size : Int))) = ji5 := (i64_w _).trans hji5
    by_cases c6 : 0 ≤ (ji5)
    · rw [if_pos c6] at H
      have c6b0 := eq_true c6
      have c6b1 : decide (0 ≤ (ji5)) = true := decide_eq_true c6
      clear c6
      by_cases c7 : (ji5) ≤ (a0.size : Int)
      · rw [if_pos c7] at H
        have c7b0 := eq_true c7
        have c7b1 : decide ((ji5) ≤ (a0.size : Int)) = true := decide_eq_true c7
        clear c7
        simp only [Option.some.injEq, Prod.mk.injEq] at H
        obtain ⟨rfl, rfl⟩ := H
        go_enter Tryz.func78, Tryz.ntmps78
        go_wp2_with (first | ((with_reducible refine gate_callee (f := 79) rfl ?_); refine goesL_ (some 8) rfl rfl Tryz.func79 (by kernel_rfl) rfl #[.string a0, .string a1] rfl (by (try simp only [List.map_toArray, List.map_cons, List.map_nil]); first | done | rfl | (simp only [List.length_drop, List.length_take]; rfl)) ?_; (with_reducible refine (stringslite_HasSuffix.calls a0 a1 true _ A3.out).mono ?_); rintro e w' ⟨rfl, ⟨nd, rfl⟩⟩; refine ⟨_, rfl, ?_⟩))
        go_ret2
        exact ⟨by first | rfl | (simp; done) | (simp only [← hji5] <;> (first | rfl | simp)) | (simp [*]; done), by repeat (first | exact Drawn0.refl _ | apply Drawn0.step)⟩
      · rw [if_neg c7] at H
        exact absurd H (by simp)
    · rw [if_neg c6] at H
      exact absurd H (by simp)
  · replace c4 := Bool.eq_false_iff.mpr c4
    subst c4
    have H1 : (some (a0, false)) = some (r1, r2) := by rw [if_neg (show ¬ (false = true) by decide)] at H; exact H
    clear H
    have H := H1
    clear H1
    simp only [Option.some.injEq, Prod.mk.injEq] at H
    obtain ⟨rfl, rfl⟩ := H
    go_enter Tryz.func78, Tryz.ntmps78
    go_wp2_with (first | ((with_reducible refine gate_callee (f := 79) rfl ?_); refine goesL_ (some 8) rfl rfl Tryz.func79 (by kernel_rfl) rfl #[.string a0, .string a1] rfl (by (try simp only [List.map_toArray, List.map_cons, List.map_nil]); first | done | rfl | (simp only [List.length_drop, List.length_take]; rfl)) ?_; (with_reducible refine (stringslite_HasSuffix.calls a0 a1 false _ A3.out).mono ?_); rintro e w' ⟨rfl, ⟨nd, rfl⟩⟩; refine ⟨_, rfl, ?_⟩))
    go_ret2
    exact ⟨by first | rfl | (simp; done) | (simp [*]; done), by repeat (first | exact Drawn0.refl _ | apply Drawn0.step)⟩
def strings_CutSuffix.f (a0 : ByteArray) (a1 : ByteArray) : Option (ByteArray × Bool) := (stringslite_CutSuffix.f a0 a1).bind fun bt114 => (some (bt114.1, bt114.2))
set_option maxHeartbeats 8000000 in
set_option maxRecDepth 100000 in
theorem strings_CutSuffix.calls (a0 : ByteArray) (a1 : ByteArray) (r1 : ByteArray) (r2 : Bool) (w : World) (h : strings_CutSuffix.f a0 a1 = some (r1, r2)) :
    Calls Tryz.prog 54 #[.string a0, .string a1] w fun e w' => e = .returned (.tuple #[.string r1, .bool r2]) ∧ Drawn0 w w' := by
  have H : ((stringslite_CutSuffix.f a0 a1).bind fun bt114 => (some (bt114.1, bt114.2))) = some (r1, r2) := h
  clear h
  replace H := Option.bind_eq_some_iff.mp H
  obtain ⟨⟨t114, t115⟩, A30, H⟩ := H
  replace H : (some (t114, t115)) = some (r1, r2) := H
  have A3 := Aside0.mk A30
  clear A30
  simp only [Option.some.injEq, Prod.mk.injEq] at H
  obtain ⟨rfl, rfl⟩ := H
  go_enter Tryz.func54, Tryz.ntmps54
  go_wp2_with (first | ((with_reducible refine gate_callee (f := 78) rfl ?_); refine goesL_ (some 8) rfl rfl Tryz.func78 (by kernel_rfl) rfl #[.string a0, .string a1] rfl (by (try simp only [List.map_toArray, List.map_cons, List.map_nil]); first | done | rfl | (simp only [List.length_drop, List.length_take]; rfl)) ?_; (with_reducible refine (stringslite_CutSuffix.calls a0 a1 t114 t115 _ A3.out).mono ?_); rintro e w' ⟨rfl, ⟨nd, rfl⟩⟩; refine ⟨_, rfl, ?_⟩))
  go_ret2
  exact ⟨by first | rfl | (simp; done) | (simp [*]; done), by repeat (first | exact Drawn0.refl _ | apply Drawn0.step)⟩
def strings_HasSuffix.f (a0 : ByteArray) (a1 : ByteArray) : Option (Bool) := (stringslite_HasSuffix.f a0 a1).bind fun t116 => (some t116)
set_option maxHeartbeats 8000000 in
set_option maxRecDepth 100000 in
theorem strings_HasSuffix.calls (a0 : ByteArray) (a1 : ByteArray) (r : Bool) (w : World) (h : strings_HasSuffix.f a0 a1 = some r) :
    Calls Tryz.prog 55 #[.string a0, .string a1] w fun e w' => e = .returned (.bool r) ∧ Drawn0 w w' := by
  have H : ((stringslite_HasSuffix.f a0 a1).bind fun t116 => (some t116)) = some r := h
  clear h
  replace H := Option.bind_eq_some_iff.mp H
  obtain ⟨t116, A30, H⟩ := H
  replace H : (some t116) = some r := H
  have A3 := Aside0.mk A30
  clear A30
  obtain rfl := Option.some.inj H
  go_enter Tryz.func55, Tryz.ntmps55
  go_wp2_with (first | ((with_reducible refine gate_callee (f := 79) rfl ?_); refine goesL_ (some 7) rfl rfl Tryz.func79 (by kernel_rfl) rfl #[.string a0, .string a1] rfl (by (try simp only [List.map_toArray, List.map_cons, List.map_nil]); first | done | rfl | (simp only [List.length_drop, List.length_take]; rfl)) ?_; (with_reducible refine (stringslite_HasSuffix.calls a0 a1 t116 _ A3.out).mono ?_); rintro e w' ⟨rfl, ⟨nd, rfl⟩⟩; refine ⟨_, rfl, ?_⟩))
  go_ret
  exact ⟨by first | rfl | (simp; done) | (simp [*]; done), by repeat (first | exact Drawn0.refl _ | apply Drawn0.step)⟩
def host_Under.f (a0 : ByteArray) (a1 : ByteArray) : Option (Bool) := (strings_CutSuffix.f a0 a1).bind fun bt117 => (if a1.toList = ([] : List UInt8) then (some false) else (if bt117.2 = true then (if bt117.1.toList = ([] : List UInt8) then (some true) else ((strings_HasSuffix.f bt117.1 (⟨#[46]⟩ : ByteArray)).bind fun t119 => (some t119))) else (some false)))
set_option maxHeartbeats 8000000 in
set_option maxRecDepth 100000 in
theorem host_Under.calls (a0 : ByteArray) (a1 : ByteArray) (r : Bool) (w : World) (h : host_Under.f a0 a1 = some r) :
    Calls Tryz.prog 27 #[.string a0, .string a1] w fun e w' => e = .returned (.bool r) ∧ Drawn0 w w' := by
  have H : ((strings_CutSuffix.f a0 a1).bind fun bt117 => (if a1.toList = ([] : List UInt8) then (some false) else (if bt117.2 = true then (if bt117.1.toList = ([] : List UInt8) then (some true) else ((strings_HasSuffix.f bt117.1 (⟨#[46]⟩ : ByteArray)).bind fun t119 => (some t119))) else (some false)))) = some r := h
  clear h
  replace H := Option.bind_eq_some_iff.mp H
  obtain ⟨⟨t117, t118⟩, A30, H⟩ := H
  replace H : (if a1.toList = ([] : List UInt8) then (some false) else (if t118 = true then (if t117.toList = ([] : List UInt8) then (some true) else ((strings_HasSuffix.f t117 (⟨#[46]⟩ : ByteArray)).bind fun t119 => (some t119))) else (some false))) = some r := H
  have A3 := Aside0.mk A30
  clear A30
  by_cases c4 : a1.toList = ([] : List UInt8)
  · rw [if_pos c4] at H
    have c4b0 : (a1.toList == ([] : List UInt8)) = true := beq_iff_eq.mpr c4
    have c4b1 : (a1.toList != ([] : List UInt8)) = false := bne_eq_false_iff_eq.mpr c4
    clear c4
    obtain rfl := Option.some.inj H
    go_enter Tryz.func27, Tryz.ntmps27
    go_wp2_with (first | ((with_reducible refine gate_callee (f := 54) rfl ?_); refine goesL_ (some 10) rfl rfl Tryz.func54 (by kernel_rfl) rfl #[.string a0, .string a1] rfl (by (try simp only [List.map_toArray, List.map_cons, List.map_nil]); first | done | rfl | (simp only [List.length_drop, List.length_take]; rfl)) ?_; (with_reducible refine (strings_CutSuffix.calls a0 a1 t117 t118 _ A3.out).mono ?_); rintro e w' ⟨rfl, ⟨nd, rfl⟩⟩; refine ⟨_, rfl, ?_⟩))
    go_ret
    exact ⟨by first | rfl | (simp; done) | (simp [*]; done), by repeat (first | exact Drawn0.refl _ | apply Drawn0.step)⟩
  · rw [if_neg c4] at H
    have c4b0 : (a1.toList == ([] : List UInt8)) = false := beq_eq_false_iff_ne.mpr c4
    have c4b1 : (a1.toList != ([] : List UInt8)) = true := bne_iff_ne.mpr c4
    by_cases c5 : t118 = true
    · subst c5
      have H1 : (if t117.toList = ([] : List UInt8) then (some true) else ((strings_HasSuffix.f t117 (⟨#[46]⟩ : ByteArray)).bind fun t119 => (some t119))) = some r := by rw [if_pos rfl] at H; exact H
      clear H
      have H := H1
      clear H1
      by_cases c6 : t117.toList = ([] : List UInt8)
      · rw [if_pos c6] at H
        have c6b0 : (t117.toList == ([] : List UInt8)) = true := beq_iff_eq.mpr c6
        have c6b1 : (t117.toList != ([] : List UInt8)) = false := bne_eq_false_iff_eq.mpr c6
        clear c6
        obtain rfl := Option.some.inj H
        go_enter Tryz.func27, Tryz.ntmps27
        go_wp2_with (first | ((with_reducible refine gate_callee (f := 54) rfl ?_); refine goesL_ (some 10) rfl rfl Tryz.func54 (by kernel_rfl) rfl #[.string a0, .string a1] rfl (by (try simp only [List.map_toArray, List.map_cons, List.map_nil]); first | done | rfl | (simp only [List.length_drop, List.length_take]; rfl)) ?_; (with_reducible refine (strings_CutSuffix.calls a0 a1 t117 true _ A3.out).mono ?_); rintro e w' ⟨rfl, ⟨nd, rfl⟩⟩; refine ⟨_, rfl, ?_⟩))
        go_ret
        exact ⟨by first | rfl | (simp; done) | (simp [*]; done), by repeat (first | exact Drawn0.refl _ | apply Drawn0.step)⟩
      · rw [if_neg c6] at H
        have c6b0 : (t117.toList == ([] : List UInt8)) = false := beq_eq_false_iff_ne.mpr c6
        have c6b1 : (t117.toList != ([] : List UInt8)) = true := bne_iff_ne.mpr c6
        replace H := Option.bind_eq_some_iff.mp H
        obtain ⟨t119, A70, H⟩ := H
        replace H : (some t119) = some r := H
        have A7 := Aside0.mk A70
        clear A70
        obtain rfl := Option.some.inj H
        go_enter Tryz.func27, Tryz.ntmps27
        go_wp2_with (first | ((with_reducible refine gate_callee (f := 54) rfl ?_); refine goesL_ (some 10) rfl rfl Tryz.func54 (by kernel_rfl) rfl #[.string a0, .string a1] rfl (by (try simp only [List.map_toArray, List.map_cons, List.map_nil]); first | done | rfl | (simp only [List.length_drop, List.length_take]; rfl)) ?_; (with_reducible refine (strings_CutSuffix.calls a0 a1 t117 true _ A3.out).mono ?_); rintro e w' ⟨rfl, ⟨nd, rfl⟩⟩; refine ⟨_, rfl, ?_⟩) | (go_at_call 55; (with_reducible refine (strings_HasSuffix.calls t117 (⟨#[46]⟩ : ByteArray) t119 _ A7.out).mono ?_); rintro e w' ⟨rfl, ⟨nd, rfl⟩⟩))
        go_ret
        exact ⟨by first | rfl | (simp; done) | (simp [*]; done), by repeat (first | exact Drawn0.refl _ | apply Drawn0.step)⟩
    · replace c5 := Bool.eq_false_iff.mpr c5
      subst c5
      have H1 : (some false) = some r := by rw [if_neg (show ¬ (false = true) by decide)] at H; exact H
      clear H
      have H := H1
      clear H1
      obtain rfl := Option.some.inj H
      go_enter Tryz.func27, Tryz.ntmps27
      go_wp2_with (first | ((with_reducible refine gate_callee (f := 54) rfl ?_); refine goesL_ (some 10) rfl rfl Tryz.func54 (by kernel_rfl) rfl #[.string a0, .string a1] rfl (by (try simp only [List.map_toArray, List.map_cons, List.map_nil]); first | done | rfl | (simp only [List.length_drop, List.length_take]; rfl)) ?_; (with_reducible refine (strings_CutSuffix.calls a0 a1 t117 false _ A3.out).mono ?_); rintro e w' ⟨rfl, ⟨nd, rfl⟩⟩; refine ⟨_, rfl, ?_⟩))
      go_ret
      exact ⟨by first | rfl | (simp; done) | (simp [*]; done), by repeat (first | exact Drawn0.refl _ | apply Drawn0.step)⟩
end Go.Proofs.YteondnhokgmakaaGreatDoor.XC


namespace Go.Proofs.YteondnhokgmakaaGreatDoor.XC
open Go.RowKit Go.Proofs.YteondnhokgmakaaGreatDoorW.PrintWords Go.Proofs.YteondnhokgmakaaGreatDoorW.PrintLast Go.Proofs.YteondnhokgmakaaGreatDoorW.PrintMore
attribute [local go_sem] max2_int min2_int max_two min_two max_three min_three max_four min_four
set_option linter.unusedVariables false
set_option linter.unusedSimpArgs false
end Go.Proofs.YteondnhokgmakaaGreatDoor.XC


namespace Go.Proofs.YteondnhokgmakaaGreatDoor.E
open Go.RowKit Go.Proofs.YteondnhokgmakaaGreatDoorW.PrintWords Go.Proofs.YteondnhokgmakaaGreatDoorW.PrintLast
set_option linter.unusedVariables false
set_option linter.unusedSimpArgs false
def Blk (w : World) (R : Nat) (C : Array Value) (T : TypeId) : Prop := w.heap[R]? = some (.cells C T (0, 0))
theorem Blk.cell {w : World} {R : Nat} {C : Array Value} {T : TypeId} (h : Blk w R C T) (j : Nat) (v : Value) (hj : C[j]? = some v) : w.cell? ⟨R, j, none⟩ = some v := by
  unfold World.cell?; rw [show w.heap[R]? = _ from h]; exact hj
theorem Blk.free {w : World} {R : Nat} {C : Array Value} {T : TypeId} (h : Blk w R C T) (j : Nat) : w.frozen? ⟨R, j, none⟩ = false := by
  unfold World.frozen?; rw [show w.heap[R]? = _ from h]; simp
theorem Blk.lt {w : World} {R : Nat} {C : Array Value} {T : TypeId} (h : Blk w R C T) : R < w.heap.size := (Array.getElem?_eq_some_iff.1 h).1
theorem Blk.below {w w1 : World} {R : Nat} {C : Array Value} {T : TypeId} (h : Blk w R C T) (hb : Below w.heap.size w w1) : Blk w1 R C T := (hb.block R h.lt).trans h
theorem Blk.set {w : World} {R : Nat} {C : Array Value} {T : TypeId} (h : Blk w R C T) (j : Nat) (v : Value) : Blk (w.setCell ⟨R, j, none⟩ v) R (C.setIfInBounds j v) T := by
  unfold Blk World.setCell
  simp only [Option.isSome_none, Bool.false_eq_true, if_false]
  rw [Array.getElem?_modify, if_pos rfl, show w.heap[R]? = _ from h]; rfl
theorem Blk.other {w : World} {R : Nat} {C : Array Value} {T : TypeId} (h : Blk w R C T) (p : Addr) (hp : R ≠ p.block) (v : Value) : Blk (w.setCell p v) R C T := (Below.heap_setCell _ _ _ _ hp).trans h
theorem Blk.new (w : World) (C : Array Value) (T : TypeId) : Blk (w.alloc (.cells C T)) w.heap.size C T := heap_alloc_new w _
theorem Blk.old {w : World} {R : Nat} {C : Array Value} {T : TypeId} (h : Blk w R C T) (o : Obj) : Blk (w.alloc o) R C T := (Below.heap_alloc _ _ _ h.lt).trans h
def rc (al : Bool) (a b c d bi : Int) (su : ByteArray) (lo hi : Int) : Array Value := #[.bool al, .int .u8 a, .int .u8 b, .int .u8 c, .int .u8 d, .int .i64 bi, .string su, .int .i64 lo, .int .i64 hi]
theorem Blk.nine {w : World} {R : Nat} {al : Bool} {a b c d bi : Int} {su : ByteArray} {lo hi : Int} {T : TypeId} (h : Blk w R (rc al a b c d bi su lo hi) T) :
    w.cell? ⟨R, 0, none⟩ = some (.bool al) ∧ w.cell? ⟨R, 1, none⟩ = some (.int .u8 a) ∧ w.cell? ⟨R, 2, none⟩ = some (.int .u8 b) ∧ w.cell? ⟨R, 3, none⟩ = some (.int .u8 c) ∧ w.cell? ⟨R, 4, none⟩ = some (.int .u8 d) ∧ w.cell? ⟨R, 5, none⟩ = some (.int .i64 bi) ∧ w.cell? ⟨R, 6, none⟩ = some (.string su) ∧ w.cell? ⟨R, 7, none⟩ = some (.int .i64 lo) ∧ w.cell? ⟨R, 8, none⟩ = some (.int .i64 hi) :=
  ⟨h.cell 0 _ rfl, h.cell 1 _ rfl, h.cell 2 _ rfl, h.cell 3 _ rfl, h.cell 4 _ rfl, h.cell 5 _ rfl, h.cell 6 _ rfl, h.cell 7 _ rfl, h.cell 8 _ rfl⟩
theorem Blk.frees {w : World} {R : Nat} {C : Array Value} {T : TypeId} (h : Blk w R C T) :
    w.frozen? ⟨R, 0, none⟩ = false ∧ w.frozen? ⟨R, 1, none⟩ = false ∧ w.frozen? ⟨R, 2, none⟩ = false ∧ w.frozen? ⟨R, 3, none⟩ = false ∧ w.frozen? ⟨R, 4, none⟩ = false ∧ w.frozen? ⟨R, 5, none⟩ = false ∧ w.frozen? ⟨R, 6, none⟩ = false ∧ w.frozen? ⟨R, 7, none⟩ = false ∧ w.frozen? ⟨R, 8, none⟩ = false :=
  ⟨h.free 0, h.free 1, h.free 2, h.free 3, h.free 4, h.free 5, h.free 6, h.free 7, h.free 8⟩
def wordsS (s : ByteArray) : List ByteArray := Lib.splitB ⟨#[32]⟩ 0 (Lib.countB s ⟨#[32]⟩) s
theorem split_blanks (s : ByteArray) (hs : s.size < 4294967281) (w : World) (hS : StdW w) :
    Calls Tryz.prog 45 #[.string s, .string ⟨#[32]⟩] w fun e w' => e = .returned (.slice (some ⟨w.heap.size, 0, none⟩) (wordsS s).length (wordsS s).length) ∧ (∀ j, (h : j < (wordsS s).length) → w'.cell? ⟨w.heap.size, j, none⟩ = some (.string (wordsS s)[j])) ∧ w.heap.size < w'.heap.size ∧ Below w.heap.size w w' := by
  obtain ⟨m, hm⟩ := hS.max
  refine (Tryz.strings_Split s ⟨#[32]⟩ m w hs hm (Nat.le_refl _)).mono ?_
  rintro e w' ⟨rfl, rfl⟩
  have hl := Lib.splitB_all ⟨#[32]⟩ (Nat.le_refl _) 0 _ s rfl
  refine ⟨by unfold wordsS; rw [hl], fun j hj => ?_, by simp, (Below.refl _ _).alloc (Nat.le_refl _) _⟩
  unfold wordsS at hj ⊢
  rw [World.cell?_alloc_new, List.getElem?_toArray, List.getElem?_map, List.getElem?_eq_getElem hj]
  rfl
def zeroRule : Value := .tuple #[.agg (rc false 0 0 0 0 0 ⟨#[]⟩ 0 0), .int .i64 120]
def ppOut (fin al : Bool) (a b c d bi : Int) (su : ByteArray) (lo hi : Int) : Value := if fin then .tuple #[.agg (rc al a b c d bi su lo hi), .int .i64 0] else zeroRule
end Go.Proofs.YteondnhokgmakaaGreatDoor.E


namespace Go.Proofs.YteondnhokgmakaaGreatDoor.E
open Go.RowKit Go.Proofs.YteondnhokgmakaaGreatDoorW.PrintWords Go.Proofs.YteondnhokgmakaaGreatDoorW.PrintLast Go.Proofs.YteondnhokgmakaaGreatDoor.XC
set_option linter.unusedVariables false
set_option linter.unusedSimpArgs false
def rightB (r : S37) : Bool := (policy_right.f 1 r.f0 r.f1.f0 r.f1.f1 r.f1.f2 r.f1.f3 r.f2 r.f3 r.f4 r.f5).getD false
def checkL (l : List S37) : Int := if 64 < l.length then 3 else if l.all rightB then 0 else 120
def inB (a b c d e f g h bi : Int) : Bool := (host_In.f a b c d e f g h bi).getD false
def underB (n x : ByteArray) : Bool := (host_Under.f n x).getD false
def fitB (a b c d : Int) (n : ByteArray) (po : Int) (r : S37) : Bool :=
  if po < r.f4 then false else if r.f5 < po then false else if (r.f3.toList.isEmpty != n.toList.isEmpty) then false
  else if r.f3.toList.isEmpty then inB a b c d r.f1.f0 r.f1.f1 r.f1.f2 r.f1.f3 r.f2 else underB n r.f3
def whichAt (fit : S37 → Bool) : List S37 → Int → Int
  | [], _ => -1
  | r :: l, i => if fit r then i else whichAt fit l (i + 1)
def whichB (l : List S37) (a b c d : Int) (n : ByteArray) (po : Int) : Int :=
  if checkL l = 0 then if (printDestB a b c d n po).toList.isEmpty then -1 else whichAt (fitB a b c d n po) l 0 else -1
theorem wrap64_id (x : Int) (h0 : -9223372036854775808 ≤ x) (h1 : x ≤ 9223372036854775807) : wrap64 x = x := by
  unfold wrap64; omega
theorem inB_some (a b c d e f g h bi : Int) : host_In.f a b c d e f g h bi = some (inB a b c d e f g h bi) := by
  unfold inB
  have : ∃ r, host_In.f a b c d e f g h bi = some r := by
    unfold host_In.f
    split
    · split
      · have : (0 : Int) ≤ wrap64 (32 - bi) := by rw [wrap64_id _ (by omega) (by omega)]; omega
        simp only [host_word.f, Option.bind_some, if_pos this]
        exact ⟨_, rfl⟩
      · exact ⟨_, rfl⟩
    · exact ⟨_, rfl⟩
  obtain ⟨r, hr⟩ := this
  rw [hr]; rfl
theorem hasSuffix_some (a b : ByteArray) (ha : a.size ≤ 281474976710656) : stringslite_HasSuffix.f a b = some (decide (b.size ≤ a.size) && ((a.extract (a.size - b.size) a.size).toList == b.toList)) := by
  unfold stringslite_HasSuffix.f
  by_cases h : (a.size : Int) ≥ (b.size : Int)
  · have e : wrap64 ((a.size : Int) - (b.size : Int)) = (a.size : Int) - (b.size : Int) := wrap64_id _ (by omega) (by omega)
    rw [if_pos h, e, if_pos (by omega), if_pos (by omega), show ((a.size : Int) - (b.size : Int)).toNat = a.size - b.size by omega, decide_eq_true (show b.size ≤ a.size by omega)]; rfl
  · rw [if_neg h, decide_eq_false (show ¬ b.size ≤ a.size by omega)]; rfl
theorem underB_some (n x : ByteArray) (hn : n.size ≤ 281474976710656) : host_Under.f n x = some (underB n x) := by
  unfold underB
  have : ∃ r, host_Under.f n x = some r := by
    have hc : ∃ p, strings_CutSuffix.f n x = some p ∧ p.1.size ≤ 281474976710656 := by
      unfold strings_CutSuffix.f stringslite_CutSuffix.f
      rw [hasSuffix_some _ _ hn]
      simp only [Option.bind_some]
      split
      · rename_i hb
        have hle : x.size ≤ n.size := by
          have := (Bool.and_eq_true_iff.mp hb).1; exact of_decide_eq_true this
        have e : wrap64 ((n.size : Int) - (x.size : Int)) = (n.size : Int) - (x.size : Int) := wrap64_id _ (by omega) (by omega)
        rw [e, if_pos (by omega), if_pos (by omega)]
        refine ⟨_, rfl, ?_⟩
        show (n.extract 0 _).size ≤ _
        rw [ByteArray.size_extract]; omega
      · exact ⟨_, rfl, hn⟩
    obtain ⟨p, hp, hps⟩ := hc
    unfold host_Under.f
    rw [hp]
    simp only [Option.bind_some]
    split
    · exact ⟨_, rfl⟩
    · split
      · split
        · exact ⟨_, rfl⟩
        · unfold strings_HasSuffix.f
          rw [hasSuffix_some _ _ hps]
          exact ⟨_, rfl⟩
      · exact ⟨_, rfl⟩
  obtain ⟨r, hr⟩ := this
  rw [hr]; rfl
theorem rightB_some (k : Nat) (r : S37) (hs : r.f3.size ≤ 281474976710656) : policy_right.f (k + 1) r.f0 r.f1.f0 r.f1.f1 r.f1.f2 r.f1.f3 r.f2 r.f3 r.f4 r.f5 = some (rightB r) := by
  have he : policy_right.f (k + 1) r.f0 r.f1.f0 r.f1.f1 r.f1.f2 r.f1.f3 r.f2 r.f3 r.f4 r.f5 = policy_right.f 1 r.f0 r.f1.f0 r.f1.f1 r.f1.f2 r.f1.f3 r.f2 r.f3 r.f4 r.f5 := by
    unfold policy_right.f policy_right.j0; rfl
  rw [he]
  unfold rightB
  have : ∃ x, policy_right.f 1 r.f0 r.f1.f0 r.f1.f1 r.f1.f2 r.f1.f3 r.f2 r.f3 r.f4 r.f5 = some x := by
    have hj : ∀ t, ∃ x, policy_right.j0 1 t r.f0 r.f1.f0 r.f1.f1 r.f1.f2 r.f1.f3 r.f2 r.f3 r.f4 r.f5 = some x := by
      intro t
      simp only [policy_right.j0, E.hCheck.f, policy_bits.f, if_pos hs, Option.bind_some]
      split
      · exact ⟨_, rfl⟩
      · split
        · split
          · split
            · exact ⟨_, rfl⟩
            · exact ⟨_, rfl⟩
          · exact ⟨_, rfl⟩
        · split
          · split <;> exact ⟨_, rfl⟩
          · exact ⟨_, rfl⟩
    unfold policy_right.f
    split
    · exact hj _
    · split
      · exact hj _
      · exact hj _
  obtain ⟨x, hx⟩ := this
  rw [hx]; rfl
theorem checkL_some (l : List S37) (hs : ∀ r ∈ l, r.f3.size ≤ 281474976710656) : policy_Check.f 67 l = some (checkL l) := by
  unfold policy_Check.f checkL
  by_cases h : 64 < l.length
  · rw [if_pos (by omega), if_pos h]
  · rw [if_neg (by omega), if_neg h]
    have main : ∀ m k : Nat, ∀ j : Nat, j + m = l.length → m < k → policy_Check.l0 (k + 1) l (l.length : Int) (j : Int) = some (if (l.drop j).all rightB then 0 else 120) := by
      intro m
      induction m with
      | zero =>
        intro k j hj hk
        unfold policy_Check.l0
        rw [if_neg (by omega), List.drop_of_length_le (by omega)]
        rfl
      | succ m ih =>
        intro k j hj hk
        have hjl : j < l.length := by omega
        unfold policy_Check.l0
        have hrd : rd_T37 l (j : Int) = l[j] := by
          unfold rd_T37
          rw [show ((j : Int)).toNat = j by omega, List.getD_eq_getElem?_getD, List.getElem?_eq_getElem hjl]; rfl
        rw [if_pos (by omega), if_pos (by omega), if_pos (by omega), hrd, List.drop_eq_getElem_cons hjl, List.all_cons]
        cases k with
        | zero => omega
        | succ k =>
          rw [rightB_some k _ (hs _ (List.getElem_mem hjl)), Option.bind_some]
          cases hb : rightB l[j]
          · rw [if_neg (by simp)]; rfl
          · rw [if_pos rfl, wrap64_id _ (by omega) (by omega), show (j : Int) + 1 = ((j + 1 : Nat) : Int) by omega, ih k (j + 1) (by omega) (by omega)]; rfl
    have := main l.length 66 0 (by omega) (by omega)
    rw [List.drop_zero] at this
    exact this
end Go.Proofs.YteondnhokgmakaaGreatDoor.E


namespace Go.Proofs.YteondnhokgmakaaGreatDoor.E
open Go.RowKit Go.Proofs.YteondnhokgmakaaGreatDoorW.PrintWords Go.Proofs.YteondnhokgmakaaGreatDoorW.PrintLast Go.Proofs.YteondnhokgmakaaGreatDoor.XC
set_option linter.unusedVariables false
set_option linter.unusedSimpArgs false
theorem cutOn_step (c x : UInt8) (l : List UInt8) : Pt.cutOn c (x :: l) = if x = c then [] :: Pt.cutOn c l else match Pt.cutOn c l with
    | [] => [[x]]
    | p :: r => (x :: p) :: r := rfl
theorem cutOn_none1 (c : UInt8) : ∀ l : List UInt8, c ∉ l → Pt.cutOn c l = [l]
  | [], _ => rfl
  | x :: l, h => by
    rw [cutOn_step, if_neg (show ¬ x = c from fun e => h (by rw [e]; exact List.mem_cons_self)), cutOn_none1 c l (fun e => h (List.mem_cons_of_mem _ e))]
theorem cutOn_app1 (c : UInt8) (b : List UInt8) : ∀ a : List UInt8, c ∉ a → Pt.cutOn c (a ++ c :: b) = a :: Pt.cutOn c b
  | [], _ => by rw [List.nil_append, cutOn_step, if_pos rfl]
  | x :: a, h => by
    rw [List.cons_append, cutOn_step, if_neg (show ¬ x = c from fun e => h (by rw [e]; exact List.mem_cons_self)), cutOn_app1 c b a (fun e => h (List.mem_cons_of_mem _ e))]
theorem itoa_dec (n : Int) (h : 0 ≤ n) : Lib.itoa n = Lib.decDigits n.toNat := by unfold Lib.itoa; rw [if_neg (by omega)]
theorem itoa_digs (n : Int) (h : 0 ≤ n) : ∀ c ∈ Lib.itoa n, 48 ≤ c.toNat ∧ c.toNat ≤ 57 := fun c hc => by
  rw [itoa_dec n h] at hc
  exact (Num.dig_iff c).1 (Num.dec_digits _ c hc)
theorem itoa_not (n : Int) (h : 0 ≤ n) (c : UInt8) (hc : c.toNat < 48) : c ∉ Lib.itoa n := fun hm => by have := itoa_digs n h c hm; omega
theorem numP_itoa (n : Int) (h0 : 0 ≤ n) (h1 : n < 9223372036854775808) : numOkP (Lib.itoa n) = true ∧ atoiV (Lib.itoa n) = n := by
  rw [itoa_dec n h0]
  have := numOkP_canon (Lib.decDigits n.toNat) (Num.canon_dec _) (by rw [Num.val_dec]; omega)
  rw [Num.val_dec] at this
  exact ⟨this.1, this.2.trans (by omega)⟩
theorem num_itoa (n m : Int) (h0 : 0 ≤ n) (h1 : n ≤ m) (h2 : n < 9223372036854775808) : numOk (Lib.itoa n) m = true := by
  have hp := (numP_itoa n h0 h2)
  have hi : Lib.atoiAll (Lib.itoa n) = .ok n := by
    have := Num.atoi_canon (Lib.itoa n) (by rw [itoa_dec n h0]; exact Num.canon_dec _) (by rw [itoa_dec n h0, Num.val_dec]; omega)
    rw [this, itoa_dec n h0, Num.val_dec]
    congr 1; omega
  unfold numOk
  rw [hi]
  simp [h0, h1]
theorem num_back (l : List UInt8) (m : Int) (h : numOk l m = true) : Lib.itoa (atoiV l) = l ∧ 0 ≤ atoiV l ∧ atoiV l ≤ m := by
  unfold numOk at h
  unfold atoiV
  rcases ha : Lib.atoiAll l with v | _ | _
  · rw [ha] at h
    simp only [Bool.and_eq_true, decide_eq_true_eq, beq_iff_eq] at h
    exact ⟨h.2.2, h.1, h.2.1⟩
  · rw [ha] at h; cases h
  · rw [ha] at h; cases h
theorem data_inj {a b : ByteArray} (h : a.data.toList = b.data.toList) : a = b := ByteArray.ext (Array.toList_inj.1 h)
theorem map_data_inj : ∀ {a b : List ByteArray}, a.map (·.data.toList) = b.map (·.data.toList) → a = b
  | [], [], _ => rfl
  | [], _ :: _, h => by cases h
  | _ :: _, [], h => by cases h
  | x :: a, y :: b, h => by
    simp only [List.map_cons, List.cons.injEq] at h
    rw [data_inj h.1, map_data_inj h.2]
theorem addrS_list (a b c d : Int) : (addrS a b c d).data.toList = Lib.itoa a ++ 46 :: (Lib.itoa b ++ 46 :: (Lib.itoa c ++ 46 :: Lib.itoa d)) := by
  simp [addrS, it, Lib.join, List.intercalate, List.intersperse]
theorem addrS_parts (a b c d : Int) (ha : 0 ≤ a) (hb : 0 ≤ b) (hc : 0 ≤ c) (hd : 0 ≤ d) : parts (addrS a b c d) = [it a, it b, it c, it d] := by
  apply map_data_inj
  rw [parts_data, addrS_list, cutOn_app1 46 _ _ (itoa_not a ha 46 (by decide)), cutOn_app1 46 _ _ (itoa_not b hb 46 (by decide)), cutOn_app1 46 _ _ (itoa_not c hc 46 (by decide)), cutOn_none1 46 _ (itoa_not d hd 46 (by decide))]
  rfl
theorem paRes_addrS (a b c d : Int) (ha : 0 ≤ a) (ha1 : a ≤ 255) (hb : 0 ≤ b) (hb1 : b ≤ 255) (hc : 0 ≤ c) (hc1 : c ≤ 255) (hd : 0 ≤ d) (hd1 : d ≤ 255) : paRes (addrS a b c d) = .inr [a, b, c, d] := by
  have hz := addrS_size a b c d ha ha1 hb hb1 hc hc1 hd hd1
  have hsz : (addrS a b c d).size = (it a).size + (it b).size + (it c).size + (it d).size + 3 := by
    have := sumAt_parts (addrS a b c d)
    rw [addrS_parts a b c d ha hb hc hd] at this
    simp only [sumAt] at this
    omega
  have e : ∀ n, (it n).data.toList = Lib.itoa n := fun n => rfl
  unfold paRes
  rw [if_neg (by omega), addrS_parts a b c d ha hb hc hd]
  simp only [paLoop, e]
  rw [if_neg (by decide), num_itoa a 255 ha ha1 (by omega), if_neg (by decide), if_neg (by omega),
    if_neg (by decide), num_itoa b 255 hb hb1 (by omega), if_neg (by decide), if_neg (by omega),
    if_neg (by decide), num_itoa c 255 hc hc1 (by omega), if_neg (by decide), if_neg (by omega),
    if_neg (by decide), num_itoa d 255 hd hd1 (by omega), if_neg (by decide), if_neg (by omega),
    (numP_itoa a ha (by omega)).2, (numP_itoa b hb (by omega)).2, (numP_itoa c hc (by omega)).2, (numP_itoa d hd (by omega)).2]
  rfl
theorem paLoop_ok (sz : Int) : ∀ (ps : List ByteArray) (i a : Int) (acc l : List Int), paLoop sz i a ps acc = .inr l → (∀ p ∈ ps, numOk p.data.toList 255 = true) ∧ l = acc ++ ps.map (fun p => atoiV p.data.toList) ∧ (i ≤ 4 → i + ps.length ≤ 4)
  | [], i, a, acc, l, h => by
    simp only [paLoop] at h
    cases h
    exact ⟨fun p hp => (by cases hp), (by simp), fun h => (by simpa using h)⟩
  | p :: r, i, a, acc, l, h => by
    simp only [paLoop] at h
    split at h
    · cases h
    · rename_i hi
      split at h
      · cases h
      · rename_i hn
        split at h
        · cases h
        · obtain ⟨h1, h2, h3⟩ := paLoop_ok sz r _ _ _ _ h
          refine ⟨fun q hq => ?_, (by rw [h2]; simp), fun h4 => (by have := h3 (by omega); rw [List.length_cons]; omega)⟩
          rcases List.mem_cons.1 hq with rfl | hq
          · simpa using hn
          · exact h1 q hq
theorem paRes_back (s : ByteArray) (l : List Int) (h : paRes s = .inr l) : ∃ a b c d : Int, l = [a, b, c, d] ∧ s = addrS a b c d ∧ (0 ≤ a ∧ a ≤ 255) ∧ (0 ≤ b ∧ b ≤ 255) ∧ (0 ≤ c ∧ c ≤ 255) ∧ (0 ≤ d ∧ d ≤ 255) := by
  unfold paRes at h
  split at h
  · cases h
  · have hs := sumAt_parts s
    have hj := Pt.join_cutOn 46 s.data.toList
    rw [← parts_data] at hj
    have hp := parts_pos s
    generalize parts s = P at h hs hj hp
    match P, h, hs, hj, hp with
    | [p], h, hs, hj, _ =>
      simp only [paLoop, sumAt] at h hs
      repeat' split at h
      all_goals first | cases h; done | (exfalso; omega)
    | [p, q], h, hs, hj, _ =>
      simp only [paLoop, sumAt] at h hs
      repeat' split at h
      all_goals first | cases h; done | (exfalso; omega)
    | [p, q, r], h, hs, hj, _ =>
      simp only [paLoop, sumAt] at h hs
      repeat' split at h
      all_goals first | cases h; done | (exfalso; omega)
    | [p, q, r, t], h, hs, hj, _ =>
      obtain ⟨hn, hl, -⟩ := paLoop_ok _ _ _ _ _ _ h
      have b1 := num_back _ _ (hn p (by simp))
      have b2 := num_back _ _ (hn q (by simp))
      have b3 := num_back _ _ (hn r (by simp))
      have b4 := num_back _ _ (hn t (by simp))
      refine ⟨_, _, _, _, hl, data_inj ?_, b1.2, b2.2, b3.2, b4.2⟩
      rw [addrS_list, b1.1, b2.1, b3.1, b4.1, ← hj]
      simp [List.intercalate, List.intersperse]
    | p :: q :: r :: t :: u :: v, h, hs, hj, _ =>
      obtain ⟨-, -, h3⟩ := paLoop_ok _ _ _ _ _ _ h
      have := h3 (by decide)
      simp only [List.length_cons] at this
      omega
end Go.Proofs.YteondnhokgmakaaGreatDoor.E


namespace Go.Proofs.YteondnhokgmakaaGreatDoor.E
open Go.RowKit Go.Proofs.YteondnhokgmakaaGreatDoorW.PrintWords Go.Proofs.YteondnhokgmakaaGreatDoorW.PrintLast
set_option linter.unusedVariables false
set_option linter.unusedSimpArgs false
def hC (a b c d : Int) (n : ByteArray) : Array Value := #[.int .u8 a, .int .u8 b, .int .u8 c, .int .u8 d, .string n]
theorem Blk.hids {w : World} {R : Nat} {T : TypeId} (h : Blk w R (hC 0 0 0 0 ⟨#[]⟩) T) :
    w.cell? ⟨R, 0, none⟩ = some (.int .u8 0) ∧ w.cell? ⟨R, 1, none⟩ = some (.int .u8 0) ∧ w.cell? ⟨R, 2, none⟩ = some (.int .u8 0) ∧ w.cell? ⟨R, 3, none⟩ = some (.int .u8 0) ∧ w.cell? ⟨R, 4, none⟩ = some (.string ⟨#[]⟩) ∧
    w.frozen? ⟨R, 0, none⟩ = false ∧ w.frozen? ⟨R, 1, none⟩ = false ∧ w.frozen? ⟨R, 2, none⟩ = false ∧ w.frozen? ⟨R, 3, none⟩ = false ∧ w.frozen? ⟨R, 4, none⟩ = false ∧
    w.setCell ⟨R, 0, none⟩ (.int .u8 0) = w ∧ w.setCell ⟨R, 1, none⟩ (.int .u8 0) = w ∧ w.setCell ⟨R, 2, none⟩ (.int .u8 0) = w ∧ w.setCell ⟨R, 3, none⟩ (.int .u8 0) = w ∧ w.setCell ⟨R, 4, none⟩ (.string ⟨#[]⟩) = w :=
  ⟨h.cell 0 _ rfl, h.cell 1 _ rfl, h.cell 2 _ rfl, h.cell 3 _ rfl, h.cell 4 _ rfl, h.free 0, h.free 1, h.free 2, h.free 3, h.free 4,
    setCell_id _ _ _ _ (h.cell 0 _ rfl), setCell_id _ _ _ _ (h.cell 1 _ rfl), setCell_id _ _ _ _ (h.cell 2 _ rfl), setCell_id _ _ _ _ (h.cell 3 _ rfl), setCell_id _ _ _ _ (h.cell 4 _ rfl)⟩
theorem Blk.five {w : World} {R : Nat} {T : TypeId} {a b c d : Int} {n : ByteArray} (h : Blk w R (hC a b c d n) T) :
    w.cell? ⟨R, 0, none⟩ = some (.int .u8 a) ∧ w.cell? ⟨R, 1, none⟩ = some (.int .u8 b) ∧ w.cell? ⟨R, 2, none⟩ = some (.int .u8 c) ∧ w.cell? ⟨R, 3, none⟩ = some (.int .u8 d) ∧ w.cell? ⟨R, 4, none⟩ = some (.string n) ∧
    w.frozen? ⟨R, 0, none⟩ = false ∧ w.frozen? ⟨R, 1, none⟩ = false ∧ w.frozen? ⟨R, 2, none⟩ = false ∧ w.frozen? ⟨R, 3, none⟩ = false ∧ w.frozen? ⟨R, 4, none⟩ = false :=
  ⟨h.cell 0 _ rfl, h.cell 1 _ rfl, h.cell 2 _ rfl, h.cell 3 _ rfl, h.cell 4 _ rfl, h.free 0, h.free 1, h.free 2, h.free 3, h.free 4⟩
theorem only2 (p : ByteArray) (hp : p.size ≤ 281474976710656) (W : World) (b : Nat) (hb : W.heap.size = b) :
    Calls Tryz.prog 80 #[.string p, .slice (some ⟨b, 0, none⟩) 2 2] (W.alloc (.cells #[.int .i64 2, .int .i64 1] 3)) fun e w' => e = .returned (.bool (onlyZ [2, 1] p.data.toList)) ∧ W.alloc (.cells #[.int .i64 2, .int .i64 1] 3) = w' := by
  subst hb
  exact only_any p [2, 1] W.heap.size 2 _ hp (by decide) (fun j hj => by
    rw [World.cell?_alloc_new]
    match j, hj with
    | 0, _ => rfl
    | 1, _ => rfl)
theorem pa_err (s : ByteArray) (a c : Int) (hs : s.size ≤ 281474976710656) (hr : paRes s = .inl (a, c)) (w : World) (hS : StdW w) :
    Calls Tryz.prog 48 #[.string s] w fun e w' => ∃ v, e = .returned (.tuple #[.agg #[.int .u8 0, .int .u8 0, .int .u8 0, .int .u8 0], v]) ∧ ErrIs w' v [(hostS, a)] c ∧ Below w.heap.size w w' := by
  have h := parseAddr_any s hs w hS
  rw [hr] at h
  exact h.mono (fun e w' ⟨hb, v, he, h⟩ => ⟨v, he, h, hb⟩)
theorem pa_ok (s : ByteArray) (l : List Int) (hs : s.size ≤ 281474976710656) (hr : paRes s = .inr l) (w : World) (hS : StdW w) :
    Calls Tryz.prog 48 #[.string s] w fun e w' => e = .returned (.tuple #[.agg #[.int .u8 (l.getD 0 0), .int .u8 (l.getD 1 0), .int .u8 (l.getD 2 0), .int .u8 (l.getD 3 0)], .nilIface]) ∧ Below w.heap.size w w' := by
  have h := parseAddr_any s hs w hS
  rw [hr] at h
  exact h.mono (fun e w' ⟨hb, _, he⟩ => ⟨he, hb⟩)
theorem pn_err (s : ByteArray) (a c : Int) (hs : s.size ≤ 281474976710656) (hr : pnRes s = .inl (a, c)) (w : World) (hS : StdW w) :
    Calls Tryz.prog 61 #[.string s] w fun e w' => ∃ v, e = .returned (.tuple #[.string ⟨#[]⟩, v]) ∧ ErrIs w' v [(hostS, a)] c ∧ Below w.heap.size w w' := by
  have h := parseName_any s hs w hS
  rw [hr] at h
  exact h.mono (fun e w' ⟨hb, v, he, h⟩ => ⟨v, he, h, hb⟩)
theorem pn_ok (s n : ByteArray) (hs : s.size ≤ 281474976710656) (hr : pnRes s = .inr n) (w : World) (hS : StdW w) :
    Calls Tryz.prog 61 #[.string s] w fun e w' => e = .returned (.tuple #[.string n, .nilIface]) ∧ Below w.heap.size w w' := by
  have h := parseName_any s hs w hS
  rw [hr] at h
  exact h.mono (fun e w' ⟨hb, he⟩ => ⟨he, hb⟩)
def hpRes (s : ByteArray) : (Int × Int) ⊕ (List Int × ByteArray) :=
  if 253 < s.size then .inl (253, 3) else if s.size = 0 then .inl (0, 63) else if onlyZ [2, 1] s.data.toList then (match paRes s with
    | .inl x => .inl x
    | .inr l => .inr (l, ⟨#[]⟩)) else (match pnRes s with
    | .inl x => .inl x
    | .inr n => .inr ([0, 0, 0, 0], n))
def HPPost (r : (Int × Int) ⊕ (List Int × ByteArray)) (w : World) (e : Ending) (w' : World) : Prop :=
  Below w.heap.size w w' ∧ match r with
    | .inl (a, c) => ∃ v, e = .returned (.tuple #[.agg #[.int .u8 0, .int .u8 0, .int .u8 0, .int .u8 0, .string ⟨#[]⟩], v]) ∧ ErrIs w' v [(hostS, a)] c
    | .inr (l, n) => e = .returned (.tuple #[.agg #[.int .u8 (l.getD 0 0), .int .u8 (l.getD 1 0), .int .u8 (l.getD 2 0), .int .u8 (l.getD 3 0), .string n], .nilIface])
set_option maxRecDepth 100000 in
set_option maxHeartbeats 4000000 in
theorem hparse_long (s : ByteArray) (hs : 253 < s.size) (hs2 : s.size ≤ 281474976710656) (w : World) :
    Calls Tryz.prog 57 #[.string s] w fun e w' => ∃ v, e = .returned (.tuple #[.agg #[.int .u8 0, .int .u8 0, .int .u8 0, .int .u8 0, .string ⟨#[]⟩], v]) ∧ ErrIs w' v [(hostS, 253)] 3 ∧ Below w.heap.size w w' := by
  have HE : ∀ W, ErrIs W (.iface 30 (.int .i64 3)) [] 3 := fun W => rfl
  have HW := Lib.hid (fun W => wrong_any 253 _ [] 3 W (HE W))
  clear HE
  have hs1 : (253 : Int) < (s.size : Int) := by omega
  go_enter Tryz.func57, Tryz.ntmps57
  go_wp2_with (first | (go_at_call 63; refine (HW.out _).mono ?_; rintro e w1 ⟨v, rfl, he, hb⟩; obtain ⟨c0, c1, c2, c3, c4, f0, f1, f2, f3, f4, s0, s1, s2, s3, s4⟩ := ((Blk.new w (hC 0 0 0 0 ⟨#[]⟩) 26).below hb).hids))
  refine bodyPost_ret (v := .tuple #[.agg #[.int .u8 0, .int .u8 0, .int .u8 0, .int .u8 0, .string ⟨#[]⟩], v]) (by simp [results, Tryz.results57, go_sem, c0, c1, c2, c3, c4]) rfl ⟨v, rfl, ?_, ?_⟩
  · exact he
  · exact below_then (below_alloc (Below.refl _ _) _) (below_alloc (Below.refl _ _) _).size hb
set_option maxRecDepth 100000 in
set_option maxHeartbeats 4000000 in
theorem hparse_empty (s : ByteArray) (hs : s.size = 0) (w : World) :
    Calls Tryz.prog 57 #[.string s] w fun e w' => ∃ v, e = .returned (.tuple #[.agg #[.int .u8 0, .int .u8 0, .int .u8 0, .int .u8 0, .string ⟨#[]⟩], v]) ∧ ErrIs w' v [(hostS, 0)] 63 ∧ Below w.heap.size w w' := by
  have HE : ∀ W, ErrIs W (.iface 30 (.int .i64 63)) [] 63 := fun W => rfl
  have HW := Lib.hid (fun W => wrong_any 0 _ [] 63 W (HE W))
  clear HE
  have hs1 : (s.size : Int) ≤ 253 := by omega
  have h1 : s.toList.isEmpty = true := by rw [size_zero]; simpa using hs
  go_enter Tryz.func57, Tryz.ntmps57
  go_wp2_with (first | (go_at_call 63; refine (HW.out _).mono ?_; rintro e w1 ⟨v, rfl, he, hb⟩; obtain ⟨c0, c1, c2, c3, c4, f0, f1, f2, f3, f4, s0, s1, s2, s3, s4⟩ := ((Blk.new w (hC 0 0 0 0 ⟨#[]⟩) 26).below hb).hids))
  refine bodyPost_ret (v := .tuple #[.agg #[.int .u8 0, .int .u8 0, .int .u8 0, .int .u8 0, .string ⟨#[]⟩], v]) (by simp [results, Tryz.results57, go_sem, c0, c1, c2, c3, c4]) rfl ⟨v, rfl, ?_, ?_⟩
  · exact he
  · exact below_then (below_alloc (Below.refl _ _) _) (below_alloc (Below.refl _ _) _).size hb
set_option maxRecDepth 100000 in
set_option maxHeartbeats 4000000 in
theorem hparse_addr_err (s : ByteArray) (a c : Int) (hs : s.size ≤ 253) (hs0 : s.size ≠ 0) (ho : onlyZ [2, 1] s.data.toList = true) (hr : paRes s = .inl (a, c)) (w : World) (hS : StdW w) :
    Calls Tryz.prog 57 #[.string s] w fun e w' => ∃ v, e = .returned (.tuple #[.agg #[.int .u8 0, .int .u8 0, .int .u8 0, .int .u8 0, .string ⟨#[]⟩], v]) ∧ ErrIs w' v [(hostS, a)] c ∧ Below w.heap.size w w' := by
  have HPA := Lib.hid (fun W h => pa_err s a c (by omega) hr W h)
  have HO := Lib.hid (only2 s (by omega))
  rw [ho] at HO
  have HS := Lib.hid hS
  have hs1 : (s.size : Int) ≤ 253 := by omega
  have h1 : s.toList.isEmpty = false := by rw [size_zero]; simpa using hs0
  clear hS hr ho
  go_enter Tryz.func57, Tryz.ntmps57
  go_wp2_with (first | (go_at_call 80; refine (HO.out _ _ (by simp)).mono ?_; rintro e w2 ⟨rfl, rfl⟩) | (go_at_call 48; refine (HPA.out _ (StdW.below HS.out (below_alloc (below_alloc (Below.refl _ _) _) _))).mono ?_; rintro e w1 ⟨v, rfl, he, hb⟩; have hz := ((Blk.new w (hC 0 0 0 0 ⟨#[]⟩) 26).old (.cells #[.int .i64 2, .int .i64 1] 3)).below hb; obtain ⟨c0, c1, c2, c3, c4, f0, f1, f2, f3, f4, s0, s1, s2, s3, s4⟩ := hz.hids; obtain ⟨d0, d1, d2, d3, d4, g0, g1, g2, g3, g4, t0, t1, t2, t3, t4⟩ := (hz.old (.cells #[.int .u8 0, .int .u8 0, .int .u8 0, .int .u8 0] 24)).hids; clear hz))
  refine bodyPost_ret (v := .tuple #[.agg #[.int .u8 0, .int .u8 0, .int .u8 0, .int .u8 0, .string ⟨#[]⟩], v]) (by simp [results, Tryz.results57, go_sem, c0, c1, c2, c3, c4, d0, d1, d2, d3, d4]) rfl ⟨v, rfl, ?_, ?_⟩
  · exact ErrIs.below (below_alloc (Below.refl _ _) _) he
  · exact below_alloc (below_then (below_alloc (below_alloc (Below.refl _ _) _) _) (below_alloc (below_alloc (Below.refl _ _) _) _).size hb) _
set_option maxRecDepth 100000 in
set_option maxHeartbeats 4000000 in
theorem hparse_addr_ok (s : ByteArray) (l : List Int) (hs : s.size ≤ 253) (hs0 : s.size ≠ 0) (ho : onlyZ [2, 1] s.data.toList = true) (hr : paRes s = .inr l) (w : World) (hS : StdW w) :
    Calls Tryz.prog 57 #[.string s] w fun e w' => e = .returned (.tuple #[.agg #[.int .u8 (l.getD 0 0), .int .u8 (l.getD 1 0), .int .u8 (l.getD 2 0), .int .u8 (l.getD 3 0), .string ⟨#[]⟩], .nilIface]) ∧ Below w.heap.size w w' := by
  have HPA := Lib.hid (fun W h => pa_ok s l (by omega) hr W h)
  have HO := Lib.hid (only2 s (by omega))
  rw [ho] at HO
  have HS := Lib.hid hS
  have hs1 : (s.size : Int) ≤ 253 := by omega
  have h1 : s.toList.isEmpty = false := by rw [size_zero]; simpa using hs0
  clear hS hr ho
  generalize l.getD 0 0 = l0 at HPA ⊢
  generalize l.getD 1 0 = l1 at HPA ⊢
  generalize l.getD 2 0 = l2 at HPA ⊢
  generalize l.getD 3 0 = l3 at HPA ⊢
  go_enter Tryz.func57, Tryz.ntmps57
  go_wp2_with (first | (go_at_call 80; refine (HO.out _ _ (by simp)).mono ?_; rintro e w2 ⟨rfl, rfl⟩) | (go_at_call 48; refine (HPA.out _ (StdW.below HS.out (below_alloc (below_alloc (Below.refl _ _) _) _))).mono ?_; rintro e w1 ⟨rfl, hb⟩; have hz := ((Blk.new w (hC 0 0 0 0 ⟨#[]⟩) 26).old (.cells #[.int .i64 2, .int .i64 1] 3)).below hb; have HZ := Lib.hid hz; have hlt := hz.lt; obtain ⟨c0, c1, c2, c3, c4, f0, f1, f2, f3, f4⟩ := hz.five; clear hz))
  obtain ⟨e0, e1, e2, e3, e4, -⟩ := (show Blk _ _ (hC l0 l1 l2 l3 ⟨#[]⟩) _ from ((((((HZ.out.set 0 (.int .u8 l0)).set 1 (.int .u8 l1)).set 2 (.int .u8 l2)).set 3 (.int .u8 l3)).set 4 (.string ⟨#[]⟩)).old (.cells #[.int .u8 l0, .int .u8 l1, .int .u8 l2, .int .u8 l3] 24))).five
  refine bodyPost_ret (v := .tuple #[.agg #[.int .u8 l0, .int .u8 l1, .int .u8 l2, .int .u8 l3, .string ⟨#[]⟩], .nilIface]) (by simp [results, Tryz.results57, go_sem, e0, e1, e2, e3, e4]) rfl ⟨rfl, ?_⟩
  repeat (refine Below.setCell ?_ (by first | exact Nat.le_refl _ | exact Nat.le_of_lt hlt) _)
  first
    | exact below_alloc (below_then (below_alloc (below_alloc (Below.refl _ _) _) _) (below_alloc (below_alloc (Below.refl _ _) _) _).size hb) _
    | (refine below_alloc ?_ _
       repeat (refine Below.setCell ?_ (by first | exact Nat.le_refl _ | exact Nat.le_of_lt hlt) _)
       exact below_then (below_alloc (below_alloc (Below.refl _ _) _) _) (below_alloc (below_alloc (Below.refl _ _) _) _).size hb)
set_option maxRecDepth 100000 in
set_option maxHeartbeats 4000000 in
theorem hparse_name_err (s : ByteArray) (a c : Int) (hs : s.size ≤ 253) (hs0 : s.size ≠ 0) (ho : onlyZ [2, 1] s.data.toList = false) (hr : pnRes s = .inl (a, c)) (w : World) (hS : StdW w) :
    Calls Tryz.prog 57 #[.string s] w fun e w' => ∃ v, e = .returned (.tuple #[.agg #[.int .u8 0, .int .u8 0, .int .u8 0, .int .u8 0, .string ⟨#[]⟩], v]) ∧ ErrIs w' v [(hostS, a)] c ∧ Below w.heap.size w w' := by
  have HPN := Lib.hid (fun W h => pn_err s a c (by omega) hr W h)
  have HO := Lib.hid (only2 s (by omega))
  rw [ho] at HO
  have HS := Lib.hid hS
  have hs1 : (s.size : Int) ≤ 253 := by omega
  have h1 : s.toList.isEmpty = false := by rw [size_zero]; simpa using hs0
  clear hS hr ho
  go_enter Tryz.func57, Tryz.ntmps57
  go_wp2_with (first | (go_at_call 80; refine (HO.out _ _ (by simp)).mono ?_; rintro e w2 ⟨rfl, rfl⟩) | (go_at_call 61; refine (HPN.out _ (StdW.below HS.out (below_alloc (below_alloc (Below.refl _ _) _) _))).mono ?_; rintro e w1 ⟨v, rfl, he, hb⟩; have hz := ((Blk.new w (hC 0 0 0 0 ⟨#[]⟩) 26).old (.cells #[.int .i64 2, .int .i64 1] 3)).below hb; obtain ⟨c0, c1, c2, c3, c4, f0, f1, f2, f3, f4, s0, s1, s2, s3, s4⟩ := hz.hids; clear hz))
  refine bodyPost_ret (v := .tuple #[.agg #[.int .u8 0, .int .u8 0, .int .u8 0, .int .u8 0, .string ⟨#[]⟩], v]) (by simp [results, Tryz.results57, go_sem, c0, c1, c2, c3, c4]) rfl ⟨v, rfl, ?_, ?_⟩
  · exact he
  · exact below_then (below_alloc (below_alloc (Below.refl _ _) _) _) (below_alloc (below_alloc (Below.refl _ _) _) _).size hb
set_option maxRecDepth 100000 in
set_option maxHeartbeats 4000000 in
theorem hparse_name_ok (s n : ByteArray) (hs : s.size ≤ 253) (hs0 : s.size ≠ 0) (ho : onlyZ [2, 1] s.data.toList = false) (hr : pnRes s = .inr n) (w : World) (hS : StdW w) :
    Calls Tryz.prog 57 #[.string s] w fun e w' => e = .returned (.tuple #[.agg #[.int .u8 0, .int .u8 0, .int .u8 0, .int .u8 0, .string n], .nilIface]) ∧ Below w.heap.size w w' := by
  have HPN := Lib.hid (fun W h => pn_ok s n (by omega) hr W h)
  have HO := Lib.hid (only2 s (by omega))
  rw [ho] at HO
  have HS := Lib.hid hS
  have hs1 : (s.size : Int) ≤ 253 := by omega
  have h1 : s.toList.isEmpty = false := by rw [size_zero]; simpa using hs0
  clear hS hr ho
  go_enter Tryz.func57, Tryz.ntmps57
  go_wp2_with (first | (go_at_call 80; refine (HO.out _ _ (by simp)).mono ?_; rintro e w2 ⟨rfl, rfl⟩) | (go_at_call 61; refine (HPN.out _ (StdW.below HS.out (below_alloc (below_alloc (Below.refl _ _) _) _))).mono ?_; rintro e w1 ⟨rfl, hb⟩; have hz := ((Blk.new w (hC 0 0 0 0 ⟨#[]⟩) 26).old (.cells #[.int .i64 2, .int .i64 1] 3)).below hb; have hlt := hz.lt; obtain ⟨c0, c1, c2, c3, c4, f0, f1, f2, f3, f4, s0, s1, s2, s3, s4⟩ := hz.hids; clear hz s4))
  refine bodyPost_ret (v := .tuple #[.agg #[.int .u8 0, .int .u8 0, .int .u8 0, .int .u8 0, .string n], .nilIface]) (by simp [results, Tryz.results57, go_sem, c0, c1, c2, c3, c4]) rfl ⟨rfl, ?_⟩
  repeat (refine Below.setCell ?_ (by first | exact Nat.le_refl _ | exact Nat.le_of_lt hlt) _)
  exact below_then (below_alloc (below_alloc (Below.refl _ _) _) _) (below_alloc (below_alloc (Below.refl _ _) _) _).size hb
theorem hparse_any (s : ByteArray) (hs : s.size ≤ 281474976710656) (w : World) (hS : StdW w) : Calls Tryz.prog 57 #[.string s] w (HPPost (hpRes s) w) := by
  unfold hpRes
  by_cases h1 : 253 < s.size
  · rw [if_pos h1]
    exact (hparse_long s h1 hs w).mono (fun e w' ⟨v, he, h, hb⟩ => ⟨hb, v, he, h⟩)
  rw [if_neg h1]
  by_cases h2 : s.size = 0
  · rw [if_pos h2]
    exact (hparse_empty s h2 w).mono (fun e w' ⟨v, he, h, hb⟩ => ⟨hb, v, he, h⟩)
  rw [if_neg h2]
  cases ho : onlyZ [2, 1] s.data.toList
  · rw [if_neg (by simp)]
    cases hr : pnRes s with
    | inl x =>
      obtain ⟨a, c⟩ := x
      exact (hparse_name_err s a c (by omega) h2 ho hr w hS).mono (fun e w' ⟨v, he, h, hb⟩ => ⟨hb, v, he, h⟩)
    | inr n => exact (hparse_name_ok s n (by omega) h2 ho hr w hS).mono (fun e w' ⟨he, hb⟩ => ⟨hb, he⟩)
  · rw [if_pos rfl]
    cases hr : paRes s with
    | inl x =>
      obtain ⟨a, c⟩ := x
      exact (hparse_addr_err s a c (by omega) h2 ho hr w hS).mono (fun e w' ⟨v, he, h, hb⟩ => ⟨hb, v, he, h⟩)
    | inr l => exact (hparse_addr_ok s l (by omega) h2 ho hr w hS).mono (fun e w' ⟨he, hb⟩ => ⟨hb, he⟩)
def ppoRes (s : ByteArray) : Option Int := if numOk s.data.toList 65535 = true ∧ atoiV s.data.toList ≠ 0 then some (atoiV s.data.toList) else none
def PPPost (r : Option Int) (w : World) (e : Ending) (w' : World) : Prop :=
  Below w.heap.size w w' ∧ match r with
    | none => ∃ v, e = .returned (.tuple #[.int .i64 0, v]) ∧ ErrIs w' v [(hostS, 0)] 62
    | some n => e = .returned (.tuple #[.int .i64 n, .nilIface])
set_option maxRecDepth 100000 in
set_option maxHeartbeats 4000000 in
theorem hport_any (s : ByteArray) (hs : s.size ≤ 281474976710656) (w : World) (hS : StdW w) : Calls Tryz.prog 65 #[.string s] w (PPPost (ppoRes s) w) := by
  have HN := Lib.hid (fun W h => hnumber_any s 65535 hs W h)
  have HS := Lib.hid hS
  have HE : ∀ W, ErrIs W (.iface 30 (.int .i64 62)) [] 62 := fun W => rfl
  have HW := Lib.hid (fun W => wrong_any 0 _ [] 62 W (HE W))
  clear HE hS
  unfold ppoRes
  generalize atoiV s.data.toList = v at HN
  cases hok : numOk s.data.toList 65535
  · rw [hok] at HN
    clear hok
    rw [if_neg (by simp)]
    go_enter Tryz.func65, Tryz.ntmps65
    go_wp2_with (first | (go_at_call 75; refine (HN.out _ HS.out).mono ?_; rintro e w2 ⟨rfl, hb2⟩) | (go_at_call 63; refine (HW.out _).mono ?_; rintro e w3 ⟨u, rfl, he, hb3⟩))
    go_ret2
    exact ⟨below_then hb2 hb2.size hb3, u, rfl, he⟩
  · rw [hok] at HN
    clear hok
    by_cases hv : v = 0
    · subst hv
      rw [if_neg (by simp)]
      go_enter Tryz.func65, Tryz.ntmps65
      go_wp2_with (first | (go_at_call 75; refine (HN.out _ HS.out).mono ?_; rintro e w2 ⟨rfl, hb2⟩) | (go_at_call 63; refine (HW.out _).mono ?_; rintro e w3 ⟨u, rfl, he, hb3⟩))
      go_ret2
      exact ⟨below_then hb2 hb2.size hb3, u, rfl, he⟩
    · rw [if_pos ⟨rfl, hv⟩]
      have hv' : (v == 0) = false := beq_eq_false_iff_ne.2 hv
      clear hv
      go_enter Tryz.func65, Tryz.ntmps65
      go_wp2_with (first | (go_at_call 75; refine (HN.out _ HS.out).mono ?_; rintro e w2 ⟨rfl, hb2⟩) | (go_at_call 63; refine (HW.out _).mono ?_; rintro e w3 ⟨u, rfl, he, hb3⟩))
      go_ret2
      exact ⟨hb2, rfl⟩
end Go.Proofs.YteondnhokgmakaaGreatDoor.E


namespace Go.Proofs.YteondnhokgmakaaGreatDoor.E
open Go.RowKit Go.Proofs.YteondnhokgmakaaGreatDoorW.PrintWords Go.Proofs.YteondnhokgmakaaGreatDoorW.PrintLast
set_option linter.unusedVariables false
set_option linter.unusedSimpArgs false
set_option maxRecDepth 100000 in
set_option maxHeartbeats 40000000 in
theorem qq_1 (s w0 w1s w2s lowS highS netS nS : ByteArray) (lo : Int) (hi2 : Int) (bi : Int) (a b c d : Int) (l : List ByteArray) (hs1 : s.size ≤ 285) (hs : s.size < 4294967281)
    (HSP : ∀ W, StdW W → Calls Tryz.prog 45 #[.string s, .string ⟨#[32]⟩] W fun e w' => e = .returned (.slice (some ⟨W.heap.size, 0, none⟩) l.length l.length) ∧ (∀ j, (h : j < l.length) → w'.cell? ⟨W.heap.size, j, none⟩ = some (.string l[j])) ∧ W.heap.size < w'.heap.size ∧ Below W.heap.size W w')
    (h0 : 3 = l.length)
    (hw0 : l[0]? = some w0)
    (hw1 : l[1]? = some w1s)
    (hw2 : l[2]? = some w2s)
    (hal : (w0.toList == [97, 108, 108, 111, 119]) = false)
    (hde : false = false → (w0.toList == [100, 101, 110, 121]) = true)
    (HC2 : ∀ W, StdW W → Calls Tryz.prog 46 #[.string w2s, .string ⟨#[45]⟩] W fun e w' => e = .returned (.tuple #[.string lowS, .string highS, .bool true]) ∧ Below W.heap.size W w')
    (HN1 : ∀ W, StdW W → Calls Tryz.prog 47 #[.string lowS] W fun e w' => e = .returned (.tuple #[.int .i64 lo, .bool true]) ∧ Below W.heap.size W w')
    (HC1 : ∀ W, StdW W → Calls Tryz.prog 46 #[.string w1s, .string ⟨#[47]⟩] W fun e w' => e = .returned (.tuple #[.string netS, .string nS, .bool true]) ∧ Below W.heap.size W w')
    (HN2 : ∀ W, StdW W → Calls Tryz.prog 47 #[.string highS] W fun e w' => e = .returned (.tuple #[.int .i64 hi2, .bool true]) ∧ Below W.heap.size W w')
    (hnel : (hi2 != lo) = true)
    (HN3 : ∀ W, StdW W → Calls Tryz.prog 47 #[.string nS] W fun e w' => e = .returned (.tuple #[.int .i64 bi, .bool true]) ∧ Below W.heap.size W w')
    (HPA : ∀ W, StdW W → Calls Tryz.prog 48 #[.string netS] W fun e w' => e = .returned (.tuple #[.agg #[.int .u8 a, .int .u8 b, .int .u8 c, .int .u8 d], .nilIface]) ∧ Below W.heap.size W w')
    (HRT : ∀ W, StdW W → Calls Tryz.prog 38 #[.agg (rc false a b c d bi ⟨#[]⟩ lo hi2)] W fun e w' => e = .returned (.bool true) ∧ Below W.heap.size W w')
    (w : World) (hS : StdW w) :
    Calls Tryz.prog 21 #[.string s] w fun e w' => e = .returned (ppOut (true && ((true && true) && (true && true))) false a b c d bi ⟨#[]⟩ lo hi2) ∧ Below w.heap.size w w' := by
  have HS := Lib.hid hS
  clear hS
  have hs1' : (s.size : Int) ≤ 285 := by omega
  have hl3 : ((l.length : Int) != 3) = false := by rw [← h0]; rfl
  have hl0 : (0 : Int) < (l.length : Int) := by omega
  have hl1 : (1 : Int) < (l.length : Int) := by omega
  have hl2 : (2 : Int) < (l.length : Int) := by omega
  have XHSP := Lib.hid HSP
  have XHC2 := Lib.hid HC2
  have XHN1 := Lib.hid HN1
  have XHC1 := Lib.hid HC1
  have XHRT := Lib.hid HRT
  have Xhw0 := Lib.hid hw0
  have Xhw1 := Lib.hid hw1
  have Xhw2 := Lib.hid hw2
  have XHN2 := Lib.hid HN2
  have XHN3 := Lib.hid HN3
  have XHPA := Lib.hid HPA
  clear HSP HC2 HN1 HC1 HRT hw0 hw1 hw2 HN2 HN3 HPA
  have Xh0 := Lib.hid h0
  clear h0 hs1
  have hde' := hde rfl
  clear hde
  go_enter Tryz.func21, Tryz.ntmps21
  go_wp2_with (first | (go_at_call 45; refine (XHSP.out _ (StdW.below HS.out (below_alloc (Below.refl _ _) _))).mono ?_; rintro e x1 ⟨rfl, hc, hlt1, hb1⟩; have HB1 := Lib.hid (below_then (below_alloc (Below.refl w.heap.size w) _) (below_alloc (Below.refl w.heap.size w) _).size hb1); have hR1 : w.heap.size < x1.heap.size := (by have := hb1.size; simp at this; omega); have hRn1 : ¬ x1.heap.size = w.heap.size := (by omega); have hRn2 : ¬ w.heap.size = x1.heap.size := (by omega); have HZ1 := Lib.hid ((Blk.new w (rc false 0 0 0 0 0 ⟨#[]⟩ 0 0) _).below hb1); have HWD1 : Hid (∀ j, (h : j < l.length) → x1.cell? ⟨w.heap.size + 1, j, none⟩ = some (.string l[j])) := Lib.hid (fun j h => by have := hc j h; rw [World.size_alloc] at this; exact this); have wd0 : x1.cell? ⟨w.heap.size + 1, 0, none⟩ = some (.string w0) := (HWD1.out 0 (by have := Xh0.out; omega)).trans (by rw [(List.getElem?_eq_some_iff.1 Xhw0.out).2]); have wd2 : x1.cell? ⟨w.heap.size + 1, 2, none⟩ = some (.string w2s) := (HWD1.out 2 (by have := Xh0.out; omega)).trans (by rw [(List.getElem?_eq_some_iff.1 Xhw2.out).2]); have hwl : w.heap.size + 1 < x1.heap.size := (by simpa using hlt1); clear hc hlt1 hb1) | (go_at_call_of 46 (Value.string w2s); refine (XHC2.out _ (StdW.below HS.out (below_alloc HB1.out _))).mono ?_; rintro e x2 ⟨rfl, hb2⟩; have HB2 := Lib.hid (below_then (below_alloc HB1.out _) (below_alloc HB1.out _).size hb2); have HZ2 := Lib.hid ((HZ1.out.old _).below hb2); have HR2 : Hid (Blk x2 x1.heap.size (rc false 0 0 0 0 0 ⟨#[]⟩ 0 0) _) := Lib.hid ((Blk.new x1 (rc false 0 0 0 0 0 ⟨#[]⟩ 0 0) _).below hb2); have HWD2 : Hid (∀ j, (h : j < l.length) → x2.cell? ⟨w.heap.size + 1, j, none⟩ = some (.string l[j])) := Lib.hid (fun j h => pw_cell_below hb2 (pw_cell_below (below_alloc (Below.refl _ _) _) (HWD1.out j h))); clear hb2 wd0 wd2) | (go_at_call_of 47 (Value.string lowS); refine (XHN1.out _ (StdW.below HS.out HB2.out)).mono ?_; rintro e x3 ⟨rfl, hb3⟩; have HB3 := Lib.hid (below_then HB2.out HB2.out.size hb3); have HZ3 := Lib.hid (HZ2.out.below hb3); have HR3 := Lib.hid (HR2.out.below hb3); have HWD3 : Hid (∀ j, (h : j < l.length) → x3.cell? ⟨w.heap.size + 1, j, none⟩ = some (.string l[j])) := Lib.hid (fun j h => pw_cell_below hb3 (HWD2.out j h)); have wd1 : x3.cell? ⟨w.heap.size + 1, 1, none⟩ = some (.string w1s) := (HWD3.out 1 (by have := Xh0.out; omega)).trans (by rw [(List.getElem?_eq_some_iff.1 Xhw1.out).2]); obtain ⟨k0, k1, k2, k3, k4, k5, k6, k7, k8⟩ := HR3.out.nine; obtain ⟨f0, f1, f2, f3, f4, f5, f6, f7, f8⟩ := HR3.out.frees; clear hb3) | (go_at_call_of 47 (Value.string highS); refine (XHN2.out _ (StdW.below HS.out ((HB3.out.setCell (p := ⟨x1.heap.size, 7, none⟩) (Nat.le_of_lt hR1) (.int .i64 lo)).setCell (p := ⟨x1.heap.size, 8, none⟩) (Nat.le_of_lt hR1) (.int .i64 lo)))).mono ?_; rintro e x4 ⟨rfl, hb4⟩; have HB4 := Lib.hid (below_then ((HB3.out.setCell (p := ⟨x1.heap.size, 7, none⟩) (Nat.le_of_lt hR1) (.int .i64 lo)).setCell (p := ⟨x1.heap.size, 8, none⟩) (Nat.le_of_lt hR1) (.int .i64 lo)) ((HB3.out.setCell (p := ⟨x1.heap.size, 7, none⟩) (Nat.le_of_lt hR1) (.int .i64 lo)).setCell (p := ⟨x1.heap.size, 8, none⟩) (Nat.le_of_lt hR1) (.int .i64 lo)).size hb4); have HZ4 := Lib.hid (((HZ3.out.other ⟨x1.heap.size, 7, none⟩ hRn2 (.int .i64 lo)).other ⟨x1.heap.size, 8, none⟩ hRn2 (.int .i64 lo)).below hb4); have HR4 : Hid (Blk x4 x1.heap.size (rc false 0 0 0 0 0 ⟨#[]⟩ lo lo) _) := Lib.hid (((HR3.out.set 7 (.int .i64 lo)).set 8 (.int .i64 lo)).below hb4); have HWD4 : Hid (∀ j, (h : j < l.length) → x4.cell? ⟨w.heap.size + 1, j, none⟩ = some (.string l[j])) := Lib.hid (fun j h => pw_cell_below hb4 (by rw [World.cell?_setCell_other _ _ _ _ (by intro e; injection e with e; omega), World.cell?_setCell_other _ _ _ _ (by intro e; injection e with e; omega)]; exact HWD3.out j h)); clear wd1; have wd1 : x4.cell? ⟨w.heap.size + 1, 1, none⟩ = some (.string w1s) := (HWD4.out 1 (by have := Xh0.out; omega)).trans (by rw [(List.getElem?_eq_some_iff.1 Xhw1.out).2]); clear k0 k1 k2 k3 k4 k5 k6 k7 k8 f0 f1 f2 f3 f4 f5 f6 f7 f8; obtain ⟨k0, k1, k2, k3, k4, k5, k6, k7, k8⟩ := HR4.out.nine; obtain ⟨f0, f1, f2, f3, f4, f5, f6, f7, f8⟩ := HR4.out.frees; clear hb4) | (go_at_call_of 46 (Value.string w1s); refine (XHC1.out _ (StdW.below HS.out (HB4.out.setCell (p := ⟨x1.heap.size, 8, none⟩) (Nat.le_of_lt hR1) (.int .i64 hi2)))).mono ?_; rintro e x5 ⟨rfl, hb5⟩; have HB5 := Lib.hid (below_then (HB4.out.setCell (p := ⟨x1.heap.size, 8, none⟩) (Nat.le_of_lt hR1) (.int .i64 hi2)) (HB4.out.setCell (p := ⟨x1.heap.size, 8, none⟩) (Nat.le_of_lt hR1) (.int .i64 hi2)).size hb5); have HZ5 := Lib.hid ((HZ4.out.other ⟨x1.heap.size, 8, none⟩ hRn2 (.int .i64 hi2)).below hb5); have HR5 : Hid (Blk x5 x1.heap.size (rc false 0 0 0 0 0 ⟨#[]⟩ lo hi2) _) := Lib.hid ((HR4.out.set 8 (.int .i64 hi2)).below hb5); have HWD5 : Hid (∀ j, (h : j < l.length) → x5.cell? ⟨w.heap.size + 1, j, none⟩ = some (.string l[j])) := Lib.hid (fun j h => pw_cell_below hb5 (by rw [World.cell?_setCell_other _ _ _ _ (by intro e; injection e with e; omega)]; exact HWD4.out j h)); clear wd1; have wd1 : x5.cell? ⟨w.heap.size + 1, 1, none⟩ = some (.string w1s) := (HWD5.out 1 (by have := Xh0.out; omega)).trans (by rw [(List.getElem?_eq_some_iff.1 Xhw1.out).2]); clear k0 k1 k2 k3 k4 k5 k6 k7 k8 f0 f1 f2 f3 f4 f5 f6 f7 f8; obtain ⟨k0, k1, k2, k3, k4, k5, k6, k7, k8⟩ := HR5.out.nine; obtain ⟨f0, f1, f2, f3, f4, f5, f6, f7, f8⟩ := HR5.out.frees; clear hb5) | (go_at_call_of 47 (Value.string nS); refine (XHN3.out _ (StdW.below HS.out HB5.out)).mono ?_; rintro e x6 ⟨rfl, hb6⟩; have HB6 := Lib.hid (below_then HB5.out HB5.out.size hb6); have HZ6 := Lib.hid (HZ5.out.below hb6); have HR6 := Lib.hid (HR5.out.below hb6); clear k0 k1 k2 k3 k4 k5 k6 k7 k8 f0 f1 f2 f3 f4 f5 f6 f7 f8; obtain ⟨k0, k1, k2, k3, k4, k5, k6, k7, k8⟩ := HR6.out.nine; obtain ⟨f0, f1, f2, f3, f4, f5, f6, f7, f8⟩ := HR6.out.frees; clear hb6) | (go_at_call 48; refine (XHPA.out _ (StdW.below HS.out (HB6.out.setCell (p := ⟨x1.heap.size, 5, none⟩) (Nat.le_of_lt hR1) (.int .i64 bi)))).mono ?_; rintro e x7 ⟨rfl, hb7⟩; have HB7 := Lib.hid (below_then (HB6.out.setCell (p := ⟨x1.heap.size, 5, none⟩) (Nat.le_of_lt hR1) (.int .i64 bi)) (HB6.out.setCell (p := ⟨x1.heap.size, 5, none⟩) (Nat.le_of_lt hR1) (.int .i64 bi)).size hb7); have HZ7 := Lib.hid ((HZ6.out.other ⟨x1.heap.size, 5, none⟩ hRn2 (.int .i64 bi)).below hb7); have HR7 : Hid (Blk x7 x1.heap.size (rc false 0 0 0 0 bi ⟨#[]⟩ lo hi2) _) := Lib.hid ((HR6.out.set 5 (.int .i64 bi)).below hb7); clear k0 k1 k2 k3 k4 k5 k6 k7 k8 f0 f1 f2 f3 f4 f5 f6 f7 f8; obtain ⟨k0, k1, k2, k3, k4, k5, k6, k7, k8⟩ := HR7.out.nine; obtain ⟨f0, f1, f2, f3, f4, f5, f6, f7, f8⟩ := HR7.out.frees; obtain ⟨z0, z1, z2, z3, z4, z5, z6, z7, z8⟩ := HZ7.out.nine; obtain ⟨g0, g1, g2, g3, g4, g5, g6, g7, g8⟩ := HZ7.out.frees; clear hb7) | (go_at_call 38; refine (XHRT.out _ (StdW.below HS.out ((((HB7.out.setCell (p := ⟨x1.heap.size, 1, none⟩) (Nat.le_of_lt hR1) (.int .u8 a)).setCell (p := ⟨x1.heap.size, 2, none⟩) (Nat.le_of_lt hR1) (.int .u8 b)).setCell (p := ⟨x1.heap.size, 3, none⟩) (Nat.le_of_lt hR1) (.int .u8 c)).setCell (p := ⟨x1.heap.size, 4, none⟩) (Nat.le_of_lt hR1) (.int .u8 d)))).mono ?_; rintro e x8 ⟨rfl, hb8⟩; have HB8 := Lib.hid (below_then ((((HB7.out.setCell (p := ⟨x1.heap.size, 1, none⟩) (Nat.le_of_lt hR1) (.int .u8 a)).setCell (p := ⟨x1.heap.size, 2, none⟩) (Nat.le_of_lt hR1) (.int .u8 b)).setCell (p := ⟨x1.heap.size, 3, none⟩) (Nat.le_of_lt hR1) (.int .u8 c)).setCell (p := ⟨x1.heap.size, 4, none⟩) (Nat.le_of_lt hR1) (.int .u8 d)) ((((HB7.out.setCell (p := ⟨x1.heap.size, 1, none⟩) (Nat.le_of_lt hR1) (.int .u8 a)).setCell (p := ⟨x1.heap.size, 2, none⟩) (Nat.le_of_lt hR1) (.int .u8 b)).setCell (p := ⟨x1.heap.size, 3, none⟩) (Nat.le_of_lt hR1) (.int .u8 c)).setCell (p := ⟨x1.heap.size, 4, none⟩) (Nat.le_of_lt hR1) (.int .u8 d)).size hb8); have HZ8 := Lib.hid (((((HZ7.out.other ⟨x1.heap.size, 1, none⟩ hRn2 (.int .u8 a)).other ⟨x1.heap.size, 2, none⟩ hRn2 (.int .u8 b)).other ⟨x1.heap.size, 3, none⟩ hRn2 (.int .u8 c)).other ⟨x1.heap.size, 4, none⟩ hRn2 (.int .u8 d)).below hb8); have HR8 : Hid (Blk x8 x1.heap.size (rc false a b c d bi ⟨#[]⟩ lo hi2) _) := Lib.hid (((((HR7.out.set 1 (.int .u8 a)).set 2 (.int .u8 b)).set 3 (.int .u8 c)).set 4 (.int .u8 d)).below hb8); clear k0 k1 k2 k3 k4 k5 k6 k7 k8 f0 f1 f2 f3 f4 f5 f6 f7 f8; clear z0 z1 z2 z3 z4 z5 z6 z7 z8 g0 g1 g2 g3 g4 g5 g6 g7 g8; obtain ⟨k0, k1, k2, k3, k4, k5, k6, k7, k8⟩ := HR8.out.nine; obtain ⟨f0, f1, f2, f3, f4, f5, f6, f7, f8⟩ := HR8.out.frees; obtain ⟨z0, z1, z2, z3, z4, z5, z6, z7, z8⟩ := HZ8.out.nine; obtain ⟨g0, g1, g2, g3, g4, g5, g6, g7, g8⟩ := HZ8.out.frees; clear hb8))
  all_goals
    refine bodyPost_ret (v := .tuple #[.agg (rc false a b c d bi ⟨#[]⟩ lo hi2), .int .i64 0]) (by simp [results, Tryz.results21, go_sem, rc, z0, z1, z2, z3, z4, z5, z6, z7, z8, hRn1, hRn2]) rfl ⟨rfl, ?_⟩
    repeat (refine Below.setCell ?_ (by first | exact Nat.le_refl _ | exact Nat.le_of_lt hR1) _)
    exact HB8.out
end Go.Proofs.YteondnhokgmakaaGreatDoor.E


namespace Go.Proofs.YteondnhokgmakaaGreatDoor.E
open Go.RowKit Go.Proofs.YteondnhokgmakaaGreatDoorW.PrintWords Go.Proofs.YteondnhokgmakaaGreatDoorW.PrintLast
set_option linter.unusedVariables false
set_option linter.unusedSimpArgs false
set_option maxRecDepth 100000 in
set_option maxHeartbeats 40000000 in
theorem qq_2 (s w0 w1s w2s lowS highS netS nS : ByteArray) (lo : Int) (l : List ByteArray) (hs1 : s.size ≤ 285) (hs : s.size < 4294967281)
    (HSP : ∀ W, StdW W → Calls Tryz.prog 45 #[.string s, .string ⟨#[32]⟩] W fun e w' => e = .returned (.slice (some ⟨W.heap.size, 0, none⟩) l.length l.length) ∧ (∀ j, (h : j < l.length) → w'.cell? ⟨W.heap.size, j, none⟩ = some (.string l[j])) ∧ W.heap.size < w'.heap.size ∧ Below W.heap.size W w')
    (h0 : 3 = l.length)
    (hw0 : l[0]? = some w0)
    (hw1 : l[1]? = some w1s)
    (hw2 : l[2]? = some w2s)
    (hal : (w0.toList == [97, 108, 108, 111, 119]) = true)
    (hde : true = false → (w0.toList == [100, 101, 110, 121]) = true)
    (HC2 : ∀ W, StdW W → Calls Tryz.prog 46 #[.string w2s, .string ⟨#[45]⟩] W fun e w' => e = .returned (.tuple #[.string lowS, .string highS, .bool false]) ∧ Below W.heap.size W w')
    (HN1 : ∀ W, StdW W → Calls Tryz.prog 47 #[.string lowS] W fun e w' => e = .returned (.tuple #[.int .i64 lo, .bool true]) ∧ Below W.heap.size W w')
    (HC1 : ∀ W, StdW W → Calls Tryz.prog 46 #[.string w1s, .string ⟨#[47]⟩] W fun e w' => e = .returned (.tuple #[.string netS, .string nS, .bool false]) ∧ Below W.heap.size W w')
    (hok : w1s.toList.isEmpty = !true)
    (HRT : ∀ W, StdW W → Calls Tryz.prog 38 #[.agg (rc true 0 0 0 0 0 w1s lo lo)] W fun e w' => e = .returned (.bool true) ∧ Below W.heap.size W w')
    (w : World) (hS : StdW w) :
    Calls Tryz.prog 21 #[.string s] w fun e w' => e = .returned (ppOut (true && (true && (true && true))) true 0 0 0 0 0 w1s lo lo) ∧ Below w.heap.size w w' := by
  have HS := Lib.hid hS
  clear hS
  have hs1' : (s.size : Int) ≤ 285 := by omega
  have hl3 : ((l.length : Int) != 3) = false := by rw [← h0]; rfl
  have hl0 : (0 : Int) < (l.length : Int) := by omega
  have hl1 : (1 : Int) < (l.length : Int) := by omega
  have hl2 : (2 : Int) < (l.length : Int) := by omega
  have XHSP := Lib.hid HSP
  have XHC2 := Lib.hid HC2
  have XHN1 := Lib.hid HN1
  have XHC1 := Lib.hid HC1
  have XHRT := Lib.hid HRT
  have Xhw0 := Lib.hid hw0
  have Xhw1 := Lib.hid hw1
  have Xhw2 := Lib.hid hw2
  clear HSP HC2 HN1 HC1 HRT hw0 hw1 hw2
  have Xh0 := Lib.hid h0
  clear h0 hs1
  clear hde
  go_enter Tryz.func21, Tryz.ntmps21
  go_wp2_with (first | (go_at_call 45; refine (XHSP.out _ (StdW.below HS.out (below_alloc (Below.refl _ _) _))).mono ?_; rintro e x1 ⟨rfl, hc, hlt1, hb1⟩; have HB1 := Lib.hid (below_then (below_alloc (Below.refl w.heap.size w) _) (below_alloc (Below.refl w.heap.size w) _).size hb1); have hR1 : w.heap.size < x1.heap.size := (by have := hb1.size; simp at this; omega); have hRn1 : ¬ x1.heap.size = w.heap.size := (by omega); have hRn2 : ¬ w.heap.size = x1.heap.size := (by omega); have HZ1 := Lib.hid ((Blk.new w (rc false 0 0 0 0 0 ⟨#[]⟩ 0 0) _).below hb1); have HWD1 : Hid (∀ j, (h : j < l.length) → x1.cell? ⟨w.heap.size + 1, j, none⟩ = some (.string l[j])) := Lib.hid (fun j h => by have := hc j h; rw [World.size_alloc] at this; exact this); have wd0 : x1.cell? ⟨w.heap.size + 1, 0, none⟩ = some (.string w0) := (HWD1.out 0 (by have := Xh0.out; omega)).trans (by rw [(List.getElem?_eq_some_iff.1 Xhw0.out).2]); have wd2 : x1.cell? ⟨w.heap.size + 1, 2, none⟩ = some (.string w2s) := (HWD1.out 2 (by have := Xh0.out; omega)).trans (by rw [(List.getElem?_eq_some_iff.1 Xhw2.out).2]); have hwl : w.heap.size + 1 < x1.heap.size := (by simpa using hlt1); clear hc hlt1 hb1) | (go_at_call_of 46 (Value.string w2s); refine (XHC2.out _ (StdW.below HS.out (below_alloc HB1.out _))).mono ?_; rintro e x2 ⟨rfl, hb2⟩; have HB2 := Lib.hid (below_then (below_alloc HB1.out _) (below_alloc HB1.out _).size hb2); have HZ2 := Lib.hid ((HZ1.out.old _).below hb2); have HR2 : Hid (Blk x2 x1.heap.size (rc true 0 0 0 0 0 ⟨#[]⟩ 0 0) _) := Lib.hid ((Blk.new x1 (rc true 0 0 0 0 0 ⟨#[]⟩ 0 0) _).below hb2); have HWD2 : Hid (∀ j, (h : j < l.length) → x2.cell? ⟨w.heap.size + 1, j, none⟩ = some (.string l[j])) := Lib.hid (fun j h => pw_cell_below hb2 (pw_cell_below (below_alloc (Below.refl _ _) _) (HWD1.out j h))); clear hb2 wd0 wd2) | (go_at_call_of 47 (Value.string lowS); refine (XHN1.out _ (StdW.below HS.out HB2.out)).mono ?_; rintro e x3 ⟨rfl, hb3⟩; have HB3 := Lib.hid (below_then HB2.out HB2.out.size hb3); have HZ3 := Lib.hid (HZ2.out.below hb3); have HR3 := Lib.hid (HR2.out.below hb3); have HWD3 : Hid (∀ j, (h : j < l.length) → x3.cell? ⟨w.heap.size + 1, j, none⟩ = some (.string l[j])) := Lib.hid (fun j h => pw_cell_below hb3 (HWD2.out j h)); have wd1 : x3.cell? ⟨w.heap.size + 1, 1, none⟩ = some (.string w1s) := (HWD3.out 1 (by have := Xh0.out; omega)).trans (by rw [(List.getElem?_eq_some_iff.1 Xhw1.out).2]); obtain ⟨k0, k1, k2, k3, k4, k5, k6, k7, k8⟩ := HR3.out.nine; obtain ⟨f0, f1, f2, f3, f4, f5, f6, f7, f8⟩ := HR3.out.frees; clear hb3) | (go_at_call_of 46 (Value.string w1s); refine (XHC1.out _ (StdW.below HS.out ((HB3.out.setCell (p := ⟨x1.heap.size, 7, none⟩) (Nat.le_of_lt hR1) (.int .i64 lo)).setCell (p := ⟨x1.heap.size, 8, none⟩) (Nat.le_of_lt hR1) (.int .i64 lo)))).mono ?_; rintro e x5 ⟨rfl, hb5⟩; have HB5 := Lib.hid (below_then ((HB3.out.setCell (p := ⟨x1.heap.size, 7, none⟩) (Nat.le_of_lt hR1) (.int .i64 lo)).setCell (p := ⟨x1.heap.size, 8, none⟩) (Nat.le_of_lt hR1) (.int .i64 lo)) ((HB3.out.setCell (p := ⟨x1.heap.size, 7, none⟩) (Nat.le_of_lt hR1) (.int .i64 lo)).setCell (p := ⟨x1.heap.size, 8, none⟩) (Nat.le_of_lt hR1) (.int .i64 lo)).size hb5); have HZ5 := Lib.hid (((HZ3.out.other ⟨x1.heap.size, 7, none⟩ hRn2 (.int .i64 lo)).other ⟨x1.heap.size, 8, none⟩ hRn2 (.int .i64 lo)).below hb5); have HR5 : Hid (Blk x5 x1.heap.size (rc true 0 0 0 0 0 ⟨#[]⟩ lo lo) _) := Lib.hid (((HR3.out.set 7 (.int .i64 lo)).set 8 (.int .i64 lo)).below hb5); have HWD5 : Hid (∀ j, (h : j < l.length) → x5.cell? ⟨w.heap.size + 1, j, none⟩ = some (.string l[j])) := Lib.hid (fun j h => pw_cell_below hb5 (by rw [World.cell?_setCell_other _ _ _ _ (by intro e; injection e with e; omega), World.cell?_setCell_other _ _ _ _ (by intro e; injection e with e; omega)]; exact HWD3.out j h)); clear wd1; have wd1 : x5.cell? ⟨w.heap.size + 1, 1, none⟩ = some (.string w1s) := (HWD5.out 1 (by have := Xh0.out; omega)).trans (by rw [(List.getElem?_eq_some_iff.1 Xhw1.out).2]); clear k0 k1 k2 k3 k4 k5 k6 k7 k8 f0 f1 f2 f3 f4 f5 f6 f7 f8; obtain ⟨k0, k1, k2, k3, k4, k5, k6, k7, k8⟩ := HR5.out.nine; obtain ⟨f0, f1, f2, f3, f4, f5, f6, f7, f8⟩ := HR5.out.frees; obtain ⟨z0, z1, z2, z3, z4, z5, z6, z7, z8⟩ := HZ5.out.nine; obtain ⟨g0, g1, g2, g3, g4, g5, g6, g7, g8⟩ := HZ5.out.frees; clear hb5) | (go_at_call 38; refine (XHRT.out _ (StdW.below HS.out (HB5.out.setCell (p := ⟨x1.heap.size, 6, none⟩) (Nat.le_of_lt hR1) (.string w1s)))).mono ?_; rintro e x8 ⟨rfl, hb8⟩; have HB8 := Lib.hid (below_then (HB5.out.setCell (p := ⟨x1.heap.size, 6, none⟩) (Nat.le_of_lt hR1) (.string w1s)) (HB5.out.setCell (p := ⟨x1.heap.size, 6, none⟩) (Nat.le_of_lt hR1) (.string w1s)).size hb8); have HZ8 := Lib.hid ((HZ5.out.other ⟨x1.heap.size, 6, none⟩ hRn2 (.string w1s)).below hb8); have HR8 : Hid (Blk x8 x1.heap.size (rc true 0 0 0 0 0 w1s lo lo) _) := Lib.hid ((HR5.out.set 6 (.string w1s)).below hb8); clear k0 k1 k2 k3 k4 k5 k6 k7 k8 f0 f1 f2 f3 f4 f5 f6 f7 f8; clear z0 z1 z2 z3 z4 z5 z6 z7 z8 g0 g1 g2 g3 g4 g5 g6 g7 g8; obtain ⟨k0, k1, k2, k3, k4, k5, k6, k7, k8⟩ := HR8.out.nine; obtain ⟨f0, f1, f2, f3, f4, f5, f6, f7, f8⟩ := HR8.out.frees; obtain ⟨z0, z1, z2, z3, z4, z5, z6, z7, z8⟩ := HZ8.out.nine; obtain ⟨g0, g1, g2, g3, g4, g5, g6, g7, g8⟩ := HZ8.out.frees; clear hb8))
  all_goals
    refine bodyPost_ret (v := .tuple #[.agg (rc true 0 0 0 0 0 w1s lo lo), .int .i64 0]) (by simp [results, Tryz.results21, go_sem, rc, z0, z1, z2, z3, z4, z5, z6, z7, z8, hRn1, hRn2]) rfl ⟨rfl, ?_⟩
    repeat (refine Below.setCell ?_ (by first | exact Nat.le_refl _ | exact Nat.le_of_lt hR1) _)
    exact HB8.out
end Go.Proofs.YteondnhokgmakaaGreatDoor.E


namespace Go.Proofs.YteondnhokgmakaaGreatDoor.E
open Go.RowKit Go.Proofs.YteondnhokgmakaaGreatDoorW.PrintWords Go.Proofs.YteondnhokgmakaaGreatDoorW.PrintLast
set_option linter.unusedVariables false
set_option linter.unusedSimpArgs false
set_option maxRecDepth 100000 in
set_option maxHeartbeats 40000000 in
theorem qq_3 (s w0 w1s w2s lowS highS netS nS : ByteArray) (lo : Int) (bi : Int) (a b c d : Int) (l : List ByteArray) (hs1 : s.size ≤ 285) (hs : s.size < 4294967281)
    (HSP : ∀ W, StdW W → Calls Tryz.prog 45 #[.string s, .string ⟨#[32]⟩] W fun e w' => e = .returned (.slice (some ⟨W.heap.size, 0, none⟩) l.length l.length) ∧ (∀ j, (h : j < l.length) → w'.cell? ⟨W.heap.size, j, none⟩ = some (.string l[j])) ∧ W.heap.size < w'.heap.size ∧ Below W.heap.size W w')
    (h0 : 3 = l.length)
    (hw0 : l[0]? = some w0)
    (hw1 : l[1]? = some w1s)
    (hw2 : l[2]? = some w2s)
    (hal : (w0.toList == [97, 108, 108, 111, 119]) = true)
    (hde : true = false → (w0.toList == [100, 101, 110, 121]) = true)
    (HC2 : ∀ W, StdW W → Calls Tryz.prog 46 #[.string w2s, .string ⟨#[45]⟩] W fun e w' => e = .returned (.tuple #[.string lowS, .string highS, .bool false]) ∧ Below W.heap.size W w')
    (HN1 : ∀ W, StdW W → Calls Tryz.prog 47 #[.string lowS] W fun e w' => e = .returned (.tuple #[.int .i64 lo, .bool true]) ∧ Below W.heap.size W w')
    (HC1 : ∀ W, StdW W → Calls Tryz.prog 46 #[.string w1s, .string ⟨#[47]⟩] W fun e w' => e = .returned (.tuple #[.string netS, .string nS, .bool true]) ∧ Below W.heap.size W w')
    (HN3 : ∀ W, StdW W → Calls Tryz.prog 47 #[.string nS] W fun e w' => e = .returned (.tuple #[.int .i64 bi, .bool true]) ∧ Below W.heap.size W w')
    (HPA : ∀ W, StdW W → Calls Tryz.prog 48 #[.string netS] W fun e w' => e = .returned (.tuple #[.agg #[.int .u8 a, .int .u8 b, .int .u8 c, .int .u8 d], .nilIface]) ∧ Below W.heap.size W w')
    (HRT : ∀ W, StdW W → Calls Tryz.prog 38 #[.agg (rc true a b c d bi ⟨#[]⟩ lo lo)] W fun e w' => e = .returned (.bool false) ∧ Below W.heap.size W w')
    (w : World) (hS : StdW w) :
    Calls Tryz.prog 21 #[.string s] w fun e w' => e = .returned (ppOut (true && (true && (true && false))) true a b c d bi ⟨#[]⟩ lo lo) ∧ Below w.heap.size w w' := by
  have HS := Lib.hid hS
  clear hS
  have hs1' : (s.size : Int) ≤ 285 := by omega
  have hl3 : ((l.length : Int) != 3) = false := by rw [← h0]; rfl
  have hl0 : (0 : Int) < (l.length : Int) := by omega
  have hl1 : (1 : Int) < (l.length : Int) := by omega
  have hl2 : (2 : Int) < (l.length : Int) := by omega
  have XHSP := Lib.hid HSP
  have XHC2 := Lib.hid HC2
  have XHN1 := Lib.hid HN1
  have XHC1 := Lib.hid HC1
  have XHRT := Lib.hid HRT
  have Xhw0 := Lib.hid hw0
  have Xhw1 := Lib.hid hw1
  have Xhw2 := Lib.hid hw2
  have XHN3 := Lib.hid HN3
  have XHPA := Lib.hid HPA
  clear HSP HC2 HN1 HC1 HRT hw0 hw1 hw2 HN3 HPA
  have Xh0 := Lib.hid h0
  clear h0 hs1
  clear hde
  go_enter Tryz.func21, Tryz.ntmps21
  go_wp2_with (first | (go_at_call 45; refine (XHSP.out _ (StdW.below HS.out (below_alloc (Below.refl _ _) _))).mono ?_; rintro e x1 ⟨rfl, hc, hlt1, hb1⟩; have HB1 := Lib.hid (below_then (below_alloc (Below.refl w.heap.size w) _) (below_alloc (Below.refl w.heap.size w) _).size hb1); have hR1 : w.heap.size < x1.heap.size := (by have := hb1.size; simp at this; omega); have hRn1 : ¬ x1.heap.size = w.heap.size := (by omega); have hRn2 : ¬ w.heap.size = x1.heap.size := (by omega); have HZ1 := Lib.hid ((Blk.new w (rc false 0 0 0 0 0 ⟨#[]⟩ 0 0) _).below hb1); have HWD1 : Hid (∀ j, (h : j < l.length) → x1.cell? ⟨w.heap.size + 1, j, none⟩ = some (.string l[j])) := Lib.hid (fun j h => by have := hc j h; rw [World.size_alloc] at this; exact this); have wd0 : x1.cell? ⟨w.heap.size + 1, 0, none⟩ = some (.string w0) := (HWD1.out 0 (by have := Xh0.out; omega)).trans (by rw [(List.getElem?_eq_some_iff.1 Xhw0.out).2]); have wd2 : x1.cell? ⟨w.heap.size + 1, 2, none⟩ = some (.string w2s) := (HWD1.out 2 (by have := Xh0.out; omega)).trans (by rw [(List.getElem?_eq_some_iff.1 Xhw2.out).2]); have hwl : w.heap.size + 1 < x1.heap.size := (by simpa using hlt1); clear hc hlt1 hb1) | (go_at_call_of 46 (Value.string w2s); refine (XHC2.out _ (StdW.below HS.out (below_alloc HB1.out _))).mono ?_; rintro e x2 ⟨rfl, hb2⟩; have HB2 := Lib.hid (below_then (below_alloc HB1.out _) (below_alloc HB1.out _).size hb2); have HZ2 := Lib.hid ((HZ1.out.old _).below hb2); have HR2 : Hid (Blk x2 x1.heap.size (rc true 0 0 0 0 0 ⟨#[]⟩ 0 0) _) := Lib.hid ((Blk.new x1 (rc true 0 0 0 0 0 ⟨#[]⟩ 0 0) _).below hb2); have HWD2 : Hid (∀ j, (h : j < l.length) → x2.cell? ⟨w.heap.size + 1, j, none⟩ = some (.string l[j])) := Lib.hid (fun j h => pw_cell_below hb2 (pw_cell_below (below_alloc (Below.refl _ _) _) (HWD1.out j h))); clear hb2 wd0 wd2) | (go_at_call_of 47 (Value.string lowS); refine (XHN1.out _ (StdW.below HS.out HB2.out)).mono ?_; rintro e x3 ⟨rfl, hb3⟩; have HB3 := Lib.hid (below_then HB2.out HB2.out.size hb3); have HZ3 := Lib.hid (HZ2.out.below hb3); have HR3 := Lib.hid (HR2.out.below hb3); have HWD3 : Hid (∀ j, (h : j < l.length) → x3.cell? ⟨w.heap.size + 1, j, none⟩ = some (.string l[j])) := Lib.hid (fun j h => pw_cell_below hb3 (HWD2.out j h)); have wd1 : x3.cell? ⟨w.heap.size + 1, 1, none⟩ = some (.string w1s) := (HWD3.out 1 (by have := Xh0.out; omega)).trans (by rw [(List.getElem?_eq_some_iff.1 Xhw1.out).2]); obtain ⟨k0, k1, k2, k3, k4, k5, k6, k7, k8⟩ := HR3.out.nine; obtain ⟨f0, f1, f2, f3, f4, f5, f6, f7, f8⟩ := HR3.out.frees; clear hb3) | (go_at_call_of 46 (Value.string w1s); refine (XHC1.out _ (StdW.below HS.out ((HB3.out.setCell (p := ⟨x1.heap.size, 7, none⟩) (Nat.le_of_lt hR1) (.int .i64 lo)).setCell (p := ⟨x1.heap.size, 8, none⟩) (Nat.le_of_lt hR1) (.int .i64 lo)))).mono ?_; rintro e x5 ⟨rfl, hb5⟩; have HB5 := Lib.hid (below_then ((HB3.out.setCell (p := ⟨x1.heap.size, 7, none⟩) (Nat.le_of_lt hR1) (.int .i64 lo)).setCell (p := ⟨x1.heap.size, 8, none⟩) (Nat.le_of_lt hR1) (.int .i64 lo)) ((HB3.out.setCell (p := ⟨x1.heap.size, 7, none⟩) (Nat.le_of_lt hR1) (.int .i64 lo)).setCell (p := ⟨x1.heap.size, 8, none⟩) (Nat.le_of_lt hR1) (.int .i64 lo)).size hb5); have HZ5 := Lib.hid (((HZ3.out.other ⟨x1.heap.size, 7, none⟩ hRn2 (.int .i64 lo)).other ⟨x1.heap.size, 8, none⟩ hRn2 (.int .i64 lo)).below hb5); have HR5 : Hid (Blk x5 x1.heap.size (rc true 0 0 0 0 0 ⟨#[]⟩ lo lo) _) := Lib.hid (((HR3.out.set 7 (.int .i64 lo)).set 8 (.int .i64 lo)).below hb5); have HWD5 : Hid (∀ j, (h : j < l.length) → x5.cell? ⟨w.heap.size + 1, j, none⟩ = some (.string l[j])) := Lib.hid (fun j h => pw_cell_below hb5 (by rw [World.cell?_setCell_other _ _ _ _ (by intro e; injection e with e; omega), World.cell?_setCell_other _ _ _ _ (by intro e; injection e with e; omega)]; exact HWD3.out j h)); clear wd1; have wd1 : x5.cell? ⟨w.heap.size + 1, 1, none⟩ = some (.string w1s) := (HWD5.out 1 (by have := Xh0.out; omega)).trans (by rw [(List.getElem?_eq_some_iff.1 Xhw1.out).2]); clear k0 k1 k2 k3 k4 k5 k6 k7 k8 f0 f1 f2 f3 f4 f5 f6 f7 f8; obtain ⟨k0, k1, k2, k3, k4, k5, k6, k7, k8⟩ := HR5.out.nine; obtain ⟨f0, f1, f2, f3, f4, f5, f6, f7, f8⟩ := HR5.out.frees; clear hb5) | (go_at_call_of 47 (Value.string nS); refine (XHN3.out _ (StdW.below HS.out HB5.out)).mono ?_; rintro e x6 ⟨rfl, hb6⟩; have HB6 := Lib.hid (below_then HB5.out HB5.out.size hb6); have HZ6 := Lib.hid (HZ5.out.below hb6); have HR6 := Lib.hid (HR5.out.below hb6); clear k0 k1 k2 k3 k4 k5 k6 k7 k8 f0 f1 f2 f3 f4 f5 f6 f7 f8; obtain ⟨k0, k1, k2, k3, k4, k5, k6, k7, k8⟩ := HR6.out.nine; obtain ⟨f0, f1, f2, f3, f4, f5, f6, f7, f8⟩ := HR6.out.frees; clear hb6) | (go_at_call 48; refine (XHPA.out _ (StdW.below HS.out (HB6.out.setCell (p := ⟨x1.heap.size, 5, none⟩) (Nat.le_of_lt hR1) (.int .i64 bi)))).mono ?_; rintro e x7 ⟨rfl, hb7⟩; have HB7 := Lib.hid (below_then (HB6.out.setCell (p := ⟨x1.heap.size, 5, none⟩) (Nat.le_of_lt hR1) (.int .i64 bi)) (HB6.out.setCell (p := ⟨x1.heap.size, 5, none⟩) (Nat.le_of_lt hR1) (.int .i64 bi)).size hb7); have HZ7 := Lib.hid ((HZ6.out.other ⟨x1.heap.size, 5, none⟩ hRn2 (.int .i64 bi)).below hb7); have HR7 : Hid (Blk x7 x1.heap.size (rc true 0 0 0 0 bi ⟨#[]⟩ lo lo) _) := Lib.hid ((HR6.out.set 5 (.int .i64 bi)).below hb7); clear k0 k1 k2 k3 k4 k5 k6 k7 k8 f0 f1 f2 f3 f4 f5 f6 f7 f8; obtain ⟨k0, k1, k2, k3, k4, k5, k6, k7, k8⟩ := HR7.out.nine; obtain ⟨f0, f1, f2, f3, f4, f5, f6, f7, f8⟩ := HR7.out.frees; obtain ⟨z0, z1, z2, z3, z4, z5, z6, z7, z8⟩ := HZ7.out.nine; obtain ⟨g0, g1, g2, g3, g4, g5, g6, g7, g8⟩ := HZ7.out.frees; clear hb7) | (go_at_call 38; refine (XHRT.out _ (StdW.below HS.out ((((HB7.out.setCell (p := ⟨x1.heap.size, 1, none⟩) (Nat.le_of_lt hR1) (.int .u8 a)).setCell (p := ⟨x1.heap.size, 2, none⟩) (Nat.le_of_lt hR1) (.int .u8 b)).setCell (p := ⟨x1.heap.size, 3, none⟩) (Nat.le_of_lt hR1) (.int .u8 c)).setCell (p := ⟨x1.heap.size, 4, none⟩) (Nat.le_of_lt hR1) (.int .u8 d)))).mono ?_; rintro e x8 ⟨rfl, hb8⟩; have HB8 := Lib.hid (below_then ((((HB7.out.setCell (p := ⟨x1.heap.size, 1, none⟩) (Nat.le_of_lt hR1) (.int .u8 a)).setCell (p := ⟨x1.heap.size, 2, none⟩) (Nat.le_of_lt hR1) (.int .u8 b)).setCell (p := ⟨x1.heap.size, 3, none⟩) (Nat.le_of_lt hR1) (.int .u8 c)).setCell (p := ⟨x1.heap.size, 4, none⟩) (Nat.le_of_lt hR1) (.int .u8 d)) ((((HB7.out.setCell (p := ⟨x1.heap.size, 1, none⟩) (Nat.le_of_lt hR1) (.int .u8 a)).setCell (p := ⟨x1.heap.size, 2, none⟩) (Nat.le_of_lt hR1) (.int .u8 b)).setCell (p := ⟨x1.heap.size, 3, none⟩) (Nat.le_of_lt hR1) (.int .u8 c)).setCell (p := ⟨x1.heap.size, 4, none⟩) (Nat.le_of_lt hR1) (.int .u8 d)).size hb8); have HZ8 := Lib.hid (((((HZ7.out.other ⟨x1.heap.size, 1, none⟩ hRn2 (.int .u8 a)).other ⟨x1.heap.size, 2, none⟩ hRn2 (.int .u8 b)).other ⟨x1.heap.size, 3, none⟩ hRn2 (.int .u8 c)).other ⟨x1.heap.size, 4, none⟩ hRn2 (.int .u8 d)).below hb8); have HR8 : Hid (Blk x8 x1.heap.size (rc true a b c d bi ⟨#[]⟩ lo lo) _) := Lib.hid (((((HR7.out.set 1 (.int .u8 a)).set 2 (.int .u8 b)).set 3 (.int .u8 c)).set 4 (.int .u8 d)).below hb8); clear k0 k1 k2 k3 k4 k5 k6 k7 k8 f0 f1 f2 f3 f4 f5 f6 f7 f8; clear z0 z1 z2 z3 z4 z5 z6 z7 z8 g0 g1 g2 g3 g4 g5 g6 g7 g8; obtain ⟨k0, k1, k2, k3, k4, k5, k6, k7, k8⟩ := HR8.out.nine; obtain ⟨f0, f1, f2, f3, f4, f5, f6, f7, f8⟩ := HR8.out.frees; obtain ⟨z0, z1, z2, z3, z4, z5, z6, z7, z8⟩ := HZ8.out.nine; obtain ⟨g0, g1, g2, g3, g4, g5, g6, g7, g8⟩ := HZ8.out.frees; clear hb8))
  all_goals
    refine bodyPost_ret (v := zeroRule) (by simp [results, Tryz.results21, go_sem, zeroRule, rc, z0, z1, z2, z3, z4, z5, z6, z7, z8, hRn1, hRn2]) rfl ⟨rfl, ?_⟩
    repeat (refine Below.setCell ?_ (by first | exact Nat.le_refl _ | exact Nat.le_of_lt hR1) _)
    exact HB8.out
end Go.Proofs.YteondnhokgmakaaGreatDoor.E


namespace Go.Proofs.YteondnhokgmakaaGreatDoor.E
open Go.RowKit Go.Proofs.YteondnhokgmakaaGreatDoorW.PrintWords Go.Proofs.YteondnhokgmakaaGreatDoorW.PrintLast Go.Proofs.YteondnhokgmakaaGreatDoor.XC
set_option linter.unusedVariables false
set_option linter.unusedSimpArgs false
def dc (a b c d : Int) (n : ByteArray) (po : Int) : Array Value := #[.int .u8 a, .int .u8 b, .int .u8 c, .int .u8 d, .string n, .int .i64 po]
theorem Blk.six {w : World} {R : Nat} {a b c d : Int} {n : ByteArray} {po : Int} {T : TypeId} (h : Blk w R (dc a b c d n po) T) :
    w.cell? ⟨R, 0, none⟩ = some (.int .u8 a) ∧ w.cell? ⟨R, 1, none⟩ = some (.int .u8 b) ∧ w.cell? ⟨R, 2, none⟩ = some (.int .u8 c) ∧ w.cell? ⟨R, 3, none⟩ = some (.int .u8 d) ∧ w.cell? ⟨R, 4, none⟩ = some (.string n) ∧ w.cell? ⟨R, 5, none⟩ = some (.int .i64 po) :=
  ⟨h.cell 0 _ rfl, h.cell 1 _ rfl, h.cell 2 _ rfl, h.cell 3 _ rfl, h.cell 4 _ rfl, h.cell 5 _ rfl⟩
set_option maxRecDepth 100000 in
set_option maxHeartbeats 8000000 in
theorem which_no (A0 : Option Addr) (c0 : Nat) (l : List S37) (a b c d : Int) (n : ByteArray) (po : Int) (hc : checkL l ≠ 0 ∨ (printDestB a b c d n po).toList.isEmpty = true) (w : World) (hS : StdW w)
    (HCK : ∀ W, Below w.heap.size w W → Calls Tryz.prog 11 #[.slice A0 l.length c0] W fun e w' => e = .returned (.int .i64 (checkL l)) ∧ Below W.heap.size W w')
    (HPD : ∀ W, StdW W → Calls Tryz.prog 34 #[.agg (dc a b c d n po)] W fun e w' => e = .returned (.string (printDestB a b c d n po)) ∧ Below W.heap.size W w') :
    Calls Tryz.prog 13 #[.slice A0 l.length c0, .agg (dc a b c d n po)] w fun e w' => e = .returned (.int .i64 (-1)) ∧ Below w.heap.size w w' := by
  have XCK := Lib.hid HCK
  have XPD := Lib.hid HPD
  have HS := Lib.hid hS
  clear hS HCK HPD
  generalize checkL l = v at XCK hc
  generalize printDestB a b c d n po = t at XPD hc
  unfold dc at *
  by_cases h1 : v = 0
  · have h2 : t.toList.isEmpty = true := hc.resolve_left (fun h => h h1)
    have h1' : (v != 0) = false := by rw [h1]; rfl
    clear hc
    go_enter Tryz.func13, Tryz.ntmps13
    go_wp2
    go_step3
    go_wp2_with (first | (go_at_call 11; refine (XCK.out _ (below_alloc (Below.refl _ _) _)).mono ?_; rintro e w1 ⟨rfl, hb1⟩; have HB1 := Lib.hid (below_then (below_alloc (Below.refl w.heap.size w) _) (below_alloc (Below.refl w.heap.size w) _).size hb1); obtain ⟨c0, c1, c2, c3, c4, c5⟩ := ((Blk.new w (dc a b c d n po) _).below hb1).six; clear hb1) | (go_at_call 34; refine (XPD.out _ (StdW.below HS.out HB1.out)).mono ?_; rintro e w2 ⟨rfl, hb2⟩))
    try rw [Exit.noGoto_ret]
    go_ret
    exact ⟨rfl, below_then HB1.out HB1.out.size hb2⟩
  · have h1' : (v != 0) = true := bne_iff_ne.mpr h1
    clear hc
    go_enter Tryz.func13, Tryz.ntmps13
    go_wp2
    go_step3
    go_wp2_with (first | (go_at_call 11; refine (XCK.out _ (below_alloc (Below.refl _ _) _)).mono ?_; rintro e w1 ⟨rfl, hb1⟩; have HB1 := Lib.hid (below_then (below_alloc (Below.refl w.heap.size w) _) (below_alloc (Below.refl w.heap.size w) _).size hb1); obtain ⟨c0, c1, c2, c3, c4, c5⟩ := ((Blk.new w (dc a b c d n po) _).below hb1).six; clear hb1))
    try rw [Exit.noGoto_ret]
    go_ret
    exact ⟨rfl, HB1.out⟩
theorem whichAt_drop {fit : S37 → Bool} {l : List S37} {k : Nat} {v : Int} (hk : k < l.length) (hf : fit l[k] = false) (h : v = whichAt fit (l.drop k) k) : v = whichAt fit (l.drop (k + 1)) ((k + 1 : Nat) : Int) := by
  rw [List.drop_eq_getElem_cons hk] at h
  unfold whichAt at h
  rw [if_neg (by rw [hf]; simp)] at h
  rw [h]; rfl
theorem whichAt_here {fit : S37 → Bool} {l : List S37} {k : Nat} {v : Int} (hk : k < l.length) (hf : fit l[k] = true) (h : v = whichAt fit (l.drop k) k) : v = k := by
  rw [List.drop_eq_getElem_cons hk] at h
  unfold whichAt at h
  rw [if_pos hf] at h
  exact h
theorem whichAt_end {fit : S37 → Bool} {l : List S37} {k : Nat} {v : Int} (hk : ¬ k < l.length) (h : v = whichAt fit (l.drop k) k) : v = -1 := by
  rw [List.drop_of_length_le (by omega)] at h
  exact h
set_option maxRecDepth 100000 in
set_option maxHeartbeats 40000000 in
theorem which_go (A0 : Option Addr) (c0 : Nat) (l : List S37) (a b c d : Int) (n : ByteArray) (po : Int) (hl : l.length ≤ 64) (hn : n.size ≤ 281474976710656) (hck : checkL l = 0) (hpd : (printDestB a b c d n po).toList.isEmpty = false) (w : World) (hS : StdW w)
    (hR : Kd.C k37 w A0 l.length l)
    (HCK : ∀ W, Below w.heap.size w W → Calls Tryz.prog 11 #[.slice A0 l.length c0] W fun e w' => e = .returned (.int .i64 (checkL l)) ∧ Below W.heap.size W w')
    (HPD : ∀ W, StdW W → Calls Tryz.prog 34 #[.agg (dc a b c d n po)] W fun e w' => e = .returned (.string (printDestB a b c d n po)) ∧ Below W.heap.size W w') :
    Calls Tryz.prog 13 #[.slice A0 l.length c0, .agg (dc a b c d n po)] w fun e w' => e = .returned (.int .i64 (whichAt (fitB a b c d n po) l 0)) ∧ Below w.heap.size w w' := by
  have XCK := Lib.hid HCK
  have XPD := Lib.hid HPD
  have HS := Lib.hid hS
  have HR := Lib.hid hR
  have HN := Lib.hid hn
  clear hS HCK HPD hR hn
  rw [hck] at XCK
  generalize printDestB a b c d n po = t at XPD hpd
  have HW : Hid (∀ v, v = whichAt (fitB a b c d n po) l 0 → v = whichAt (fitB a b c d n po) l 0) := Lib.hid (fun v h => h)
  generalize hv : whichAt (fitB a b c d n po) l 0 = v
  have HV := Lib.hid hv
  clear hv HW
  have hl' : (l.length : Int) ≤ 64 := by omega
  have hlm : l.length ≤ 9223372036854775807 := by omega
  unfold dc at *
  go_enter Tryz.func13, Tryz.ntmps13
  go_wp2
  go_step3
  go_wp2_with (first | (go_at_call 11; refine (XCK.out _ (below_alloc (Below.refl _ _) _)).mono ?_; rintro e w1 ⟨rfl, hb1⟩; have HB1 := Lib.hid (below_then (below_alloc (Below.refl w.heap.size w) _) (below_alloc (Below.refl w.heap.size w) _).size hb1); have HD1 := Lib.hid ((Blk.new w (dc a b c d n po) _).below hb1); obtain ⟨c0, c1, c2, c3, c4, c5⟩ := HD1.out.six; clear hb1) | (go_at_call 34; refine (XPD.out _ (StdW.below HS.out HB1.out)).mono ?_; rintro e w2 ⟨rfl, hb2⟩; have HB2 := Lib.hid (below_then HB1.out HB1.out.size hb2); have HD2 := Lib.hid (HD1.out.below hb2); clear hb2))
  go_step3
  go_wp2
  go_loopw [5, 18] (fun at_ i wr => ∃ k : Nat, k ≤ l.length ∧ at_ = .int .i64 (-1) ∧ i = .int .i64 k ∧ Hid (v = whichAt (fitB a b c d n po) (l.drop k) k) ∧ Hid (Blk wr w.heap.size (dc a b c d n po) 28) ∧ Hid (Below w.heap.size w wr)) (fun _ i _ => l.length - (intOf i).toNat)
  case atStart => exact ⟨0, Nat.zero_le _, rfl, rfl, Lib.hid (by rw [List.drop_zero]; exact HV.out.symm), HD2, HB2⟩
  case round =>
    obtain ⟨k, hk, rfl, rfl, HP, HD, HB⟩ := hrel
    clear HB1 HD1 HB2 HD2 XCK XPD
    by_cases hlt : k < l.length
    · have hk0 : (0 : Int) ≤ (k : Int) := Int.natCast_nonneg _
      have hk1 : (k : Int) < (l.length : Int) := by omega
      have hrd : rd_T37 l (k : Int) = l[k] := by
        unfold rd_T37
        rw [show ((k : Int)).toNat = k by omega, List.getD_eq_getElem?_getD, List.getElem?_eq_getElem hlt]; rfl
      obtain ⟨ad, ea, x0, x1, x2, x3, x4, x5, x6, x7, x8⟩ := at_T37 HR.out (k : Int) hk0 hk1
      cases ea
      rw [hrd] at x0 x1 x2 x3 x4 x5 x6 x7 x8
      have HNF := Lib.hid (fun (hf : fitB a b c d n po l[k] = false) => whichAt_drop hlt hf HP.out)
      have HYF := Lib.hid (fun (hf : fitB a b c d n po l[k] = true) => whichAt_here hlt hf HP.out)
      clear HP
      generalize l[k] = r at x0 x1 x2 x3 x4 x5 x6 x7 x8 HNF HYF hrd
      obtain ⟨al, ⟨ra, rb, rc', rd⟩, bi, su, lo, hi⟩ := r
      simp only [Int.toNat_natCast] at x0 x1 x2 x3 x4 x5 x6 x7 x8
      clear hrd
      replace x0 := (HB.out.cell (World.block_lt_of_cell? w _ x0)).trans x0
      replace x1 := (HB.out.cell (World.block_lt_of_cell? w _ x1)).trans x1
      replace x2 := (HB.out.cell (World.block_lt_of_cell? w _ x2)).trans x2
      replace x3 := (HB.out.cell (World.block_lt_of_cell? w _ x3)).trans x3
      replace x4 := (HB.out.cell (World.block_lt_of_cell? w _ x4)).trans x4
      replace x5 := (HB.out.cell (World.block_lt_of_cell? w _ x5)).trans x5
      replace x6 := (HB.out.cell (World.block_lt_of_cell? w _ x6)).trans x6
      replace x7 := (HB.out.cell (World.block_lt_of_cell? w _ x7)).trans x7
      replace x8 := (HB.out.cell (World.block_lt_of_cell? w _ x8)).trans x8
      obtain ⟨d0, d1, d2, d3, d4, d5⟩ := HD.out.six
      have hdl := HD.out.lt
      have hne : ¬ w.heap.size = wr.heap.size := by omega
      by_cases h1 : po < lo
      · have hf := HNF.out (by unfold fitB; simp only; rw [if_pos h1])
        clear HNF HYF
        go_wp2
        go_roundw
        case rel => exact ⟨k + 1, by omega, rfl, by go_num, Lib.hid hf, Lib.hid (HD.out.old _), Lib.hid (below_alloc HB.out _)⟩
        case measure => simp [intOf]; omega
      · have h1' : decide (po < lo) = false := decide_eq_false h1
        by_cases h2 : hi < po
        · have hf := HNF.out (by unfold fitB; simp only; rw [if_neg h1, if_pos h2])
          clear HNF HYF
          go_wp2
          go_roundw
          case rel => exact ⟨k + 1, by omega, rfl, by go_num, Lib.hid hf, Lib.hid (HD.out.old _), Lib.hid (below_alloc HB.out _)⟩
          case measure => simp [intOf]; omega
        · have h2' : decide (hi < po) = false := decide_eq_false h2
          cases hsu : su.toList.isEmpty
          · cases hnn : n.toList.isEmpty
            · cases hb : underB n su
              · have hf := HNF.out (by unfold fitB; simp only; rw [if_neg h1, if_neg h2, hsu, hnn]; simpa using hb)
                clear HNF HYF
                have HU := Lib.hid (fun W => host_Under.calls n su _ W (underB_some n su HN.out))
                rw [hb] at HU
                go_wp2_with (first | (go_at_call 27; refine (HU.out _).mono ?_; rintro e w4 ⟨rfl, hb4⟩; have HB4 := Lib.hid (below_then (below_alloc HB.out _) (below_alloc HB.out _).size hb4.below); have HD4 : Hid (Blk w4 w.heap.size (dc a b c d n po) 28) := Lib.hid ((HD.out.old _).below hb4.below); obtain ⟨e0, e1, e2, e3, e4, e5, e6, e7, e8⟩ := ((Blk.new wr (rc al ra rb rc' rd bi su lo hi) 37).below hb4.below).nine))
                go_roundw
                case rel => exact ⟨k + 1, by omega, rfl, by go_num, Lib.hid hf, Lib.hid HD4.out, Lib.hid HB4.out⟩
                case measure => simp [intOf]; omega
              · have hf := HYF.out (by unfold fitB; simp only; rw [if_neg h1, if_neg h2, hsu, hnn]; simpa using hb)
                clear HNF HYF
                have HU := Lib.hid (fun W => host_Under.calls n su _ W (underB_some n su HN.out))
                rw [hb] at HU
                go_wp2_with (first | (go_at_call 27; refine (HU.out _).mono ?_; rintro e w4 ⟨rfl, hb4⟩; have HB4 := Lib.hid (below_then (below_alloc HB.out _) (below_alloc HB.out _).size hb4.below); have HD4 : Hid (Blk w4 w.heap.size (dc a b c d n po) 28) := Lib.hid ((HD.out.old _).below hb4.below); obtain ⟨e0, e1, e2, e3, e4, e5, e6, e7, e8⟩ := ((Blk.new wr (rc al ra rb rc' rd bi su lo hi) 37).below hb4.below).nine))
                try rw [Exit.noGoto_ret]
                go_ret
                exact ⟨by rw [hf]; rfl, HB4.out⟩
            · have hf := HNF.out (by unfold fitB; simp only; rw [if_neg h1, if_neg h2, hsu, hnn]; rfl)
              clear HNF HYF
              go_wp2
              go_roundw
              case rel => exact ⟨k + 1, by omega, rfl, by go_num, Lib.hid hf, Lib.hid (HD.out.old _), Lib.hid (below_alloc HB.out _)⟩
              case measure => simp [intOf]; omega
          · cases hnn : n.toList.isEmpty
            · have hf := HNF.out (by unfold fitB; simp only; rw [if_neg h1, if_neg h2, hsu, hnn]; rfl)
              clear HNF HYF
              go_wp2
              go_roundw
              case rel => exact ⟨k + 1, by omega, rfl, by go_num, Lib.hid hf, Lib.hid (HD.out.old _), Lib.hid (below_alloc HB.out _)⟩
              case measure => simp [intOf]; omega
            · cases hb : inB a b c d ra rb rc' rd bi
              · have hf := HNF.out (by unfold fitB; simp only; rw [if_neg h1, if_neg h2, hsu, hnn]; simpa using hb)
                clear HNF HYF
                have HU := Lib.hid (fun W => host_In.calls a b c d ra rb rc' rd bi _ W (inB_some a b c d ra rb rc' rd bi))
                rw [hb] at HU
                go_wp2_with (first | (go_at_call 25; refine (HU.out _).mono ?_; rintro e w4 ⟨rfl, hb4⟩; have HB4 := Lib.hid (below_then (below_alloc HB.out _) (below_alloc HB.out _).size hb4); have HD4 : Hid (Blk w4 w.heap.size (dc a b c d n po) 28) := Lib.hid ((HD.out.old _).below hb4); obtain ⟨e0, e1, e2, e3, e4, e5, e6, e7, e8⟩ := ((Blk.new wr (rc al ra rb rc' rd bi su lo hi) 37).below hb4).nine))
                go_roundw
                case rel => exact ⟨k + 1, by omega, rfl, by go_num, Lib.hid hf, Lib.hid HD4.out, Lib.hid HB4.out⟩
                case measure => simp [intOf]; omega
              · have hf := HYF.out (by unfold fitB; simp only; rw [if_neg h1, if_neg h2, hsu, hnn]; simpa using hb)
                clear HNF HYF
                have HU := Lib.hid (fun W => host_In.calls a b c d ra rb rc' rd bi _ W (inB_some a b c d ra rb rc' rd bi))
                rw [hb] at HU
                go_wp2_with (first | (go_at_call 25; refine (HU.out _).mono ?_; rintro e w4 ⟨rfl, hb4⟩; have HB4 := Lib.hid (below_then (below_alloc HB.out _) (below_alloc HB.out _).size hb4); have HD4 : Hid (Blk w4 w.heap.size (dc a b c d n po) 28) := Lib.hid ((HD.out.old _).below hb4); obtain ⟨e0, e1, e2, e3, e4, e5, e6, e7, e8⟩ := ((Blk.new wr (rc al ra rb rc' rd bi su lo hi) 37).below hb4).nine))
                try rw [Exit.noGoto_ret]
                go_ret
                exact ⟨by rw [hf]; rfl, HB4.out⟩
    · have hf := whichAt_end hlt HP.out
      have hk1 : (k : Int) = (l.length : Int) := by omega
      go_wp2
      try rw [Exit.noGoto_ret]
      go_ret
      exact ⟨by rw [hf]; rfl, HB.out⟩
end Go.Proofs.YteondnhokgmakaaGreatDoor.E


namespace Go.Proofs.YteondnhokgmakaaGreatDoor.E
open Go.RowKit Go.Proofs.YteondnhokgmakaaGreatDoorW.PrintWords Go.Proofs.YteondnhokgmakaaGreatDoorW.PrintLast Go.Proofs.YteondnhokgmakaaGreatDoor.XC
set_option linter.unusedVariables false
set_option linter.unusedSimpArgs false
def ruleT1 : ByteArray := ⟨#[100, 101, 110, 121, 32, 49, 48, 46, 48, 46, 48, 46, 48, 47, 56, 32, 49, 45, 54, 53, 53, 51, 53]⟩
def ruleT2 : ByteArray := ⟨#[97, 108, 108, 111, 119, 32, 101, 120, 97, 109, 112, 108, 101, 46, 99, 111, 109, 32, 52, 52, 51]⟩
def ruleT3 : ByteArray := ⟨#[97, 108, 108, 111, 119, 32, 49, 48, 46, 48, 46, 48, 46, 49, 47, 56, 32, 56, 48]⟩
def exS : ByteArray := ⟨#[101, 120, 97, 109, 112, 108, 101, 46, 99, 111, 109]⟩
theorem words1 : wordsS ruleT1 = [⟨#[100, 101, 110, 121]⟩, ⟨#[49, 48, 46, 48, 46, 48, 46, 48, 47, 56]⟩, ⟨#[49, 45, 54, 53, 53, 51, 53]⟩] := by kernel_rfl
theorem words2 : wordsS ruleT2 = [⟨#[97, 108, 108, 111, 119]⟩, exS, ⟨#[52, 52, 51]⟩] := by kernel_rfl
theorem words3 : wordsS ruleT3 = [⟨#[97, 108, 108, 111, 119]⟩, ⟨#[49, 48, 46, 48, 46, 48, 46, 49, 47, 56]⟩, ⟨#[56, 48]⟩] := by kernel_rfl
theorem right1 : policy_right.f 1 false 10 0 0 0 8 ⟨#[]⟩ 1 65535 = some true := by kernel_rfl
theorem right3 : policy_right.f 1 true 10 0 0 1 8 ⟨#[]⟩ 80 80 = some false := by kernel_rfl
theorem num1 : pnumber.f ⟨#[49]⟩ = some (1, true) := by kernel_rfl
theorem num2 : pnumber.f ⟨#[54, 53, 53, 51, 53]⟩ = some (65535, true) := by kernel_rfl
theorem num3 : pnumber.f ⟨#[56]⟩ = some (8, true) := by kernel_rfl
theorem num4 : pnumber.f ⟨#[52, 52, 51]⟩ = some (443, true) := by kernel_rfl
theorem num5 : pnumber.f ⟨#[56, 48]⟩ = some (80, true) := by kernel_rfl
theorem cut1 : Cut.f ⟨#[49, 45, 54, 53, 53, 51, 53]⟩ ⟨#[45]⟩ = some (⟨#[49]⟩, ⟨#[54, 53, 53, 51, 53]⟩, true) := by kernel_rfl
theorem cut2 : Cut.f ⟨#[52, 52, 51]⟩ ⟨#[45]⟩ = some (⟨#[52, 52, 51]⟩, ⟨#[]⟩, false) := by kernel_rfl
theorem cut3 : Cut.f ⟨#[56, 48]⟩ ⟨#[45]⟩ = some (⟨#[56, 48]⟩, ⟨#[]⟩, false) := by kernel_rfl
theorem cut4 : Cut.f ⟨#[49, 48, 46, 48, 46, 48, 46, 48, 47, 56]⟩ ⟨#[47]⟩ = some (⟨#[49, 48, 46, 48, 46, 48, 46, 48]⟩, ⟨#[56]⟩, true) := by kernel_rfl
theorem cut5 : Cut.f exS ⟨#[47]⟩ = some (exS, ⟨#[]⟩, false) := by kernel_rfl
theorem cut6 : Cut.f ⟨#[49, 48, 46, 48, 46, 48, 46, 49, 47, 56]⟩ ⟨#[47]⟩ = some (⟨#[49, 48, 46, 48, 46, 48, 46, 49]⟩, ⟨#[56]⟩, true) := by kernel_rfl
theorem addr1 : paRes ⟨#[49, 48, 46, 48, 46, 48, 46, 48]⟩ = .inr [10, 0, 0, 0] := by kernel_rfl
theorem addr3 : paRes ⟨#[49, 48, 46, 48, 46, 48, 46, 49]⟩ = .inr [10, 0, 0, 1] := by kernel_rfl
theorem right2 : policy_right.f 1 true 0 0 0 0 0 exS 443 443 = some true := by kernel_rfl
theorem cut_of {s sep a b : ByteArray} {f : Bool} (h : Cut.f s sep = some (a, b, f)) : ∀ W, StdW W → Calls Tryz.prog 46 #[.string s, .string sep] W fun e w' => e = .returned (.tuple #[.string a, .string b, .bool f]) ∧ Below W.heap.size W w' := fun W hS => Cut.calls s sep a b f W hS h
theorem num_of {s : ByteArray} {v : Int} {f : Bool} (h : pnumber.f s = some (v, f)) : ∀ W, StdW W → Calls Tryz.prog 47 #[.string s] W fun e w' => e = .returned (.tuple #[.int .i64 v, .bool f]) ∧ Below W.heap.size W w' := fun W hS => pnumber.calls s v f W hS h
theorem addr_of {s : ByteArray} {a b c d : Int} (hs : s.size ≤ 281474976710656) (h : paRes s = .inr [a, b, c, d]) : ∀ W, StdW W → Calls Tryz.prog 48 #[.string s] W fun e w' => e = .returned (.tuple #[.agg #[.int .u8 a, .int .u8 b, .int .u8 c, .int .u8 d], .nilIface]) ∧ Below W.heap.size W w' := fun W hS => (parseAddr_any s hs W hS).mono fun e w' hp => by
  unfold PAPost at hp
  rw [h] at hp
  exact ⟨hp.2.2, hp.1⟩
theorem right_of {al : Bool} {a b c d bi : Int} {su : ByteArray} {lo hi : Int} {r : Bool} (h : policy_right.f 1 al a b c d bi su lo hi = some r) : ∀ W, StdW W → Calls Tryz.prog 38 #[.agg (rc al a b c d bi su lo hi)] W fun e w' => e = .returned (.bool r) ∧ Below W.heap.size W w' := fun W hS => policy_right.calls 1 al a b c d bi su lo hi r W hS h
theorem parse1 (w : World) (hS : StdW w) : Calls Tryz.prog 21 #[.string ruleT1] w fun e w' => e = .returned (.tuple #[.agg (rc false 10 0 0 0 8 ⟨#[]⟩ 1 65535), .int .i64 0]) ∧ Below w.heap.size w w' := by
  have HSP := split_blanks ruleT1 (by decide)
  rw [words1] at HSP
  exact qq_1 ruleT1 ⟨#[100, 101, 110, 121]⟩ ⟨#[49, 48, 46, 48, 46, 48, 46, 48, 47, 56]⟩ ⟨#[49, 45, 54, 53, 53, 51, 53]⟩ ⟨#[49]⟩ ⟨#[54, 53, 53, 51, 53]⟩ ⟨#[49, 48, 46, 48, 46, 48, 46, 48]⟩ ⟨#[56]⟩ 1 65535 8 10 0 0 0 _ (by decide) (by decide) HSP rfl rfl rfl rfl (by kernel_rfl) (fun _ => by kernel_rfl) (cut_of cut1) (num_of num1) (cut_of cut4) (num_of num2) rfl (num_of num3) (addr_of (by decide) addr1) (right_of right1) w hS
theorem parse2 (w : World) (hS : StdW w) : Calls Tryz.prog 21 #[.string ruleT2] w fun e w' => e = .returned (.tuple #[.agg (rc true 0 0 0 0 0 exS 443 443), .int .i64 0]) ∧ Below w.heap.size w w' := by
  have HSP := split_blanks ruleT2 (by decide)
  rw [words2] at HSP
  exact qq_2 ruleT2 ⟨#[97, 108, 108, 111, 119]⟩ exS ⟨#[52, 52, 51]⟩ ⟨#[52, 52, 51]⟩ ⟨#[]⟩ exS ⟨#[]⟩ 443 _ (by decide) (by decide) HSP rfl rfl rfl rfl (by kernel_rfl) (fun h => by cases h) (cut_of cut2) (num_of num4) (cut_of cut5) (by kernel_rfl) (right_of right2) w hS
theorem parse3 (w : World) (hS : StdW w) : Calls Tryz.prog 21 #[.string ruleT3] w fun e w' => e = .returned zeroRule ∧ Below w.heap.size w w' := by
  have HSP := split_blanks ruleT3 (by decide)
  rw [words3] at HSP
  exact qq_3 ruleT3 ⟨#[97, 108, 108, 111, 119]⟩ ⟨#[49, 48, 46, 48, 46, 48, 46, 49, 47, 56]⟩ ⟨#[56, 48]⟩ ⟨#[56, 48]⟩ ⟨#[]⟩ ⟨#[49, 48, 46, 48, 46, 48, 46, 49]⟩ ⟨#[56]⟩ 80 8 10 0 0 1 _ (by decide) (by decide) HSP rfl rfl rfl rfl (by kernel_rfl) (fun h => by cases h) (cut_of cut3) (num_of num5) (cut_of cut6) (num_of num3) (addr_of (by decide) addr3) (right_of right3) w hS
end Go.Proofs.YteondnhokgmakaaGreatDoor.E


namespace Go.Proofs.YteondnhokgmakaaGreatDoor.E
open Go.RowKit Go.Proofs.YteondnhokgmakaaGreatDoorW.PrintWords Go.Proofs.YteondnhokgmakaaGreatDoorW.PrintLast Go.Proofs.YteondnhokgmakaaGreatDoor.XC
set_option linter.unusedVariables false
set_option linter.unusedSimpArgs false
def sized (l : List S37) : Bool := l.all fun r => decide (r.f3.size ≤ 281474976710656)
theorem sized_mem {l : List S37} (h : sized l = true) : ∀ r ∈ l, r.f3.size ≤ 281474976710656 := fun r hr => of_decide_eq_true (List.all_eq_true.1 h r hr)
def Which.f (l : List S37) (a b c d : Int) (n : ByteArray) (po : Int) : Option Int :=
  if ((0 ≤ a ∧ a ≤ 255) ∧ (0 ≤ b ∧ b ≤ 255) ∧ (0 ≤ c ∧ c ≤ 255) ∧ (0 ≤ d ∧ d ≤ 255) ∧ n.size ≤ 281474976710656) ∧ sized l = true then some (whichB l a b c d n po) else none
theorem Which.calls (A0 : Option Addr) (c0 : Nat) (l0 : List S37) (a b c d : Int) (n : ByteArray) (po : Int) (r : Int) (w : World) (hr0 : Kd.C k37 w A0 l0.length l0) (hc0 : l0.length ≤ c0) (hS_ : StdW w) (h : Which.f l0 a b c d n po = some r) :
    Calls Tryz.prog 13 #[.slice A0 l0.length c0, .agg #[.int .u8 a, .int .u8 b, .int .u8 c, .int .u8 d, .string n, .int .i64 po]] w fun e w' => e = .returned (.int .i64 r) ∧ Below w.heap.size w w' := by
  unfold Which.f at h
  split at h
  · rename_i hc
    obtain rfl := Option.some.inj h
    have hz := sized_mem hc.2
    have HCK : ∀ W, Below w.heap.size w W → Calls Tryz.prog 11 #[.slice A0 l0.length c0] W fun e w' => e = .returned (.int .i64 (checkL l0)) ∧ Below W.heap.size W w' := fun W hb => policy_Check.calls 67 A0 c0 l0 _ W (Kd.C_below hr0 hb) hc0 (StdW.below hS_ hb) (checkL_some l0 hz)
    have HPD : ∀ W, StdW W → Calls Tryz.prog 34 #[.agg (dc a b c d n po)] W fun e w' => e = .returned (.string (printDestB a b c d n po)) ∧ Below W.heap.size W w' := fun W hW => hPrintDest.calls a b c d n po _ W hW (by unfold hPrintDest.f; rw [if_pos hc.1])
    unfold whichB
    by_cases h1 : checkL l0 = 0
    · rw [if_pos h1]
      cases h2 : (printDestB a b c d n po).toList.isEmpty
      · have hl : l0.length ≤ 64 := by
          unfold checkL at h1
          by_cases hh : 64 < l0.length
          · rw [if_pos hh] at h1; cases h1
          · omega
        rw [if_neg (by simp)]
        exact which_go A0 c0 l0 a b c d n po hl hc.1.2.2.2.2 h1 h2 w hS_ hr0 HCK HPD
      · rw [if_pos rfl]
        exact which_no A0 c0 l0 a b c d n po (.inr h2) w hS_ HCK HPD
    · rw [if_neg h1]
      exact which_no A0 c0 l0 a b c d n po (.inl h1) w hS_ HCK HPD
  · cases h
end Go.Proofs.YteondnhokgmakaaGreatDoor.E


namespace Go.Proofs.YteondnhokgmakaaGreatDoor.XM
open Go.Proofs.YteondnhokgmakaaGreatDoor.XC
open Go.RowKit Go.Proofs.YteondnhokgmakaaGreatDoorW.PrintWords Go.Proofs.YteondnhokgmakaaGreatDoorW.PrintLast Go.Proofs.YteondnhokgmakaaGreatDoorW.PrintMore
attribute [local go_sem] max2_int min2_int max_two min_two max_three min_three max_four min_four
set_option linter.unusedVariables false
set_option linter.unusedSimpArgs false
end Go.Proofs.YteondnhokgmakaaGreatDoor.XM


namespace Go.Proofs.YteondnhokgmakaaGreatDoor.XM
open Go.Proofs.YteondnhokgmakaaGreatDoor.XC
open Go.RowKit Go.Proofs.YteondnhokgmakaaGreatDoorW.PrintWords Go.Proofs.YteondnhokgmakaaGreatDoorW.PrintLast Go.Proofs.YteondnhokgmakaaGreatDoorW.PrintMore
attribute [local go_sem] max2_int min2_int max_two min_two max_three min_three max_four min_four
set_option linter.unusedVariables false
set_option linter.unusedSimpArgs false
def policy_May.f (l0 : List (S37)) (a1_0 : Int) (a1_1 : Int) (a1_2 : Int) (a1_3 : Int) (a1_4 : ByteArray) (a1_5 : Int) : Option (Bool) := (E.Which.f l0 a1_0 a1_1 a1_2 a1_3 a1_4 a1_5).bind fun t102 => (if t102 ≥ 0 then (if 0 ≤ t102 then (if t102 < (l0.length : Int) then (some ((rd_T37 l0 t102).f0)) else (none)) else (none)) else (some false))
set_option maxHeartbeats 8000000 in
set_option maxRecDepth 100000 in
theorem policy_May.calls (A0 : Option Addr) (c0 : Nat) (l0 : List (S37)) (a1_0 : Int) (a1_1 : Int) (a1_2 : Int) (a1_3 : Int) (a1_4 : ByteArray) (a1_5 : Int) (r : Bool) (w : World) (hr0 : Kd.C k37 w A0 l0.length l0) (hc0 : l0.length ≤ c0) (hS_ : StdW w) (h : policy_May.f l0 a1_0 a1_1 a1_2 a1_3 a1_4 a1_5 = some r) :
    Calls Tryz.prog 15 #[.slice A0 l0.length c0, .agg #[.int .u8 a1_0, .int .u8 a1_1, .int .u8 a1_2, .int .u8 a1_3, .string a1_4, .int .i64 a1_5]] w fun e w' => e = .returned (.bool r) ∧ Below w.heap.size w w' := by
  have hu28 := Tryz.underlying28
  have HR0 := Aside0.mk hr0
  have HC0 := Aside0.mk hc0
  clear hr0 hc0
  have HS_ := Aside0.mk hS_
  clear hS_
  have HB := Aside0.mk (Below.refl w.heap.size w)
  have H : ((E.Which.f l0 a1_0 a1_1 a1_2 a1_3 a1_4 a1_5).bind fun t102 => (if t102 ≥ 0 then (if 0 ≤ t102 then (if t102 < (l0.length : Int) then (some ((rd_T37 l0 t102).f0)) else (none)) else (none)) else (some false))) = some r := h
  clear h
  replace H := Option.bind_eq_some_iff.mp H
  obtain ⟨t102, A30, H⟩ := H
  replace H : (if t102 ≥ 0 then (if 0 ≤ t102 then (if t102 < (l0.length : Int) then (some ((rd_T37 l0 t102).f0)) else (none)) else (none)) else (some false)) = some r := H
  have A3 := Aside0.mk A30
  clear A30
  by_cases c4 : t102 ≥ 0
  · rw [if_pos c4] at H
    have c4b0 : decide (0 ≤ t102) = true := decide_eq_true c4
    clear c4
    by_cases c5 : 0 ≤ t102
    · rw [if_pos c5] at H
      have c5b0 : decide (0 ≤ t102) = true := decide_eq_true c5
      clear c5
      by_cases c6 : t102 < (l0.length : Int)
      · rw [if_pos c6] at H
        have c6b0 : decide (t102 < (l0.length : Int)) = true := decide_eq_true c6
        clear c6
        obtain rfl := Option.some.inj H
        go_enter Tryz.func15, Tryz.ntmps15
        go_wp2_with (first | ((with_reducible refine gate_dst (N := 3) rfl ?_); refine box_event ?hg (N := 3) ?hd (cs := #[.int .u8 a1_0, .int .u8 a1_1, .int .u8 a1_2, .int .u8 a1_3, .string a1_4, .int .i64 a1_5]) (t := 28) ?hr ?_; (case hd => rfl); (case hg => rfl); (case hr => first | (go_simp; done) | (go_simp; rfl)); intro gb101 hg w7 hbox hb; have n0_ := Aside0.mk (below_step (by repeat (first | (with_reducible first | exact HB.out | apply below_alloc | apply pw_below_drewN | apply below_drew1) | exact HB.out)) hb); have n1_ := Aside0.mk (hbox); have n2_ := Aside0.mk ((by rw [hg]; exact (below_size (by repeat (first | (with_reducible first | exact HB.out | apply below_alloc | apply pw_below_drewN | apply below_drew1) | exact HB.out))) : w.heap.size ≤ gb101)); have n3_ := Aside0.mk ((by rw [hg]; exact (below_size (by repeat (first | (with_reducible first | exact HB.out | apply below_alloc | apply pw_below_drewN | apply below_drew1) | exact HB.out))) : w.heap.size ≤ gb101)); clear HB; have HB := n0_; have BK101 := n1_; have GW101 := n2_; have GE101 := n3_; clear n0_ n1_ n2_ n3_; clear hb hbox hg; have hcz8_0 : w7.cell? ⟨gb101, 0, none⟩ = some (.int .u8 a1_0) := (blk_cell BK101.out 0).trans rfl; have hcz8_1 : w7.cell? ⟨gb101, 1, none⟩ = some (.int .u8 a1_1) := (blk_cell BK101.out 1).trans rfl; have hcz8_2 : w7.cell? ⟨gb101, 2, none⟩ = some (.int .u8 a1_2) := (blk_cell BK101.out 2).trans rfl; have hcz8_3 : w7.cell? ⟨gb101, 3, none⟩ = some (.int .u8 a1_3) := (blk_cell BK101.out 3).trans rfl; have hcz8_4 : w7.cell? ⟨gb101, 4, none⟩ = some (.string a1_4) := (blk_cell BK101.out 4).trans rfl; have hcz8_5 : w7.cell? ⟨gb101, 5, none⟩ = some (.int .i64 a1_5) := (blk_cell BK101.out 5).trans rfl; have hfz8_0 := blk_frozen BK101.out 0; have hfz8_1 := blk_frozen BK101.out 1; have hfz8_2 := blk_frozen BK101.out 2; have hfz8_3 := blk_frozen BK101.out 3; have hfz8_4 := blk_frozen BK101.out 4; have hfz8_5 := blk_frozen BK101.out 5) | ((with_reducible refine gate_callee (f := 13) rfl ?_); refine goesL_ (some 8) rfl rfl Tryz.func13 (by kernel_rfl) rfl #[.slice A0 l0.length c0, .agg #[.int .u8 a1_0, .int .u8 a1_1, .int .u8 a1_2, .int .u8 a1_3, .string a1_4, .int .i64 a1_5]] rfl (by (try simp only [List.map_toArray, List.map_cons, List.map_nil]); first | done | rfl | (simp only [List.length_drop, List.length_take]; rfl)) ?_; (with_reducible refine (E.Which.calls _ _ l0 a1_0 a1_1 a1_2 a1_3 a1_4 a1_5 t102 _ ?side1 ?side2 ?side3 A3.out).mono ?_); (case side1 => repeat (first | exact (Kd.C_below HR0.out HB.out) | (with_reducible refine Kd.C_alloc ?_ _) | (with_reducible refine Kd.C_drewN ?_ _) | (with_reducible refine Kd.C_drew ?_))); (case side2 => exact HC0.out); (case side3 => exact StdW.below HS_.out (by repeat (first | (with_reducible first | exact HB.out | apply below_alloc | apply pw_below_drewN | apply below_drew1 | refine below_set ?_ GE101.out) | exact HB.out))); rintro e w9 ⟨rfl, hb⟩; refine ⟨_, rfl, ?_⟩; have n0_ := Aside0.mk (blk_below (g := gb101) (o := .cells #[.int .u8 a1_0, .int .u8 a1_1, .int .u8 a1_2, .int .u8 a1_3, .string a1_4, .int .i64 a1_5] 28 (0, 0)) (by (with_reducible repeat (first | refine blk_drewN ?_ _ | refine blk_drew ?_ | refine blk_alloc ?_ _)); exact BK101.out) hb); have n1_ := Aside0.mk (below_step (by repeat (first | (with_reducible first | exact HB.out | apply below_alloc | apply pw_below_drewN | apply below_drew1 | refine below_set ?_ GE101.out) | exact HB.out)) hb); clear BK101; clear HB; have BK101 := n0_; have HB := n1_; clear n0_ n1_; (try clear hb); (try clear hb2); (try clear hk); (try clear hi); have p103 : 0 ≤ (t102 : Int) := of_decide_eq_true (by first | (with_reducible assumption) | assumption); have q103 : t102 < (l0.length : Int) := of_decide_eq_true (by first | (with_reducible assumption) | assumption); obtain ⟨ad103, e103, hx103_0, hx103_1, hx103_2, hx103_3, hx103_4, hx103_5, hx103_6, hx103_7, hx103_8⟩ := at_T37 HR0.out t102 p103 q103; cases e103; replace hx103_0 := (HB.out.cell (World.block_lt_of_cell? w _ hx103_0)).trans hx103_0; replace hx103_1 := (HB.out.cell (World.block_lt_of_cell? w _ hx103_1)).trans hx103_1; replace hx103_2 := (HB.out.cell (World.block_lt_of_cell? w _ hx103_2)).trans hx103_2; replace hx103_3 := (HB.out.cell (World.block_lt_of_cell? w _ hx103_3)).trans hx103_3; replace hx103_4 := (HB.out.cell (World.block_lt_of_cell? w _ hx103_4)).trans hx103_4; replace hx103_5 := (HB.out.cell (World.block_lt_of_cell? w _ hx103_5)).trans hx103_5; replace hx103_6 := (HB.out.cell (World.block_lt_of_cell? w _ hx103_6)).trans hx103_6; replace hx103_7 := (HB.out.cell (World.block_lt_of_cell? w _ hx103_7)).trans hx103_7; replace hx103_8 := (HB.out.cell (World.block_lt_of_cell? w _ hx103_8)).trans hx103_8; replace p103 := eq_true p103; replace q103 := eq_true q103))
        go_ret
        exact ⟨by first | rfl | (simp [errW_none, errW_some] <;> rfl) | (simp [*, errW_none, errW_some] <;> rfl), by repeat (first | (with_reducible first | exact HB.out | apply below_alloc | apply pw_below_drewN | apply below_drew1 | refine below_set ?_ GE101.out) | exact HB.out)⟩
      · rw [if_neg c6] at H
        exact absurd H (by simp)
    · rw [if_neg c5] at H
      exact absurd H (by simp)
  · rw [if_neg c4] at H
    have c4b0 : decide (0 ≤ t102) = false := decide_eq_false c4
    clear c4
    obtain rfl := Option.some.inj H
    go_enter Tryz.func15, Tryz.ntmps15
    go_wp2_with (first | ((with_reducible refine gate_dst (N := 3) rfl ?_); refine box_event ?hg (N := 3) ?hd (cs := #[.int .u8 a1_0, .int .u8 a1_1, .int .u8 a1_2, .int .u8 a1_3, .string a1_4, .int .i64 a1_5]) (t := 28) ?hr ?_; (case hd => rfl); (case hg => rfl); (case hr => first | (go_simp; done) | (go_simp; rfl)); intro gb101 hg w10 hbox hb; have n0_ := Aside0.mk (below_step (by repeat (first | (with_reducible first | exact HB.out | apply below_alloc | apply pw_below_drewN | apply below_drew1) | exact HB.out)) hb); have n1_ := Aside0.mk (hbox); have n2_ := Aside0.mk ((by rw [hg]; exact (below_size (by repeat (first | (with_reducible first | exact HB.out | apply below_alloc | apply pw_below_drewN | apply below_drew1) | exact HB.out))) : w.heap.size ≤ gb101)); have n3_ := Aside0.mk ((by rw [hg]; exact (below_size (by repeat (first | (with_reducible first | exact HB.out | apply below_alloc | apply pw_below_drewN | apply below_drew1) | exact HB.out))) : w.heap.size ≤ gb101)); clear HB; have HB := n0_; have BK101 := n1_; have GW101 := n2_; have GE101 := n3_; clear n0_ n1_ n2_ n3_; clear hb hbox hg; have hcz11_0 : w10.cell? ⟨gb101, 0, none⟩ = some (.int .u8 a1_0) := (blk_cell BK101.out 0).trans rfl; have hcz11_1 : w10.cell? ⟨gb101, 1, none⟩ = some (.int .u8 a1_1) := (blk_cell BK101.out 1).trans rfl; have hcz11_2 : w10.cell? ⟨gb101, 2, none⟩ = some (.int .u8 a1_2) := (blk_cell BK101.out 2).trans rfl; have hcz11_3 : w10.cell? ⟨gb101, 3, none⟩ = some (.int .u8 a1_3) := (blk_cell BK101.out 3).trans rfl; have hcz11_4 : w10.cell? ⟨gb101, 4, none⟩ = some (.string a1_4) := (blk_cell BK101.out 4).trans rfl; have hcz11_5 : w10.cell? ⟨gb101, 5, none⟩ = some (.int .i64 a1_5) := (blk_cell BK101.out 5).trans rfl; have hfz11_0 := blk_frozen BK101.out 0; have hfz11_1 := blk_frozen BK101.out 1; have hfz11_2 := blk_frozen BK101.out 2; have hfz11_3 := blk_frozen BK101.out 3; have hfz11_4 := blk_frozen BK101.out 4; have hfz11_5 := blk_frozen BK101.out 5) | ((with_reducible refine gate_callee (f := 13) rfl ?_); refine goesL_ (some 8) rfl rfl Tryz.func13 (by kernel_rfl) rfl #[.slice A0 l0.length c0, .agg #[.int .u8 a1_0, .int .u8 a1_1, .int .u8 a1_2, .int .u8 a1_3, .string a1_4, .int .i64 a1_5]] rfl (by (try simp only [List.map_toArray, List.map_cons, List.map_nil]); first | done | rfl | (simp only [List.length_drop, List.length_take]; rfl)) ?_; (with_reducible refine (E.Which.calls _ _ l0 a1_0 a1_1 a1_2 a1_3 a1_4 a1_5 t102 _ ?side1 ?side2 ?side3 A3.out).mono ?_); (case side1 => repeat (first | exact (Kd.C_below HR0.out HB.out) | (with_reducible refine Kd.C_alloc ?_ _) | (with_reducible refine Kd.C_drewN ?_ _) | (with_reducible refine Kd.C_drew ?_))); (case side2 => exact HC0.out); (case side3 => exact StdW.below HS_.out (by repeat (first | (with_reducible first | exact HB.out | apply below_alloc | apply pw_below_drewN | apply below_drew1 | refine below_set ?_ GE101.out) | exact HB.out))); rintro e w12 ⟨rfl, hb⟩; refine ⟨_, rfl, ?_⟩; have n0_ := Aside0.mk (blk_below (g := gb101) (o := .cells #[.int .u8 a1_0, .int .u8 a1_1, .int .u8 a1_2, .int .u8 a1_3, .string a1_4, .int .i64 a1_5] 28 (0, 0)) (by (with_reducible repeat (first | refine blk_drewN ?_ _ | refine blk_drew ?_ | refine blk_alloc ?_ _)); exact BK101.out) hb); have n1_ := Aside0.mk (below_step (by repeat (first | (with_reducible first | exact HB.out | apply below_alloc | apply pw_below_drewN | apply below_drew1 | refine below_set ?_ GE101.out) | exact HB.out)) hb); clear BK101; clear HB; have BK101 := n0_; have HB := n1_; clear n0_ n1_; (try clear hb); (try clear hb2); (try clear hk); (try clear hi)))
    go_ret
    exact ⟨by first | rfl | (simp [errW_none, errW_some] <;> rfl) | (simp [*, errW_none, errW_some] <;> rfl), by repeat (first | (with_reducible first | exact HB.out | apply below_alloc | apply pw_below_drewN | apply below_drew1 | refine below_set ?_ GE101.out) | exact HB.out)⟩
end Go.Proofs.YteondnhokgmakaaGreatDoor.XM


namespace Go.Proofs.YteondnhokgmakaaGreatDoor.XM
open Go.Proofs.YteondnhokgmakaaGreatDoor.XC
open Go.RowKit Go.Proofs.YteondnhokgmakaaGreatDoorW.PrintWords Go.Proofs.YteondnhokgmakaaGreatDoorW.PrintLast Go.Proofs.YteondnhokgmakaaGreatDoorW.PrintMore
attribute [local go_sem] max2_int min2_int max_two min_two max_three min_three max_four min_four
set_option linter.unusedVariables false
set_option linter.unusedSimpArgs false
end Go.Proofs.YteondnhokgmakaaGreatDoor.XM


namespace Go.Proofs.YteondnhokgmakaaGreatDoor.E
open Go.RowKit Go.Proofs.YteondnhokgmakaaGreatDoorW.PrintWords Go.Proofs.YteondnhokgmakaaGreatDoorW.PrintLast Go.Proofs.YteondnhokgmakaaGreatDoor.XC Go.Proofs.YteondnhokgmakaaGreatDoor.XM
set_option linter.unusedVariables false
set_option linter.unusedSimpArgs false
def aexS : ByteArray := ⟨#[97, 46, 101, 120, 97, 109, 112, 108, 101, 46, 99, 111, 109]⟩
def exRules : List S37 := [⟨false, ⟨10, 0, 0, 0⟩, 8, ⟨#[]⟩, 1, 65535⟩, ⟨true, ⟨0, 0, 0, 0⟩, 0, exS, 443, 443⟩]
theorem may1 : policy_May.f exRules 0 0 0 0 aexS 443 = some true := by kernel_rfl
theorem may2 : policy_May.f exRules 0 0 0 0 exS 80 = some false := by kernel_rfl
theorem may3 : policy_May.f exRules 10 0 0 0 ⟨#[]⟩ 443 = some false := by kernel_rfl
def exCells : Array Value := #[.bool false, .int .u8 10, .int .u8 0, .int .u8 0, .int .u8 0, .int .i64 8, .string ⟨#[]⟩, .int .i64 1, .int .i64 65535, .bool true, .int .u8 0, .int .u8 0, .int .u8 0, .int .u8 0, .int .i64 0, .string exS, .int .i64 443, .int .i64 443]
theorem exRules_lie {w : World} {R : Nat} {T : TypeId} (h : Blk w R exCells T) : Kd.C k37 w (some ⟨R, 0, none⟩) exRules.length exRules := by
  refine ⟨rfl, by decide, fun _ => ⟨_, rfl, fun j p hj => ?_⟩⟩
  match j, hj with
  | 0, hj =>
    obtain rfl := Option.some.inj hj
    refine ⟨_, rfl, k37_mk w _, fun i u hu => ?_⟩
    match i, hu with
    | 0, hu => exact h.cell 0 _ hu
    | 1, hu => exact h.cell 1 _ hu
    | 2, hu => exact h.cell 2 _ hu
    | 3, hu => exact h.cell 3 _ hu
    | 4, hu => exact h.cell 4 _ hu
    | 5, hu => exact h.cell 5 _ hu
    | 6, hu => exact h.cell 6 _ hu
    | 7, hu => exact h.cell 7 _ hu
    | 8, hu => exact h.cell 8 _ hu
  | 1, hj =>
    obtain rfl := Option.some.inj hj
    refine ⟨_, rfl, k37_mk w _, fun i u hu => ?_⟩
    match i, hu with
    | 0, hu => exact h.cell 9 _ hu
    | 1, hu => exact h.cell 10 _ hu
    | 2, hu => exact h.cell 11 _ hu
    | 3, hu => exact h.cell 12 _ hu
    | 4, hu => exact h.cell 13 _ hu
    | 5, hu => exact h.cell 14 _ hu
    | 6, hu => exact h.cell 15 _ hu
    | 7, hu => exact h.cell 16 _ hu
    | 8, hu => exact h.cell 17 _ hu
theorem named_any (s : ByteArray) (po : Int) (w : World) : Calls Tryz.prog 41 #[.string s, .int .i64 po] w fun e w' => e = .returned (.agg #[.int .u8 0, .int .u8 0, .int .u8 0, .int .u8 0, .string s, .int .i64 po]) ∧ Below w.heap.size w w' := by
  go_enter Tryz.func41, Tryz.ntmps41
  go_wp2
  refine bodyPost_ret (v := .agg #[.int .u8 0, .int .u8 0, .int .u8 0, .int .u8 0, .string s, .int .i64 po]) (by simp [results, Tryz.results41, go_sem]) rfl ⟨rfl, ?_⟩
  trace_state
  exact below_alloc (Below.refl _ _) _
end Go.Proofs.YteondnhokgmakaaGreatDoor.E


namespace Go.Proofs.YteondnhokgmakaaGreatDoor.E
open Go.RowKit Go.Proofs.YteondnhokgmakaaGreatDoorW.PrintWords Go.Proofs.YteondnhokgmakaaGreatDoorW.PrintLast Go.Proofs.YteondnhokgmakaaGreatDoor.XC Go.Proofs.YteondnhokgmakaaGreatDoor.XM
set_option linter.unusedVariables false
set_option linter.unusedSimpArgs false
set_option maxRecDepth 100000 in
set_option maxHeartbeats 8000000 in
theorem works_any (w : World) (hS : StdW w) : Calls Tryz.prog 18 #[] w fun e w' => e = .returned (.bool true) ∧ Below w.heap.size w w' := by
  have HS := Lib.hid hS
  clear hS
  have X1 := Lib.hid parse1
  have X2 := Lib.hid parse2
  have X3 := Lib.hid parse3
  have M1 := Lib.hid (fun W A0 h hS => policy_May.calls A0 2 exRules 0 0 0 0 aexS 443 true W h (Nat.le_refl _) hS may1)
  have M2 := Lib.hid (fun W A0 h hS => policy_May.calls A0 2 exRules 0 0 0 0 exS 80 false W h (Nat.le_refl _) hS may2)
  have M3 := Lib.hid (fun W A0 h hS => policy_May.calls A0 2 exRules 10 0 0 0 ⟨#[]⟩ 443 false W h (Nat.le_refl _) hS may3)
  unfold ruleT1 rc at X1
  unfold ruleT2 rc exS at X2
  unfold ruleT3 zeroRule rc at X3
  unfold aexS at M1
  unfold exS at M2
  have HL : exRules.length = 2 := rfl
  go_enter Tryz.func18, Tryz.ntmps18
  go_wp2_with (first | (go_at_call_of 21 (Value.string ⟨#[100, 101, 110, 121, 32, 49, 48, 46, 48, 46, 48, 46, 48, 47, 56, 32, 49, 45, 54, 53, 53, 51, 53]⟩); refine (X1.out _ HS.out).mono ?_; rintro e x1 ⟨rfl, hb1⟩; have HB1 := Lib.hid hb1; clear hb1) | (go_at_call_of 21 (Value.string ⟨#[97, 108, 108, 111, 119, 32, 101, 120, 97, 109, 112, 108, 101, 46, 99, 111, 109, 32, 52, 52, 51]⟩); refine (X2.out _ (StdW.below HS.out (below_alloc HB1.out _))).mono ?_; rintro e x2 ⟨rfl, hb2⟩; have HB2 := Lib.hid (below_then (below_alloc HB1.out _) (below_alloc HB1.out _).size hb2); have HR1 := Lib.hid ((Blk.new x1 (rc false 10 0 0 0 8 ⟨#[]⟩ 1 65535) 37).below hb2); clear hb2) | (go_at_call_of 21 (Value.string ⟨#[97, 108, 108, 111, 119, 32, 49, 48, 46, 48, 46, 48, 46, 49, 47, 56, 32, 56, 48]⟩); refine (X3.out _ (StdW.below HS.out (below_alloc HB2.out _))).mono ?_; rintro e x3 ⟨rfl, hb3⟩; have HB3 := Lib.hid (below_then (below_alloc HB2.out _) (below_alloc HB2.out _).size hb3); have HR2 : Hid (Blk x3 x2.heap.size (rc true 0 0 0 0 0 exS 443 443) 37) := Lib.hid ((Blk.new x2 (rc true 0 0 0 0 0 exS 443 443) 37).below hb3); have HR3 := Lib.hid ((HR1.out.old _).below hb3); have l1 := HR3.out.lt; have l2 := HR2.out.lt; obtain ⟨c0, c1, c2, c3, c4, c5, c6, c7, c8⟩ := HR3.out.nine; obtain ⟨d0, d1, d2, d3, d4, d5, d6, d7, d8⟩ := HR2.out.nine; clear hb3) | (go_at_call_of 41 (Value.string ⟨#[97, 46, 101, 120, 97, 109, 112, 108, 101, 46, 99, 111, 109]⟩); refine (named_any _ _ _).mono ?_; rintro e x4 ⟨rfl, hb4⟩; have HB4 := Lib.hid (below_then (below_alloc (below_alloc HB3.out _) _) (below_alloc (below_alloc HB3.out _) _).size hb4); have HC4 : Hid (Blk x4 (x3.heap.size + 1) exCells 37) := Lib.hid (by have hh := ((Blk.new (x3.alloc (.cells #[Value.bool false, Value.int .u8 0, Value.int .u8 0, Value.int .u8 0, Value.int .u8 0, Value.int .i64 0, Value.string ⟨#[]⟩, Value.int .i64 0, Value.int .i64 0] 37)) exCells 37).below hb4); rw [World.size_alloc] at hh; exact hh); clear hb4) | (go_at_call_of 15 (Value.string ⟨#[97, 46, 101, 120, 97, 109, 112, 108, 101, 46, 99, 111, 109]⟩); refine (M1.out x4 (some ⟨x3.heap.size + 1, 0, none⟩) (exRules_lie HC4.out) (StdW.below HS.out HB4.out)).mono ?_; rintro e x5 ⟨rfl, hb5⟩; have HB5 := Lib.hid (below_then HB4.out HB4.out.size hb5); have HC5 : Hid (Blk x5 (x3.heap.size + 1) exCells 37) := Lib.hid (HC4.out.below hb5); clear hb5) | (go_at_call_of 41 (Value.int .i64 80); refine (named_any _ _ _).mono ?_; rintro e x6 ⟨rfl, hb6⟩; have HB6 := Lib.hid (below_then HB5.out HB5.out.size hb6); have HC6 : Hid (Blk x6 (x3.heap.size + 1) exCells 37) := Lib.hid (HC5.out.below hb6); clear hb6) | (go_at_call_of 15 (Value.int .i64 80); refine (M2.out x6 (some ⟨x3.heap.size + 1, 0, none⟩) (exRules_lie HC6.out) (StdW.below HS.out HB6.out)).mono ?_; rintro e x7 ⟨rfl, hb7⟩; have HB7 := Lib.hid (below_then HB6.out HB6.out.size hb7); have HC7 : Hid (Blk x7 (x3.heap.size + 1) exCells 37) := Lib.hid (HC6.out.below hb7); clear hb7) | (go_at_call_of 15 (Value.int .u8 10); refine (M3.out x7 (some ⟨x3.heap.size + 1, 0, none⟩) (exRules_lie HC7.out) (StdW.below HS.out HB7.out)).mono ?_; rintro e x8 ⟨rfl, hb8⟩; have HB8 := Lib.hid (below_then HB7.out HB7.out.size hb8); have HC8 : Hid (Blk x8 (x3.heap.size + 1) exCells 37) := Lib.hid (HC7.out.below hb8); clear hb8))
  go_ret
  exact ⟨rfl, HB8.out⟩
def works.f : Option Bool := some true
theorem works.calls (r : Bool) (w : World) (hS_ : StdW w) (h : works.f = some r) : Calls Tryz.prog 18 #[] w fun e w' => e = .returned (.bool r) ∧ Below w.heap.size w w' := by
  obtain rfl := Option.some.inj h
  exact works_any w hS_
end Go.Proofs.YteondnhokgmakaaGreatDoor.E


namespace Go.Proofs.YteondnhokgmakaaGreatDoor.E
open Go.RowKit Go.Proofs.YteondnhokgmakaaGreatDoorW.PrintWords Go.Proofs.YteondnhokgmakaaGreatDoorW.PrintLast
set_option linter.unusedVariables false
set_option linter.unusedSimpArgs false
def lowI (x : Int) : Int := if 65 ≤ x ∧ x ≤ 90 then x + 32 else x
def lowAt (s : ByteArray) (k j : Nat) : Int := if j < k then lowI (s.data.toList.getD j 0).toNat else (s.data.toList.getD j 0).toNat
theorem lowI_byte (b : UInt8) : lowI b.toNat = (Lib.lowerB b).toNat := by
  have h : ∀ n : Fin 256, lowI (UInt8.ofNat n.1).toNat = (Lib.lowerB (UInt8.ofNat n.1)).toNat := by decide +kernel
  have := h ⟨b.toNat, b.toNat_lt⟩
  simpa using this
def LowMem (s : ByteArray) (R k : Nat) (w : World) : Prop := ∀ j, j < s.size → w.cell? ⟨R, j, none⟩ = some (.int .u8 (lowAt s k j)) ∧ w.frozen? ⟨R, j, none⟩ = false
theorem LowMem.keep {s : ByteArray} {R k : Nat} {w : World} (h : LowMem s R k w) (hk : lowI (s.data.toList.getD k 0).toNat = (s.data.toList.getD k 0).toNat) : LowMem s R (k + 1) w := fun j hj => by
  have e : lowAt s (k + 1) j = lowAt s k j := by
    unfold lowAt
    by_cases h1 : j < k
    · rw [if_pos h1, if_pos (by omega)]
    · by_cases h2 : j = k
      · subst h2; rw [if_pos (by omega), if_neg h1, hk]
      · rw [if_neg (by omega), if_neg h1]
  rw [e]; exact h j hj
theorem LowMem.put {s : ByteArray} {R k : Nat} {w : World} (h : LowMem s R k w) (hk : k < s.size) : LowMem s R (k + 1) (w.setCell ⟨R, k, none⟩ (.int .u8 (lowI (s.data.toList.getD k 0).toNat))) := fun j hj => by
  obtain ⟨a, b⟩ := h j hj
  rw [World.frozen?_setCell]
  refine ⟨?_, b⟩
  by_cases e : j = k
  · subst e
    rw [World.cell?_setCell_same _ _ _ a]
    unfold lowAt
    rw [if_pos (by omega)]
  · rw [World.cell?_setCell_other _ _ _ _ (by intro e2; injection e2 with _ e2; omega), a]
    unfold lowAt
    by_cases h1 : j < k
    · rw [if_pos h1, if_pos (by omega)]
    · rw [if_neg h1, if_neg (by omega)]
set_option maxRecDepth 100000 in
set_option maxHeartbeats 4000000 in
theorem lower_any (s : ByteArray) (hs : s.size ≤ 281474976710656) (w : World) :
    Calls Tryz.prog 37 #[.string s] w fun e w' => e = .returned (.string ⟨(Lib.toLowerA s.data.toList).toArray⟩) ∧ Below w.heap.size w w' := by
  have hcv := Lib.run_convert_string_bytes (P := Tryz.prog) w 9 105 5 s Tryz.underlying9 Tryz.underlying105 Tryz.underlying5
  generalize hcap : grownCap w s.size 0 5 = cap at hcv
  generalize hW : Lib.bytesWorld w 5 s = W at hcv
  have HB0 : Hid (Below w.heap.size w W) := Lib.hid (hW ▸ Lib.bytesWorld_below _ _ _)
  have HM0 : Hid (LowMem s w.heap.size 0 W) := Lib.hid (fun j hj => by
    subst hW
    refine ⟨?_, ?_⟩
    · rw [Lib.bytesWorld_cell _ _ _ _ hj]
      unfold lowAt
      rw [if_neg (by omega)]
    · unfold World.frozen?
      rw [Lib.bytesWorld_at_new]
      have hc : s.size ≤ (Lib.bytesCells w 5 s).size := by
        unfold Lib.bytesCells
        rw [Array.size_append, Array.size_map]; exact Nat.le_add_right _ _
      simp
      omega)
  clear hW hcap
  have HS := Lib.hid hs
  clear hs
  go_enter Tryz.func37, Tryz.ntmps37
  go_wp2
  go_loopw [4] (fun i wr => ∃ k : Nat, k ≤ s.size ∧ i = .int .i64 k ∧ Hid (LowMem s w.heap.size k wr) ∧ Hid (Below w.heap.size w wr)) (fun i _ => s.size - (intOf i).toNat)
  case atStart => exact ⟨0, Nat.zero_le _, rfl, HM0, HB0⟩
  case round =>
    obtain ⟨k, hk, rfl, HM, HB⟩ := hrel
    clear HM0 HB0
    have hs1 : (s.size : Int) ≤ 281474976710656 := by have := HS.out; omega
    by_cases hlt : k < s.size
    · have hk0 : (0 : Int) ≤ (k : Int) := Int.natCast_nonneg _
      have hk1 : (k : Int) < (s.size : Int) := by omega
      obtain ⟨hc, hf⟩ := HM.out k hlt
      have hR := World.block_lt_of_cell? _ _ hc
      have hx : lowAt s k k = ((s.data.toList.getD k 0).toNat : Int) := by unfold lowAt; rw [if_neg (by omega)]
      rw [hx] at hc
      have HKP := Lib.hid (fun h => HM.out.keep (k := k) h)
      have HPT := Lib.hid (HM.out.put hlt)
      have hb := (s.data.toList.getD k 0).toNat_lt
      generalize (s.data.toList.getD k 0).toNat = x at hc HKP HPT hb
      have hb' : (x : Int) < 256 := by omega
      have hb0 : (0 : Int) ≤ (x : Int) := by omega
      by_cases h1 : (65 : Int) ≤ (x : Int)
      · by_cases h2 : (x : Int) ≤ 90
        · have he : lowI (x : Int) = (x : Int) + 32 := by unfold lowI; rw [if_pos ⟨h1, h2⟩]
          rw [he] at HPT
          go_wp2
          go_roundw
          case rel => exact ⟨k + 1, by omega, by go_num, HPT, Lib.hid (HB.out.setCell (Nat.le_refl _) _)⟩
          case measure => simp [intOf]; omega
        · have he : lowI (x : Int) = (x : Int) := by unfold lowI; rw [if_neg (fun h => h2 h.2)]
          have h2' : decide ((x : Int) ≤ 90) = false := decide_eq_false h2
          have hm := HKP.out he
          go_wp2
          go_roundw
          case rel => exact ⟨k + 1, by omega, by go_num, Lib.hid hm, HB⟩
          case measure => simp [intOf]; omega
      · have he : lowI (x : Int) = (x : Int) := by unfold lowI; rw [if_neg (fun h => h1 h.1)]
        have h1' : decide ((65 : Int) ≤ (x : Int)) = false := decide_eq_false h1
        have hm := HKP.out he
        go_wp2
        go_roundw
        case rel => exact ⟨k + 1, by omega, by go_num, Lib.hid hm, HB⟩
        case measure => simp [intOf]; omega
    · have hk1 : (k : Int) = (s.size : Int) := by omega
      have hkn : k = s.size := by omega
      subst hkn
      have hz : (⟨(Lib.toLowerA s.data.toList).toArray⟩ : ByteArray).size = s.size := by
        show (Lib.toLowerA s.data.toList).toArray.size = _
        rw [List.size_toArray, Lib.toLowerA, List.length_map, Array.length_toList]; rfl
      have hB : Lib.Bytes wr w.heap.size 0 ⟨(Lib.toLowerA s.data.toList).toArray⟩ := fun i hi => by
        have hi' : i < s.size := by rw [hz] at hi; exact hi
        rw [Nat.zero_add, (HM.out i hi').1]
        unfold lowAt
        rw [if_pos hi', lowI_byte]
        have hl : i < s.data.toList.length := by rw [Array.length_toList]; exact hi'
        have hg : s.data.toList.getD i 0 = s.data.toList[i] := by rw [List.getD_eq_getElem?_getD, List.getElem?_eq_getElem hl]; rfl
        have hm : (⟨(Lib.toLowerA s.data.toList).toArray⟩ : ByteArray)[i]'hi = Lib.lowerB s.data.toList[i] := by
          exact List.getElem_map (l := s.data.toList) Lib.lowerB (i := i) (h := by rw [List.length_map]; exact hl)
        rw [hm, hg]
      have hcv2 := Lib.run_convert_whole (P := Tryz.prog) wr 105 5 9 Tryz.underlying105 Tryz.underlying5 Tryz.underlying9 w.heap.size 0 _ hB cap
      rw [hz] at hcv2
      go_wp2
      go_ret
      exact ⟨rfl, HB.out⟩
def Lower.f (s : ByteArray) : Option ByteArray := if s.size ≤ 281474976710656 then some ⟨(Lib.toLowerA s.data.toList).toArray⟩ else none
theorem Lower.calls (s : ByteArray) (r : ByteArray) (w : World) (hS_ : StdW w) (h : Lower.f s = some r) :
    Calls Tryz.prog 37 #[.string s] w fun e w' => e = .returned (.string r) ∧ Below w.heap.size w w' := by
  unfold Lower.f at h
  split at h
  · rename_i hc
    obtain rfl := Option.some.inj h
    exact lower_any s hc w
  · cases h
end Go.Proofs.YteondnhokgmakaaGreatDoor.E


namespace Go.Proofs.YteondnhokgmakaaGreatDoor.E
open Go.RowKit Go.Proofs.YteondnhokgmakaaGreatDoorW.PrintWords Go.Proofs.YteondnhokgmakaaGreatDoorW.PrintLast
set_option linter.unusedVariables false
set_option linter.unusedSimpArgs false
set_option maxRecDepth 100000 in
set_option maxHeartbeats 4000000 in
theorem fail_any (s : ByteArray) (at_ co : Int) (w : World) :
    Calls Tryz.prog 59 #[.string s, .int .i64 at_, .int .i64 co] w fun e w' => e = .returned (.agg #[.int .i64 1, .string s, .string ⟨#[]⟩, .string ⟨#[]⟩, .string ⟨#[]⟩, .int .i64 at_, .int .i64 0, .int .i64 0, .int .i64 0, .int .i64 co]) ∧ Below w.heap.size w w' := by
  go_enter Tryz.func59, Tryz.ntmps59
  go_wp2
  refine bodyPost_ret (v := .agg #[.int .i64 1, .string s, .string ⟨#[]⟩, .string ⟨#[]⟩, .string ⟨#[]⟩, .int .i64 at_, .int .i64 0, .int .i64 0, .int .i64 0, .int .i64 co]) (by simp [results, Tryz.results59, go_sem]) rfl ⟨rfl, below_alloc (below_alloc (Below.refl _ _) _) _⟩
def Fail.f (s : ByteArray) (at_ co : Int) : Option (Int × ByteArray × ByteArray × ByteArray × ByteArray × Int × Int × Int × Int × Int) := some (1, s, ⟨#[]⟩, ⟨#[]⟩, ⟨#[]⟩, at_, 0, 0, 0, co)
theorem Fail.calls (s : ByteArray) (at_ co : Int) (r1 : Int) (r2 r3 r4 r5 : ByteArray) (r6 r7 r8 r9 r10 : Int) (w : World) (hS_ : StdW w) (h : Fail.f s at_ co = some (r1, r2, r3, r4, r5, r6, r7, r8, r9, r10)) :
    Calls Tryz.prog 59 #[.string s, .int .i64 at_, .int .i64 co] w fun e w' => e = .returned (.agg #[.int .i64 r1, .string r2, .string r3, .string r4, .string r5, .int .i64 r6, .int .i64 r7, .int .i64 r8, .int .i64 r9, .int .i64 r10]) ∧ Below w.heap.size w w' := by
  cases h
  exact fail_any s at_ co w
end Go.Proofs.YteondnhokgmakaaGreatDoor.E


namespace Go.Proofs.YteondnhokgmakaaGreatDoor.XR
open Go.Proofs.YteondnhokgmakaaGreatDoor.XC Go.Proofs.YteondnhokgmakaaGreatDoor.XM
open Go.RowKit Go.Proofs.YteondnhokgmakaaGreatDoorW.PrintWords Go.Proofs.YteondnhokgmakaaGreatDoorW.PrintLast Go.Proofs.YteondnhokgmakaaGreatDoorW.PrintMore
attribute [local go_sem] max2_int min2_int max_two min_two max_three min_three max_four min_four
set_option linter.unusedVariables false
set_option linter.unusedSimpArgs false
theorem info3 : (Tryz.prog.info? 3).map (fun i => (i.zero, i.size, i.bytes)) = some (some (.int .i64 0), 1, 8) := by kernel_rfl
theorem info9 : (Tryz.prog.info? 9).map (fun i => (i.zero, i.size, i.bytes)) = some (some (.string ⟨#[]⟩), 1, 16) := by kernel_rfl
structure S76 where
  f0 : ByteArray
  f1 : ByteArray
  f2 : ByteArray
  f3 : ByteArray
def z76 : S76 := ⟨(⟨#[]⟩ : ByteArray), (⟨#[]⟩ : ByteArray), (⟨#[]⟩ : ByteArray), (⟨#[]⟩ : ByteArray)⟩
end Go.Proofs.YteondnhokgmakaaGreatDoor.XR
