/- What the cards of this seat rest on: the walks and plain laws, part 3. -/
import Derived.Test.YteondnhokgmakaaDoorT2
import Derived.Deep.RegionWith
import Derived.Deep.LoopGhost
import Derived.WalkMore


namespace Go.Proofs.YteondnhokgmakaaDoor.XC
open Go.RowKit Go.Proofs.YteondnhokgmakaaDoorW.PrintWords Go.Proofs.YteondnhokgmakaaDoorW.PrintLast Go.Proofs.YteondnhokgmakaaDoorW.PrintMore
attribute [local go_sem] max2_int min2_int max_two min_two max_three min_three max_four min_four
set_option linter.unusedVariables false
set_option linter.unusedSimpArgs false
def policy_Check.l0 : Nat → List (S33) → Int → Int → Option (Int)
  | 0, _, _, _ => none
  | k + 1, x8, x9, x10 => if x10 < x9 then (if 0 ≤ x10 then (if x10 < (x8.length : Int) then ((policy_right.f k ((rd_T33 x8 x10).f0) ((rd_T33 x8 x10).f1.f0) ((rd_T33 x8 x10).f1.f1) ((rd_T33 x8 x10).f1.f2) ((rd_T33 x8 x10).f1.f3) ((rd_T33 x8 x10).f2) ((rd_T33 x8 x10).f3) ((rd_T33 x8 x10).f4) ((rd_T33 x8 x10).f5)).bind fun t107 => (if t107 = true then (policy_Check.l0 k x8 x9 (wrap64 (x10 + 1))) else (some 120))) else (none)) else (none)) else (some 0)
def policy_Check.f (k : Nat) (l0 : List (S33)) : Option (Int) := if (l0.length : Int) > 64 then (some 3) else (policy_Check.l0 k l0 (l0.length : Int) 0)
theorem policy_Check.mono_l : ∀ k, (∀ y0 y1 y2, LeO (policy_Check.l0 k y0 y1 y2) (policy_Check.l0 (k + 1) y0 y1 y2))
  | 0 => fun _ _ _ r h => by simp [policy_Check.l0] at h
  | k + 1 => by
    have ih0 := policy_Check.mono_l k
    · intro y0 y1 y2
      unfold policy_Check.l0
      repeat' first
      | (with_reducible exact ih0 _ _ _)
      | (with_reducible exact policy_right.mono _ _ _ _ _ _ _ _ _ _)
      | (with_reducible exact LeO.refl _)
      | (with_reducible exact LeO.none _)
      | (with_reducible refine LeO.ite ?_ ?_)
      | (with_reducible refine LeO.bind ?_ (fun _ => ?_))
      | exact ih0 _ _ _
      | exact policy_right.mono _ _ _ _ _ _ _ _ _ _
      | exact LeO.none _
      | refine LeO.ite ?_ ?_
      | refine LeO.bind ?_ (fun _ => ?_)
theorem policy_Check.mono : ∀ a0 k, LeO (policy_Check.f k a0) (policy_Check.f (k + 1) a0) := by
  intro a0 k
  have ih0 := policy_Check.mono_l k
  unfold policy_Check.f
  repeat' first
      | (with_reducible exact ih0 _ _ _)
      | (with_reducible exact policy_right.mono _ _ _ _ _ _ _ _ _ _)
      | (with_reducible exact LeO.refl _)
      | (with_reducible exact LeO.none _)
      | (with_reducible refine LeO.ite ?_ ?_)
      | (with_reducible refine LeO.bind ?_ (fun _ => ?_))
      | exact ih0 _ _ _
      | exact policy_right.mono _ _ _ _ _ _ _ _ _ _
      | exact LeO.none _
      | refine LeO.ite ?_ ?_
      | refine LeO.bind ?_ (fun _ => ?_)
set_option maxHeartbeats 8000000 in
set_option maxRecDepth 100000 in
theorem policy_Check.calls (k : Nat) (A0 : Option Addr) (c0 : Nat) (l0 : List (S33)) (r : Int) (w : World) (hr0 : Kd.C k33 w A0 l0.length l0) (hc0 : l0.length ≤ c0) (hS_ : StdW w) (h : policy_Check.f k l0 = some r) :
    Calls Tryd.prog 14 #[.slice A0 l0.length c0] w fun e w' => e = .returned (.int .i64 r) ∧ Below w.heap.size w w' := by
  have hu33 := Tryd.underlying33
  have HR0 := Aside0.mk hr0
  have HC0 := Aside0.mk hc0
  clear hr0 hc0
  have HS_ := Aside0.mk hS_
  clear hS_
  have HB := Aside0.mk (Below.refl w.heap.size w)
  have H : (if (l0.length : Int) > 64 then (some 3) else (policy_Check.l0 k l0 (l0.length : Int) 0)) = some r := h
  clear h
  by_cases c2 : (l0.length : Int) > 64
  · rw [if_pos c2] at H
    have c2b0 : decide (64 < (l0.length : Int)) = true := decide_eq_true c2
    have c2b1 : decide (64 < l0.length) = true := decide_eq_true (by omega)
    clear c2
    obtain rfl := Option.some.inj H
    go_enter Tryd.func14, Tryd.ntmps14
    go_wp2
    go_ret
    exact ⟨by first | rfl | (simp [errW_none, errW_some] <;> rfl) | (simp [*, errW_none, errW_some] <;> rfl), by repeat (first | (with_reducible first | exact HB.out | apply below_alloc | apply pw_below_drewN | apply below_drew1) | exact HB.out)⟩
  · rw [if_neg c2] at H
    have c2b0 : decide (64 < (l0.length : Int)) = false := decide_eq_false c2
    have c2b1 : decide (64 < l0.length) = false := decide_eq_false (by omega)
    clear c2
    have H' := Aside0.mk H
    clear H
    go_enter Tryd.func14, Tryd.ntmps14
    go_wp2
    go_loopg [10] k (fun kq v10 w' => ∃ (x10_1 : Int), v10 = .int .i64 x10_1 ∧ Aside0 (policy_Check.l0 kq l0 (l0.length : Int) x10_1 = some r) ∧ Aside0 (kq ≤ k) ∧ Aside0 (Below w.heap.size w w'))
    case atStart => exact ⟨(0), (by first | rfl | (simp; done) | (simp [*]; done)), H', ⟨Nat.le_refl _⟩, ⟨by repeat (first | (with_reducible first | exact HB.out | apply below_alloc | apply pw_below_drewN | apply below_drew1) | exact HB.out)⟩⟩
    case round =>
      clear H'
      try clear c1
      try clear c2
      try clear c2b0
      try clear c2b1
      try clear p2
      obtain ⟨x10_1, rfl, HA, HK1, HB⟩ := hrel
      cases gk with
      | zero => exact absurd HA.out (by simp [policy_Check.l0])
      | succ k1 =>
        have H := HA.out
        clear HA
        simp only [policy_Check.l0] at H
        by_cases c3 : x10_1 < (l0.length : Int)
        · rw [if_pos c3] at H
          have c3b0 : decide (x10_1 < (l0.length : Int)) = true := decide_eq_true c3
          clear c3
          by_cases c4 : 0 ≤ x10_1
          · rw [if_pos c4] at H
            have c4b0 : decide (0 ≤ x10_1) = true := decide_eq_true c4
            clear c4
            by_cases c5 : x10_1 < (l0.length : Int)
            · rw [if_pos c5] at H
              have c5b0 : decide (x10_1 < (l0.length : Int)) = true := decide_eq_true c5
              clear c5
              replace H := Option.bind_eq_some_iff.mp H
              obtain ⟨t107, A60, H⟩ := H
              replace H : (if t107 = true then (policy_Check.l0 k1 l0 (l0.length : Int) (wrap64 (x10_1 + 1))) else (some 120)) = some r := H
              have A6 := Aside0.mk A60
              clear A60
              by_cases c7 : t107 = true
              · subst c7
                have H1 : (policy_Check.l0 k1 l0 (l0.length : Int) (wrap64 (x10_1 + 1))) = some r := by rw [if_pos rfl] at H; exact H
                clear H
                have H := H1
                clear H1
                have H' := Aside0.mk H
                clear H
                have p105 : 0 ≤ (x10_1 : Int) := of_decide_eq_true (by first | (with_reducible assumption) | assumption)
                have q105 : x10_1 < (l0.length : Int) := of_decide_eq_true (by first | (with_reducible assumption) | assumption)
                obtain ⟨ad105, e105, hx105_0, hx105_1, hx105_2, hx105_3, hx105_4, hx105_5, hx105_6, hx105_7, hx105_8⟩ := at_T33 HR0.out x10_1 p105 q105
                cases e105
                replace hx105_0 := (HB.out.cell (World.block_lt_of_cell? w _ hx105_0)).trans hx105_0
                replace hx105_1 := (HB.out.cell (World.block_lt_of_cell? w _ hx105_1)).trans hx105_1
                replace hx105_2 := (HB.out.cell (World.block_lt_of_cell? w _ hx105_2)).trans hx105_2
                replace hx105_3 := (HB.out.cell (World.block_lt_of_cell? w _ hx105_3)).trans hx105_3
                replace hx105_4 := (HB.out.cell (World.block_lt_of_cell? w _ hx105_4)).trans hx105_4
                replace hx105_5 := (HB.out.cell (World.block_lt_of_cell? w _ hx105_5)).trans hx105_5
                replace hx105_6 := (HB.out.cell (World.block_lt_of_cell? w _ hx105_6)).trans hx105_6
                replace hx105_7 := (HB.out.cell (World.block_lt_of_cell? w _ hx105_7)).trans hx105_7
                replace hx105_8 := (HB.out.cell (World.block_lt_of_cell? w _ hx105_8)).trans hx105_8
                replace p105 := eq_true p105
                replace q105 := eq_true q105
                go_wp2_with (first | ((with_reducible refine gate_dst (N := 4) rfl ?_); refine box_event ?hg (N := 4) ?hd (cs := #[.bool false, .int .u8 0, .int .u8 0, .int .u8 0, .int .u8 0, .int .i64 0, .string (⟨#[]⟩ : ByteArray), .int .i64 0, .int .i64 0]) (t := 33) ?hr ?_; (case hd => rfl); (case hg => rfl); (case hr => first | (go_simp; done) | (go_simp; rfl)); intro gb106 hg w8 hbox hb; have n0_ := Aside0.mk (below_step (by repeat (first | (with_reducible first | exact HB.out | apply below_alloc | apply pw_below_drewN | apply below_drew1) | exact HB.out)) hb); have n1_ := Aside0.mk (hbox); have n2_ := Aside0.mk ((by rw [hg]; exact (below_size (by repeat (first | (with_reducible first | exact HB.out | apply below_alloc | apply pw_below_drewN | apply below_drew1) | exact HB.out))) : w.heap.size ≤ gb106)); have n3_ := Aside0.mk ((by rw [hg]; exact (below_size (by repeat (first | (with_reducible first | exact HB.out | apply below_alloc | apply pw_below_drewN | apply below_drew1) | exact HB.out))) : w.heap.size ≤ gb106)); clear HB; have HB := n0_; have BK106 := n1_; have GW106 := n2_; have GE106 := n3_; clear n0_ n1_ n2_ n3_; clear hb hbox hg; have hcz9_0 : w8.cell? ⟨gb106, 0, none⟩ = some (.bool false) := (blk_cell BK106.out 0).trans rfl; have hcz9_1 : w8.cell? ⟨gb106, 1, none⟩ = some (.int .u8 0) := (blk_cell BK106.out 1).trans rfl; have hcz9_2 : w8.cell? ⟨gb106, 2, none⟩ = some (.int .u8 0) := (blk_cell BK106.out 2).trans rfl; have hcz9_3 : w8.cell? ⟨gb106, 3, none⟩ = some (.int .u8 0) := (blk_cell BK106.out 3).trans rfl; have hcz9_4 : w8.cell? ⟨gb106, 4, none⟩ = some (.int .u8 0) := (blk_cell BK106.out 4).trans rfl; have hcz9_5 : w8.cell? ⟨gb106, 5, none⟩ = some (.int .i64 0) := (blk_cell BK106.out 5).trans rfl; have hcz9_6 : w8.cell? ⟨gb106, 6, none⟩ = some (.string (⟨#[]⟩ : ByteArray)) := (blk_cell BK106.out 6).trans rfl; have hcz9_7 : w8.cell? ⟨gb106, 7, none⟩ = some (.int .i64 0) := (blk_cell BK106.out 7).trans rfl; have hcz9_8 : w8.cell? ⟨gb106, 8, none⟩ = some (.int .i64 0) := (blk_cell BK106.out 8).trans rfl; have hfz9_0 := blk_frozen BK106.out 0; have hfz9_1 := blk_frozen BK106.out 1; have hfz9_2 := blk_frozen BK106.out 2; have hfz9_3 := blk_frozen BK106.out 3; have hfz9_4 := blk_frozen BK106.out 4; have hfz9_5 := blk_frozen BK106.out 5; have hfz9_6 := blk_frozen BK106.out 6; have hfz9_7 := blk_frozen BK106.out 7; have hfz9_8 := blk_frozen BK106.out 8) | ((with_reducible refine gate_callee (f := 18) rfl ?_); refine goesL_ (some 15) rfl rfl Tryd.func18 (by kernel_rfl) rfl #[.agg #[.bool ((rd_T33 l0 x10_1).f0), .int .u8 ((rd_T33 l0 x10_1).f1.f0), .int .u8 ((rd_T33 l0 x10_1).f1.f1), .int .u8 ((rd_T33 l0 x10_1).f1.f2), .int .u8 ((rd_T33 l0 x10_1).f1.f3), .int .i64 ((rd_T33 l0 x10_1).f2), .string ((rd_T33 l0 x10_1).f3), .int .i64 ((rd_T33 l0 x10_1).f4), .int .i64 ((rd_T33 l0 x10_1).f5)]] rfl (by (try simp only [List.map_toArray, List.map_cons, List.map_nil]); first | done | rfl | (simp only [List.length_drop, List.length_take]; rfl)) ?_; (with_reducible refine (policy_right.calls k1 ((rd_T33 l0 x10_1).f0) ((rd_T33 l0 x10_1).f1.f0) ((rd_T33 l0 x10_1).f1.f1) ((rd_T33 l0 x10_1).f1.f2) ((rd_T33 l0 x10_1).f1.f3) ((rd_T33 l0 x10_1).f2) ((rd_T33 l0 x10_1).f3) ((rd_T33 l0 x10_1).f4) ((rd_T33 l0 x10_1).f5) true _ ?side1 A6.out).mono ?_); (case side1 => exact StdW.below HS_.out (by repeat (first | (with_reducible first | exact HB.out | apply below_alloc | apply pw_below_drewN | apply below_drew1 | refine below_set ?_ GE106.out) | exact HB.out))); rintro e w10 ⟨rfl, hb⟩; refine ⟨_, rfl, ?_⟩; have n0_ := Aside0.mk (blk_below (g := gb106) (o := .cells #[.bool ((rd_T33 l0 x10_1).f0), .int .u8 ((rd_T33 l0 x10_1).f1.f0), .int .u8 ((rd_T33 l0 x10_1).f1.f1), .int .u8 ((rd_T33 l0 x10_1).f1.f2), .int .u8 ((rd_T33 l0 x10_1).f1.f3), .int .i64 ((rd_T33 l0 x10_1).f2), .string ((rd_T33 l0 x10_1).f3), .int .i64 ((rd_T33 l0 x10_1).f4), .int .i64 ((rd_T33 l0 x10_1).f5)] 33 (0, 0)) (by (with_reducible repeat (first | refine blk_drewN ?_ _ | refine blk_drew ?_ | refine blk_alloc ?_ _)); refine blk_put (cs := #[.bool ((rd_T33 l0 x10_1).f0), .int .u8 ((rd_T33 l0 x10_1).f1.f0), .int .u8 ((rd_T33 l0 x10_1).f1.f1), .int .u8 ((rd_T33 l0 x10_1).f1.f2), .int .u8 ((rd_T33 l0 x10_1).f1.f3), .int .i64 ((rd_T33 l0 x10_1).f2), .string ((rd_T33 l0 x10_1).f3), .int .i64 ((rd_T33 l0 x10_1).f4), .int .i64 0]) ?_ 8 _ rfl; (with_reducible repeat (first | refine blk_drewN ?_ _ | refine blk_drew ?_ | refine blk_alloc ?_ _)); refine blk_put (cs := #[.bool ((rd_T33 l0 x10_1).f0), .int .u8 ((rd_T33 l0 x10_1).f1.f0), .int .u8 ((rd_T33 l0 x10_1).f1.f1), .int .u8 ((rd_T33 l0 x10_1).f1.f2), .int .u8 ((rd_T33 l0 x10_1).f1.f3), .int .i64 ((rd_T33 l0 x10_1).f2), .string ((rd_T33 l0 x10_1).f3), .int .i64 0, .int .i64 0]) ?_ 7 _ rfl; (with_reducible repeat (first | refine blk_drewN ?_ _ | refine blk_drew ?_ | refine blk_alloc ?_ _)); refine blk_put (cs := #[.bool ((rd_T33 l0 x10_1).f0), .int .u8 ((rd_T33 l0 x10_1).f1.f0), .int .u8 ((rd_T33 l0 x10_1).f1.f1), .int .u8 ((rd_T33 l0 x10_1).f1.f2), .int .u8 ((rd_T33 l0 x10_1).f1.f3), .int .i64 ((rd_T33 l0 x10_1).f2), .string (⟨#[]⟩ : ByteArray), .int .i64 0, .int .i64 0]) ?_ 6 _ rfl; (with_reducible repeat (first | refine blk_drewN ?_ _ | refine blk_drew ?_ | refine blk_alloc ?_ _)); refine blk_put (cs := #[.bool ((rd_T33 l0 x10_1).f0), .int .u8 ((rd_T33 l0 x10_1).f1.f0), .int .u8 ((rd_T33 l0 x10_1).f1.f1), .int .u8 ((rd_T33 l0 x10_1).f1.f2), .int .u8 ((rd_T33 l0 x10_1).f1.f3), .int .i64 0, .string (⟨#[]⟩ : ByteArray), .int .i64 0, .int .i64 0]) ?_ 5 _ rfl; (with_reducible repeat (first | refine blk_drewN ?_ _ | refine blk_drew ?_ | refine blk_alloc ?_ _)); refine blk_put (cs := #[.bool ((rd_T33 l0 x10_1).f0), .int .u8 ((rd_T33 l0 x10_1).f1.f0), .int .u8 ((rd_T33 l0 x10_1).f1.f1), .int .u8 ((rd_T33 l0 x10_1).f1.f2), .int .u8 0, .int .i64 0, .string (⟨#[]⟩ : ByteArray), .int .i64 0, .int .i64 0]) ?_ 4 _ rfl; (with_reducible repeat (first | refine blk_drewN ?_ _ | refine blk_drew ?_ | refine blk_alloc ?_ _)); refine blk_put (cs := #[.bool ((rd_T33 l0 x10_1).f0), .int .u8 ((rd_T33 l0 x10_1).f1.f0), .int .u8 ((rd_T33 l0 x10_1).f1.f1), .int .u8 0, .int .u8 0, .int .i64 0, .string (⟨#[]⟩ : ByteArray), .int .i64 0, .int .i64 0]) ?_ 3 _ rfl; (with_reducible repeat (first | refine blk_drewN ?_ _ | refine blk_drew ?_ | refine blk_alloc ?_ _)); refine blk_put (cs := #[.bool ((rd_T33 l0 x10_1).f0), .int .u8 ((rd_T33 l0 x10_1).f1.f0), .int .u8 0, .int .u8 0, .int .u8 0, .int .i64 0, .string (⟨#[]⟩ : ByteArray), .int .i64 0, .int .i64 0]) ?_ 2 _ rfl; (with_reducible repeat (first | refine blk_drewN ?_ _ | refine blk_drew ?_ | refine blk_alloc ?_ _)); refine blk_put (cs := #[.bool ((rd_T33 l0 x10_1).f0), .int .u8 0, .int .u8 0, .int .u8 0, .int .u8 0, .int .i64 0, .string (⟨#[]⟩ : ByteArray), .int .i64 0, .int .i64 0]) ?_ 1 _ rfl; (with_reducible repeat (first | refine blk_drewN ?_ _ | refine blk_drew ?_ | refine blk_alloc ?_ _)); refine blk_put (cs := #[.bool false, .int .u8 0, .int .u8 0, .int .u8 0, .int .u8 0, .int .i64 0, .string (⟨#[]⟩ : ByteArray), .int .i64 0, .int .i64 0]) ?_ 0 _ rfl; (with_reducible repeat (first | refine blk_drewN ?_ _ | refine blk_drew ?_ | refine blk_alloc ?_ _)); exact BK106.out) hb); have n1_ := Aside0.mk (below_step (by repeat (first | (with_reducible first | exact HB.out | apply below_alloc | apply pw_below_drewN | apply below_drew1 | refine below_set ?_ GE106.out) | exact HB.out)) hb); clear BK106; clear HB; have BK106 := n0_; have HB := n1_; clear n0_ n1_; (try clear hb); (try clear hb2); (try clear hk); (try clear hi)))
                go_roundg k1
                case measure => have := HK1.out; omega
                case rel => exact ⟨(wrap64 (x10_1 + 1)), (by first | rfl | (simp; done) | (simp [*]; done)), H', ⟨by have := HK1.out; omega⟩, ⟨by repeat (first | (with_reducible first | exact HB.out | apply below_alloc | apply pw_below_drewN | apply below_drew1 | refine below_set ?_ GE106.out) | exact HB.out)⟩⟩
              · replace c7 := Bool.eq_false_iff.mpr c7
                subst c7
                have H1 : (some 120) = some r := by rw [if_neg (show ¬ (false = true) by decide)] at H; exact H
                clear H
                have H := H1
                clear H1
                obtain rfl := Option.some.inj H
                have p105 : 0 ≤ (x10_1 : Int) := of_decide_eq_true (by first | (with_reducible assumption) | assumption)
                have q105 : x10_1 < (l0.length : Int) := of_decide_eq_true (by first | (with_reducible assumption) | assumption)
                obtain ⟨ad105, e105, hx105_0, hx105_1, hx105_2, hx105_3, hx105_4, hx105_5, hx105_6, hx105_7, hx105_8⟩ := at_T33 HR0.out x10_1 p105 q105
                cases e105
                replace hx105_0 := (HB.out.cell (World.block_lt_of_cell? w _ hx105_0)).trans hx105_0
                replace hx105_1 := (HB.out.cell (World.block_lt_of_cell? w _ hx105_1)).trans hx105_1
                replace hx105_2 := (HB.out.cell (World.block_lt_of_cell? w _ hx105_2)).trans hx105_2
                replace hx105_3 := (HB.out.cell (World.block_lt_of_cell? w _ hx105_3)).trans hx105_3
                replace hx105_4 := (HB.out.cell (World.block_lt_of_cell? w _ hx105_4)).trans hx105_4
                replace hx105_5 := (HB.out.cell (World.block_lt_of_cell? w _ hx105_5)).trans hx105_5
                replace hx105_6 := (HB.out.cell (World.block_lt_of_cell? w _ hx105_6)).trans hx105_6
                replace hx105_7 := (HB.out.cell (World.block_lt_of_cell? w _ hx105_7)).trans hx105_7
                replace hx105_8 := (HB.out.cell (World.block_lt_of_cell? w _ hx105_8)).trans hx105_8
                replace p105 := eq_true p105
                replace q105 := eq_true q105
                go_wp2_with (first | ((with_reducible refine gate_dst (N := 4) rfl ?_); refine box_event ?hg (N := 4) ?hd (cs := #[.bool false, .int .u8 0, .int .u8 0, .int .u8 0, .int .u8 0, .int .i64 0, .string (⟨#[]⟩ : ByteArray), .int .i64 0, .int .i64 0]) (t := 33) ?hr ?_; (case hd => rfl); (case hg => rfl); (case hr => first | (go_simp; done) | (go_simp; rfl)); intro gb106 hg w11 hbox hb; have n0_ := Aside0.mk (below_step (by repeat (first | (with_reducible first | exact HB.out | apply below_alloc | apply pw_below_drewN | apply below_drew1) | exact HB.out)) hb); have n1_ := Aside0.mk (hbox); have n2_ := Aside0.mk ((by rw [hg]; exact (below_size (by repeat (first | (with_reducible first | exact HB.out | apply below_alloc | apply pw_below_drewN | apply below_drew1) | exact HB.out))) : w.heap.size ≤ gb106)); have n3_ := Aside0.mk ((by rw [hg]; exact (below_size (by repeat (first | (with_reducible first | exact HB.out | apply below_alloc | apply pw_below_drewN | apply below_drew1) | exact HB.out))) : w.heap.size ≤ gb106)); clear HB; have HB := n0_; have BK106 := n1_; have GW106 := n2_; have GE106 := n3_; clear n0_ n1_ n2_ n3_; clear hb hbox hg; have hcz12_0 : w11.cell? ⟨gb106, 0, none⟩ = some (.bool false) := (blk_cell BK106.out 0).trans rfl; have hcz12_1 : w11.cell? ⟨gb106, 1, none⟩ = some (.int .u8 0) := (blk_cell BK106.out 1).trans rfl; have hcz12_2 : w11.cell? ⟨gb106, 2, none⟩ = some (.int .u8 0) := (blk_cell BK106.out 2).trans rfl; have hcz12_3 : w11.cell? ⟨gb106, 3, none⟩ = some (.int .u8 0) := (blk_cell BK106.out 3).trans rfl; have hcz12_4 : w11.cell? ⟨gb106, 4, none⟩ = some (.int .u8 0) := (blk_cell BK106.out 4).trans rfl; have hcz12_5 : w11.cell? ⟨gb106, 5, none⟩ = some (.int .i64 0) := (blk_cell BK106.out 5).trans rfl; have hcz12_6 : w11.cell? ⟨gb106, 6, none⟩ = some (.string (⟨#[]⟩ : ByteArray)) := (blk_cell BK106.out 6).trans rfl; have hcz12_7 : w11.cell? ⟨gb106, 7, none⟩ = some (.int .i64 0) := (blk_cell BK106.out 7).trans rfl; have hcz12_8 : w11.cell? ⟨gb106, 8, none⟩ = some (.int .i64 0) := (blk_cell BK106.out 8).trans rfl; have hfz12_0 := blk_frozen BK106.out 0; have hfz12_1 := blk_frozen BK106.out 1; have hfz12_2 := blk_frozen BK106.out 2; have hfz12_3 := blk_frozen BK106.out 3; have hfz12_4 := blk_frozen BK106.out 4; have hfz12_5 := blk_frozen BK106.out 5; have hfz12_6 := blk_frozen BK106.out 6; have hfz12_7 := blk_frozen BK106.out 7; have hfz12_8 := blk_frozen BK106.out 8) | ((with_reducible refine gate_callee (f := 18) rfl ?_); refine goesL_ (some 15) rfl rfl Tryd.func18 (by kernel_rfl) rfl #[.agg #[.bool ((rd_T33 l0 x10_1).f0), .int .u8 ((rd_T33 l0 x10_1).f1.f0), .int .u8 ((rd_T33 l0 x10_1).f1.f1), .int .u8 ((rd_T33 l0 x10_1).f1.f2), .int .u8 ((rd_T33 l0 x10_1).f1.f3), .int .i64 ((rd_T33 l0 x10_1).f2), .string ((rd_T33 l0 x10_1).f3), .int .i64 ((rd_T33 l0 x10_1).f4), .int .i64 ((rd_T33 l0 x10_1).f5)]] rfl (by (try simp only [List.map_toArray, List.map_cons, List.map_nil]); first | done | rfl | (simp only [List.length_drop, List.length_take]; rfl)) ?_; (with_reducible refine (policy_right.calls k1 ((rd_T33 l0 x10_1).f0) ((rd_T33 l0 x10_1).f1.f0) ((rd_T33 l0 x10_1).f1.f1) ((rd_T33 l0 x10_1).f1.f2) ((rd_T33 l0 x10_1).f1.f3) ((rd_T33 l0 x10_1).f2) ((rd_T33 l0 x10_1).f3) ((rd_T33 l0 x10_1).f4) ((rd_T33 l0 x10_1).f5) false _ ?side1 A6.out).mono ?_); (case side1 => exact StdW.below HS_.out (by repeat (first | (with_reducible first | exact HB.out | apply below_alloc | apply pw_below_drewN | apply below_drew1 | refine below_set ?_ GE106.out) | exact HB.out))); rintro e w13 ⟨rfl, hb⟩; refine ⟨_, rfl, ?_⟩; have n0_ := Aside0.mk (blk_below (g := gb106) (o := .cells #[.bool ((rd_T33 l0 x10_1).f0), .int .u8 ((rd_T33 l0 x10_1).f1.f0), .int .u8 ((rd_T33 l0 x10_1).f1.f1), .int .u8 ((rd_T33 l0 x10_1).f1.f2), .int .u8 ((rd_T33 l0 x10_1).f1.f3), .int .i64 ((rd_T33 l0 x10_1).f2), .string ((rd_T33 l0 x10_1).f3), .int .i64 ((rd_T33 l0 x10_1).f4), .int .i64 ((rd_T33 l0 x10_1).f5)] 33 (0, 0)) (by (with_reducible repeat (first | refine blk_drewN ?_ _ | refine blk_drew ?_ | refine blk_alloc ?_ _)); refine blk_put (cs := #[.bool ((rd_T33 l0 x10_1).f0), .int .u8 ((rd_T33 l0 x10_1).f1.f0), .int .u8 ((rd_T33 l0 x10_1).f1.f1), .int .u8 ((rd_T33 l0 x10_1).f1.f2), .int .u8 ((rd_T33 l0 x10_1).f1.f3), .int .i64 ((rd_T33 l0 x10_1).f2), .string ((rd_T33 l0 x10_1).f3), .int .i64 ((rd_T33 l0 x10_1).f4), .int .i64 0]) ?_ 8 _ rfl; (with_reducible repeat (first | refine blk_drewN ?_ _ | refine blk_drew ?_ | refine blk_alloc ?_ _)); refine blk_put (cs := #[.bool ((rd_T33 l0 x10_1).f0), .int .u8 ((rd_T33 l0 x10_1).f1.f0), .int .u8 ((rd_T33 l0 x10_1).f1.f1), .int .u8 ((rd_T33 l0 x10_1).f1.f2), .int .u8 ((rd_T33 l0 x10_1).f1.f3), .int .i64 ((rd_T33 l0 x10_1).f2), .string ((rd_T33 l0 x10_1).f3), .int .i64 0, .int .i64 0]) ?_ 7 _ rfl; (with_reducible repeat (first | refine blk_drewN ?_ _ | refine blk_drew ?_ | refine blk_alloc ?_ _)); refine blk_put (cs := #[.bool ((rd_T33 l0 x10_1).f0), .int .u8 ((rd_T33 l0 x10_1).f1.f0), .int .u8 ((rd_T33 l0 x10_1).f1.f1), .int .u8 ((rd_T33 l0 x10_1).f1.f2), .int .u8 ((rd_T33 l0 x10_1).f1.f3), .int .i64 ((rd_T33 l0 x10_1).f2), .string (⟨#[]⟩ : ByteArray), .int .i64 0, .int .i64 0]) ?_ 6 _ rfl; (with_reducible repeat (first | refine blk_drewN ?_ _ | refine blk_drew ?_ | refine blk_alloc ?_ _)); refine blk_put (cs := #[.bool ((rd_T33 l0 x10_1).f0), .int .u8 ((rd_T33 l0 x10_1).f1.f0), .int .u8 ((rd_T33 l0 x10_1).f1.f1), .int .u8 ((rd_T33 l0 x10_1).f1.f2), .int .u8 ((rd_T33 l0 x10_1).f1.f3), .int .i64 0, .string (⟨#[]⟩ : ByteArray), .int .i64 0, .int .i64 0]) ?_ 5 _ rfl; (with_reducible repeat (first | refine blk_drewN ?_ _ | refine blk_drew ?_ | refine blk_alloc ?_ _)); refine blk_put (cs := #[.bool ((rd_T33 l0 x10_1).f0), .int .u8 ((rd_T33 l0 x10_1).f1.f0), .int .u8 ((rd_T33 l0 x10_1).f1.f1), .int .u8 ((rd_T33 l0 x10_1).f1.f2), .int .u8 0, .int .i64 0, .string (⟨#[]⟩ : ByteArray), .int .i64 0, .int .i64 0]) ?_ 4 _ rfl; (with_reducible repeat (first | refine blk_drewN ?_ _ | refine blk_drew ?_ | refine blk_alloc ?_ _)); refine blk_put (cs := #[.bool ((rd_T33 l0 x10_1).f0), .int .u8 ((rd_T33 l0 x10_1).f1.f0), .int .u8 ((rd_T33 l0 x10_1).f1.f1), .int .u8 0, .int .u8 0, .int .i64 0, .string (⟨#[]⟩ : ByteArray), .int .i64 0, .int .i64 0]) ?_ 3 _ rfl; (with_reducible repeat (first | refine blk_drewN ?_ _ | refine blk_drew ?_ | refine blk_alloc ?_ _)); refine blk_put (cs := #[.bool ((rd_T33 l0 x10_1).f0), .int .u8 ((rd_T33 l0 x10_1).f1.f0), .int .u8 0, .int .u8 0, .int .u8 0, .int .i64 0, .string (⟨#[]⟩ : ByteArray), .int .i64 0, .int .i64 0]) ?_ 2 _ rfl; (with_reducible repeat (first | refine blk_drewN ?_ _ | refine blk_drew ?_ | refine blk_alloc ?_ _)); refine blk_put (cs := #[.bool ((rd_T33 l0 x10_1).f0), .int .u8 0, .int .u8 0, .int .u8 0, .int .u8 0, .int .i64 0, .string (⟨#[]⟩ : ByteArray), .int .i64 0, .int .i64 0]) ?_ 1 _ rfl; (with_reducible repeat (first | refine blk_drewN ?_ _ | refine blk_drew ?_ | refine blk_alloc ?_ _)); refine blk_put (cs := #[.bool false, .int .u8 0, .int .u8 0, .int .u8 0, .int .u8 0, .int .i64 0, .string (⟨#[]⟩ : ByteArray), .int .i64 0, .int .i64 0]) ?_ 0 _ rfl; (with_reducible repeat (first | refine blk_drewN ?_ _ | refine blk_drew ?_ | refine blk_alloc ?_ _)); exact BK106.out) hb); have n1_ := Aside0.mk (below_step (by repeat (first | (with_reducible first | exact HB.out | apply below_alloc | apply pw_below_drewN | apply below_drew1 | refine below_set ?_ GE106.out) | exact HB.out)) hb); clear BK106; clear HB; have BK106 := n0_; have HB := n1_; clear n0_ n1_; (try clear hb); (try clear hb2); (try clear hk); (try clear hi)))
                go_ret
                exact ⟨by first | rfl | (simp [errW_none, errW_some] <;> rfl) | (simp [*, errW_none, errW_some] <;> rfl), by repeat (first | (with_reducible first | exact HB.out | apply below_alloc | apply pw_below_drewN | apply below_drew1 | refine below_set ?_ GE106.out) | exact HB.out)⟩
            · rw [if_neg c5] at H
              exact absurd H (by simp)
          · rw [if_neg c4] at H
            exact absurd H (by simp)
        · rw [if_neg c3] at H
          have c3b0 : decide (x10_1 < (l0.length : Int)) = false := decide_eq_false c3
          clear c3
          obtain rfl := Option.some.inj H
          go_wp2
          go_ret
          exact ⟨by first | rfl | (simp [errW_none, errW_some] <;> rfl) | (simp [*, errW_none, errW_some] <;> rfl), by repeat (first | (with_reducible first | exact HB.out | apply below_alloc | apply pw_below_drewN | apply below_drew1) | exact HB.out)⟩
def host_word.f (a0_0 : Int) (a0_1 : Int) (a0_2 : Int) (a0_3 : Int) : Option (Int) := some (Go.bits .or .u32 (Go.bits .or .u32 (Go.bits .or .u32 ((((a0_0) % 4294967296) * 16777216) % 4294967296) ((((a0_1) % 4294967296) * 65536) % 4294967296)) ((((a0_2) % 4294967296) * 256) % 4294967296)) ((a0_3) % 4294967296))
set_option maxHeartbeats 8000000 in
set_option maxRecDepth 100000 in
theorem host_word.calls (a0_0 : Int) (a0_1 : Int) (a0_2 : Int) (a0_3 : Int) (r : Int) (w : World) (h : host_word.f a0_0 a0_1 a0_2 a0_3 = some r) :
    Calls Tryd.prog 28 #[.agg #[.int .u8 a0_0, .int .u8 a0_1, .int .u8 a0_2, .int .u8 a0_3]] w fun e w' => e = .returned (.int .u32 r) ∧ Below w.heap.size w w' := by
  have hu24 := Tryd.underlying24
  have HB := Aside0.mk (Below.refl w.heap.size w)
  have H : (some (Go.bits .or .u32 (Go.bits .or .u32 (Go.bits .or .u32 ((((a0_0) % 4294967296) * 16777216) % 4294967296) ((((a0_1) % 4294967296) * 65536) % 4294967296)) ((((a0_2) % 4294967296) * 256) % 4294967296)) ((a0_3) % 4294967296))) = some r := h
  clear h
  obtain rfl := Option.some.inj H
  go_enter Tryd.func28, Tryd.ntmps28
  go_wp2_with (first | ((with_reducible refine gate_dst (N := 1) rfl ?_); refine box_event ?hg (N := 1) ?hd (cs := #[.int .u8 a0_0, .int .u8 a0_1, .int .u8 a0_2, .int .u8 a0_3]) (t := 24) ?hr ?_; (case hd => rfl); (case hg => rfl); (case hr => first | (go_simp; done) | (go_simp; rfl)); intro gb108 hg w2 hbox hb; have n0_ := Aside0.mk (below_step (by repeat (first | (with_reducible first | exact HB.out | apply below_alloc | apply pw_below_drewN | apply below_drew1) | exact HB.out)) hb); have n1_ := Aside0.mk (hbox); have n2_ := Aside0.mk ((by rw [hg]; exact (below_size (by repeat (first | (with_reducible first | exact HB.out | apply below_alloc | apply pw_below_drewN | apply below_drew1) | exact HB.out))) : w.heap.size ≤ gb108)); have n3_ := Aside0.mk ((by rw [hg]; exact (below_size (by repeat (first | (with_reducible first | exact HB.out | apply below_alloc | apply pw_below_drewN | apply below_drew1) | exact HB.out))) : w.heap.size ≤ gb108)); clear HB; have HB := n0_; have BK108 := n1_; have GW108 := n2_; have GE108 := n3_; clear n0_ n1_ n2_ n3_; clear hb hbox hg; have hcz3_0 : w2.cell? ⟨gb108, 0, none⟩ = some (.int .u8 a0_0) := (blk_cell BK108.out 0).trans rfl; have hcz3_1 : w2.cell? ⟨gb108, 1, none⟩ = some (.int .u8 a0_1) := (blk_cell BK108.out 1).trans rfl; have hcz3_2 : w2.cell? ⟨gb108, 2, none⟩ = some (.int .u8 a0_2) := (blk_cell BK108.out 2).trans rfl; have hcz3_3 : w2.cell? ⟨gb108, 3, none⟩ = some (.int .u8 a0_3) := (blk_cell BK108.out 3).trans rfl; have hfz3_0 := blk_frozen BK108.out 0; have hfz3_1 := blk_frozen BK108.out 1; have hfz3_2 := blk_frozen BK108.out 2; have hfz3_3 := blk_frozen BK108.out 3))
  go_ret
  exact ⟨by first | rfl | (simp [errW_none, errW_some] <;> rfl) | (simp [*, errW_none, errW_some] <;> rfl), by repeat (first | (with_reducible first | exact HB.out | apply below_alloc | apply pw_below_drewN | apply below_drew1 | refine below_set ?_ GE108.out) | exact HB.out)⟩
def host_In.f (a0_0 : Int) (a0_1 : Int) (a0_2 : Int) (a0_3 : Int) (a1_0 : Int) (a1_1 : Int) (a1_2 : Int) (a1_3 : Int) (a2 : Int) : Option (Bool) := if a2 ≥ 0 then (if a2 ≤ 32 then ((host_word.f a0_0 a0_1 a0_2 a0_3).bind fun t111 => ((host_word.f a1_0 a1_1 a1_2 a1_3).bind fun t112 => (if 0 ≤ (wrap64 (32 - a2)) then (some ((shr .u32 (Go.bits .xor .u32 t111 t112) (wrap64 (32 - a2))) == 0)) else (none)))) else (some false)) else (some false)
def host_In.T1 : Bool × List (List Nat × List Nat) := (true, [([], []), ([0], [0]), ([1], [1]), ([2], [2]), ([3, 2], [2, 3]), ([2, 4], [2, 4]), ([5, 2], [5]), ([6], [6]), ([7, 6, 6], [6, 7]), ([6], [6]), ([9, 8, 6], [6, 9]), ([8, 10, 6], [6, 8, 10]), ([6], [6]), ([12, 6], [6, 12]), ([11, 13, 6], [6, 11, 13]), ([14, 6], [6, 14]), ([6, 15], [6, 15]), ([16, 10, 0, 1, 2, 3, 4, 5, 6, 7, 8, 9, 10, 11, 12, 13, 14, 15, 16], [16])])
def host_In.B1 : List Nat := [0, 1, 3, 7, 15, 31, 63, 127, 255, 127, 1023, 2047, 127, 4223, 16383, 32767, 65535, 131071]
theorem host_In.tab1 : rtab .any (opsOf Tryd.f17 1) = host_In.T1 := by kernel_rfl
theorem host_In.bits1 : waitsOk host_In.T1.2 host_In.B1 = true := by kernel_rfl
set_option maxHeartbeats 8000000 in
set_option maxRecDepth 100000 in
theorem host_In.calls (a0_0 : Int) (a0_1 : Int) (a0_2 : Int) (a0_3 : Int) (a1_0 : Int) (a1_1 : Int) (a1_2 : Int) (a1_3 : Int) (a2 : Int) (r : Bool) (w : World) (h : host_In.f a0_0 a0_1 a0_2 a0_3 a1_0 a1_1 a1_2 a1_3 a2 = some r) :
    Calls Tryd.prog 17 #[.agg #[.int .u8 a0_0, .int .u8 a0_1, .int .u8 a0_2, .int .u8 a0_3], .agg #[.int .u8 a1_0, .int .u8 a1_1, .int .u8 a1_2, .int .u8 a1_3], .int .i64 a2] w fun e w' => e = .returned (.bool r) ∧ Below w.heap.size w w' := by
  have hu24 := Tryd.underlying24
  have HB := Aside0.mk (Below.refl w.heap.size w)
  have H : (if a2 ≥ 0 then (if a2 ≤ 32 then ((host_word.f a0_0 a0_1 a0_2 a0_3).bind fun t111 => ((host_word.f a1_0 a1_1 a1_2 a1_3).bind fun t112 => (if 0 ≤ (wrap64 (32 - a2)) then (some ((shr .u32 (Go.bits .xor .u32 t111 t112) (wrap64 (32 - a2))) == 0)) else (none)))) else (some false)) else (some false)) = some r := h
  clear h
  by_cases c4 : a2 ≥ 0
  · rw [if_pos c4] at H
    have c4b0 : decide (0 ≤ a2) = true := decide_eq_true c4
    clear c4
    by_cases c5 : a2 ≤ 32
    · rw [if_pos c5] at H
      have c5b0 : decide (a2 ≤ 32) = true := decide_eq_true c5
      clear c5
      replace H := Option.bind_eq_some_iff.mp H
      obtain ⟨t111, A60, H⟩ := H
      replace H : ((host_word.f a1_0 a1_1 a1_2 a1_3).bind fun t112 => (if 0 ≤ (wrap64 (32 - a2)) then (some ((shr .u32 (Go.bits .xor .u32 t111 t112) (wrap64 (32 - a2))) == 0)) else (none))) = some r := H
      have A6 := Aside0.mk A60
      clear A60
      replace H := Option.bind_eq_some_iff.mp H
      obtain ⟨t112, A70, H⟩ := H
      replace H : (if 0 ≤ (wrap64 (32 - a2)) then (some ((shr .u32 (Go.bits .xor .u32 t111 t112) (wrap64 (32 - a2))) == 0)) else (none)) = some r := H
      have A7 := Aside0.mk A70
      clear A70
      obtain ⟨ji8, hji8⟩ : ∃ j_ : Int, (wrap64 (32 - a2)) = j_ := ⟨_, rfl⟩
      replace H : (if 0 ≤ (ji8) then (some ((shr .u32 (Go.bits .xor .u32 t111 t112) (ji8)) == 0)) else (none)) = some r := by first | (rw [hji8] at H; exact H) | (simp only [hji8] at H ⊢; exact H)
      (try rw [hji8] at A6)
      (try rw [hji8] at A7)
      have hji8w : (IntKind.i64.wrap (32 - a2)) = ji8 := (i64_w _).trans hji8
      by_cases c9 : 0 ≤ (ji8)
      · rw [if_pos c9] at H
        have c9b0 := eq_true c9
        have c9b1 : decide (0 ≤ (ji8)) = true := decide_eq_true c9
        clear c9
        obtain ⟨ji10, hji10⟩ : ∃ j_ : Int, (shr .u32 (Go.bits .xor .u32 t111 t112) (ji8)) = j_ := ⟨_, rfl⟩
        replace H : (some ((ji10) == 0)) = some r := by first | (rw [hji10] at H; exact H) | (simp only [hji10] at H ⊢; exact H)
        (try rw [hji10] at A6)
        (try rw [hji10] at A7)
        have hji10_ : ((Go.bits .xor .u32 t111 t112) / 2 ^ min (ji8).toNat 32) = ji10 := hji10
        have hji10z : (ji8) ≤ 32 → ((Go.bits .xor .u32 t111 t112) / 2 ^ (ji8).toNat) = ji10 := shr_small hji10
        obtain rfl := Option.some.inj H
        go_enter Tryd.func17, Tryd.ntmps17
        try go_wp2_with (first | ((with_reducible refine gate_dst (N := 3) rfl ?_); refine box_event ?hg (N := 3) ?hd (cs := #[.int .u8 a0_0, .int .u8 a0_1, .int .u8 a0_2, .int .u8 a0_3]) (t := 24) ?hr ?_; (case hd => rfl); (case hg => rfl); (case hr => first | (go_simp; done) | (go_simp; rfl)); intro gb109 hg w11 hbox hb; have n0_ := Aside0.mk (below_step (by repeat (first | (with_reducible first | exact HB.out | apply below_alloc | apply pw_below_drewN | apply below_drew1) | exact HB.out)) hb); have n1_ := Aside0.mk (hbox); have n2_ := Aside0.mk ((by rw [hg]; exact (below_size (by repeat (first | (with_reducible first | exact HB.out | apply below_alloc | apply pw_below_drewN | apply below_drew1) | exact HB.out))) : w.heap.size ≤ gb109)); have n3_ := Aside0.mk ((by rw [hg]; exact (below_size (by repeat (first | (with_reducible first | exact HB.out | apply below_alloc | apply pw_below_drewN | apply below_drew1) | exact HB.out))) : w.heap.size ≤ gb109)); clear HB; have HB := n0_; have BK109 := n1_; have GW109 := n2_; have GE109 := n3_; clear n0_ n1_ n2_ n3_; clear hb hbox hg) | ((with_reducible refine gate_dst (N := 4) rfl ?_); refine box_event ?hg (N := 4) ?hd (cs := #[.int .u8 a1_0, .int .u8 a1_1, .int .u8 a1_2, .int .u8 a1_3]) (t := 24) ?hr ?_; (case hd => rfl); (case hg => rfl); (case hr => first | (go_simp; done) | (go_simp; rfl)); intro gb110 hg w12 hbox hb; have n0_ := Aside0.mk (blk_below (g := gb109) (o := .cells #[.int .u8 a0_0, .int .u8 a0_1, .int .u8 a0_2, .int .u8 a0_3] 24 (0, 0)) (by (with_reducible repeat (first | refine blk_drewN ?_ _ | refine blk_drew ?_ | refine blk_alloc ?_ _)); exact BK109.out) hb); have n1_ := Aside0.mk (below_step (by repeat (first | (with_reducible first | exact HB.out | apply below_alloc | apply pw_below_drewN | apply below_drew1 | refine below_set ?_ GE109.out) | exact HB.out)) hb); have n2_ := Aside0.mk (hbox); have n3_ := Aside0.mk ((by rw [hg]; exact (below_size (by repeat (first | (with_reducible first | exact HB.out | apply below_alloc | apply pw_below_drewN | apply below_drew1 | refine below_set ?_ GE109.out) | exact HB.out))) : w.heap.size ≤ gb110)); have n4_ := Aside0.mk ((by rw [hg]; exact (below_size (by repeat (first | (with_reducible first | exact HB.out | apply below_alloc | apply pw_below_drewN | apply below_drew1 | refine below_set ?_ GE109.out) | exact HB.out))) : w.heap.size ≤ gb110)); have n5_ := Aside0.mk ((by rw [hg]; exact Nat.ne_of_lt (blk_lt (g := gb109) (o := .cells #[.int .u8 a0_0, .int .u8 a0_1, .int .u8 a0_2, .int .u8 a0_3] 24 (0, 0)) (by (with_reducible repeat (first | refine blk_drewN ?_ _ | refine blk_drew ?_ | refine blk_alloc ?_ _)); exact BK109.out)) : gb109 ≠ gb110)); have n6_ := Aside0.mk ((by rw [hg]; exact Nat.ne_of_gt (blk_lt (g := gb109) (o := .cells #[.int .u8 a0_0, .int .u8 a0_1, .int .u8 a0_2, .int .u8 a0_3] 24 (0, 0)) (by (with_reducible repeat (first | refine blk_drewN ?_ _ | refine blk_drew ?_ | refine blk_alloc ?_ _)); exact BK109.out)) : gb110 ≠ gb109)); clear BK109; clear HB; have BK109 := n0_; have HB := n1_; have BK110 := n2_; have GW110 := n3_; have GE110 := n4_; have NB109_110 := n5_; have NB110_109 := n6_; clear n0_ n1_ n2_ n3_ n4_ n5_ n6_; clear hb hbox hg))
        have n0_ := Aside0.mk (blk_drew BK109.out)
        have n1_ := Aside0.mk (blk_drew BK110.out)
        have n2_ := Aside0.mk (below_drew1 HB.out)
        clear BK109
        clear BK110
        clear HB
        have BK109 := n0_
        have BK110 := n1_
        have HB := n2_
        clear n0_ n1_ n2_
        refine start_ (n := 18) (S := fun w' => w'.cell? ⟨gb109, 0, none⟩ = some (.int .u8 a0_0) ∧ w'.cell? ⟨gb109, 1, none⟩ = some (.int .u8 a0_1) ∧ w'.cell? ⟨gb109, 2, none⟩ = some (.int .u8 a0_2) ∧ w'.cell? ⟨gb109, 3, none⟩ = some (.int .u8 a0_3) ∧ w'.cell? ⟨gb110, 0, none⟩ = some (.int .u8 a1_0) ∧ w'.cell? ⟨gb110, 1, none⟩ = some (.int .u8 a1_1) ∧ w'.cell? ⟨gb110, 2, none⟩ = some (.int .u8 a1_2) ∧ w'.cell? ⟨gb110, 3, none⟩ = some (.int .u8 a1_3)) (ds := []) #[false, false, false, false, false, false, false, false, false, false, false, false, false, false, false, false, false, false] (by kernel_rfl) rfl rfl ⟨(blk_cell BK109.out 0).trans rfl, (blk_cell BK109.out 1).trans rfl, (blk_cell BK109.out 2).trans rfl, (blk_cell BK109.out 3).trans rfl, (blk_cell BK110.out 0).trans rfl, (blk_cell BK110.out 1).trans rfl, (blk_cell BK110.out 2).trans rfl, (blk_cell BK110.out 3).trans rfl⟩ (fun hHeld => ?_); refine with_tabW host_In.tab1 host_In.bits1 (fun HT_ HW_ => ?_)
        generalize w12.drew = w13 at BK109 BK110 HB hHeld ⊢
        refine pure_ (i := 0) (N := some 7) (v := ?_) (a' := ?_) #[true, false, false, false, false, false, false, false, false, false, false, false, false, false, false, false, false, false] rfl rfl (any_of HT_.out (by kernel_rfl)) (fun _ _ _ h => h) (Or.inl ⟨by rfl, ?_⟩) ?_ ?_
        rotate_left
        · intro w'
          go_simp
          with_reducible rfl
        rotate_left
        · simp only [Act.put, List.setIfInBounds_toArray, List.set_cons_zero, List.set_cons_succ, i64_w, i32_w]
          rfl
        refine pure_ (i := 1) (N := some 8) (v := ?_) (a' := ?_) #[true, true, false, false, false, false, false, false, false, false, false, false, false, false, false, false, false, false] rfl rfl (any_of HT_.out (by kernel_rfl)) (fun _ _ _ h => h) (Or.inl ⟨by rfl, ?_⟩) ?_ ?_
        rotate_left
        · intro w'
          go_simp
          with_reducible rfl
        rotate_left
        · simp only [Act.put, List.setIfInBounds_toArray, List.set_cons_zero, List.set_cons_succ, i64_w, i32_w]
          rfl
        refine pure_ (i := 2) (N := some 9) (v := ?_) (a' := ?_) #[true, true, true, false, false, false, false, false, false, false, false, false, false, false, false, false, false, false] rfl rfl (any_of HT_.out (by kernel_rfl)) (fun _ _ _ h => h) (Or.inl ⟨by rfl, ?_⟩) ?_ ?_
        rotate_left
        · intro w'
          go_simp
          with_reducible rfl
        rotate_left
        · simp only [Act.put, List.setIfInBounds_toArray, List.set_cons_zero, List.set_cons_succ, i64_w, i32_w]
          rfl
        refine pure_ (i := 3) (N := some 10) (v := ?_) (a' := ?_) #[true, true, true, true, false, false, false, false, false, false, false, false, false, false, false, false, false, false] rfl rfl (any_of HT_.out (by kernel_rfl)) (fun _ _ _ h => h) (Or.inl ⟨by rfl, ?_⟩) ?_ ?_
        rotate_left
        · intro w'
          go_simp
          with_reducible rfl
        rotate_left
        · simp only [Act.put, List.setIfInBounds_toArray, List.set_cons_zero, List.set_cons_succ, i64_w, i32_w]
          rfl
        refine pure_ (i := 4) (N := some 11) (v := ?_) (a' := ?_) #[true, true, true, true, true, false, false, false, false, false, false, false, false, false, false, false, false, false] rfl rfl (any_of HT_.out (by kernel_rfl)) (fun _ _ _ h => h) (Or.inl ⟨by rfl, ?_⟩) ?_ ?_
        rotate_left
        · intro w'
          go_simp
          with_reducible rfl
        rotate_left
        · simp only [Act.put, List.setIfInBounds_toArray, List.set_cons_zero, List.set_cons_succ, i64_w, i32_w]
          rfl
        refine pure_ (i := 5) (N := some 12) (v := ?_) (a' := ?_) #[true, true, true, true, true, true, false, false, false, false, false, false, false, false, false, false, false, false] rfl rfl (any_of HT_.out (by kernel_rfl)) (fun _ _ _ h => h) (Or.inl ⟨by rfl, ?_⟩) ?_ ?_
        rotate_left
        · intro w'
          go_simp
          with_reducible rfl
        rotate_left
        · simp only [Act.put, List.setIfInBounds_toArray, List.set_cons_zero, List.set_cons_succ, i64_w, i32_w]
          rfl
        refine pure_ (i := 6) (N := some 13) (v := ?_) (a' := ?_) #[true, true, true, true, true, true, true, false, false, false, false, false, false, false, false, false, false, false] rfl rfl (any_of HT_.out (by kernel_rfl)) (fun _ _ _ h => h) (Or.inl ⟨by rfl, ?_⟩) ?_ ?_
        rotate_left
        · intro w'
          go_simp
          with_reducible rfl
        rotate_left
        · simp only [Act.put, List.setIfInBounds_toArray, List.set_cons_zero, List.set_cons_succ, i64_w, i32_w]
          rfl
        refine pure_ (i := 12) (N := some 19) (v := ?_) (a' := ?_) #[true, true, true, true, true, true, true, false, false, false, false, false, true, false, false, false, false, false] rfl rfl (any_of HT_.out (by kernel_rfl)) (fun _ _ _ h => h) (Or.inl ⟨by rfl, ?_⟩) ?_ ?_
        rotate_left
        · intro w'
          go_simp
          with_reducible rfl
        rotate_left
        · simp only [Act.put, List.setIfInBounds_toArray, List.set_cons_zero, List.set_cons_succ, i64_w, i32_w]
          rfl
        refine pure_ (i := 13) (N := some 20) (v := ?_) (a' := ?_) #[true, true, true, true, true, true, true, false, false, false, false, false, true, true, false, false, false, false] rfl rfl (any_of HT_.out (by kernel_rfl)) (fun _ _ _ h => h) (Or.inl ⟨by rfl, ?_⟩) ?_ ?_
        rotate_left
        · intro w'
          go_simp
          with_reducible rfl
        rotate_left
        · simp only [Act.put, List.setIfInBounds_toArray, List.set_cons_zero, List.set_cons_succ, i64_w, i32_w]
          rfl
        refine take_ (i := 7) (N := some 14) (v := ?_) (a' := ?_) #[true, true, true, true, true, true, true, true, false, false, false, false, true, true, false, false, false, false] rfl rfl (take_ofW HT_.out HW_.out (by kernel_rfl)) (fun _ _ _ h => h) (Or.inl ⟨by rfl, ?_⟩) hHeld ?_ ?_
        rotate_left
        · rintro w' ⟨s0, s1, s2, s3, s4, s5, s6, s7⟩
          go_simp
          with_reducible rfl
        rotate_left
        · simp only [Act.put, List.setIfInBounds_toArray, List.set_cons_zero, List.set_cons_succ, i64_w, i32_w]
          rfl
        refine take_ (i := 9) (N := some 16) (v := ?_) (a' := ?_) #[true, true, true, true, true, true, true, true, false, true, false, false, true, true, false, false, false, false] rfl rfl (take_ofW HT_.out HW_.out (by kernel_rfl)) (fun _ _ _ h => h) (Or.inl ⟨by rfl, ?_⟩) hHeld ?_ ?_
        rotate_left
        · rintro w' ⟨s0, s1, s2, s3, s4, s5, s6, s7⟩
          go_simp
          with_reducible rfl
        rotate_left
        · simp only [Act.put, List.setIfInBounds_toArray, List.set_cons_zero, List.set_cons_succ, i64_w, i32_w]
          rfl
        refine one_ (i := 8) (N := some 15) #[true, true, true, true, true, true, true, true, true, true, false, false, true, true, false, false, false, false] rfl rfl (one_of HT_.out (by kernel_rfl)) (by decide) (fun K hK => ?_)
        refine goes_ Tryd.func28 (by kernel_rfl) rfl #[.agg #[.int .u8 a0_0, .int .u8 a0_1, .int .u8 a0_2, .int .u8 a0_3]] (by rfl) rfl rfl (by (try simp only [List.map_toArray, List.map_cons, List.map_nil]); first | done | rfl | (simp only [List.length_drop, List.length_take]; rfl)) ?_
        with_reducible refine (host_word.calls a0_0 a0_1 a0_2 a0_3 t111 _ A6.out).mono ?_
        rintro e w14 ⟨rfl, hb⟩
        refine ⟨_, rfl, ?_⟩
        have n0_ := Aside0.mk (blk_below (g := gb109) (o := .cells #[.int .u8 a0_0, .int .u8 a0_1, .int .u8 a0_2, .int .u8 a0_3] 24 (0, 0)) (by (with_reducible repeat (first | refine blk_drewN ?_ _ | refine blk_drew ?_ | refine blk_alloc ?_ _)); exact BK109.out) hb)
        have n1_ := Aside0.mk (blk_below (g := gb110) (o := .cells #[.int .u8 a1_0, .int .u8 a1_1, .int .u8 a1_2, .int .u8 a1_3] 24 (0, 0)) (by (with_reducible repeat (first | refine blk_drewN ?_ _ | refine blk_drew ?_ | refine blk_alloc ?_ _)); exact BK110.out) hb)
        have n2_ := Aside0.mk (below_step (by repeat (first | (with_reducible first | exact HB.out | apply below_alloc | apply pw_below_drewN | apply below_drew1 | refine below_set ?_ GE109.out | refine below_set ?_ GE110.out) | exact HB.out)) hb)
        clear BK109
        clear BK110
        clear HB
        have BK109 := n0_
        have BK110 := n1_
        have HB := n2_
        clear n0_ n1_ n2_
        (try clear hb)
        (try clear hb2)
        (try clear hk)
        (try clear hi)
        refine hK.out _ _ ⟨(blk_cell BK109.out 0).trans rfl, (blk_cell BK109.out 1).trans rfl, (blk_cell BK109.out 2).trans rfl, (blk_cell BK109.out 3).trans rfl, (blk_cell BK110.out 0).trans rfl, (blk_cell BK110.out 1).trans rfl, (blk_cell BK110.out 2).trans rfl, (blk_cell BK110.out 3).trans rfl⟩ (fun hHeld => ?_)
        clear hK K
        refine norm_ (a' := ?_) ?_ ?_
        rotate_left
        · show Act.put _ (some 15) _ = _
          simp only [Act.put, List.setIfInBounds_toArray, List.set_cons_zero, List.set_cons_succ, i64_w, i32_w]
          rfl
        refine one_ (i := 10) (N := some 17) #[true, true, true, true, true, true, true, true, true, true, true, false, true, true, false, false, false, false] rfl rfl (one_of HT_.out (by kernel_rfl)) (by decide) (fun K hK => ?_)
        refine goes_ Tryd.func28 (by kernel_rfl) rfl #[.agg #[.int .u8 a1_0, .int .u8 a1_1, .int .u8 a1_2, .int .u8 a1_3]] (by rfl) rfl rfl (by (try simp only [List.map_toArray, List.map_cons, List.map_nil]); first | done | rfl | (simp only [List.length_drop, List.length_take]; rfl)) ?_
        with_reducible refine (host_word.calls a1_0 a1_1 a1_2 a1_3 t112 _ A7.out).mono ?_
        rintro e w15 ⟨rfl, hb⟩
        refine ⟨_, rfl, ?_⟩
        have n0_ := Aside0.mk (blk_below (g := gb109) (o := .cells #[.int .u8 a0_0, .int .u8 a0_1, .int .u8 a0_2, .int .u8 a0_3] 24 (0, 0)) (by (with_reducible repeat (first | refine blk_drewN ?_ _ | refine blk_drew ?_ | refine blk_alloc ?_ _)); exact BK109.out) hb)
        have n1_ := Aside0.mk (blk_below (g := gb110) (o := .cells #[.int .u8 a1_0, .int .u8 a1_1, .int .u8 a1_2, .int .u8 a1_3] 24 (0, 0)) (by (with_reducible repeat (first | refine blk_drewN ?_ _ | refine blk_drew ?_ | refine blk_alloc ?_ _)); exact BK110.out) hb)
        have n2_ := Aside0.mk (below_step (by repeat (first | (with_reducible first | exact HB.out | apply below_alloc | apply pw_below_drewN | apply below_drew1 | refine below_set ?_ GE109.out | refine below_set ?_ GE110.out) | exact HB.out)) hb)
        clear BK109
        clear BK110
        clear HB
        have BK109 := n0_
        have BK110 := n1_
        have HB := n2_
        clear n0_ n1_ n2_
        (try clear hb)
        (try clear hb2)
        (try clear hk)
        (try clear hi)
        refine hK.out _ _ ⟨(blk_cell BK109.out 0).trans rfl, (blk_cell BK109.out 1).trans rfl, (blk_cell BK109.out 2).trans rfl, (blk_cell BK109.out 3).trans rfl, (blk_cell BK110.out 0).trans rfl, (blk_cell BK110.out 1).trans rfl, (blk_cell BK110.out 2).trans rfl, (blk_cell BK110.out 3).trans rfl⟩ (fun hHeld => ?_)
        clear hK K
        refine norm_ (a' := ?_) ?_ ?_
        rotate_left
        · show Act.put _ (some 17) _ = _
          simp only [Act.put, List.setIfInBounds_toArray, List.set_cons_zero, List.set_cons_succ, i64_w, i32_w]
          rfl
        refine pure_ (i := 11) (N := some 18) (v := ?_) (a' := ?_) #[true, true, true, true, true, true, true, true, true, true, true, true, true, true, false, false, false, false] rfl rfl (any_of HT_.out (by kernel_rfl)) (fun _ _ _ h => h) (Or.inl ⟨by rfl, ?_⟩) ?_ ?_
        rotate_left
        · intro w'
          go_simp
          with_reducible rfl
        rotate_left
        · simp only [Act.put, List.setIfInBounds_toArray, List.set_cons_zero, List.set_cons_succ, i64_w, i32_w]
          rfl
        refine pure_ (i := 14) (N := some 21) (v := ?_) (a' := ?_) #[true, true, true, true, true, true, true, true, true, true, true, true, true, true, true, false, false, false] rfl rfl (any_of HT_.out (by kernel_rfl)) (fun _ _ _ h => h) (Or.inl ⟨by rfl, ?_⟩) ?_ ?_
        rotate_left
        · intro w'
          go_simp
          with_reducible rfl
        rotate_left
        · simp only [Act.put, List.setIfInBounds_toArray, List.set_cons_zero, List.set_cons_succ, i64_w, i32_w]
          rfl
        refine pure_ (i := 15) (N := some 22) (v := ?_) (a' := ?_) #[true, true, true, true, true, true, true, true, true, true, true, true, true, true, true, true, false, false] rfl rfl (any_of HT_.out (by kernel_rfl)) (fun _ _ _ h => h) (Or.inl ⟨by rfl, ?_⟩) ?_ ?_
        rotate_left
        · intro w'
          go_simp
          with_reducible rfl
        rotate_left
        · simp only [Act.put, List.setIfInBounds_toArray, List.set_cons_zero, List.set_cons_succ, i64_w, i32_w]
          rfl
        refine pure_ (i := 16) (N := some 23) (v := ?_) (a' := ?_) #[true, true, true, true, true, true, true, true, true, true, true, true, true, true, true, true, true, false] rfl rfl (any_of HT_.out (by kernel_rfl)) (fun _ _ _ h => h) (Or.inl ⟨by rfl, ?_⟩) ?_ ?_
        rotate_left
        · intro w'
          go_simp
          with_reducible rfl
        rotate_left
        · simp only [Act.put, List.setIfInBounds_toArray, List.set_cons_zero, List.set_cons_succ, i64_w, i32_w]
          rfl
        refine pure_ (i := 17) (N := some 6) (v := ?_) (a' := ?_) #[true, true, true, true, true, true, true, true, true, true, true, true, true, true, true, true, true, true] rfl rfl (any_of HT_.out (by kernel_rfl)) (fun _ _ _ h => h) (Or.inl ⟨by rfl, ?_⟩) ?_ ?_
        rotate_left
        · intro w'
          go_simp
          with_reducible rfl
        rotate_left
        · simp only [Act.put, List.setIfInBounds_toArray, List.set_cons_zero, List.set_cons_succ, i64_w, i32_w]
          rfl
        refine done_ (done_of HT_.out (by kernel_rfl)) ?_
        try go_wp2
        go_ret
        exact ⟨by first | rfl | (simp [errW_none, errW_some] <;> rfl) | (simp only [← hji8, ← hji10]; first | rfl | (simp [errW_none, errW_some] <;> rfl)) | (simp [*, errW_none, errW_some] <;> rfl), by repeat (first | (with_reducible first | exact HB.out | apply below_alloc | apply pw_below_drewN | apply below_drew1 | refine below_set ?_ GE109.out | refine below_set ?_ GE110.out) | exact HB.out)⟩
      · rw [if_neg c9] at H
        exact absurd H (by simp)
    · rw [if_neg c5] at H
      have c5b0 : decide (a2 ≤ 32) = false := decide_eq_false c5
      clear c5
      obtain rfl := Option.some.inj H
      go_enter Tryd.func17, Tryd.ntmps17
      try go_wp2_with (first | ((with_reducible refine gate_dst (N := 3) rfl ?_); refine box_event ?hg (N := 3) ?hd (cs := #[.int .u8 a0_0, .int .u8 a0_1, .int .u8 a0_2, .int .u8 a0_3]) (t := 24) ?hr ?_; (case hd => rfl); (case hg => rfl); (case hr => first | (go_simp; done) | (go_simp; rfl)); intro gb109 hg w16 hbox hb; have n0_ := Aside0.mk (below_step (by repeat (first | (with_reducible first | exact HB.out | apply below_alloc | apply pw_below_drewN | apply below_drew1) | exact HB.out)) hb); have n1_ := Aside0.mk (hbox); have n2_ := Aside0.mk ((by rw [hg]; exact (below_size (by repeat (first | (with_reducible first | exact HB.out | apply below_alloc | apply pw_below_drewN | apply below_drew1) | exact HB.out))) : w.heap.size ≤ gb109)); have n3_ := Aside0.mk ((by rw [hg]; exact (below_size (by repeat (first | (with_reducible first | exact HB.out | apply below_alloc | apply pw_below_drewN | apply below_drew1) | exact HB.out))) : w.heap.size ≤ gb109)); clear HB; have HB := n0_; have BK109 := n1_; have GW109 := n2_; have GE109 := n3_; clear n0_ n1_ n2_ n3_; clear hb hbox hg) | ((with_reducible refine gate_dst (N := 4) rfl ?_); refine box_event ?hg (N := 4) ?hd (cs := #[.int .u8 a1_0, .int .u8 a1_1, .int .u8 a1_2, .int .u8 a1_3]) (t := 24) ?hr ?_; (case hd => rfl); (case hg => rfl); (case hr => first | (go_simp; done) | (go_simp; rfl)); intro gb110 hg w17 hbox hb; have n0_ := Aside0.mk (blk_below (g := gb109) (o := .cells #[.int .u8 a0_0, .int .u8 a0_1, .int .u8 a0_2, .int .u8 a0_3] 24 (0, 0)) (by (with_reducible repeat (first | refine blk_drewN ?_ _ | refine blk_drew ?_ | refine blk_alloc ?_ _)); exact BK109.out) hb); have n1_ := Aside0.mk (below_step (by repeat (first | (with_reducible first | exact HB.out | apply below_alloc | apply pw_below_drewN | apply below_drew1 | refine below_set ?_ GE109.out) | exact HB.out)) hb); have n2_ := Aside0.mk (hbox); have n3_ := Aside0.mk ((by rw [hg]; exact (below_size (by repeat (first | (with_reducible first | exact HB.out | apply below_alloc | apply pw_below_drewN | apply below_drew1 | refine below_set ?_ GE109.out) | exact HB.out))) : w.heap.size ≤ gb110)); have n4_ := Aside0.mk ((by rw [hg]; exact (below_size (by repeat (first | (with_reducible first | exact HB.out | apply below_alloc | apply pw_below_drewN | apply below_drew1 | refine below_set ?_ GE109.out) | exact HB.out))) : w.heap.size ≤ gb110)); have n5_ := Aside0.mk ((by rw [hg]; exact Nat.ne_of_lt (blk_lt (g := gb109) (o := .cells #[.int .u8 a0_0, .int .u8 a0_1, .int .u8 a0_2, .int .u8 a0_3] 24 (0, 0)) (by (with_reducible repeat (first | refine blk_drewN ?_ _ | refine blk_drew ?_ | refine blk_alloc ?_ _)); exact BK109.out)) : gb109 ≠ gb110)); have n6_ := Aside0.mk ((by rw [hg]; exact Nat.ne_of_gt (blk_lt (g := gb109) (o := .cells #[.int .u8 a0_0, .int .u8 a0_1, .int .u8 a0_2, .int .u8 a0_3] 24 (0, 0)) (by (with_reducible repeat (first | refine blk_drewN ?_ _ | refine blk_drew ?_ | refine blk_alloc ?_ _)); exact BK109.out)) : gb110 ≠ gb109)); clear BK109; clear HB; have BK109 := n0_; have HB := n1_; have BK110 := n2_; have GW110 := n3_; have GE110 := n4_; have NB109_110 := n5_; have NB110_109 := n6_; clear n0_ n1_ n2_ n3_ n4_ n5_ n6_; clear hb hbox hg))
      have n0_ := Aside0.mk (blk_drew BK109.out)
      have n1_ := Aside0.mk (blk_drew BK110.out)
      have n2_ := Aside0.mk (below_drew1 HB.out)
      clear BK109
      clear BK110
      clear HB
      have BK109 := n0_
      have BK110 := n1_
      have HB := n2_
      clear n0_ n1_ n2_
      refine start_ (n := 18) (S := fun w' => True) (ds := []) #[false, false, false, false, false, false, false, false, false, false, false, false, false, false, false, false, false, false] (by kernel_rfl) rfl rfl trivial (fun hHeld => ?_); refine with_tabW host_In.tab1 host_In.bits1 (fun HT_ HW_ => ?_)
      generalize w17.drew = w18 at BK109 BK110 HB hHeld ⊢
      refine pure_ (i := 0) (N := some 7) (v := ?_) (a' := ?_) #[true, false, false, false, false, false, false, false, false, false, false, false, false, false, false, false, false, false] rfl rfl (any_of HT_.out (by kernel_rfl)) (fun _ _ _ h => h) (Or.inl ⟨by rfl, ?_⟩) ?_ ?_
      rotate_left
      · intro w'
        go_simp
        with_reducible rfl
      rotate_left
      · simp only [Act.put, List.setIfInBounds_toArray, List.set_cons_zero, List.set_cons_succ, i64_w, i32_w]
        rfl
      refine pure_ (i := 1) (N := some 8) (v := ?_) (a' := ?_) #[true, true, false, false, false, false, false, false, false, false, false, false, false, false, false, false, false, false] rfl rfl (any_of HT_.out (by kernel_rfl)) (fun _ _ _ h => h) (Or.inl ⟨by rfl, ?_⟩) ?_ ?_
      rotate_left
      · intro w'
        go_simp
        with_reducible rfl
      rotate_left
      · simp only [Act.put, List.setIfInBounds_toArray, List.set_cons_zero, List.set_cons_succ, i64_w, i32_w]
        rfl
      refine pure_ (i := 2) (N := some 9) (v := ?_) (a' := ?_) #[true, true, true, false, false, false, false, false, false, false, false, false, false, false, false, false, false, false] rfl rfl (any_of HT_.out (by kernel_rfl)) (fun _ _ _ h => h) (Or.inl ⟨by rfl, ?_⟩) ?_ ?_
      rotate_left
      · intro w'
        go_simp
        with_reducible rfl
      rotate_left
      · simp only [Act.put, List.setIfInBounds_toArray, List.set_cons_zero, List.set_cons_succ, i64_w, i32_w]
        rfl
      refine pure_ (i := 3) (N := some 10) (v := ?_) (a' := ?_) #[true, true, true, true, false, false, false, false, false, false, false, false, false, false, false, false, false, false] rfl rfl (any_of HT_.out (by kernel_rfl)) (fun _ _ _ h => h) (Or.inl ⟨by rfl, ?_⟩) ?_ ?_
      rotate_left
      · intro w'
        go_simp
        with_reducible rfl
      rotate_left
      · simp only [Act.put, List.setIfInBounds_toArray, List.set_cons_zero, List.set_cons_succ, i64_w, i32_w]
        rfl
      refine pure_ (i := 4) (N := some 11) (v := ?_) (a' := ?_) #[true, true, true, true, true, false, false, false, false, false, false, false, false, false, false, false, false, false] rfl rfl (any_of HT_.out (by kernel_rfl)) (fun _ _ _ h => h) (Or.inl ⟨by rfl, ?_⟩) ?_ ?_
      rotate_left
      · intro w'
        go_simp
        with_reducible rfl
      rotate_left
      · simp only [Act.put, List.setIfInBounds_toArray, List.set_cons_zero, List.set_cons_succ, i64_w, i32_w]
        rfl
      refine pure_ (i := 5) (N := some 12) (v := ?_) (a' := ?_) #[true, true, true, true, true, true, false, false, false, false, false, false, false, false, false, false, false, false] rfl rfl (any_of HT_.out (by kernel_rfl)) (fun _ _ _ h => h) (Or.inl ⟨by rfl, ?_⟩) ?_ ?_
      rotate_left
      · intro w'
        go_simp
        with_reducible rfl
      rotate_left
      · simp only [Act.put, List.setIfInBounds_toArray, List.set_cons_zero, List.set_cons_succ, i64_w, i32_w]
        rfl
      refine pure_ (i := 6) (N := some 13) (v := ?_) (a' := ?_) #[true, true, true, true, true, true, true, false, false, false, false, false, false, false, false, false, false, false] rfl rfl (any_of HT_.out (by kernel_rfl)) (fun _ _ _ h => h) (Or.inl ⟨by rfl, ?_⟩) ?_ ?_
      rotate_left
      · intro w'
        go_simp
        with_reducible rfl
      rotate_left
      · simp only [Act.put, List.setIfInBounds_toArray, List.set_cons_zero, List.set_cons_succ, i64_w, i32_w]
        rfl
      refine pure_ (i := 7) (N := some 14) (v := undef) (a' := ?_) #[true, true, true, true, true, true, true, true, false, false, false, false, false, false, false, false, false, false] rfl rfl (any_of HT_.out (by kernel_rfl)) (fun _ _ _ h => h) (Or.inr ⟨by rfl, rfl⟩) ?_ ?_
      rotate_left
      · simp only [Act.put, List.setIfInBounds_toArray, List.set_cons_zero, List.set_cons_succ, i64_w, i32_w]
        rfl
      refine pure_ (i := 8) (N := some 15) (v := undef) (a' := ?_) #[true, true, true, true, true, true, true, true, true, false, false, false, false, false, false, false, false, false] rfl rfl (any_of HT_.out (by kernel_rfl)) (fun _ _ _ h => h) (Or.inr ⟨by rfl, rfl⟩) ?_ ?_
      rotate_left
      · simp only [Act.put, List.setIfInBounds_toArray, List.set_cons_zero, List.set_cons_succ, i64_w, i32_w]
        rfl
      refine pure_ (i := 9) (N := some 16) (v := undef) (a' := ?_) #[true, true, true, true, true, true, true, true, true, true, false, false, false, false, false, false, false, false] rfl rfl (any_of HT_.out (by kernel_rfl)) (fun _ _ _ h => h) (Or.inr ⟨by rfl, rfl⟩) ?_ ?_
      rotate_left
      · simp only [Act.put, List.setIfInBounds_toArray, List.set_cons_zero, List.set_cons_succ, i64_w, i32_w]
        rfl
      refine pure_ (i := 10) (N := some 17) (v := undef) (a' := ?_) #[true, true, true, true, true, true, true, true, true, true, true, false, false, false, false, false, false, false] rfl rfl (any_of HT_.out (by kernel_rfl)) (fun _ _ _ h => h) (Or.inr ⟨by rfl, rfl⟩) ?_ ?_
      rotate_left
      · simp only [Act.put, List.setIfInBounds_toArray, List.set_cons_zero, List.set_cons_succ, i64_w, i32_w]
        rfl
      refine pure_ (i := 11) (N := some 18) (v := undef) (a' := ?_) #[true, true, true, true, true, true, true, true, true, true, true, true, false, false, false, false, false, false] rfl rfl (any_of HT_.out (by kernel_rfl)) (fun _ _ _ h => h) (Or.inr ⟨by rfl, rfl⟩) ?_ ?_
      rotate_left
      · simp only [Act.put, List.setIfInBounds_toArray, List.set_cons_zero, List.set_cons_succ, i64_w, i32_w]
        rfl
      refine pure_ (i := 12) (N := some 19) (v := undef) (a' := ?_) #[true, true, true, true, true, true, true, true, true, true, true, true, true, false, false, false, false, false] rfl rfl (any_of HT_.out (by kernel_rfl)) (fun _ _ _ h => h) (Or.inr ⟨by rfl, rfl⟩) ?_ ?_
      rotate_left
      · simp only [Act.put, List.setIfInBounds_toArray, List.set_cons_zero, List.set_cons_succ, i64_w, i32_w]
        rfl
      refine pure_ (i := 13) (N := some 20) (v := undef) (a' := ?_) #[true, true, true, true, true, true, true, true, true, true, true, true, true, true, false, false, false, false] rfl rfl (any_of HT_.out (by kernel_rfl)) (fun _ _ _ h => h) (Or.inr ⟨by rfl, rfl⟩) ?_ ?_
      rotate_left
      · simp only [Act.put, List.setIfInBounds_toArray, List.set_cons_zero, List.set_cons_succ, i64_w, i32_w]
        rfl
      refine pure_ (i := 14) (N := some 21) (v := undef) (a' := ?_) #[true, true, true, true, true, true, true, true, true, true, true, true, true, true, true, false, false, false] rfl rfl (any_of HT_.out (by kernel_rfl)) (fun _ _ _ h => h) (Or.inr ⟨by rfl, rfl⟩) ?_ ?_
      rotate_left
      · simp only [Act.put, List.setIfInBounds_toArray, List.set_cons_zero, List.set_cons_succ, i64_w, i32_w]
        rfl
      refine pure_ (i := 15) (N := some 22) (v := undef) (a' := ?_) #[true, true, true, true, true, true, true, true, true, true, true, true, true, true, true, true, false, false] rfl rfl (any_of HT_.out (by kernel_rfl)) (fun _ _ _ h => h) (Or.inr ⟨by rfl, rfl⟩) ?_ ?_
      rotate_left
      · simp only [Act.put, List.setIfInBounds_toArray, List.set_cons_zero, List.set_cons_succ, i64_w, i32_w]
        rfl
      refine pure_ (i := 16) (N := some 23) (v := ?_) (a' := ?_) #[true, true, true, true, true, true, true, true, true, true, true, true, true, true, true, true, true, false] rfl rfl (any_of HT_.out (by kernel_rfl)) (fun _ _ _ h => h) (Or.inl ⟨by rfl, ?_⟩) ?_ ?_
      rotate_left
      · intro w'
        go_simp
        with_reducible rfl
      rotate_left
      · simp only [Act.put, List.setIfInBounds_toArray, List.set_cons_zero, List.set_cons_succ, i64_w, i32_w]
        rfl
      refine pure_ (i := 17) (N := some 6) (v := ?_) (a' := ?_) #[true, true, true, true, true, true, true, true, true, true, true, true, true, true, true, true, true, true] rfl rfl (any_of HT_.out (by kernel_rfl)) (fun _ _ _ h => h) (Or.inl ⟨by rfl, ?_⟩) ?_ ?_
      rotate_left
      · intro w'
        go_simp
        with_reducible rfl
      rotate_left
      · simp only [Act.put, List.setIfInBounds_toArray, List.set_cons_zero, List.set_cons_succ, i64_w, i32_w]
        rfl
      refine done_ (done_of HT_.out (by kernel_rfl)) ?_
      try go_wp2
      go_ret
      exact ⟨by first | rfl | (simp [errW_none, errW_some] <;> rfl) | (simp [*, errW_none, errW_some] <;> rfl), by repeat (first | (with_reducible first | exact HB.out | apply below_alloc | apply pw_below_drewN | apply below_drew1 | refine below_set ?_ GE109.out | refine below_set ?_ GE110.out) | exact HB.out)⟩
  · rw [if_neg c4] at H
    have c4b0 : decide (0 ≤ a2) = false := decide_eq_false c4
    clear c4
    obtain rfl := Option.some.inj H
    go_enter Tryd.func17, Tryd.ntmps17
    try go_wp2_with (first | ((with_reducible refine gate_dst (N := 3) rfl ?_); refine box_event ?hg (N := 3) ?hd (cs := #[.int .u8 a0_0, .int .u8 a0_1, .int .u8 a0_2, .int .u8 a0_3]) (t := 24) ?hr ?_; (case hd => rfl); (case hg => rfl); (case hr => first | (go_simp; done) | (go_simp; rfl)); intro gb109 hg w19 hbox hb; have n0_ := Aside0.mk (below_step (by repeat (first | (with_reducible first | exact HB.out | apply below_alloc | apply pw_below_drewN | apply below_drew1) | exact HB.out)) hb); have n1_ := Aside0.mk (hbox); have n2_ := Aside0.mk ((by rw [hg]; exact (below_size (by repeat (first | (with_reducible first | exact HB.out | apply below_alloc | apply pw_below_drewN | apply below_drew1) | exact HB.out))) : w.heap.size ≤ gb109)); have n3_ := Aside0.mk ((by rw [hg]; exact (below_size (by repeat (first | (with_reducible first | exact HB.out | apply below_alloc | apply pw_below_drewN | apply below_drew1) | exact HB.out))) : w.heap.size ≤ gb109)); clear HB; have HB := n0_; have BK109 := n1_; have GW109 := n2_; have GE109 := n3_; clear n0_ n1_ n2_ n3_; clear hb hbox hg) | ((with_reducible refine gate_dst (N := 4) rfl ?_); refine box_event ?hg (N := 4) ?hd (cs := #[.int .u8 a1_0, .int .u8 a1_1, .int .u8 a1_2, .int .u8 a1_3]) (t := 24) ?hr ?_; (case hd => rfl); (case hg => rfl); (case hr => first | (go_simp; done) | (go_simp; rfl)); intro gb110 hg w20 hbox hb; have n0_ := Aside0.mk (blk_below (g := gb109) (o := .cells #[.int .u8 a0_0, .int .u8 a0_1, .int .u8 a0_2, .int .u8 a0_3] 24 (0, 0)) (by (with_reducible repeat (first | refine blk_drewN ?_ _ | refine blk_drew ?_ | refine blk_alloc ?_ _)); exact BK109.out) hb); have n1_ := Aside0.mk (below_step (by repeat (first | (with_reducible first | exact HB.out | apply below_alloc | apply pw_below_drewN | apply below_drew1 | refine below_set ?_ GE109.out) | exact HB.out)) hb); have n2_ := Aside0.mk (hbox); have n3_ := Aside0.mk ((by rw [hg]; exact (below_size (by repeat (first | (with_reducible first | exact HB.out | apply below_alloc | apply pw_below_drewN | apply below_drew1 | refine below_set ?_ GE109.out) | exact HB.out))) : w.heap.size ≤ gb110)); have n4_ := Aside0.mk ((by rw [hg]; exact (below_size (by repeat (first | (with_reducible first | exact HB.out | apply below_alloc | apply pw_below_drewN | apply below_drew1 | refine below_set ?_ GE109.out) | exact HB.out))) : w.heap.size ≤ gb110)); have n5_ := Aside0.mk ((by rw [hg]; exact Nat.ne_of_lt (blk_lt (g := gb109) (o := .cells #[.int .u8 a0_0, .int .u8 a0_1, .int .u8 a0_2, .int .u8 a0_3] 24 (0, 0)) (by (with_reducible repeat (first | refine blk_drewN ?_ _ | refine blk_drew ?_ | refine blk_alloc ?_ _)); exact BK109.out)) : gb109 ≠ gb110)); have n6_ := Aside0.mk ((by rw [hg]; exact Nat.ne_of_gt (blk_lt (g := gb109) (o := .cells #[.int .u8 a0_0, .int .u8 a0_1, .int .u8 a0_2, .int .u8 a0_3] 24 (0, 0)) (by (with_reducible repeat (first | refine blk_drewN ?_ _ | refine blk_drew ?_ | refine blk_alloc ?_ _)); exact BK109.out)) : gb110 ≠ gb109)); clear BK109; clear HB; have BK109 := n0_; have HB := n1_; have BK110 := n2_; have GW110 := n3_; have GE110 := n4_; have NB109_110 := n5_; have NB110_109 := n6_; clear n0_ n1_ n2_ n3_ n4_ n5_ n6_; clear hb hbox hg))
    have n0_ := Aside0.mk (blk_drew BK109.out)
    have n1_ := Aside0.mk (blk_drew BK110.out)
    have n2_ := Aside0.mk (below_drew1 HB.out)
    clear BK109
    clear BK110
    clear HB
    have BK109 := n0_
    have BK110 := n1_
    have HB := n2_
    clear n0_ n1_ n2_
    refine start_ (n := 18) (S := fun w' => True) (ds := []) #[false, false, false, false, false, false, false, false, false, false, false, false, false, false, false, false, false, false] (by kernel_rfl) rfl rfl trivial (fun hHeld => ?_); refine with_tabW host_In.tab1 host_In.bits1 (fun HT_ HW_ => ?_)
    generalize w20.drew = w21 at BK109 BK110 HB hHeld ⊢
    refine pure_ (i := 0) (N := some 7) (v := ?_) (a' := ?_) #[true, false, false, false, false, false, false, false, false, false, false, false, false, false, false, false, false, false] rfl rfl (any_of HT_.out (by kernel_rfl)) (fun _ _ _ h => h) (Or.inl ⟨by rfl, ?_⟩) ?_ ?_
    rotate_left
    · intro w'
      go_simp
      with_reducible rfl
    rotate_left
    · simp only [Act.put, List.setIfInBounds_toArray, List.set_cons_zero, List.set_cons_succ, i64_w, i32_w]
      rfl
    refine pure_ (i := 1) (N := some 8) (v := ?_) (a' := ?_) #[true, true, false, false, false, false, false, false, false, false, false, false, false, false, false, false, false, false] rfl rfl (any_of HT_.out (by kernel_rfl)) (fun _ _ _ h => h) (Or.inl ⟨by rfl, ?_⟩) ?_ ?_
    rotate_left
    · intro w'
      go_simp
      with_reducible rfl
    rotate_left
    · simp only [Act.put, List.setIfInBounds_toArray, List.set_cons_zero, List.set_cons_succ, i64_w, i32_w]
      rfl
    refine pure_ (i := 2) (N := some 9) (v := ?_) (a' := ?_) #[true, true, true, false, false, false, false, false, false, false, false, false, false, false, false, false, false, false] rfl rfl (any_of HT_.out (by kernel_rfl)) (fun _ _ _ h => h) (Or.inl ⟨by rfl, ?_⟩) ?_ ?_
    rotate_left
    · intro w'
      go_simp
      with_reducible rfl
    rotate_left
    · simp only [Act.put, List.setIfInBounds_toArray, List.set_cons_zero, List.set_cons_succ, i64_w, i32_w]
      rfl
    refine pure_ (i := 3) (N := some 10) (v := undef) (a' := ?_) #[true, true, true, true, false, false, false, false, false, false, false, false, false, false, false, false, false, false] rfl rfl (any_of HT_.out (by kernel_rfl)) (fun _ _ _ h => h) (Or.inr ⟨by rfl, rfl⟩) ?_ ?_
    rotate_left
    · simp only [Act.put, List.setIfInBounds_toArray, List.set_cons_zero, List.set_cons_succ, i64_w, i32_w]
      rfl
    refine pure_ (i := 4) (N := some 11) (v := undef) (a' := ?_) #[true, true, true, true, true, false, false, false, false, false, false, false, false, false, false, false, false, false] rfl rfl (any_of HT_.out (by kernel_rfl)) (fun _ _ _ h => h) (Or.inr ⟨by rfl, rfl⟩) ?_ ?_
    rotate_left
    · simp only [Act.put, List.setIfInBounds_toArray, List.set_cons_zero, List.set_cons_succ, i64_w, i32_w]
      rfl
    refine pure_ (i := 5) (N := some 12) (v := ?_) (a' := ?_) #[true, true, true, true, true, true, false, false, false, false, false, false, false, false, false, false, false, false] rfl rfl (any_of HT_.out (by kernel_rfl)) (fun _ _ _ h => h) (Or.inl ⟨by rfl, ?_⟩) ?_ ?_
    rotate_left
    · intro w'
      go_simp
      with_reducible rfl
    rotate_left
    · simp only [Act.put, List.setIfInBounds_toArray, List.set_cons_zero, List.set_cons_succ, i64_w, i32_w]
      rfl
    refine pure_ (i := 6) (N := some 13) (v := ?_) (a' := ?_) #[true, true, true, true, true, true, true, false, false, false, false, false, false, false, false, false, false, false] rfl rfl (any_of HT_.out (by kernel_rfl)) (fun _ _ _ h => h) (Or.inl ⟨by rfl, ?_⟩) ?_ ?_
    rotate_left
    · intro w'
      go_simp
      with_reducible rfl
    rotate_left
    · simp only [Act.put, List.setIfInBounds_toArray, List.set_cons_zero, List.set_cons_succ, i64_w, i32_w]
      rfl
    refine pure_ (i := 7) (N := some 14) (v := undef) (a' := ?_) #[true, true, true, true, true, true, true, true, false, false, false, false, false, false, false, false, false, false] rfl rfl (any_of HT_.out (by kernel_rfl)) (fun _ _ _ h => h) (Or.inr ⟨by rfl, rfl⟩) ?_ ?_
    rotate_left
    · simp only [Act.put, List.setIfInBounds_toArray, List.set_cons_zero, List.set_cons_succ, i64_w, i32_w]
      rfl
    refine pure_ (i := 8) (N := some 15) (v := undef) (a' := ?_) #[true, true, true, true, true, true, true, true, true, false, false, false, false, false, false, false, false, false] rfl rfl (any_of HT_.out (by kernel_rfl)) (fun _ _ _ h => h) (Or.inr ⟨by rfl, rfl⟩) ?_ ?_
    rotate_left
    · simp only [Act.put, List.setIfInBounds_toArray, List.set_cons_zero, List.set_cons_succ, i64_w, i32_w]
      rfl
    refine pure_ (i := 9) (N := some 16) (v := undef) (a' := ?_) #[true, true, true, true, true, true, true, true, true, true, false, false, false, false, false, false, false, false] rfl rfl (any_of HT_.out (by kernel_rfl)) (fun _ _ _ h => h) (Or.inr ⟨by rfl, rfl⟩) ?_ ?_
    rotate_left
    · simp only [Act.put, List.setIfInBounds_toArray, List.set_cons_zero, List.set_cons_succ, i64_w, i32_w]
      rfl
    refine pure_ (i := 10) (N := some 17) (v := undef) (a' := ?_) #[true, true, true, true, true, true, true, true, true, true, true, false, false, false, false, false, false, false] rfl rfl (any_of HT_.out (by kernel_rfl)) (fun _ _ _ h => h) (Or.inr ⟨by rfl, rfl⟩) ?_ ?_
    rotate_left
    · simp only [Act.put, List.setIfInBounds_toArray, List.set_cons_zero, List.set_cons_succ, i64_w, i32_w]
      rfl
    refine pure_ (i := 11) (N := some 18) (v := undef) (a' := ?_) #[true, true, true, true, true, true, true, true, true, true, true, true, false, false, false, false, false, false] rfl rfl (any_of HT_.out (by kernel_rfl)) (fun _ _ _ h => h) (Or.inr ⟨by rfl, rfl⟩) ?_ ?_
    rotate_left
    · simp only [Act.put, List.setIfInBounds_toArray, List.set_cons_zero, List.set_cons_succ, i64_w, i32_w]
      rfl
    refine pure_ (i := 12) (N := some 19) (v := undef) (a' := ?_) #[true, true, true, true, true, true, true, true, true, true, true, true, true, false, false, false, false, false] rfl rfl (any_of HT_.out (by kernel_rfl)) (fun _ _ _ h => h) (Or.inr ⟨by rfl, rfl⟩) ?_ ?_
    rotate_left
    · simp only [Act.put, List.setIfInBounds_toArray, List.set_cons_zero, List.set_cons_succ, i64_w, i32_w]
      rfl
    refine pure_ (i := 13) (N := some 20) (v := undef) (a' := ?_) #[true, true, true, true, true, true, true, true, true, true, true, true, true, true, false, false, false, false] rfl rfl (any_of HT_.out (by kernel_rfl)) (fun _ _ _ h => h) (Or.inr ⟨by rfl, rfl⟩) ?_ ?_
    rotate_left
    · simp only [Act.put, List.setIfInBounds_toArray, List.set_cons_zero, List.set_cons_succ, i64_w, i32_w]
      rfl
    refine pure_ (i := 14) (N := some 21) (v := undef) (a' := ?_) #[true, true, true, true, true, true, true, true, true, true, true, true, true, true, true, false, false, false] rfl rfl (any_of HT_.out (by kernel_rfl)) (fun _ _ _ h => h) (Or.inr ⟨by rfl, rfl⟩) ?_ ?_
    rotate_left
    · simp only [Act.put, List.setIfInBounds_toArray, List.set_cons_zero, List.set_cons_succ, i64_w, i32_w]
      rfl
    refine pure_ (i := 15) (N := some 22) (v := undef) (a' := ?_) #[true, true, true, true, true, true, true, true, true, true, true, true, true, true, true, true, false, false] rfl rfl (any_of HT_.out (by kernel_rfl)) (fun _ _ _ h => h) (Or.inr ⟨by rfl, rfl⟩) ?_ ?_
    rotate_left
    · simp only [Act.put, List.setIfInBounds_toArray, List.set_cons_zero, List.set_cons_succ, i64_w, i32_w]
      rfl
    refine pure_ (i := 16) (N := some 23) (v := ?_) (a' := ?_) #[true, true, true, true, true, true, true, true, true, true, true, true, true, true, true, true, true, false] rfl rfl (any_of HT_.out (by kernel_rfl)) (fun _ _ _ h => h) (Or.inl ⟨by rfl, ?_⟩) ?_ ?_
    rotate_left
    · intro w'
      go_simp
      with_reducible rfl
    rotate_left
    · simp only [Act.put, List.setIfInBounds_toArray, List.set_cons_zero, List.set_cons_succ, i64_w, i32_w]
      rfl
    refine pure_ (i := 17) (N := some 6) (v := ?_) (a' := ?_) #[true, true, true, true, true, true, true, true, true, true, true, true, true, true, true, true, true, true] rfl rfl (any_of HT_.out (by kernel_rfl)) (fun _ _ _ h => h) (Or.inl ⟨by rfl, ?_⟩) ?_ ?_
    rotate_left
    · intro w'
      go_simp
      with_reducible rfl
    rotate_left
    · simp only [Act.put, List.setIfInBounds_toArray, List.set_cons_zero, List.set_cons_succ, i64_w, i32_w]
      rfl
    refine done_ (done_of HT_.out (by kernel_rfl)) ?_
    try go_wp2
    go_ret
    exact ⟨by first | rfl | (simp [errW_none, errW_some] <;> rfl) | (simp [*, errW_none, errW_some] <;> rfl), by repeat (first | (with_reducible first | exact HB.out | apply below_alloc | apply pw_below_drewN | apply below_drew1 | refine below_set ?_ GE109.out | refine below_set ?_ GE110.out) | exact HB.out)⟩
def stringslite_HasSuffix.f (a0 : ByteArray) (a1 : ByteArray) : Option (Bool) := if (a0.size : Int) ≥ (a1.size : Int) then (if 0 ≤ (wrap64 ((a0.size : Int) - (a1.size : Int))) then (if (wrap64 ((a0.size : Int) - (a1.size : Int))) ≤ (a0.size : Int) then (some ((a0.extract ((wrap64 ((a0.size : Int) - (a1.size : Int))) : Int).toNat a0.size).toList == a1.toList)) else (none)) else (none)) else (some false)
set_option maxHeartbeats 8000000 in
set_option maxRecDepth 100000 in
theorem stringslite_HasSuffix.calls (a0 : ByteArray) (a1 : ByteArray) (r : Bool) (w : World) (h : stringslite_HasSuffix.f a0 a1 = some r) :
    Calls Tryd.prog 41 #[.string a0, .string a1] w fun e w' => e = .returned (.bool r) ∧ Drawn0 w w' := by
  have H : (if (a0.size : Int) ≥ (a1.size : Int) then (if 0 ≤ (wrap64 ((a0.size : Int) - (a1.size : Int))) then (if (wrap64 ((a0.size : Int) - (a1.size : Int))) ≤ (a0.size : Int) then (some ((a0.extract ((wrap64 ((a0.size : Int) - (a1.size : Int))) : Int).toNat a0.size).toList == a1.toList)) else (none)) else (none)) else (some false)) = some r := h
  clear h
  by_cases c3 : (a0.size : Int) ≥ (a1.size : Int)
  · rw [if_pos c3] at H
    have c3b0 : decide ((a1.size : Int) ≤ (a0.size : Int)) = true := decide_eq_true c3
    have c3b1 : decide (a1.size ≤ a0.size) = true := decide_eq_true (Int.ofNat_le.mp c3)
    clear c3
    obtain ⟨ji4, hji4⟩ : ∃ j_ : Int, (wrap64 ((a0.size : Int) - (a1.size : Int))) = j_ := ⟨_, rfl⟩
    replace H : (if 0 ≤ (ji4) then (if (ji4) ≤ (a0.size : Int) then (some ((a0.extract ((ji4) : Int).toNat a0.size).toList == a1.toList)) else (none)) else (none)) = some r := by first | (rw [hji4] at H; exact H) | (simp only [hji4] at H ⊢; exact H)
    have hji4w : (IntKind.i64.wrap ((a0.size : Int) - (a1.size : Int))) = ji4 := (i64_w _).trans hji4
    by_cases c5 : 0 ≤ (ji4)
    · rw [if_pos c5] at H
      have c5b0 := eq_true c5
      have c5b1 : decide (0 ≤ (ji4)) = true := decide_eq_true c5
      clear c5
      by_cases c6 : (ji4) ≤ (a0.size : Int)
      · rw [if_pos c6] at H
        have c6b0 := eq_true c6
        have c6b1 : decide ((ji4) ≤ (a0.size : Int)) = true := decide_eq_true c6
        clear c6
        obtain rfl := Option.some.inj H
        go_enter Tryd.func41, Tryd.ntmps41
        go_wp2
        go_ret
        exact ⟨by first | rfl | (simp; done) | (simp only [← hji4] <;> (first | rfl | simp)) | (simp [*]; done), by repeat (first | exact Drawn0.refl _ | apply Drawn0.step)⟩
      · rw [if_neg c6] at H
        exact absurd H (by simp)
    · rw [if_neg c5] at H
      exact absurd H (by simp)
  · rw [if_neg c3] at H
    have c3b0 : decide ((a1.size : Int) ≤ (a0.size : Int)) = false := decide_eq_false c3
    have c3b1 : decide (a1.size ≤ a0.size) = false := decide_eq_false (fun h => c3 (Int.ofNat_le.mpr h))
    clear c3
    obtain rfl := Option.some.inj H
    go_enter Tryd.func41, Tryd.ntmps41
    go_wp2
    go_ret
    exact ⟨by first | rfl | (simp; done) | (simp [*]; done), by repeat (first | exact Drawn0.refl _ | apply Drawn0.step)⟩
def stringslite_CutSuffix.f (a0 : ByteArray) (a1 : ByteArray) : Option (ByteArray × Bool) := (stringslite_HasSuffix.f a0 a1).bind fun t113 => (if t113 = true then (if 0 ≤ (wrap64 ((a0.size : Int) - (a1.size : Int))) then (if (wrap64 ((a0.size : Int) - (a1.size : Int))) ≤ (a0.size : Int) then (some (a0.extract 0 ((wrap64 ((a0.size : Int) - (a1.size : Int))) : Int).toNat, true)) else (none)) else (none)) else (some (a0, false)))
set_option maxHeartbeats 8000000 in
set_option maxRecDepth 100000 in
theorem stringslite_CutSuffix.calls (a0 : ByteArray) (a1 : ByteArray) (r1 : ByteArray) (r2 : Bool) (w : World) (h : stringslite_CutSuffix.f a0 a1 = some (r1, r2)) :
    Calls Tryd.prog 40 #[.string a0, .string a1] w fun e w' => e = .returned (.tuple #[.string r1, .bool r2]) ∧ Drawn0 w w' := by
  have H : ((stringslite_HasSuffix.f a0 a1).bind fun t113 => (if t113 = true then (if 0 ≤ (wrap64 ((a0.size : Int) - (a1.size : Int))) then (if (wrap64 ((a0.size : Int) - (a1.size : Int))) ≤ (a0.size : Int) then (some (a0.extract 0 ((wrap64 ((a0.size : Int) - (a1.size : Int))) : Int).toNat, true)) else (none)) else (none)) else (some (a0, false)))) = some (r1, r2) := h
  clear h
  replace H := Option.bind_eq_some_iff.mp H
  obtain ⟨t113, A30, H⟩ := H
  replace H : (if t113 = true then (if 0 ≤ (wrap64 ((a0.size : Int) - (a1.size : Int))) then (if (wrap64 ((a0.size : Int) - (a1.size : Int))) ≤ (a0.size : Int) then (some (a0.extract 0 ((wrap64 ((a0.size : Int) - (a1.size : Int))) : Int).toNat, true)) else (none)) else (none)) else (some (a0, false))) = some (r1, r2) := H
  have A3 := Aside0.mk A30
  clear A30
  by_cases c4 : t113 = true
  · subst c4
    have H1 : (if 0 ≤ (wrap64 ((a0.size : Int) - (a1.size : Int))) then (if (wrap64 ((a0.size : Int) - (a1.size : Int))) ≤ (a0.size : Int) then (some (a0.extract 0 ((wrap64 ((a0.size : Int) - (a1.size : Int))) : Int).toNat, true)) else (none)) else (none)) = some (r1, r2) := by rw [if_pos rfl] at H; exact H
    clear H
    have H := H1
    clear H1
    obtain ⟨ji5, hji5⟩ : ∃ j_ : Int, (wrap64 ((a0.size : Int) - (a1.size : Int))) = j_ := ⟨_, rfl⟩
    replace H : (if 0 ≤ (ji5) then (if (ji5) ≤ (a0.size : Int) then (some (a0.extract 0 ((ji5) : Int).toNat, true)) else (none)) else (none)) = some (r1, r2) := by first | (rw [hji5] at H; exact H) | (simp only [hji5] at H ⊢; exact H)
    (try rw [hji5] at A3)
    have hji5w : (IntKind.i64.wrap ((a0.size : Int) - (a1.size : Int))) = ji5 := (i64_w _).trans hji5
    by_cases c6 : 0 ≤ (ji5)
    · rw [if_pos c6] at H
      have c6b0 := eq_true c6
      have c6b1 : decide (0 ≤ (ji5)) = true := decide_eq_true c6
      clear c6
      by_cases c7 : (ji5) ≤ (a0.size : Int)
      · rw [if_pos c7] at H
        have c7b0 := eq_true c7
        have c7b1 : decide ((ji5) ≤ (a0.size : Int)) = true := decide_eq_true c7
        clear c7
        simp only [Option.some.injEq, Prod.mk.injEq] at H
        obtain ⟨rfl, rfl⟩ := H
        go_enter Tryd.func40, Tryd.ntmps40
        go_wp2_with (first | ((with_reducible refine gate_callee (f := 41) rfl ?_); refine goesL_ (some 8) rfl rfl Tryd.func41 (by kernel_rfl) rfl #[.string a0, .string a1] rfl (by (try simp only [List.map_toArray, List.map_cons, List.map_nil]); first | done | rfl | (simp only [List.length_drop, List.length_take]; rfl)) ?_; (with_reducible refine (stringslite_HasSuffix.calls a0 a1 true _ A3.out).mono ?_); rintro e w' ⟨rfl, ⟨nd, rfl⟩⟩; refine ⟨_, rfl, ?_⟩))
        go_ret2
        exact ⟨by first | rfl | (simp; done) | (simp only [← hji5] <;> (first | rfl | simp)) | (simp [*]; done), by repeat (first | exact Drawn0.refl _ | apply Drawn0.step)⟩
      · rw [if_neg c7] at H
        exact absurd H (by simp)
    · rw [if_neg c6] at H
      exact absurd H (by simp)
  · replace c4 := Bool.eq_false_iff.mpr c4
    subst c4
    have H1 : (some (a0, false)) = some (r1, r2) := by rw [if_neg (show ¬ (false = true) by decide)] at H; exact H
    clear H
    have H := H1
    clear H1
    simp only [Option.some.injEq, Prod.mk.injEq] at H
    obtain ⟨rfl, rfl⟩ := H
    go_enter Tryd.func40, Tryd.ntmps40
    go_wp2_with (first | ((with_reducible refine gate_callee (f := 41) rfl ?_); refine goesL_ (some 8) rfl rfl Tryd.func41 (by kernel_rfl) rfl #[.string a0, .string a1] rfl (by (try simp only [List.map_toArray, List.map_cons, List.map_nil]); first | done | rfl | (simp only [List.length_drop, List.length_take]; rfl)) ?_; (with_reducible refine (stringslite_HasSuffix.calls a0 a1 false _ A3.out).mono ?_); rintro e w' ⟨rfl, ⟨nd, rfl⟩⟩; refine ⟨_, rfl, ?_⟩))
    go_ret2
    exact ⟨by first | rfl | (simp; done) | (simp [*]; done), by repeat (first | exact Drawn0.refl _ | apply Drawn0.step)⟩
def strings_CutSuffix.f (a0 : ByteArray) (a1 : ByteArray) : Option (ByteArray × Bool) := (stringslite_CutSuffix.f a0 a1).bind fun bt114 => (some (bt114.1, bt114.2))
set_option maxHeartbeats 8000000 in
set_option maxRecDepth 100000 in
theorem strings_CutSuffix.calls (a0 : ByteArray) (a1 : ByteArray) (r1 : ByteArray) (r2 : Bool) (w : World) (h : strings_CutSuffix.f a0 a1 = some (r1, r2)) :
    Calls Tryd.prog 26 #[.string a0, .string a1] w fun e w' => e = .returned (.tuple #[.string r1, .bool r2]) ∧ Drawn0 w w' := by
  have H : ((stringslite_CutSuffix.f a0 a1).bind fun bt114 => (some (bt114.1, bt114.2))) = some (r1, r2) := h
  clear h
  replace H := Option.bind_eq_some_iff.mp H
  obtain ⟨⟨t114, t115⟩, A30, H⟩ := H
  replace H : (some (t114, t115)) = some (r1, r2) := H
  have A3 := Aside0.mk A30
  clear A30
  simp only [Option.some.injEq, Prod.mk.injEq] at H
  obtain ⟨rfl, rfl⟩ := H
  go_enter Tryd.func26, Tryd.ntmps26
  go_wp2_with (first | ((with_reducible refine gate_callee (f := 40) rfl ?_); refine goesL_ (some 8) rfl rfl Tryd.func40 (by kernel_rfl) rfl #[.string a0, .string a1] rfl (by (try simp only [List.map_toArray, List.map_cons, List.map_nil]); first | done | rfl | (simp only [List.length_drop, List.length_take]; rfl)) ?_; (with_reducible refine (stringslite_CutSuffix.calls a0 a1 t114 t115 _ A3.out).mono ?_); rintro e w' ⟨rfl, ⟨nd, rfl⟩⟩; refine ⟨_, rfl, ?_⟩))
  go_ret2
  exact ⟨by first | rfl | (simp; done) | (simp [*]; done), by repeat (first | exact Drawn0.refl _ | apply Drawn0.step)⟩
def strings_HasSuffix.f (a0 : ByteArray) (a1 : ByteArray) : Option (Bool) := (stringslite_HasSuffix.f a0 a1).bind fun t116 => (some t116)
set_option maxHeartbeats 8000000 in
set_option maxRecDepth 100000 in
theorem strings_HasSuffix.calls (a0 : ByteArray) (a1 : ByteArray) (r : Bool) (w : World) (h : strings_HasSuffix.f a0 a1 = some r) :
    Calls Tryd.prog 27 #[.string a0, .string a1] w fun e w' => e = .returned (.bool r) ∧ Drawn0 w w' := by
  have H : ((stringslite_HasSuffix.f a0 a1).bind fun t116 => (some t116)) = some r := h
  clear h
  replace H := Option.bind_eq_some_iff.mp H
  obtain ⟨t116, A30, H⟩ := H
  replace H : (some t116) = some r := H
  have A3 := Aside0.mk A30
  clear A30
  obtain rfl := Option.some.inj H
  go_enter Tryd.func27, Tryd.ntmps27
  go_wp2_with (first | ((with_reducible refine gate_callee (f := 41) rfl ?_); refine goesL_ (some 7) rfl rfl Tryd.func41 (by kernel_rfl) rfl #[.string a0, .string a1] rfl (by (try simp only [List.map_toArray, List.map_cons, List.map_nil]); first | done | rfl | (simp only [List.length_drop, List.length_take]; rfl)) ?_; (with_reducible refine (stringslite_HasSuffix.calls a0 a1 t116 _ A3.out).mono ?_); rintro e w' ⟨rfl, ⟨nd, rfl⟩⟩; refine ⟨_, rfl, ?_⟩))
  go_ret
  exact ⟨by first | rfl | (simp; done) | (simp [*]; done), by repeat (first | exact Drawn0.refl _ | apply Drawn0.step)⟩
def host_Under.f (a0 : ByteArray) (a1 : ByteArray) : Option (Bool) := (strings_CutSuffix.f a0 a1).bind fun bt117 => (if a1.toList = ([] : List UInt8) then (some false) else (if bt117.2 = true then (if bt117.1.toList = ([] : List UInt8) then (some true) else ((strings_HasSuffix.f bt117.1 (⟨#[46]⟩ : ByteArray)).bind fun t119 => (some t119))) else (some false)))
set_option maxHeartbeats 8000000 in
set_option maxRecDepth 100000 in
theorem host_Under.calls (a0 : ByteArray) (a1 : ByteArray) (r : Bool) (w : World) (h : host_Under.f a0 a1 = some r) :
    Calls Tryd.prog 16 #[.string a0, .string a1] w fun e w' => e = .returned (.bool r) ∧ Drawn0 w w' := by
  have H : ((strings_CutSuffix.f a0 a1).bind fun bt117 => (if a1.toList = ([] : List UInt8) then (some false) else (if bt117.2 = true then (if bt117.1.toList = ([] : List UInt8) then (some true) else ((strings_HasSuffix.f bt117.1 (⟨#[46]⟩ : ByteArray)).bind fun t119 => (some t119))) else (some false)))) = some r := h
  clear h
  replace H := Option.bind_eq_some_iff.mp H
  obtain ⟨⟨t117, t118⟩, A30, H⟩ := H
  replace H : (if a1.toList = ([] : List UInt8) then (some false) else (if t118 = true then (if t117.toList = ([] : List UInt8) then (some true) else ((strings_HasSuffix.f t117 (⟨#[46]⟩ : ByteArray)).bind fun t119 => (some t119))) else (some false))) = some r := H
  have A3 := Aside0.mk A30
  clear A30
  by_cases c4 : a1.toList = ([] : List UInt8)
  · rw [if_pos c4] at H
    have c4b0 : (a1.toList == ([] : List UInt8)) = true := beq_iff_eq.mpr c4
    have c4b1 : (a1.toList != ([] : List UInt8)) = false := bne_eq_false_iff_eq.mpr c4
    clear c4
    obtain rfl := Option.some.inj H
    go_enter Tryd.func16, Tryd.ntmps16
    go_wp2_with (first | ((with_reducible refine gate_callee (f := 26) rfl ?_); refine goesL_ (some 10) rfl rfl Tryd.func26 (by kernel_rfl) rfl #[.string a0, .string a1] rfl (by (try simp only [List.map_toArray, List.map_cons, List.map_nil]); first | done | rfl | (simp only [List.length_drop, List.length_take]; rfl)) ?_; (with_reducible refine (strings_CutSuffix.calls a0 a1 t117 t118 _ A3.out).mono ?_); rintro e w' ⟨rfl, ⟨nd, rfl⟩⟩; refine ⟨_, rfl, ?_⟩))
    go_ret
    exact ⟨by first | rfl | (simp; done) | (simp [*]; done), by repeat (first | exact Drawn0.refl _ | apply Drawn0.step)⟩
  · rw [if_neg c4] at H
    have c4b0 : (a1.toList == ([] : List UInt8)) = false := beq_eq_false_iff_ne.mpr c4
    have c4b1 : (a1.toList != ([] : List UInt8)) = true := bne_iff_ne.mpr c4
    by_cases c5 : t118 = true
    · subst c5
      have H1 : (if t117.toList = ([] : List UInt8) then (some true) else ((strings_HasSuffix.f t117 (⟨#[46]⟩ : ByteArray)).bind fun t119 => (some t119))) = some r := by rw [if_pos rfl] at H; exact H
      clear H
      have H := H1
      clear H1
      by_cases c6 : t117.toList = ([] : List UInt8)
      · rw [if_pos c6] at H
        have c6b0 : (t117.toList == ([] : List UInt8)) = true := beq_iff_eq.mpr c6
        have c6b1 : (t117.toList != ([] : List UInt8)) = false := bne_eq_false_iff_eq.mpr c6
        clear c6
        obtain rfl := Option.some.inj H
        go_enter Tryd.func16, Tryd.ntmps16
        go_wp2_with (first | ((with_reducible refine gate_callee (f := 26) rfl ?_); refine goesL_ (some 10) rfl rfl Tryd.func26 (by kernel_rfl) rfl #[.string a0, .string a1] rfl (by (try simp only [List.map_toArray, List.map_cons, List.map_nil]); first | done | rfl | (simp only [List.length_drop, List.length_take]; rfl)) ?_; (with_reducible refine (strings_CutSuffix.calls a0 a1 t117 true _ A3.out).mono ?_); rintro e w' ⟨rfl, ⟨nd, rfl⟩⟩; refine ⟨_, rfl, ?_⟩))
        go_ret
        exact ⟨by first | rfl | (simp; done) | (simp [*]; done), by repeat (first | exact Drawn0.refl _ | apply Drawn0.step)⟩
      · rw [if_neg c6] at H
        have c6b0 : (t117.toList == ([] : List UInt8)) = false := beq_eq_false_iff_ne.mpr c6
        have c6b1 : (t117.toList != ([] : List UInt8)) = true := bne_iff_ne.mpr c6
        replace H := Option.bind_eq_some_iff.mp H
        obtain ⟨t119, A70, H⟩ := H
        replace H : (some t119) = some r := H
        have A7 := Aside0.mk A70
        clear A70
        obtain rfl := Option.some.inj H
        go_enter Tryd.func16, Tryd.ntmps16
        go_wp2_with (first | ((with_reducible refine gate_callee (f := 26) rfl ?_); refine goesL_ (some 10) rfl rfl Tryd.func26 (by kernel_rfl) rfl #[.string a0, .string a1] rfl (by (try simp only [List.map_toArray, List.map_cons, List.map_nil]); first | done | rfl | (simp only [List.length_drop, List.length_take]; rfl)) ?_; (with_reducible refine (strings_CutSuffix.calls a0 a1 t117 true _ A3.out).mono ?_); rintro e w' ⟨rfl, ⟨nd, rfl⟩⟩; refine ⟨_, rfl, ?_⟩) | (go_at_call 27; (with_reducible refine (strings_HasSuffix.calls t117 (⟨#[46]⟩ : ByteArray) t119 _ A7.out).mono ?_); rintro e w' ⟨rfl, ⟨nd, rfl⟩⟩))
        go_ret
        exact ⟨by first | rfl | (simp; done) | (simp [*]; done), by repeat (first | exact Drawn0.refl _ | apply Drawn0.step)⟩
    · replace c5 := Bool.eq_false_iff.mpr c5
      subst c5
      have H1 : (some false) = some r := by rw [if_neg (show ¬ (false = true) by decide)] at H; exact H
      clear H
      have H := H1
      clear H1
      obtain rfl := Option.some.inj H
      go_enter Tryd.func16, Tryd.ntmps16
      go_wp2_with (first | ((with_reducible refine gate_callee (f := 26) rfl ?_); refine goesL_ (some 10) rfl rfl Tryd.func26 (by kernel_rfl) rfl #[.string a0, .string a1] rfl (by (try simp only [List.map_toArray, List.map_cons, List.map_nil]); first | done | rfl | (simp only [List.length_drop, List.length_take]; rfl)) ?_; (with_reducible refine (strings_CutSuffix.calls a0 a1 t117 false _ A3.out).mono ?_); rintro e w' ⟨rfl, ⟨nd, rfl⟩⟩; refine ⟨_, rfl, ?_⟩))
      go_ret
      exact ⟨by first | rfl | (simp; done) | (simp [*]; done), by repeat (first | exact Drawn0.refl _ | apply Drawn0.step)⟩
end Go.Proofs.YteondnhokgmakaaDoor.XC


namespace Go.Proofs.YteondnhokgmakaaDoor.XC
open Go.RowKit Go.Proofs.YteondnhokgmakaaDoorW.PrintWords Go.Proofs.YteondnhokgmakaaDoorW.PrintLast Go.Proofs.YteondnhokgmakaaDoorW.PrintMore
attribute [local go_sem] max2_int min2_int max_two min_two max_three min_three max_four min_four
set_option linter.unusedVariables false
set_option linter.unusedSimpArgs false
end Go.Proofs.YteondnhokgmakaaDoor.XC


namespace Go.Proofs.YteondnhokgmakaaDoor.E
open Go.RowKit Go.Proofs.YteondnhokgmakaaDoorW.PrintWords Go.Proofs.YteondnhokgmakaaDoorW.PrintLast
set_option linter.unusedVariables false
set_option linter.unusedSimpArgs false
def Blk (w : World) (R : Nat) (C : Array Value) (T : TypeId) : Prop := w.heap[R]? = some (.cells C T (0, 0))
theorem Blk.cell {w : World} {R : Nat} {C : Array Value} {T : TypeId} (h : Blk w R C T) (j : Nat) (v : Value) (hj : C[j]? = some v) : w.cell? ⟨R, j, none⟩ = some v := by
  unfold World.cell?; rw [show w.heap[R]? = _ from h]; exact hj
theorem Blk.free {w : World} {R : Nat} {C : Array Value} {T : TypeId} (h : Blk w R C T) (j : Nat) : w.frozen? ⟨R, j, none⟩ = false := by
  unfold World.frozen?; rw [show w.heap[R]? = _ from h]; simp
theorem Blk.lt {w : World} {R : Nat} {C : Array Value} {T : TypeId} (h : Blk w R C T) : R < w.heap.size := (Array.getElem?_eq_some_iff.1 h).1
theorem Blk.below {w w1 : World} {R : Nat} {C : Array Value} {T : TypeId} (h : Blk w R C T) (hb : Below w.heap.size w w1) : Blk w1 R C T := (hb.block R h.lt).trans h
theorem Blk.set {w : World} {R : Nat} {C : Array Value} {T : TypeId} (h : Blk w R C T) (j : Nat) (v : Value) : Blk (w.setCell ⟨R, j, none⟩ v) R (C.setIfInBounds j v) T := by
  unfold Blk World.setCell
  simp only [Option.isSome_none, Bool.false_eq_true, if_false]
  rw [Array.getElem?_modify, if_pos rfl, show w.heap[R]? = _ from h]; rfl
theorem Blk.other {w : World} {R : Nat} {C : Array Value} {T : TypeId} (h : Blk w R C T) (p : Addr) (hp : R ≠ p.block) (v : Value) : Blk (w.setCell p v) R C T := (Below.heap_setCell _ _ _ _ hp).trans h
theorem Blk.new (w : World) (C : Array Value) (T : TypeId) : Blk (w.alloc (.cells C T)) w.heap.size C T := heap_alloc_new w _
theorem Blk.old {w : World} {R : Nat} {C : Array Value} {T : TypeId} (h : Blk w R C T) (o : Obj) : Blk (w.alloc o) R C T := (Below.heap_alloc _ _ _ h.lt).trans h
def rc (al : Bool) (a b c d bi : Int) (su : ByteArray) (lo hi : Int) : Array Value := #[.bool al, .int .u8 a, .int .u8 b, .int .u8 c, .int .u8 d, .int .i64 bi, .string su, .int .i64 lo, .int .i64 hi]
theorem Blk.nine {w : World} {R : Nat} {al : Bool} {a b c d bi : Int} {su : ByteArray} {lo hi : Int} {T : TypeId} (h : Blk w R (rc al a b c d bi su lo hi) T) :
    w.cell? ⟨R, 0, none⟩ = some (.bool al) ∧ w.cell? ⟨R, 1, none⟩ = some (.int .u8 a) ∧ w.cell? ⟨R, 2, none⟩ = some (.int .u8 b) ∧ w.cell? ⟨R, 3, none⟩ = some (.int .u8 c) ∧ w.cell? ⟨R, 4, none⟩ = some (.int .u8 d) ∧ w.cell? ⟨R, 5, none⟩ = some (.int .i64 bi) ∧ w.cell? ⟨R, 6, none⟩ = some (.string su) ∧ w.cell? ⟨R, 7, none⟩ = some (.int .i64 lo) ∧ w.cell? ⟨R, 8, none⟩ = some (.int .i64 hi) :=
  ⟨h.cell 0 _ rfl, h.cell 1 _ rfl, h.cell 2 _ rfl, h.cell 3 _ rfl, h.cell 4 _ rfl, h.cell 5 _ rfl, h.cell 6 _ rfl, h.cell 7 _ rfl, h.cell 8 _ rfl⟩
theorem Blk.frees {w : World} {R : Nat} {C : Array Value} {T : TypeId} (h : Blk w R C T) :
    w.frozen? ⟨R, 0, none⟩ = false ∧ w.frozen? ⟨R, 1, none⟩ = false ∧ w.frozen? ⟨R, 2, none⟩ = false ∧ w.frozen? ⟨R, 3, none⟩ = false ∧ w.frozen? ⟨R, 4, none⟩ = false ∧ w.frozen? ⟨R, 5, none⟩ = false ∧ w.frozen? ⟨R, 6, none⟩ = false ∧ w.frozen? ⟨R, 7, none⟩ = false ∧ w.frozen? ⟨R, 8, none⟩ = false :=
  ⟨h.free 0, h.free 1, h.free 2, h.free 3, h.free 4, h.free 5, h.free 6, h.free 7, h.free 8⟩
theorem Blk.ids {w : World} {R : Nat} {T : TypeId} (h : Blk w R (rc false 0 0 0 0 0 ⟨#[]⟩ 0 0) T) :
    w.setCell ⟨R, 0, none⟩ (.bool false) = w ∧ w.setCell ⟨R, 1, none⟩ (.int .u8 0) = w ∧ w.setCell ⟨R, 2, none⟩ (.int .u8 0) = w ∧ w.setCell ⟨R, 3, none⟩ (.int .u8 0) = w ∧ w.setCell ⟨R, 4, none⟩ (.int .u8 0) = w ∧ w.setCell ⟨R, 5, none⟩ (.int .i64 0) = w ∧ w.setCell ⟨R, 6, none⟩ (.string ⟨#[]⟩) = w ∧ w.setCell ⟨R, 7, none⟩ (.int .i64 0) = w ∧ w.setCell ⟨R, 8, none⟩ (.int .i64 0) = w :=
  ⟨setCell_id _ _ _ _ (h.cell 0 _ rfl), setCell_id _ _ _ _ (h.cell 1 _ rfl), setCell_id _ _ _ _ (h.cell 2 _ rfl), setCell_id _ _ _ _ (h.cell 3 _ rfl), setCell_id _ _ _ _ (h.cell 4 _ rfl), setCell_id _ _ _ _ (h.cell 5 _ rfl), setCell_id _ _ _ _ (h.cell 6 _ rfl), setCell_id _ _ _ _ (h.cell 7 _ rfl), setCell_id _ _ _ _ (h.cell 8 _ rfl)⟩
def wordsS (s : ByteArray) : List ByteArray := Lib.splitB ⟨#[32]⟩ 0 (Lib.countB s ⟨#[32]⟩) s
theorem split_blanks (s : ByteArray) (hs : s.size < 4294967281) (w : World) (hS : StdW w) :
    Calls Tryd.prog 22 #[.string s, .string ⟨#[32]⟩] w fun e w' => e = .returned (.slice (some ⟨w.heap.size, 0, none⟩) (wordsS s).length (wordsS s).length) ∧ (∀ j, (h : j < (wordsS s).length) → w'.cell? ⟨w.heap.size, j, none⟩ = some (.string (wordsS s)[j])) ∧ w.heap.size < w'.heap.size ∧ Below w.heap.size w w' := by
  obtain ⟨m, hm⟩ := hS.max
  refine (Tryd.strings_Split s ⟨#[32]⟩ m w hs hm (Nat.le_refl _)).mono ?_
  rintro e w' ⟨rfl, rfl⟩
  have hl := Lib.splitB_all ⟨#[32]⟩ (Nat.le_refl _) 0 _ s rfl
  refine ⟨by unfold wordsS; rw [hl], fun j hj => ?_, by simp, (Below.refl _ _).alloc (Nat.le_refl _) _⟩
  unfold wordsS at hj ⊢
  rw [World.cell?_alloc_new, List.getElem?_toArray, List.getElem?_map, List.getElem?_eq_getElem hj]
  rfl
def zeroRule : Value := .tuple #[.agg (rc false 0 0 0 0 0 ⟨#[]⟩ 0 0), .int .i64 120]
def ppOut (fin al : Bool) (a b c d bi : Int) (su : ByteArray) (lo hi : Int) : Value := if fin then .tuple #[.agg (rc al a b c d bi su lo hi), .int .i64 0] else zeroRule
set_option maxRecDepth 100000 in
set_option maxHeartbeats 4000000 in

theorem pp_head (s : ByteArray) (hs : s.size < 4294967281) (hbad : 285 < s.size ∨ (wordsS s).length ≠ 3 ∨ ∃ h : 0 < (wordsS s).length, ((wordsS s)[0].toList == [97, 108, 108, 111, 119]) = false ∧ ((wordsS s)[0].toList == [100, 101, 110, 121]) = false) (w : World) (hS : StdW w) :
    Calls Tryd.prog 11 #[.string s] w fun e w' => e = .returned zeroRule ∧ Below w.heap.size w w' := by
  have HSP := Lib.hid (fun W (h : StdW W) => split_blanks s hs W h)
  have HS := Lib.hid hS
  clear hS
  by_cases h1 : 285 < s.size
  · have h1' : (285 : Int) < (s.size : Int) := by omega
    clear hbad
    go_enter Tryd.func11, Tryd.ntmps11
    go_wp2_with (first | (go_at_call 22; refine (HSP.out _ (StdW.below HS.out (below_alloc (Below.refl _ _) _))).mono ?_; rintro e w1 ⟨rfl, hc, hlt1, hb1⟩; have HC := Lib.hid hc; clear hc; have HZ := Lib.hid ((Blk.new w (rc false 0 0 0 0 0 ⟨#[]⟩ 0 0) _).below hb1); obtain ⟨c0, c1, c2, c3, c4, c5, c6, c7, c8⟩ := HZ.out.nine; obtain ⟨f0, f1, f2, f3, f4, f5, f6, f7, f8⟩ := HZ.out.frees; obtain ⟨i0, i1, i2, i3, i4, i5, i6, i7, i8⟩ := HZ.out.ids))
    refine bodyPost_ret (v := zeroRule) (by simp [results, Tryd.results11, go_sem, c0, c1, c2, c3, c4, c5, c6, c7, c8, zeroRule, rc]) rfl ⟨rfl, ?_⟩
    exact below_then (below_alloc (Below.refl _ _) _) (below_alloc (Below.refl _ _) _).size hb1
  · have h1' : (s.size : Int) ≤ 285 := by omega
    generalize wordsS s = l at HSP hbad
    by_cases h2 : l.length = 3
    · have hb2 : ∃ h : 0 < l.length, (l[0].toList == [97, 108, 108, 111, 119]) = false ∧ (l[0].toList == [100, 101, 110, 121]) = false := by
        rcases hbad with h | h | h
        · exact absurd h h1
        · exact absurd h2 h
        · exact h
      obtain ⟨h0, ha, hd⟩ := hb2
      have hl3 : ((l.length : Int) != 3) = false := by rw [h2]; rfl
      have hl0 : (0 : Int) < (l.length : Int) := by omega
      generalize hw0 : l[0] = w0 at ha hd
      have HW0 := Lib.hid hw0
      clear hbad h1 h2 hw0
      go_enter Tryd.func11, Tryd.ntmps11
      go_wp2_with (first | (go_at_call 22; refine (HSP.out _ (StdW.below HS.out (below_alloc (Below.refl _ _) _))).mono ?_; rintro e w1 ⟨rfl, hc, hlt1, hb1⟩; have hc0 := hc 0 h0; rw [HW0.out, World.size_alloc] at hc0; clear hc; have HZ := Lib.hid ((Blk.new w (rc false 0 0 0 0 0 ⟨#[]⟩ 0 0) _).below hb1); obtain ⟨c0, c1, c2, c3, c4, c5, c6, c7, c8⟩ := HZ.out.nine; obtain ⟨f0, f1, f2, f3, f4, f5, f6, f7, f8⟩ := HZ.out.frees; obtain ⟨i0, i1, i2, i3, i4, i5, i6, i7, i8⟩ := HZ.out.ids))
      refine bodyPost_ret (v := zeroRule) (by simp [results, Tryd.results11, go_sem, c0, c1, c2, c3, c4, c5, c6, c7, c8, zeroRule, rc]) rfl ⟨rfl, ?_⟩
      exact below_then (below_alloc (Below.refl _ _) _) (below_alloc (Below.refl _ _) _).size hb1
    · have hl3 : ((l.length : Int) != 3) = true := by rw [bne_iff_ne]; omega
      clear hbad h1
      go_enter Tryd.func11, Tryd.ntmps11
      go_wp2_with (first | (go_at_call 22; refine (HSP.out _ (StdW.below HS.out (below_alloc (Below.refl _ _) _))).mono ?_; rintro e w1 ⟨rfl, hc, hlt1, hb1⟩; clear hc; have HZ := Lib.hid ((Blk.new w (rc false 0 0 0 0 0 ⟨#[]⟩ 0 0) _).below hb1); obtain ⟨c0, c1, c2, c3, c4, c5, c6, c7, c8⟩ := HZ.out.nine; obtain ⟨f0, f1, f2, f3, f4, f5, f6, f7, f8⟩ := HZ.out.frees; obtain ⟨i0, i1, i2, i3, i4, i5, i6, i7, i8⟩ := HZ.out.ids))
      refine bodyPost_ret (v := zeroRule) (by simp [results, Tryd.results11, go_sem, c0, c1, c2, c3, c4, c5, c6, c7, c8, zeroRule, rc]) rfl ⟨rfl, ?_⟩
      exact below_then (below_alloc (Below.refl _ _) _) (below_alloc (Below.refl _ _) _).size hb1
end Go.Proofs.YteondnhokgmakaaDoor.E


namespace Go.Proofs.YteondnhokgmakaaDoor.E
open Go.RowKit Go.Proofs.YteondnhokgmakaaDoorW.PrintWords Go.Proofs.YteondnhokgmakaaDoorW.PrintLast Go.Proofs.YteondnhokgmakaaDoor.XC
set_option linter.unusedVariables false
set_option linter.unusedSimpArgs false
def rightB (r : S33) : Bool := (policy_right.f 1 r.f0 r.f1.f0 r.f1.f1 r.f1.f2 r.f1.f3 r.f2 r.f3 r.f4 r.f5).getD false
def checkL (l : List S33) : Int := if 64 < l.length then 3 else if l.all rightB then 0 else 120
def inB (a b c d e f g h bi : Int) : Bool := (host_In.f a b c d e f g h bi).getD false
def underB (n x : ByteArray) : Bool := (host_Under.f n x).getD false
def fitB (a b c d : Int) (n : ByteArray) (po : Int) (r : S33) : Bool :=
  if po < r.f4 then false else if r.f5 < po then false else if (r.f3.toList.isEmpty != n.toList.isEmpty) then false
  else if r.f3.toList.isEmpty then inB a b c d r.f1.f0 r.f1.f1 r.f1.f2 r.f1.f3 r.f2 else underB n r.f3
def whichAt (fit : S33 → Bool) : List S33 → Int → Int
  | [], _ => -1
  | r :: l, i => if fit r then i else whichAt fit l (i + 1)
def whichB (l : List S33) (a b c d : Int) (n : ByteArray) (po : Int) : Int :=
  if checkL l = 0 then if (printDestB a b c d n po).toList.isEmpty then -1 else whichAt (fitB a b c d n po) l 0 else -1
theorem wrap64_id (x : Int) (h0 : -9223372036854775808 ≤ x) (h1 : x ≤ 9223372036854775807) : wrap64 x = x := by
  unfold wrap64; omega
theorem inB_some (a b c d e f g h bi : Int) : host_In.f a b c d e f g h bi = some (inB a b c d e f g h bi) := by
  unfold inB
  have : ∃ r, host_In.f a b c d e f g h bi = some r := by
    unfold host_In.f
    split
    · split
      · have : (0 : Int) ≤ wrap64 (32 - bi) := by rw [wrap64_id _ (by omega) (by omega)]; omega
        simp only [host_word.f, Option.bind_some, if_pos this]
        exact ⟨_, rfl⟩
      · exact ⟨_, rfl⟩
    · exact ⟨_, rfl⟩
  obtain ⟨r, hr⟩ := this
  rw [hr]; rfl
theorem hasSuffix_some (a b : ByteArray) (ha : a.size ≤ 281474976710656) : stringslite_HasSuffix.f a b = some (decide (b.size ≤ a.size) && ((a.extract (a.size - b.size) a.size).toList == b.toList)) := by
  unfold stringslite_HasSuffix.f
  by_cases h : (a.size : Int) ≥ (b.size : Int)
  · have e : wrap64 ((a.size : Int) - (b.size : Int)) = (a.size : Int) - (b.size : Int) := wrap64_id _ (by omega) (by omega)
    rw [if_pos h, e, if_pos (by omega), if_pos (by omega), show ((a.size : Int) - (b.size : Int)).toNat = a.size - b.size by omega, decide_eq_true (show b.size ≤ a.size by omega)]; rfl
  · rw [if_neg h, decide_eq_false (show ¬ b.size ≤ a.size by omega)]; rfl
theorem underB_some (n x : ByteArray) (hn : n.size ≤ 281474976710656) : host_Under.f n x = some (underB n x) := by
  unfold underB
  have : ∃ r, host_Under.f n x = some r := by
    have hc : ∃ p, strings_CutSuffix.f n x = some p ∧ p.1.size ≤ 281474976710656 := by
      unfold strings_CutSuffix.f stringslite_CutSuffix.f
      rw [hasSuffix_some _ _ hn]
      simp only [Option.bind_some]
      split
      · rename_i hb
        have hle : x.size ≤ n.size := by
          have := (Bool.and_eq_true_iff.mp hb).1; exact of_decide_eq_true this
        have e : wrap64 ((n.size : Int) - (x.size : Int)) = (n.size : Int) - (x.size : Int) := wrap64_id _ (by omega) (by omega)
        rw [e, if_pos (by omega), if_pos (by omega)]
        refine ⟨_, rfl, ?_⟩
        show (n.extract 0 _).size ≤ _
        rw [ByteArray.size_extract]; omega
      · exact ⟨_, rfl, hn⟩
    obtain ⟨p, hp, hps⟩ := hc
    unfold host_Under.f
    rw [hp]
    simp only [Option.bind_some]
    split
    · exact ⟨_, rfl⟩
    · split
      · split
        · exact ⟨_, rfl⟩
        · unfold strings_HasSuffix.f
          rw [hasSuffix_some _ _ hps]
          exact ⟨_, rfl⟩
      · exact ⟨_, rfl⟩
  obtain ⟨r, hr⟩ := this
  rw [hr]; rfl
theorem rightB_some (k : Nat) (r : S33) (hs : r.f3.size ≤ 281474976710656) : policy_right.f (k + 1) r.f0 r.f1.f0 r.f1.f1 r.f1.f2 r.f1.f3 r.f2 r.f3 r.f4 r.f5 = some (rightB r) := by
  have he : policy_right.f (k + 1) r.f0 r.f1.f0 r.f1.f1 r.f1.f2 r.f1.f3 r.f2 r.f3 r.f4 r.f5 = policy_right.f 1 r.f0 r.f1.f0 r.f1.f1 r.f1.f2 r.f1.f3 r.f2 r.f3 r.f4 r.f5 := by
    unfold policy_right.f policy_right.j0; rfl
  rw [he]
  unfold rightB
  have : ∃ x, policy_right.f 1 r.f0 r.f1.f0 r.f1.f1 r.f1.f2 r.f1.f3 r.f2 r.f3 r.f4 r.f5 = some x := by
    have hj : ∀ t, ∃ x, policy_right.j0 1 t r.f0 r.f1.f0 r.f1.f1 r.f1.f2 r.f1.f3 r.f2 r.f3 r.f4 r.f5 = some x := by
      intro t
      simp only [policy_right.j0, E.hCheck.f, policy_bits.f, if_pos hs, Option.bind_some]
      split
      · exact ⟨_, rfl⟩
      · split
        · split
          · split
            · exact ⟨_, rfl⟩
            · exact ⟨_, rfl⟩
          · exact ⟨_, rfl⟩
        · split
          · split <;> exact ⟨_, rfl⟩
          · exact ⟨_, rfl⟩
    unfold policy_right.f
    split
    · exact hj _
    · split
      · exact hj _
      · exact hj _
  obtain ⟨x, hx⟩ := this
  rw [hx]; rfl
theorem checkL_some (l : List S33) (hs : ∀ r ∈ l, r.f3.size ≤ 281474976710656) : policy_Check.f 67 l = some (checkL l) := by
  unfold policy_Check.f checkL
  by_cases h : 64 < l.length
  · rw [if_pos (by omega), if_pos h]
  · rw [if_neg (by omega), if_neg h]
    have main : ∀ m k : Nat, ∀ j : Nat, j + m = l.length → m < k → policy_Check.l0 (k + 1) l (l.length : Int) (j : Int) = some (if (l.drop j).all rightB then 0 else 120) := by
      intro m
      induction m with
      | zero =>
        intro k j hj hk
        unfold policy_Check.l0
        rw [if_neg (by omega), List.drop_of_length_le (by omega)]
        rfl
      | succ m ih =>
        intro k j hj hk
        have hjl : j < l.length := by omega
        unfold policy_Check.l0
        have hrd : rd_T33 l (j : Int) = l[j] := by
          unfold rd_T33
          rw [show ((j : Int)).toNat = j by omega, List.getD_eq_getElem?_getD, List.getElem?_eq_getElem hjl]; rfl
        rw [if_pos (by omega), if_pos (by omega), if_pos (by omega), hrd, List.drop_eq_getElem_cons hjl, List.all_cons]
        cases k with
        | zero => omega
        | succ k =>
          rw [rightB_some k _ (hs _ (List.getElem_mem hjl)), Option.bind_some]
          cases hb : rightB l[j]
          · rw [if_neg (by simp)]; rfl
          · rw [if_pos rfl, wrap64_id _ (by omega) (by omega), show (j : Int) + 1 = ((j + 1 : Nat) : Int) by omega, ih k (j + 1) (by omega) (by omega)]; rfl
    have := main l.length 66 0 (by omega) (by omega)
    rw [List.drop_zero] at this
    exact this
end Go.Proofs.YteondnhokgmakaaDoor.E


namespace Go.Proofs.YteondnhokgmakaaDoor.E
open Go.RowKit Go.Proofs.YteondnhokgmakaaDoorW.PrintWords Go.Proofs.YteondnhokgmakaaDoorW.PrintLast Go.Proofs.YteondnhokgmakaaDoor.XC
set_option linter.unusedVariables false
set_option linter.unusedSimpArgs false
theorem index_none1 (c : UInt8) : ∀ l : List UInt8, c ∉ l → Lib.index l [c] = -1
  | [], _ => by simp [Lib.index]
  | b :: l, h => by
    have hb : ([c] : List UInt8).isPrefixOf (b :: l) = false := by simp [List.isPrefixOf]; rintro rfl; exact h List.mem_cons_self
    have ih := index_none1 c l (fun e => h (List.mem_cons_of_mem _ e))
    unfold Lib.index
    rw [hb, ih]; rfl
theorem index_app1 (c : UInt8) (b : List UInt8) : ∀ a : List UInt8, c ∉ a → Lib.index (a ++ c :: b) [c] = a.length
  | [], _ => by
    show Lib.index (c :: b) [c] = _
    unfold Lib.index
    rw [if_pos (by simp [List.isPrefixOf])]; rfl
  | x :: a, h => by
    have hb : ([c] : List UInt8).isPrefixOf (x :: (a ++ c :: b)) = false := by simp [List.isPrefixOf]; rintro rfl; exact h List.mem_cons_self
    have ih := index_app1 c b a (fun e => h (List.mem_cons_of_mem _ e))
    show Lib.index (x :: (a ++ c :: b)) [c] = _
    unfold Lib.index
    rw [hb, ih]
    have : ((a.length : Int) == -1) = false := by rw [beq_eq_false_iff_ne]; omega
    simp [this]
theorem cut_none1 (c : UInt8) (l : List UInt8) (h : c ∉ l) : Lib.cut l [c] = (l, [], false) := by
  unfold Lib.cut
  rw [index_none1 c l h, if_neg (by omega)]
theorem cut_app1 (c : UInt8) (a b : List UInt8) (h : c ∉ a) : Lib.cut (a ++ c :: b) [c] = (a, b, true) := by
  unfold Lib.cut
  rw [index_app1 c b a h, if_pos (by omega)]
  simp
theorem cut_split (c : UInt8) (l : List UInt8) : (c ∉ l ∧ Lib.cut l [c] = (l, [], false)) ∨ (∃ a b, l = a ++ c :: b ∧ c ∉ a ∧ Lib.cut l [c] = (a, b, true)) := by
  by_cases h : c ∈ l
  · obtain ⟨a, b, rfl, hn⟩ := List.eq_append_cons_of_mem h
    exact .inr ⟨a, b, rfl, hn, cut_app1 c a b hn⟩
  · exact .inl ⟨h, cut_none1 c l h⟩
theorem cutOn_step (c x : UInt8) (l : List UInt8) : Pt.cutOn c (x :: l) = if x = c then [] :: Pt.cutOn c l else match Pt.cutOn c l with
    | [] => [[x]]
    | p :: r => (x :: p) :: r := rfl
theorem cutOn_none1 (c : UInt8) : ∀ l : List UInt8, c ∉ l → Pt.cutOn c l = [l]
  | [], _ => rfl
  | x :: l, h => by
    rw [cutOn_step, if_neg (show ¬ x = c from fun e => h (by rw [e]; exact List.mem_cons_self)), cutOn_none1 c l (fun e => h (List.mem_cons_of_mem _ e))]
theorem cutOn_app1 (c : UInt8) (b : List UInt8) : ∀ a : List UInt8, c ∉ a → Pt.cutOn c (a ++ c :: b) = a :: Pt.cutOn c b
  | [], _ => by rw [List.nil_append, cutOn_step, if_pos rfl]
  | x :: a, h => by
    rw [List.cons_append, cutOn_step, if_neg (show ¬ x = c from fun e => h (by rw [e]; exact List.mem_cons_self)), cutOn_app1 c b a (fun e => h (List.mem_cons_of_mem _ e))]
theorem itoa_dec (n : Int) (h : 0 ≤ n) : Lib.itoa n = Lib.decDigits n.toNat := by unfold Lib.itoa; rw [if_neg (by omega)]
theorem itoa_digs (n : Int) (h : 0 ≤ n) : ∀ c ∈ Lib.itoa n, 48 ≤ c.toNat ∧ c.toNat ≤ 57 := fun c hc => by
  rw [itoa_dec n h] at hc
  exact (Num.dig_iff c).1 (Num.dec_digits _ c hc)
theorem itoa_not (n : Int) (h : 0 ≤ n) (c : UInt8) (hc : c.toNat < 48) : c ∉ Lib.itoa n := fun hm => by have := itoa_digs n h c hm; omega
theorem numP_itoa (n : Int) (h0 : 0 ≤ n) (h1 : n < 9223372036854775808) : numOkP (Lib.itoa n) = true ∧ atoiV (Lib.itoa n) = n := by
  rw [itoa_dec n h0]
  have := numOkP_canon (Lib.decDigits n.toNat) (Num.canon_dec _) (by rw [Num.val_dec]; omega)
  rw [Num.val_dec] at this
  exact ⟨this.1, this.2.trans (by omega)⟩
theorem numP_back (l : List UInt8) (h : numOkP l = true) : Lib.itoa (atoiV l) = l ∧ 0 ≤ atoiV l := by
  obtain ⟨hc, hv, -⟩ := numOkP_iff l h
  rw [hv]
  exact ⟨Num.itoa_val l hc, by omega⟩
theorem num_itoa (n m : Int) (h0 : 0 ≤ n) (h1 : n ≤ m) (h2 : n < 9223372036854775808) : numOk (Lib.itoa n) m = true := by
  have hp := (numP_itoa n h0 h2)
  have hi : Lib.atoiAll (Lib.itoa n) = .ok n := by
    have := Num.atoi_canon (Lib.itoa n) (by rw [itoa_dec n h0]; exact Num.canon_dec _) (by rw [itoa_dec n h0, Num.val_dec]; omega)
    rw [this, itoa_dec n h0, Num.val_dec]
    congr 1; omega
  unfold numOk
  rw [hi]
  simp [h0, h1]
theorem num_back (l : List UInt8) (m : Int) (h : numOk l m = true) : Lib.itoa (atoiV l) = l ∧ 0 ≤ atoiV l ∧ atoiV l ≤ m := by
  unfold numOk at h
  unfold atoiV
  rcases ha : Lib.atoiAll l with v | _ | _
  · rw [ha] at h
    simp only [Bool.and_eq_true, decide_eq_true_eq, beq_iff_eq] at h
    exact ⟨h.2.2, h.1, h.2.1⟩
  · rw [ha] at h; cases h
  · rw [ha] at h; cases h
theorem data_inj {a b : ByteArray} (h : a.data.toList = b.data.toList) : a = b := ByteArray.ext (Array.toList_inj.1 h)
theorem map_data_inj : ∀ {a b : List ByteArray}, a.map (·.data.toList) = b.map (·.data.toList) → a = b
  | [], [], _ => rfl
  | [], _ :: _, h => by cases h
  | _ :: _, [], h => by cases h
  | x :: a, y :: b, h => by
    simp only [List.map_cons, List.cons.injEq] at h
    rw [data_inj h.1, map_data_inj h.2]
theorem addrS_list (a b c d : Int) : (addrS a b c d).data.toList = Lib.itoa a ++ 46 :: (Lib.itoa b ++ 46 :: (Lib.itoa c ++ 46 :: Lib.itoa d)) := by
  simp [addrS, it, Lib.join, List.intercalate, List.intersperse]
theorem addrS_parts (a b c d : Int) (ha : 0 ≤ a) (hb : 0 ≤ b) (hc : 0 ≤ c) (hd : 0 ≤ d) : parts (addrS a b c d) = [it a, it b, it c, it d] := by
  apply map_data_inj
  rw [parts_data, addrS_list, cutOn_app1 46 _ _ (itoa_not a ha 46 (by decide)), cutOn_app1 46 _ _ (itoa_not b hb 46 (by decide)), cutOn_app1 46 _ _ (itoa_not c hc 46 (by decide)), cutOn_none1 46 _ (itoa_not d hd 46 (by decide))]
  rfl
theorem paRes_addrS (a b c d : Int) (ha : 0 ≤ a) (ha1 : a ≤ 255) (hb : 0 ≤ b) (hb1 : b ≤ 255) (hc : 0 ≤ c) (hc1 : c ≤ 255) (hd : 0 ≤ d) (hd1 : d ≤ 255) : paRes (addrS a b c d) = .inr [a, b, c, d] := by
  have hz := addrS_size a b c d ha ha1 hb hb1 hc hc1 hd hd1
  have hsz : (addrS a b c d).size = (it a).size + (it b).size + (it c).size + (it d).size + 3 := by
    have := sumAt_parts (addrS a b c d)
    rw [addrS_parts a b c d ha hb hc hd] at this
    simp only [sumAt] at this
    omega
  have e : ∀ n, (it n).data.toList = Lib.itoa n := fun n => rfl
  unfold paRes
  rw [if_neg (by omega), addrS_parts a b c d ha hb hc hd]
  simp only [paLoop, e]
  rw [if_neg (by decide), num_itoa a 255 ha ha1 (by omega), if_neg (by decide), if_neg (by omega),
    if_neg (by decide), num_itoa b 255 hb hb1 (by omega), if_neg (by decide), if_neg (by omega),
    if_neg (by decide), num_itoa c 255 hc hc1 (by omega), if_neg (by decide), if_neg (by omega),
    if_neg (by decide), num_itoa d 255 hd hd1 (by omega), if_neg (by decide), if_neg (by omega),
    (numP_itoa a ha (by omega)).2, (numP_itoa b hb (by omega)).2, (numP_itoa c hc (by omega)).2, (numP_itoa d hd (by omega)).2]
  rfl
theorem paLoop_ok (sz : Int) : ∀ (ps : List ByteArray) (i a : Int) (acc l : List Int), paLoop sz i a ps acc = .inr l → (∀ p ∈ ps, numOk p.data.toList 255 = true) ∧ l = acc ++ ps.map (fun p => atoiV p.data.toList) ∧ (i ≤ 4 → i + ps.length ≤ 4)
  | [], i, a, acc, l, h => by
    simp only [paLoop] at h
    cases h
    exact ⟨fun p hp => (by cases hp), (by simp), fun h => (by simpa using h)⟩
  | p :: r, i, a, acc, l, h => by
    simp only [paLoop] at h
    split at h
    · cases h
    · rename_i hi
      split at h
      · cases h
      · rename_i hn
        split at h
        · cases h
        · obtain ⟨h1, h2, h3⟩ := paLoop_ok sz r _ _ _ _ h
          refine ⟨fun q hq => ?_, (by rw [h2]; simp), fun h4 => (by have := h3 (by omega); rw [List.length_cons]; omega)⟩
          rcases List.mem_cons.1 hq with rfl | hq
          · simpa using hn
          · exact h1 q hq
theorem paRes_back (s : ByteArray) (l : List Int) (h : paRes s = .inr l) : ∃ a b c d : Int, l = [a, b, c, d] ∧ s = addrS a b c d ∧ (0 ≤ a ∧ a ≤ 255) ∧ (0 ≤ b ∧ b ≤ 255) ∧ (0 ≤ c ∧ c ≤ 255) ∧ (0 ≤ d ∧ d ≤ 255) := by
  unfold paRes at h
  split at h
  · cases h
  · have hs := sumAt_parts s
    have hj := Pt.join_cutOn 46 s.data.toList
    rw [← parts_data] at hj
    have hp := parts_pos s
    generalize parts s = P at h hs hj hp
    match P, h, hs, hj, hp with
    | [p], h, hs, hj, _ =>
      simp only [paLoop, sumAt] at h hs
      repeat' split at h
      all_goals first | cases h; done | (exfalso; omega)
    | [p, q], h, hs, hj, _ =>
      simp only [paLoop, sumAt] at h hs
      repeat' split at h
      all_goals first | cases h; done | (exfalso; omega)
    | [p, q, r], h, hs, hj, _ =>
      simp only [paLoop, sumAt] at h hs
      repeat' split at h
      all_goals first | cases h; done | (exfalso; omega)
    | [p, q, r, t], h, hs, hj, _ =>
      obtain ⟨hn, hl, -⟩ := paLoop_ok _ _ _ _ _ _ h
      have b1 := num_back _ _ (hn p (by simp))
      have b2 := num_back _ _ (hn q (by simp))
      have b3 := num_back _ _ (hn r (by simp))
      have b4 := num_back _ _ (hn t (by simp))
      refine ⟨_, _, _, _, hl, data_inj ?_, b1.2, b2.2, b3.2, b4.2⟩
      rw [addrS_list, b1.1, b2.1, b3.1, b4.1, ← hj]
      simp [List.intercalate, List.intersperse]
    | p :: q :: r :: t :: u :: v, h, hs, hj, _ =>
      obtain ⟨-, -, h3⟩ := paLoop_ok _ _ _ _ _ _ h
      have := h3 (by decide)
      simp only [List.length_cons] at this
      omega
theorem lbl_clean (p : List UInt8) (h : lblOk p = true) : p.all (fun c => decide (c ≠ 32 ∧ c ≠ 47 ∧ c ≠ 58)) = true := by
  unfold lblOk at h
  simp only [Bool.and_eq_true] at h
  have h2 := h.2.2.1
  unfold onlyZ at h2
  rw [List.all_eq_true] at h2 ⊢
  intro c hc
  have := h2 c hc
  rw [decide_eq_true_eq]
  refine ⟨?_, ?_, ?_⟩
  · rintro rfl; revert this; decide
  · rintro rfl; revert this; decide
  · rintro rfl; revert this; decide
theorem check_clean (a b c d : Int) (n : ByteArray) (h0 : n.size ≠ 0) (h : checkB a b c d n = true) : n.size ≤ 253 ∧ n.data.toList.all (fun c => decide (c ≠ 32 ∧ c ≠ 47 ∧ c ≠ 58)) = true := by
  unfold checkB at h
  rw [if_neg h0] at h
  unfold pnRes at h
  split at h
  · rename_i t he
    split at he
    · cases he
    · rename_i hl
      split at he
      · cases he
      · rename_i hb
        refine ⟨by omega, Pt.cutOn_all 46 _ (by decide) _ fun p hp => ?_⟩
        rw [← parts_data] at hp
        obtain ⟨q, hq, rfl⟩ := List.mem_map.1 hp
        exact lbl_clean _ ((badAt_none _ _).1 hb q hq)
  · cases h
theorem right_facts (r : S33) (hs : r.f3.size ≤ 281474976710656) (h : rightB r = true) :
    1 ≤ r.f4 ∧ r.f5 ≤ 65535 ∧ r.f4 ≤ r.f5 ∧ (r.f3.size = 0 → 0 ≤ r.f2 ∧ r.f2 ≤ 32) ∧ (r.f3.size ≠ 0 → checkB 0 0 0 0 r.f3 = true ∧ r.f1.f0 = 0 ∧ r.f1.f1 = 0 ∧ r.f1.f2 = 0 ∧ r.f1.f3 = 0 ∧ r.f2 = 0) := by
  have h1 := rightB_some 0 r hs
  rw [h] at h1
  unfold policy_right.f at h1
  have hz : r.f3.toList = ([] : List UInt8) ↔ r.f3.size = 0 := by
    have := size_zero r.f3
    constructor
    · intro e; rw [e] at this; simpa using this.symm
    · intro e; rw [e] at this; exact List.isEmpty_iff.1 (by simpa using this)
  split at h1
  · simp [policy_right.j0] at h1
  · rename_i h4
    split at h1
    · simp [policy_right.j0] at h1
    · rename_i h5
      simp only [policy_right.j0] at h1
      split at h1
      · cases h1
      · rename_i h6
        rw [decide_eq_true_eq] at h6
        refine ⟨by omega, by omega, by omega, ?_, ?_⟩
        · intro h0
          rw [if_pos (hz.2 h0)] at h1
          split at h1
          · split at h1
            · rename_i x y; exact ⟨x, y⟩
            · cases h1
          · cases h1
        · intro h0
          rw [if_neg (fun e => h0 (hz.1 e))] at h1
          unfold hCheck.f at h1
          rw [if_pos hs, Option.bind_some] at h1
          split at h1
          · rename_i hc
            split at h1
            · rename_i ha
              simp only [Bool.and_eq_true, beq_iff_eq] at ha
              have := Option.some.inj h1
              rw [beq_iff_eq] at this
              exact ⟨hc, ha.1, ha.2.1, ha.2.2.1, ha.2.2.2, this⟩
            · cases h1
          · cases h1
end Go.Proofs.YteondnhokgmakaaDoor.E


namespace Go.Proofs.YteondnhokgmakaaDoor.E
open Go.RowKit Go.Proofs.YteondnhokgmakaaDoorW.PrintWords Go.Proofs.YteondnhokgmakaaDoorW.PrintLast
set_option linter.unusedVariables false
set_option linter.unusedSimpArgs false
set_option maxRecDepth 100000 in
set_option maxHeartbeats 40000000 in
theorem pp_001 (s w0 w1s w2s lowS highS netS nS : ByteArray) (al okA rb : Bool) (lo : Int) (okC : Bool) (l : List ByteArray) (hs1 : s.size ≤ 285) (hs : s.size < 4294967281)
    (HSP : ∀ W, StdW W → Calls Tryd.prog 22 #[.string s, .string ⟨#[32]⟩] W fun e w' => e = .returned (.slice (some ⟨W.heap.size, 0, none⟩) l.length l.length) ∧ (∀ j, (h : j < l.length) → w'.cell? ⟨W.heap.size, j, none⟩ = some (.string l[j])) ∧ W.heap.size < w'.heap.size ∧ Below W.heap.size W w')
    (h0 : 3 = l.length)
    (hw0 : l[0]? = some w0)
    (hw1 : l[1]? = some w1s)
    (hw2 : l[2]? = some w2s)
    (hal : (w0.toList == [97, 108, 108, 111, 119]) = al)
    (hde : al = false → (w0.toList == [100, 101, 110, 121]) = true)
    (HC2 : ∀ W, StdW W → Calls Tryd.prog 23 #[.string w2s, .string ⟨#[45]⟩] W fun e w' => e = .returned (.tuple #[.string lowS, .string highS, .bool false]) ∧ Below W.heap.size W w')
    (HN1 : ∀ W, StdW W → Calls Tryd.prog 24 #[.string lowS] W fun e w' => e = .returned (.tuple #[.int .i64 lo, .bool okA]) ∧ Below W.heap.size W w')
    (HC1 : ∀ W, StdW W → Calls Tryd.prog 23 #[.string w1s, .string ⟨#[47]⟩] W fun e w' => e = .returned (.tuple #[.string netS, .string nS, .bool false]) ∧ Below W.heap.size W w')
    (hok : w1s.toList.isEmpty = !okC)
    (HRT : ∀ W, StdW W → Calls Tryd.prog 18 #[.agg (rc al 0 0 0 0 0 w1s lo lo)] W fun e w' => e = .returned (.bool rb) ∧ Below W.heap.size W w')
    (w : World) (hS : StdW w) :
    Calls Tryd.prog 11 #[.string s] w fun e w' => e = .returned (ppOut (okA && (true && (okC && rb))) al 0 0 0 0 0 w1s lo lo) ∧ Below w.heap.size w w' := by
  have HS := Lib.hid hS
  clear hS
  have hs1' : (s.size : Int) ≤ 285 := by omega
  have hl3 : ((l.length : Int) != 3) = false := by rw [← h0]; rfl
  have hl0 : (0 : Int) < (l.length : Int) := by omega
  have hl1 : (1 : Int) < (l.length : Int) := by omega
  have hl2 : (2 : Int) < (l.length : Int) := by omega
  have XHSP := Lib.hid HSP
  have XHC2 := Lib.hid HC2
  have XHN1 := Lib.hid HN1
  have XHC1 := Lib.hid HC1
  have XHRT := Lib.hid HRT
  have Xhw0 := Lib.hid hw0
  have Xhw1 := Lib.hid hw1
  have Xhw2 := Lib.hid hw2
  clear HSP HC2 HN1 HC1 HRT hw0 hw1 hw2
  have Xh0 := Lib.hid h0
  clear h0 hs1
  cases al
  · have hde' := hde rfl
    clear hde
    cases okA
    · go_enter Tryd.func11, Tryd.ntmps11
      go_wp2_with (first | (go_at_call 22; refine (XHSP.out _ (StdW.below HS.out (below_alloc (Below.refl _ _) _))).mono ?_; rintro e x1 ⟨rfl, hc, hlt1, hb1⟩; have HB1 := Lib.hid (below_then (below_alloc (Below.refl w.heap.size w) _) (below_alloc (Below.refl w.heap.size w) _).size hb1); have hR1 : w.heap.size < x1.heap.size := (by have := hb1.size; simp at this; omega); have hRn1 : ¬ x1.heap.size = w.heap.size := (by omega); have hRn2 : ¬ w.heap.size = x1.heap.size := (by omega); have HZ1 := Lib.hid ((Blk.new w (rc false 0 0 0 0 0 ⟨#[]⟩ 0 0) _).below hb1); have HWD1 : Hid (∀ j, (h : j < l.length) → x1.cell? ⟨w.heap.size + 1, j, none⟩ = some (.string l[j])) := Lib.hid (fun j h => by have := hc j h; rw [World.size_alloc] at this; exact this); have wd0 : x1.cell? ⟨w.heap.size + 1, 0, none⟩ = some (.string w0) := (HWD1.out 0 (by have := Xh0.out; omega)).trans (by rw [(List.getElem?_eq_some_iff.1 Xhw0.out).2]); have wd2 : x1.cell? ⟨w.heap.size + 1, 2, none⟩ = some (.string w2s) := (HWD1.out 2 (by have := Xh0.out; omega)).trans (by rw [(List.getElem?_eq_some_iff.1 Xhw2.out).2]); have hwl : w.heap.size + 1 < x1.heap.size := (by simpa using hlt1); clear hc hlt1 hb1) | (go_at_call_of 23 (Value.string w2s); refine (XHC2.out _ (StdW.below HS.out (below_alloc HB1.out _))).mono ?_; rintro e x2 ⟨rfl, hb2⟩; have HB2 := Lib.hid (below_then (below_alloc HB1.out _) (below_alloc HB1.out _).size hb2); have HZ2 := Lib.hid ((HZ1.out.old _).below hb2); have HR2 : Hid (Blk x2 x1.heap.size (rc false 0 0 0 0 0 ⟨#[]⟩ 0 0) _) := Lib.hid ((Blk.new x1 (rc false 0 0 0 0 0 ⟨#[]⟩ 0 0) _).below hb2); have HWD2 : Hid (∀ j, (h : j < l.length) → x2.cell? ⟨w.heap.size + 1, j, none⟩ = some (.string l[j])) := Lib.hid (fun j h => pw_cell_below hb2 (pw_cell_below (below_alloc (Below.refl _ _) _) (HWD1.out j h))); clear hb2 wd0 wd2) | (go_at_call_of 24 (Value.string lowS); refine (XHN1.out _ (StdW.below HS.out HB2.out)).mono ?_; rintro e x3 ⟨rfl, hb3⟩; have HB3 := Lib.hid (below_then HB2.out HB2.out.size hb3); have HZ3 := Lib.hid (HZ2.out.below hb3); have HR3 := Lib.hid (HR2.out.below hb3); have HWD3 : Hid (∀ j, (h : j < l.length) → x3.cell? ⟨w.heap.size + 1, j, none⟩ = some (.string l[j])) := Lib.hid (fun j h => pw_cell_below hb3 (HWD2.out j h)); have wd1 : x3.cell? ⟨w.heap.size + 1, 1, none⟩ = some (.string w1s) := (HWD3.out 1 (by have := Xh0.out; omega)).trans (by rw [(List.getElem?_eq_some_iff.1 Xhw1.out).2]); obtain ⟨k0, k1, k2, k3, k4, k5, k6, k7, k8⟩ := HR3.out.nine; obtain ⟨f0, f1, f2, f3, f4, f5, f6, f7, f8⟩ := HR3.out.frees; clear hb3) | (go_at_call_of 23 (Value.string w1s); refine (XHC1.out _ (StdW.below HS.out ((HB3.out.setCell (p := ⟨x1.heap.size, 7, none⟩) (Nat.le_of_lt hR1) (.int .i64 lo)).setCell (p := ⟨x1.heap.size, 8, none⟩) (Nat.le_of_lt hR1) (.int .i64 lo)))).mono ?_; rintro e x5 ⟨rfl, hb5⟩; have HB5 := Lib.hid (below_then ((HB3.out.setCell (p := ⟨x1.heap.size, 7, none⟩) (Nat.le_of_lt hR1) (.int .i64 lo)).setCell (p := ⟨x1.heap.size, 8, none⟩) (Nat.le_of_lt hR1) (.int .i64 lo)) ((HB3.out.setCell (p := ⟨x1.heap.size, 7, none⟩) (Nat.le_of_lt hR1) (.int .i64 lo)).setCell (p := ⟨x1.heap.size, 8, none⟩) (Nat.le_of_lt hR1) (.int .i64 lo)).size hb5); have HZ5 := Lib.hid (((HZ3.out.other ⟨x1.heap.size, 7, none⟩ hRn2 (.int .i64 lo)).other ⟨x1.heap.size, 8, none⟩ hRn2 (.int .i64 lo)).below hb5); have HR5 : Hid (Blk x5 x1.heap.size (rc false 0 0 0 0 0 ⟨#[]⟩ lo lo) _) := Lib.hid (((HR3.out.set 7 (.int .i64 lo)).set 8 (.int .i64 lo)).below hb5); have HWD5 : Hid (∀ j, (h : j < l.length) → x5.cell? ⟨w.heap.size + 1, j, none⟩ = some (.string l[j])) := Lib.hid (fun j h => pw_cell_below hb5 (by rw [World.cell?_setCell_other _ _ _ _ (by intro e; injection e with e; omega), World.cell?_setCell_other _ _ _ _ (by intro e; injection e with e; omega)]; exact HWD3.out j h)); clear wd1; have wd1 : x5.cell? ⟨w.heap.size + 1, 1, none⟩ = some (.string w1s) := (HWD5.out 1 (by have := Xh0.out; omega)).trans (by rw [(List.getElem?_eq_some_iff.1 Xhw1.out).2]); clear k0 k1 k2 k3 k4 k5 k6 k7 k8 f0 f1 f2 f3 f4 f5 f6 f7 f8; obtain ⟨k0, k1, k2, k3, k4, k5, k6, k7, k8⟩ := HR5.out.nine; obtain ⟨f0, f1, f2, f3, f4, f5, f6, f7, f8⟩ := HR5.out.frees; obtain ⟨z0, z1, z2, z3, z4, z5, z6, z7, z8⟩ := HZ5.out.nine; obtain ⟨g0, g1, g2, g3, g4, g5, g6, g7, g8⟩ := HZ5.out.frees; clear hb5) | (go_at_call 18; refine (XHRT.out _ (StdW.below HS.out (HB5.out.setCell (p := ⟨x1.heap.size, 6, none⟩) (Nat.le_of_lt hR1) (.string w1s)))).mono ?_; rintro e x8 ⟨rfl, hb8⟩; have HB8 := Lib.hid (below_then (HB5.out.setCell (p := ⟨x1.heap.size, 6, none⟩) (Nat.le_of_lt hR1) (.string w1s)) (HB5.out.setCell (p := ⟨x1.heap.size, 6, none⟩) (Nat.le_of_lt hR1) (.string w1s)).size hb8); have HZ8 := Lib.hid ((HZ5.out.other ⟨x1.heap.size, 6, none⟩ hRn2 (.string w1s)).below hb8); have HR8 : Hid (Blk x8 x1.heap.size (rc false 0 0 0 0 0 w1s lo lo) _) := Lib.hid ((HR5.out.set 6 (.string w1s)).below hb8); clear k0 k1 k2 k3 k4 k5 k6 k7 k8 f0 f1 f2 f3 f4 f5 f6 f7 f8; clear z0 z1 z2 z3 z4 z5 z6 z7 z8 g0 g1 g2 g3 g4 g5 g6 g7 g8; obtain ⟨k0, k1, k2, k3, k4, k5, k6, k7, k8⟩ := HR8.out.nine; obtain ⟨f0, f1, f2, f3, f4, f5, f6, f7, f8⟩ := HR8.out.frees; obtain ⟨z0, z1, z2, z3, z4, z5, z6, z7, z8⟩ := HZ8.out.nine; obtain ⟨g0, g1, g2, g3, g4, g5, g6, g7, g8⟩ := HZ8.out.frees; clear hb8))
      all_goals
        refine bodyPost_ret (v := zeroRule) (by simp [results, Tryd.results11, go_sem, zeroRule, rc, z0, z1, z2, z3, z4, z5, z6, z7, z8, hRn1, hRn2]) rfl ⟨rfl, ?_⟩
        repeat (refine Below.setCell ?_ (by first | exact Nat.le_refl _ | exact Nat.le_of_lt hR1) _)
        exact HB5.out
    · cases okC
      · go_enter Tryd.func11, Tryd.ntmps11
        go_wp2_with (first | (go_at_call 22; refine (XHSP.out _ (StdW.below HS.out (below_alloc (Below.refl _ _) _))).mono ?_; rintro e x1 ⟨rfl, hc, hlt1, hb1⟩; have HB1 := Lib.hid (below_then (below_alloc (Below.refl w.heap.size w) _) (below_alloc (Below.refl w.heap.size w) _).size hb1); have hR1 : w.heap.size < x1.heap.size := (by have := hb1.size; simp at this; omega); have hRn1 : ¬ x1.heap.size = w.heap.size := (by omega); have hRn2 : ¬ w.heap.size = x1.heap.size := (by omega); have HZ1 := Lib.hid ((Blk.new w (rc false 0 0 0 0 0 ⟨#[]⟩ 0 0) _).below hb1); have HWD1 : Hid (∀ j, (h : j < l.length) → x1.cell? ⟨w.heap.size + 1, j, none⟩ = some (.string l[j])) := Lib.hid (fun j h => by have := hc j h; rw [World.size_alloc] at this; exact this); have wd0 : x1.cell? ⟨w.heap.size + 1, 0, none⟩ = some (.string w0) := (HWD1.out 0 (by have := Xh0.out; omega)).trans (by rw [(List.getElem?_eq_some_iff.1 Xhw0.out).2]); have wd2 : x1.cell? ⟨w.heap.size + 1, 2, none⟩ = some (.string w2s) := (HWD1.out 2 (by have := Xh0.out; omega)).trans (by rw [(List.getElem?_eq_some_iff.1 Xhw2.out).2]); have hwl : w.heap.size + 1 < x1.heap.size := (by simpa using hlt1); clear hc hlt1 hb1) | (go_at_call_of 23 (Value.string w2s); refine (XHC2.out _ (StdW.below HS.out (below_alloc HB1.out _))).mono ?_; rintro e x2 ⟨rfl, hb2⟩; have HB2 := Lib.hid (below_then (below_alloc HB1.out _) (below_alloc HB1.out _).size hb2); have HZ2 := Lib.hid ((HZ1.out.old _).below hb2); have HR2 : Hid (Blk x2 x1.heap.size (rc false 0 0 0 0 0 ⟨#[]⟩ 0 0) _) := Lib.hid ((Blk.new x1 (rc false 0 0 0 0 0 ⟨#[]⟩ 0 0) _).below hb2); have HWD2 : Hid (∀ j, (h : j < l.length) → x2.cell? ⟨w.heap.size + 1, j, none⟩ = some (.string l[j])) := Lib.hid (fun j h => pw_cell_below hb2 (pw_cell_below (below_alloc (Below.refl _ _) _) (HWD1.out j h))); clear hb2 wd0 wd2) | (go_at_call_of 24 (Value.string lowS); refine (XHN1.out _ (StdW.below HS.out HB2.out)).mono ?_; rintro e x3 ⟨rfl, hb3⟩; have HB3 := Lib.hid (below_then HB2.out HB2.out.size hb3); have HZ3 := Lib.hid (HZ2.out.below hb3); have HR3 := Lib.hid (HR2.out.below hb3); have HWD3 : Hid (∀ j, (h : j < l.length) → x3.cell? ⟨w.heap.size + 1, j, none⟩ = some (.string l[j])) := Lib.hid (fun j h => pw_cell_below hb3 (HWD2.out j h)); have wd1 : x3.cell? ⟨w.heap.size + 1, 1, none⟩ = some (.string w1s) := (HWD3.out 1 (by have := Xh0.out; omega)).trans (by rw [(List.getElem?_eq_some_iff.1 Xhw1.out).2]); obtain ⟨k0, k1, k2, k3, k4, k5, k6, k7, k8⟩ := HR3.out.nine; obtain ⟨f0, f1, f2, f3, f4, f5, f6, f7, f8⟩ := HR3.out.frees; clear hb3) | (go_at_call_of 23 (Value.string w1s); refine (XHC1.out _ (StdW.below HS.out ((HB3.out.setCell (p := ⟨x1.heap.size, 7, none⟩) (Nat.le_of_lt hR1) (.int .i64 lo)).setCell (p := ⟨x1.heap.size, 8, none⟩) (Nat.le_of_lt hR1) (.int .i64 lo)))).mono ?_; rintro e x5 ⟨rfl, hb5⟩; have HB5 := Lib.hid (below_then ((HB3.out.setCell (p := ⟨x1.heap.size, 7, none⟩) (Nat.le_of_lt hR1) (.int .i64 lo)).setCell (p := ⟨x1.heap.size, 8, none⟩) (Nat.le_of_lt hR1) (.int .i64 lo)) ((HB3.out.setCell (p := ⟨x1.heap.size, 7, none⟩) (Nat.le_of_lt hR1) (.int .i64 lo)).setCell (p := ⟨x1.heap.size, 8, none⟩) (Nat.le_of_lt hR1) (.int .i64 lo)).size hb5); have HZ5 := Lib.hid (((HZ3.out.other ⟨x1.heap.size, 7, none⟩ hRn2 (.int .i64 lo)).other ⟨x1.heap.size, 8, none⟩ hRn2 (.int .i64 lo)).below hb5); have HR5 : Hid (Blk x5 x1.heap.size (rc false 0 0 0 0 0 ⟨#[]⟩ lo lo) _) := Lib.hid (((HR3.out.set 7 (.int .i64 lo)).set 8 (.int .i64 lo)).below hb5); have HWD5 : Hid (∀ j, (h : j < l.length) → x5.cell? ⟨w.heap.size + 1, j, none⟩ = some (.string l[j])) := Lib.hid (fun j h => pw_cell_below hb5 (by rw [World.cell?_setCell_other _ _ _ _ (by intro e; injection e with e; omega), World.cell?_setCell_other _ _ _ _ (by intro e; injection e with e; omega)]; exact HWD3.out j h)); clear wd1; have wd1 : x5.cell? ⟨w.heap.size + 1, 1, none⟩ = some (.string w1s) := (HWD5.out 1 (by have := Xh0.out; omega)).trans (by rw [(List.getElem?_eq_some_iff.1 Xhw1.out).2]); clear k0 k1 k2 k3 k4 k5 k6 k7 k8 f0 f1 f2 f3 f4 f5 f6 f7 f8; obtain ⟨k0, k1, k2, k3, k4, k5, k6, k7, k8⟩ := HR5.out.nine; obtain ⟨f0, f1, f2, f3, f4, f5, f6, f7, f8⟩ := HR5.out.frees; obtain ⟨z0, z1, z2, z3, z4, z5, z6, z7, z8⟩ := HZ5.out.nine; obtain ⟨g0, g1, g2, g3, g4, g5, g6, g7, g8⟩ := HZ5.out.frees; clear hb5) | (go_at_call 18; refine (XHRT.out _ (StdW.below HS.out (HB5.out.setCell (p := ⟨x1.heap.size, 6, none⟩) (Nat.le_of_lt hR1) (.string w1s)))).mono ?_; rintro e x8 ⟨rfl, hb8⟩; have HB8 := Lib.hid (below_then (HB5.out.setCell (p := ⟨x1.heap.size, 6, none⟩) (Nat.le_of_lt hR1) (.string w1s)) (HB5.out.setCell (p := ⟨x1.heap.size, 6, none⟩) (Nat.le_of_lt hR1) (.string w1s)).size hb8); have HZ8 := Lib.hid ((HZ5.out.other ⟨x1.heap.size, 6, none⟩ hRn2 (.string w1s)).below hb8); have HR8 : Hid (Blk x8 x1.heap.size (rc false 0 0 0 0 0 w1s lo lo) _) := Lib.hid ((HR5.out.set 6 (.string w1s)).below hb8); clear k0 k1 k2 k3 k4 k5 k6 k7 k8 f0 f1 f2 f3 f4 f5 f6 f7 f8; clear z0 z1 z2 z3 z4 z5 z6 z7 z8 g0 g1 g2 g3 g4 g5 g6 g7 g8; obtain ⟨k0, k1, k2, k3, k4, k5, k6, k7, k8⟩ := HR8.out.nine; obtain ⟨f0, f1, f2, f3, f4, f5, f6, f7, f8⟩ := HR8.out.frees; obtain ⟨z0, z1, z2, z3, z4, z5, z6, z7, z8⟩ := HZ8.out.nine; obtain ⟨g0, g1, g2, g3, g4, g5, g6, g7, g8⟩ := HZ8.out.frees; clear hb8))
        all_goals
          refine bodyPost_ret (v := zeroRule) (by simp [results, Tryd.results11, go_sem, zeroRule, rc, z0, z1, z2, z3, z4, z5, z6, z7, z8, hRn1, hRn2]) rfl ⟨rfl, ?_⟩
          repeat (refine Below.setCell ?_ (by first | exact Nat.le_refl _ | exact Nat.le_of_lt hR1) _)
          exact HB5.out
      · cases rb
        · go_enter Tryd.func11, Tryd.ntmps11
          go_wp2_with (first | (go_at_call 22; refine (XHSP.out _ (StdW.below HS.out (below_alloc (Below.refl _ _) _))).mono ?_; rintro e x1 ⟨rfl, hc, hlt1, hb1⟩; have HB1 := Lib.hid (below_then (below_alloc (Below.refl w.heap.size w) _) (below_alloc (Below.refl w.heap.size w) _).size hb1); have hR1 : w.heap.size < x1.heap.size := (by have := hb1.size; simp at this; omega); have hRn1 : ¬ x1.heap.size = w.heap.size := (by omega); have hRn2 : ¬ w.heap.size = x1.heap.size := (by omega); have HZ1 := Lib.hid ((Blk.new w (rc false 0 0 0 0 0 ⟨#[]⟩ 0 0) _).below hb1); have HWD1 : Hid (∀ j, (h : j < l.length) → x1.cell? ⟨w.heap.size + 1, j, none⟩ = some (.string l[j])) := Lib.hid (fun j h => by have := hc j h; rw [World.size_alloc] at this; exact this); have wd0 : x1.cell? ⟨w.heap.size + 1, 0, none⟩ = some (.string w0) := (HWD1.out 0 (by have := Xh0.out; omega)).trans (by rw [(List.getElem?_eq_some_iff.1 Xhw0.out).2]); have wd2 : x1.cell? ⟨w.heap.size + 1, 2, none⟩ = some (.string w2s) := (HWD1.out 2 (by have := Xh0.out; omega)).trans (by rw [(List.getElem?_eq_some_iff.1 Xhw2.out).2]); have hwl : w.heap.size + 1 < x1.heap.size := (by simpa using hlt1); clear hc hlt1 hb1) | (go_at_call_of 23 (Value.string w2s); refine (XHC2.out _ (StdW.below HS.out (below_alloc HB1.out _))).mono ?_; rintro e x2 ⟨rfl, hb2⟩; have HB2 := Lib.hid (below_then (below_alloc HB1.out _) (below_alloc HB1.out _).size hb2); have HZ2 := Lib.hid ((HZ1.out.old _).below hb2); have HR2 : Hid (Blk x2 x1.heap.size (rc false 0 0 0 0 0 ⟨#[]⟩ 0 0) _) := Lib.hid ((Blk.new x1 (rc false 0 0 0 0 0 ⟨#[]⟩ 0 0) _).below hb2); have HWD2 : Hid (∀ j, (h : j < l.length) → x2.cell? ⟨w.heap.size + 1, j, none⟩ = some (.string l[j])) := Lib.hid (fun j h => pw_cell_below hb2 (pw_cell_below (below_alloc (Below.refl _ _) _) (HWD1.out j h))); clear hb2 wd0 wd2) | (go_at_call_of 24 (Value.string lowS); refine (XHN1.out _ (StdW.below HS.out HB2.out)).mono ?_; rintro e x3 ⟨rfl, hb3⟩; have HB3 := Lib.hid (below_then HB2.out HB2.out.size hb3); have HZ3 := Lib.hid (HZ2.out.below hb3); have HR3 := Lib.hid (HR2.out.below hb3); have HWD3 : Hid (∀ j, (h : j < l.length) → x3.cell? ⟨w.heap.size + 1, j, none⟩ = some (.string l[j])) := Lib.hid (fun j h => pw_cell_below hb3 (HWD2.out j h)); have wd1 : x3.cell? ⟨w.heap.size + 1, 1, none⟩ = some (.string w1s) := (HWD3.out 1 (by have := Xh0.out; omega)).trans (by rw [(List.getElem?_eq_some_iff.1 Xhw1.out).2]); obtain ⟨k0, k1, k2, k3, k4, k5, k6, k7, k8⟩ := HR3.out.nine; obtain ⟨f0, f1, f2, f3, f4, f5, f6, f7, f8⟩ := HR3.out.frees; clear hb3) | (go_at_call_of 23 (Value.string w1s); refine (XHC1.out _ (StdW.below HS.out ((HB3.out.setCell (p := ⟨x1.heap.size, 7, none⟩) (Nat.le_of_lt hR1) (.int .i64 lo)).setCell (p := ⟨x1.heap.size, 8, none⟩) (Nat.le_of_lt hR1) (.int .i64 lo)))).mono ?_; rintro e x5 ⟨rfl, hb5⟩; have HB5 := Lib.hid (below_then ((HB3.out.setCell (p := ⟨x1.heap.size, 7, none⟩) (Nat.le_of_lt hR1) (.int .i64 lo)).setCell (p := ⟨x1.heap.size, 8, none⟩) (Nat.le_of_lt hR1) (.int .i64 lo)) ((HB3.out.setCell (p := ⟨x1.heap.size, 7, none⟩) (Nat.le_of_lt hR1) (.int .i64 lo)).setCell (p := ⟨x1.heap.size, 8, none⟩) (Nat.le_of_lt hR1) (.int .i64 lo)).size hb5); have HZ5 := Lib.hid (((HZ3.out.other ⟨x1.heap.size, 7, none⟩ hRn2 (.int .i64 lo)).other ⟨x1.heap.size, 8, none⟩ hRn2 (.int .i64 lo)).below hb5); have HR5 : Hid (Blk x5 x1.heap.size (rc false 0 0 0 0 0 ⟨#[]⟩ lo lo) _) := Lib.hid (((HR3.out.set 7 (.int .i64 lo)).set 8 (.int .i64 lo)).below hb5); have HWD5 : Hid (∀ j, (h : j < l.length) → x5.cell? ⟨w.heap.size + 1, j, none⟩ = some (.string l[j])) := Lib.hid (fun j h => pw_cell_below hb5 (by rw [World.cell?_setCell_other _ _ _ _ (by intro e; injection e with e; omega), World.cell?_setCell_other _ _ _ _ (by intro e; injection e with e; omega)]; exact HWD3.out j h)); clear wd1; have wd1 : x5.cell? ⟨w.heap.size + 1, 1, none⟩ = some (.string w1s) := (HWD5.out 1 (by have := Xh0.out; omega)).trans (by rw [(List.getElem?_eq_some_iff.1 Xhw1.out).2]); clear k0 k1 k2 k3 k4 k5 k6 k7 k8 f0 f1 f2 f3 f4 f5 f6 f7 f8; obtain ⟨k0, k1, k2, k3, k4, k5, k6, k7, k8⟩ := HR5.out.nine; obtain ⟨f0, f1, f2, f3, f4, f5, f6, f7, f8⟩ := HR5.out.frees; obtain ⟨z0, z1, z2, z3, z4, z5, z6, z7, z8⟩ := HZ5.out.nine; obtain ⟨g0, g1, g2, g3, g4, g5, g6, g7, g8⟩ := HZ5.out.frees; clear hb5) | (go_at_call 18; refine (XHRT.out _ (StdW.below HS.out (HB5.out.setCell (p := ⟨x1.heap.size, 6, none⟩) (Nat.le_of_lt hR1) (.string w1s)))).mono ?_; rintro e x8 ⟨rfl, hb8⟩; have HB8 := Lib.hid (below_then (HB5.out.setCell (p := ⟨x1.heap.size, 6, none⟩) (Nat.le_of_lt hR1) (.string w1s)) (HB5.out.setCell (p := ⟨x1.heap.size, 6, none⟩) (Nat.le_of_lt hR1) (.string w1s)).size hb8); have HZ8 := Lib.hid ((HZ5.out.other ⟨x1.heap.size, 6, none⟩ hRn2 (.string w1s)).below hb8); have HR8 : Hid (Blk x8 x1.heap.size (rc false 0 0 0 0 0 w1s lo lo) _) := Lib.hid ((HR5.out.set 6 (.string w1s)).below hb8); clear k0 k1 k2 k3 k4 k5 k6 k7 k8 f0 f1 f2 f3 f4 f5 f6 f7 f8; clear z0 z1 z2 z3 z4 z5 z6 z7 z8 g0 g1 g2 g3 g4 g5 g6 g7 g8; obtain ⟨k0, k1, k2, k3, k4, k5, k6, k7, k8⟩ := HR8.out.nine; obtain ⟨f0, f1, f2, f3, f4, f5, f6, f7, f8⟩ := HR8.out.frees; obtain ⟨z0, z1, z2, z3, z4, z5, z6, z7, z8⟩ := HZ8.out.nine; obtain ⟨g0, g1, g2, g3, g4, g5, g6, g7, g8⟩ := HZ8.out.frees; clear hb8))
          all_goals
            refine bodyPost_ret (v := zeroRule) (by simp [results, Tryd.results11, go_sem, zeroRule, rc, z0, z1, z2, z3, z4, z5, z6, z7, z8, hRn1, hRn2]) rfl ⟨rfl, ?_⟩
            repeat (refine Below.setCell ?_ (by first | exact Nat.le_refl _ | exact Nat.le_of_lt hR1) _)
            exact HB8.out
        · go_enter Tryd.func11, Tryd.ntmps11
          go_wp2_with (first | (go_at_call 22; refine (XHSP.out _ (StdW.below HS.out (below_alloc (Below.refl _ _) _))).mono ?_; rintro e x1 ⟨rfl, hc, hlt1, hb1⟩; have HB1 := Lib.hid (below_then (below_alloc (Below.refl w.heap.size w) _) (below_alloc (Below.refl w.heap.size w) _).size hb1); have hR1 : w.heap.size < x1.heap.size := (by have := hb1.size; simp at this; omega); have hRn1 : ¬ x1.heap.size = w.heap.size := (by omega); have hRn2 : ¬ w.heap.size = x1.heap.size := (by omega); have HZ1 := Lib.hid ((Blk.new w (rc false 0 0 0 0 0 ⟨#[]⟩ 0 0) _).below hb1); have HWD1 : Hid (∀ j, (h : j < l.length) → x1.cell? ⟨w.heap.size + 1, j, none⟩ = some (.string l[j])) := Lib.hid (fun j h => by have := hc j h; rw [World.size_alloc] at this; exact this); have wd0 : x1.cell? ⟨w.heap.size + 1, 0, none⟩ = some (.string w0) := (HWD1.out 0 (by have := Xh0.out; omega)).trans (by rw [(List.getElem?_eq_some_iff.1 Xhw0.out).2]); have wd2 : x1.cell? ⟨w.heap.size + 1, 2, none⟩ = some (.string w2s) := (HWD1.out 2 (by have := Xh0.out; omega)).trans (by rw [(List.getElem?_eq_some_iff.1 Xhw2.out).2]); have hwl : w.heap.size + 1 < x1.heap.size := (by simpa using hlt1); clear hc hlt1 hb1) | (go_at_call_of 23 (Value.string w2s); refine (XHC2.out _ (StdW.below HS.out (below_alloc HB1.out _))).mono ?_; rintro e x2 ⟨rfl, hb2⟩; have HB2 := Lib.hid (below_then (below_alloc HB1.out _) (below_alloc HB1.out _).size hb2); have HZ2 := Lib.hid ((HZ1.out.old _).below hb2); have HR2 : Hid (Blk x2 x1.heap.size (rc false 0 0 0 0 0 ⟨#[]⟩ 0 0) _) := Lib.hid ((Blk.new x1 (rc false 0 0 0 0 0 ⟨#[]⟩ 0 0) _).below hb2); have HWD2 : Hid (∀ j, (h : j < l.length) → x2.cell? ⟨w.heap.size + 1, j, none⟩ = some (.string l[j])) := Lib.hid (fun j h => pw_cell_below hb2 (pw_cell_below (below_alloc (Below.refl _ _) _) (HWD1.out j h))); clear hb2 wd0 wd2) | (go_at_call_of 24 (Value.string lowS); refine (XHN1.out _ (StdW.below HS.out HB2.out)).mono ?_; rintro e x3 ⟨rfl, hb3⟩; have HB3 := Lib.hid (below_then HB2.out HB2.out.size hb3); have HZ3 := Lib.hid (HZ2.out.below hb3); have HR3 := Lib.hid (HR2.out.below hb3); have HWD3 : Hid (∀ j, (h : j < l.length) → x3.cell? ⟨w.heap.size + 1, j, none⟩ = some (.string l[j])) := Lib.hid (fun j h => pw_cell_below hb3 (HWD2.out j h)); have wd1 : x3.cell? ⟨w.heap.size + 1, 1, none⟩ = some (.string w1s) := (HWD3.out 1 (by have := Xh0.out; omega)).trans (by rw [(List.getElem?_eq_some_iff.1 Xhw1.out).2]); obtain ⟨k0, k1, k2, k3, k4, k5, k6, k7, k8⟩ := HR3.out.nine; obtain ⟨f0, f1, f2, f3, f4, f5, f6, f7, f8⟩ := HR3.out.frees; clear hb3) | (go_at_call_of 23 (Value.string w1s); refine (XHC1.out _ (StdW.below HS.out ((HB3.out.setCell (p := ⟨x1.heap.size, 7, none⟩) (Nat.le_of_lt hR1) (.int .i64 lo)).setCell (p := ⟨x1.heap.size, 8, none⟩) (Nat.le_of_lt hR1) (.int .i64 lo)))).mono ?_; rintro e x5 ⟨rfl, hb5⟩; have HB5 := Lib.hid (below_then ((HB3.out.setCell (p := ⟨x1.heap.size, 7, none⟩) (Nat.le_of_lt hR1) (.int .i64 lo)).setCell (p := ⟨x1.heap.size, 8, none⟩) (Nat.le_of_lt hR1) (.int .i64 lo)) ((HB3.out.setCell (p := ⟨x1.heap.size, 7, none⟩) (Nat.le_of_lt hR1) (.int .i64 lo)).setCell (p := ⟨x1.heap.size, 8, none⟩) (Nat.le_of_lt hR1) (.int .i64 lo)).size hb5); have HZ5 := Lib.hid (((HZ3.out.other ⟨x1.heap.size, 7, none⟩ hRn2 (.int .i64 lo)).other ⟨x1.heap.size, 8, none⟩ hRn2 (.int .i64 lo)).below hb5); have HR5 : Hid (Blk x5 x1.heap.size (rc false 0 0 0 0 0 ⟨#[]⟩ lo lo) _) := Lib.hid (((HR3.out.set 7 (.int .i64 lo)).set 8 (.int .i64 lo)).below hb5); have HWD5 : Hid (∀ j, (h : j < l.length) → x5.cell? ⟨w.heap.size + 1, j, none⟩ = some (.string l[j])) := Lib.hid (fun j h => pw_cell_below hb5 (by rw [World.cell?_setCell_other _ _ _ _ (by intro e; injection e with e; omega), World.cell?_setCell_other _ _ _ _ (by intro e; injection e with e; omega)]; exact HWD3.out j h)); clear wd1; have wd1 : x5.cell? ⟨w.heap.size + 1, 1, none⟩ = some (.string w1s) := (HWD5.out 1 (by have := Xh0.out; omega)).trans (by rw [(List.getElem?_eq_some_iff.1 Xhw1.out).2]); clear k0 k1 k2 k3 k4 k5 k6 k7 k8 f0 f1 f2 f3 f4 f5 f6 f7 f8; obtain ⟨k0, k1, k2, k3, k4, k5, k6, k7, k8⟩ := HR5.out.nine; obtain ⟨f0, f1, f2, f3, f4, f5, f6, f7, f8⟩ := HR5.out.frees; obtain ⟨z0, z1, z2, z3, z4, z5, z6, z7, z8⟩ := HZ5.out.nine; obtain ⟨g0, g1, g2, g3, g4, g5, g6, g7, g8⟩ := HZ5.out.frees; clear hb5) | (go_at_call 18; refine (XHRT.out _ (StdW.below HS.out (HB5.out.setCell (p := ⟨x1.heap.size, 6, none⟩) (Nat.le_of_lt hR1) (.string w1s)))).mono ?_; rintro e x8 ⟨rfl, hb8⟩; have HB8 := Lib.hid (below_then (HB5.out.setCell (p := ⟨x1.heap.size, 6, none⟩) (Nat.le_of_lt hR1) (.string w1s)) (HB5.out.setCell (p := ⟨x1.heap.size, 6, none⟩) (Nat.le_of_lt hR1) (.string w1s)).size hb8); have HZ8 := Lib.hid ((HZ5.out.other ⟨x1.heap.size, 6, none⟩ hRn2 (.string w1s)).below hb8); have HR8 : Hid (Blk x8 x1.heap.size (rc false 0 0 0 0 0 w1s lo lo) _) := Lib.hid ((HR5.out.set 6 (.string w1s)).below hb8); clear k0 k1 k2 k3 k4 k5 k6 k7 k8 f0 f1 f2 f3 f4 f5 f6 f7 f8; clear z0 z1 z2 z3 z4 z5 z6 z7 z8 g0 g1 g2 g3 g4 g5 g6 g7 g8; obtain ⟨k0, k1, k2, k3, k4, k5, k6, k7, k8⟩ := HR8.out.nine; obtain ⟨f0, f1, f2, f3, f4, f5, f6, f7, f8⟩ := HR8.out.frees; obtain ⟨z0, z1, z2, z3, z4, z5, z6, z7, z8⟩ := HZ8.out.nine; obtain ⟨g0, g1, g2, g3, g4, g5, g6, g7, g8⟩ := HZ8.out.frees; clear hb8))
          all_goals
            refine bodyPost_ret (v := .tuple #[.agg (rc false 0 0 0 0 0 w1s lo lo), .int .i64 0]) (by simp [results, Tryd.results11, go_sem, rc, z0, z1, z2, z3, z4, z5, z6, z7, z8, hRn1, hRn2]) rfl ⟨rfl, ?_⟩
            repeat (refine Below.setCell ?_ (by first | exact Nat.le_refl _ | exact Nat.le_of_lt hR1) _)
            exact HB8.out
  · clear hde
    cases okA
    · go_enter Tryd.func11, Tryd.ntmps11
      go_wp2_with (first | (go_at_call 22; refine (XHSP.out _ (StdW.below HS.out (below_alloc (Below.refl _ _) _))).mono ?_; rintro e x1 ⟨rfl, hc, hlt1, hb1⟩; have HB1 := Lib.hid (below_then (below_alloc (Below.refl w.heap.size w) _) (below_alloc (Below.refl w.heap.size w) _).size hb1); have hR1 : w.heap.size < x1.heap.size := (by have := hb1.size; simp at this; omega); have hRn1 : ¬ x1.heap.size = w.heap.size := (by omega); have hRn2 : ¬ w.heap.size = x1.heap.size := (by omega); have HZ1 := Lib.hid ((Blk.new w (rc false 0 0 0 0 0 ⟨#[]⟩ 0 0) _).below hb1); have HWD1 : Hid (∀ j, (h : j < l.length) → x1.cell? ⟨w.heap.size + 1, j, none⟩ = some (.string l[j])) := Lib.hid (fun j h => by have := hc j h; rw [World.size_alloc] at this; exact this); have wd0 : x1.cell? ⟨w.heap.size + 1, 0, none⟩ = some (.string w0) := (HWD1.out 0 (by have := Xh0.out; omega)).trans (by rw [(List.getElem?_eq_some_iff.1 Xhw0.out).2]); have wd2 : x1.cell? ⟨w.heap.size + 1, 2, none⟩ = some (.string w2s) := (HWD1.out 2 (by have := Xh0.out; omega)).trans (by rw [(List.getElem?_eq_some_iff.1 Xhw2.out).2]); have hwl : w.heap.size + 1 < x1.heap.size := (by simpa using hlt1); clear hc hlt1 hb1) | (go_at_call_of 23 (Value.string w2s); refine (XHC2.out _ (StdW.below HS.out (below_alloc HB1.out _))).mono ?_; rintro e x2 ⟨rfl, hb2⟩; have HB2 := Lib.hid (below_then (below_alloc HB1.out _) (below_alloc HB1.out _).size hb2); have HZ2 := Lib.hid ((HZ1.out.old _).below hb2); have HR2 : Hid (Blk x2 x1.heap.size (rc true 0 0 0 0 0 ⟨#[]⟩ 0 0) _) := Lib.hid ((Blk.new x1 (rc true 0 0 0 0 0 ⟨#[]⟩ 0 0) _).below hb2); have HWD2 : Hid (∀ j, (h : j < l.length) → x2.cell? ⟨w.heap.size + 1, j, none⟩ = some (.string l[j])) := Lib.hid (fun j h => pw_cell_below hb2 (pw_cell_below (below_alloc (Below.refl _ _) _) (HWD1.out j h))); clear hb2 wd0 wd2) | (go_at_call_of 24 (Value.string lowS); refine (XHN1.out _ (StdW.below HS.out HB2.out)).mono ?_; rintro e x3 ⟨rfl, hb3⟩; have HB3 := Lib.hid (below_then HB2.out HB2.out.size hb3); have HZ3 := Lib.hid (HZ2.out.below hb3); have HR3 := Lib.hid (HR2.out.below hb3); have HWD3 : Hid (∀ j, (h : j < l.length) → x3.cell? ⟨w.heap.size + 1, j, none⟩ = some (.string l[j])) := Lib.hid (fun j h => pw_cell_below hb3 (HWD2.out j h)); have wd1 : x3.cell? ⟨w.heap.size + 1, 1, none⟩ = some (.string w1s) := (HWD3.out 1 (by have := Xh0.out; omega)).trans (by rw [(List.getElem?_eq_some_iff.1 Xhw1.out).2]); obtain ⟨k0, k1, k2, k3, k4, k5, k6, k7, k8⟩ := HR3.out.nine; obtain ⟨f0, f1, f2, f3, f4, f5, f6, f7, f8⟩ := HR3.out.frees; clear hb3) | (go_at_call_of 23 (Value.string w1s); refine (XHC1.out _ (StdW.below HS.out ((HB3.out.setCell (p := ⟨x1.heap.size, 7, none⟩) (Nat.le_of_lt hR1) (.int .i64 lo)).setCell (p := ⟨x1.heap.size, 8, none⟩) (Nat.le_of_lt hR1) (.int .i64 lo)))).mono ?_; rintro e x5 ⟨rfl, hb5⟩; have HB5 := Lib.hid (below_then ((HB3.out.setCell (p := ⟨x1.heap.size, 7, none⟩) (Nat.le_of_lt hR1) (.int .i64 lo)).setCell (p := ⟨x1.heap.size, 8, none⟩) (Nat.le_of_lt hR1) (.int .i64 lo)) ((HB3.out.setCell (p := ⟨x1.heap.size, 7, none⟩) (Nat.le_of_lt hR1) (.int .i64 lo)).setCell (p := ⟨x1.heap.size, 8, none⟩) (Nat.le_of_lt hR1) (.int .i64 lo)).size hb5); have HZ5 := Lib.hid (((HZ3.out.other ⟨x1.heap.size, 7, none⟩ hRn2 (.int .i64 lo)).other ⟨x1.heap.size, 8, none⟩ hRn2 (.int .i64 lo)).below hb5); have HR5 : Hid (Blk x5 x1.heap.size (rc true 0 0 0 0 0 ⟨#[]⟩ lo lo) _) := Lib.hid (((HR3.out.set 7 (.int .i64 lo)).set 8 (.int .i64 lo)).below hb5); have HWD5 : Hid (∀ j, (h : j < l.length) → x5.cell? ⟨w.heap.size + 1, j, none⟩ = some (.string l[j])) := Lib.hid (fun j h => pw_cell_below hb5 (by rw [World.cell?_setCell_other _ _ _ _ (by intro e; injection e with e; omega), World.cell?_setCell_other _ _ _ _ (by intro e; injection e with e; omega)]; exact HWD3.out j h)); clear wd1; have wd1 : x5.cell? ⟨w.heap.size + 1, 1, none⟩ = some (.string w1s) := (HWD5.out 1 (by have := Xh0.out; omega)).trans (by rw [(List.getElem?_eq_some_iff.1 Xhw1.out).2]); clear k0 k1 k2 k3 k4 k5 k6 k7 k8 f0 f1 f2 f3 f4 f5 f6 f7 f8; obtain ⟨k0, k1, k2, k3, k4, k5, k6, k7, k8⟩ := HR5.out.nine; obtain ⟨f0, f1, f2, f3, f4, f5, f6, f7, f8⟩ := HR5.out.frees; obtain ⟨z0, z1, z2, z3, z4, z5, z6, z7, z8⟩ := HZ5.out.nine; obtain ⟨g0, g1, g2, g3, g4, g5, g6, g7, g8⟩ := HZ5.out.frees; clear hb5) | (go_at_call 18; refine (XHRT.out _ (StdW.below HS.out (HB5.out.setCell (p := ⟨x1.heap.size, 6, none⟩) (Nat.le_of_lt hR1) (.string w1s)))).mono ?_; rintro e x8 ⟨rfl, hb8⟩; have HB8 := Lib.hid (below_then (HB5.out.setCell (p := ⟨x1.heap.size, 6, none⟩) (Nat.le_of_lt hR1) (.string w1s)) (HB5.out.setCell (p := ⟨x1.heap.size, 6, none⟩) (Nat.le_of_lt hR1) (.string w1s)).size hb8); have HZ8 := Lib.hid ((HZ5.out.other ⟨x1.heap.size, 6, none⟩ hRn2 (.string w1s)).below hb8); have HR8 : Hid (Blk x8 x1.heap.size (rc true 0 0 0 0 0 w1s lo lo) _) := Lib.hid ((HR5.out.set 6 (.string w1s)).below hb8); clear k0 k1 k2 k3 k4 k5 k6 k7 k8 f0 f1 f2 f3 f4 f5 f6 f7 f8; clear z0 z1 z2 z3 z4 z5 z6 z7 z8 g0 g1 g2 g3 g4 g5 g6 g7 g8; obtain ⟨k0, k1, k2, k3, k4, k5, k6, k7, k8⟩ := HR8.out.nine; obtain ⟨f0, f1, f2, f3, f4, f5, f6, f7, f8⟩ := HR8.out.frees; obtain ⟨z0, z1, z2, z3, z4, z5, z6, z7, z8⟩ := HZ8.out.nine; obtain ⟨g0, g1, g2, g3, g4, g5, g6, g7, g8⟩ := HZ8.out.frees; clear hb8))
      all_goals
        refine bodyPost_ret (v := zeroRule) (by simp [results, Tryd.results11, go_sem, zeroRule, rc, z0, z1, z2, z3, z4, z5, z6, z7, z8, hRn1, hRn2]) rfl ⟨rfl, ?_⟩
        repeat (refine Below.setCell ?_ (by first | exact Nat.le_refl _ | exact Nat.le_of_lt hR1) _)
        exact HB5.out
    · cases okC
      · go_enter Tryd.func11, Tryd.ntmps11
        go_wp2_with (first | (go_at_call 22; refine (XHSP.out _ (StdW.below HS.out (below_alloc (Below.refl _ _) _))).mono ?_; rintro e x1 ⟨rfl, hc, hlt1, hb1⟩; have HB1 := Lib.hid (below_then (below_alloc (Below.refl w.heap.size w) _) (below_alloc (Below.refl w.heap.size w) _).size hb1); have hR1 : w.heap.size < x1.heap.size := (by have := hb1.size; simp at this; omega); have hRn1 : ¬ x1.heap.size = w.heap.size := (by omega); have hRn2 : ¬ w.heap.size = x1.heap.size := (by omega); have HZ1 := Lib.hid ((Blk.new w (rc false 0 0 0 0 0 ⟨#[]⟩ 0 0) _).below hb1); have HWD1 : Hid (∀ j, (h : j < l.length) → x1.cell? ⟨w.heap.size + 1, j, none⟩ = some (.string l[j])) := Lib.hid (fun j h => by have := hc j h; rw [World.size_alloc] at this; exact this); have wd0 : x1.cell? ⟨w.heap.size + 1, 0, none⟩ = some (.string w0) := (HWD1.out 0 (by have := Xh0.out; omega)).trans (by rw [(List.getElem?_eq_some_iff.1 Xhw0.out).2]); have wd2 : x1.cell? ⟨w.heap.size + 1, 2, none⟩ = some (.string w2s) := (HWD1.out 2 (by have := Xh0.out; omega)).trans (by rw [(List.getElem?_eq_some_iff.1 Xhw2.out).2]); have hwl : w.heap.size + 1 < x1.heap.size := (by simpa using hlt1); clear hc hlt1 hb1) | (go_at_call_of 23 (Value.string w2s); refine (XHC2.out _ (StdW.below HS.out (below_alloc HB1.out _))).mono ?_; rintro e x2 ⟨rfl, hb2⟩; have HB2 := Lib.hid (below_then (below_alloc HB1.out _) (below_alloc HB1.out _).size hb2); have HZ2 := Lib.hid ((HZ1.out.old _).below hb2); have HR2 : Hid (Blk x2 x1.heap.size (rc true 0 0 0 0 0 ⟨#[]⟩ 0 0) _) := Lib.hid ((Blk.new x1 (rc true 0 0 0 0 0 ⟨#[]⟩ 0 0) _).below hb2); have HWD2 : Hid (∀ j, (h : j < l.length) → x2.cell? ⟨w.heap.size + 1, j, none⟩ = some (.string l[j])) := Lib.hid (fun j h => pw_cell_below hb2 (pw_cell_below (below_alloc (Below.refl _ _) _) (HWD1.out j h))); clear hb2 wd0 wd2) | (go_at_call_of 24 (Value.string lowS); refine (XHN1.out _ (StdW.below HS.out HB2.out)).mono ?_; rintro e x3 ⟨rfl, hb3⟩; have HB3 := Lib.hid (below_then HB2.out HB2.out.size hb3); have HZ3 := Lib.hid (HZ2.out.below hb3); have HR3 := Lib.hid (HR2.out.below hb3); have HWD3 : Hid (∀ j, (h : j < l.length) → x3.cell? ⟨w.heap.size + 1, j, none⟩ = some (.string l[j])) := Lib.hid (fun j h => pw_cell_below hb3 (HWD2.out j h)); have wd1 : x3.cell? ⟨w.heap.size + 1, 1, none⟩ = some (.string w1s) := (HWD3.out 1 (by have := Xh0.out; omega)).trans (by rw [(List.getElem?_eq_some_iff.1 Xhw1.out).2]); obtain ⟨k0, k1, k2, k3, k4, k5, k6, k7, k8⟩ := HR3.out.nine; obtain ⟨f0, f1, f2, f3, f4, f5, f6, f7, f8⟩ := HR3.out.frees; clear hb3) | (go_at_call_of 23 (Value.string w1s); refine (XHC1.out _ (StdW.below HS.out ((HB3.out.setCell (p := ⟨x1.heap.size, 7, none⟩) (Nat.le_of_lt hR1) (.int .i64 lo)).setCell (p := ⟨x1.heap.size, 8, none⟩) (Nat.le_of_lt hR1) (.int .i64 lo)))).mono ?_; rintro e x5 ⟨rfl, hb5⟩; have HB5 := Lib.hid (below_then ((HB3.out.setCell (p := ⟨x1.heap.size, 7, none⟩) (Nat.le_of_lt hR1) (.int .i64 lo)).setCell (p := ⟨x1.heap.size, 8, none⟩) (Nat.le_of_lt hR1) (.int .i64 lo)) ((HB3.out.setCell (p := ⟨x1.heap.size, 7, none⟩) (Nat.le_of_lt hR1) (.int .i64 lo)).setCell (p := ⟨x1.heap.size, 8, none⟩) (Nat.le_of_lt hR1) (.int .i64 lo)).size hb5); have HZ5 := Lib.hid (((HZ3.out.other ⟨x1.heap.size, 7, none⟩ hRn2 (.int .i64 lo)).other ⟨x1.heap.size, 8, none⟩ hRn2 (.int .i64 lo)).below hb5); have HR5 : Hid (Blk x5 x1.heap.size (rc true 0 0 0 0 0 ⟨#[]⟩ lo lo) _) := Lib.hid (((HR3.out.set 7 (.int .i64 lo)).set 8 (.int .i64 lo)).below hb5); have HWD5 : Hid (∀ j, (h : j < l.length) → x5.cell? ⟨w.heap.size + 1, j, none⟩ = some (.string l[j])) := Lib.hid (fun j h => pw_cell_below hb5 (by rw [World.cell?_setCell_other _ _ _ _ (by intro e; injection e with e; omega), World.cell?_setCell_other _ _ _ _ (by intro e; injection e with e; omega)]; exact HWD3.out j h)); clear wd1; have wd1 : x5.cell? ⟨w.heap.size + 1, 1, none⟩ = some (.string w1s) := (HWD5.out 1 (by have := Xh0.out; omega)).trans (by rw [(List.getElem?_eq_some_iff.1 Xhw1.out).2]); clear k0 k1 k2 k3 k4 k5 k6 k7 k8 f0 f1 f2 f3 f4 f5 f6 f7 f8; obtain ⟨k0, k1, k2, k3, k4, k5, k6, k7, k8⟩ := HR5.out.nine; obtain ⟨f0, f1, f2, f3, f4, f5, f6, f7, f8⟩ := HR5.out.frees; obtain ⟨z0, z1, z2, z3, z4, z5, z6, z7, z8⟩ := HZ5.out.nine; obtain ⟨g0, g1, g2, g3, g4, g5, g6, g7, g8⟩ := HZ5.out.frees; clear hb5) | (go_at_call 18; refine (XHRT.out _ (StdW.below HS.out (HB5.out.setCell (p := ⟨x1.heap.size, 6, none⟩) (Nat.le_of_lt hR1) (.string w1s)))).mono ?_; rintro e x8 ⟨rfl, hb8⟩; have HB8 := Lib.hid (below_then (HB5.out.setCell (p := ⟨x1.heap.size, 6, none⟩) (Nat.le_of_lt hR1) (.string w1s)) (HB5.out.setCell (p := ⟨x1.heap.size, 6, none⟩) (Nat.le_of_lt hR1) (.string w1s)).size hb8); have HZ8 := Lib.hid ((HZ5.out.other ⟨x1.heap.size, 6, none⟩ hRn2 (.string w1s)).below hb8); have HR8 : Hid (Blk x8 x1.heap.size (rc true 0 0 0 0 0 w1s lo lo) _) := Lib.hid ((HR5.out.set 6 (.string w1s)).below hb8); clear k0 k1 k2 k3 k4 k5 k6 k7 k8 f0 f1 f2 f3 f4 f5 f6 f7 f8; clear z0 z1 z2 z3 z4 z5 z6 z7 z8 g0 g1 g2 g3 g4 g5 g6 g7 g8; obtain ⟨k0, k1, k2, k3, k4, k5, k6, k7, k8⟩ := HR8.out.nine; obtain ⟨f0, f1, f2, f3, f4, f5, f6, f7, f8⟩ := HR8.out.frees; obtain ⟨z0, z1, z2, z3, z4, z5, z6, z7, z8⟩ := HZ8.out.nine; obtain ⟨g0, g1, g2, g3, g4, g5, g6, g7, g8⟩ := HZ8.out.frees; clear hb8))
        all_goals
          refine bodyPost_ret (v := zeroRule) (by simp [results, Tryd.results11, go_sem, zeroRule, rc, z0, z1, z2, z3, z4, z5, z6, z7, z8, hRn1, hRn2]) rfl ⟨rfl, ?_⟩
          repeat (refine Below.setCell ?_ (by first | exact Nat.le_refl _ | exact Nat.le_of_lt hR1) _)
          exact HB5.out
      · cases rb
        · go_enter Tryd.func11, Tryd.ntmps11
          go_wp2_with (first | (go_at_call 22; refine (XHSP.out _ (StdW.below HS.out (below_alloc (Below.refl _ _) _))).mono ?_; rintro e x1 ⟨rfl, hc, hlt1, hb1⟩; have HB1 := Lib.hid (below_then (below_alloc (Below.refl w.heap.size w) _) (below_alloc (Below.refl w.heap.size w) _).size hb1); have hR1 : w.heap.size < x1.heap.size := (by have := hb1.size; simp at this; omega); have hRn1 : ¬ x1.heap.size = w.heap.size := (by omega); have hRn2 : ¬ w.heap.size = x1.heap.size := (by omega); have HZ1 := Lib.hid ((Blk.new w (rc false 0 0 0 0 0 ⟨#[]⟩ 0 0) _).below hb1); have HWD1 : Hid (∀ j, (h : j < l.length) → x1.cell? ⟨w.heap.size + 1, j, none⟩ = some (.string l[j])) := Lib.hid (fun j h => by have := hc j h; rw [World.size_alloc] at this; exact this); have wd0 : x1.cell? ⟨w.heap.size + 1, 0, none⟩ = some (.string w0) := (HWD1.out 0 (by have := Xh0.out; omega)).trans (by rw [(List.getElem?_eq_some_iff.1 Xhw0.out).2]); have wd2 : x1.cell? ⟨w.heap.size + 1, 2, none⟩ = some (.string w2s) := (HWD1.out 2 (by have := Xh0.out; omega)).trans (by rw [(List.getElem?_eq_some_iff.1 Xhw2.out).2]); have hwl : w.heap.size + 1 < x1.heap.size := (by simpa using hlt1); clear hc hlt1 hb1) | (go_at_call_of 23 (Value.string w2s); refine (XHC2.out _ (StdW.below HS.out (below_alloc HB1.out _))).mono ?_; rintro e x2 ⟨rfl, hb2⟩; have HB2 := Lib.hid (below_then (below_alloc HB1.out _) (below_alloc HB1.out _).size hb2); have HZ2 := Lib.hid ((HZ1.out.old _).below hb2); have HR2 : Hid (Blk x2 x1.heap.size (rc true 0 0 0 0 0 ⟨#[]⟩ 0 0) _) := Lib.hid ((Blk.new x1 (rc true 0 0 0 0 0 ⟨#[]⟩ 0 0) _).below hb2); have HWD2 : Hid (∀ j, (h : j < l.length) → x2.cell? ⟨w.heap.size + 1, j, none⟩ = some (.string l[j])) := Lib.hid (fun j h => pw_cell_below hb2 (pw_cell_below (below_alloc (Below.refl _ _) _) (HWD1.out j h))); clear hb2 wd0 wd2) | (go_at_call_of 24 (Value.string lowS); refine (XHN1.out _ (StdW.below HS.out HB2.out)).mono ?_; rintro e x3 ⟨rfl, hb3⟩; have HB3 := Lib.hid (below_then HB2.out HB2.out.size hb3); have HZ3 := Lib.hid (HZ2.out.below hb3); have HR3 := Lib.hid (HR2.out.below hb3); have HWD3 : Hid (∀ j, (h : j < l.length) → x3.cell? ⟨w.heap.size + 1, j, none⟩ = some (.string l[j])) := Lib.hid (fun j h => pw_cell_below hb3 (HWD2.out j h)); have wd1 : x3.cell? ⟨w.heap.size + 1, 1, none⟩ = some (.string w1s) := (HWD3.out 1 (by have := Xh0.out; omega)).trans (by rw [(List.getElem?_eq_some_iff.1 Xhw1.out).2]); obtain ⟨k0, k1, k2, k3, k4, k5, k6, k7, k8⟩ := HR3.out.nine; obtain ⟨f0, f1, f2, f3, f4, f5, f6, f7, f8⟩ := HR3.out.frees; clear hb3) | (go_at_call_of 23 (Value.string w1s); refine (XHC1.out _ (StdW.below HS.out ((HB3.out.setCell (p := ⟨x1.heap.size, 7, none⟩) (Nat.le_of_lt hR1) (.int .i64 lo)).setCell (p := ⟨x1.heap.size, 8, none⟩) (Nat.le_of_lt hR1) (.int .i64 lo)))).mono ?_; rintro e x5 ⟨rfl, hb5⟩; have HB5 := Lib.hid (below_then ((HB3.out.setCell (p := ⟨x1.heap.size, 7, none⟩) (Nat.le_of_lt hR1) (.int .i64 lo)).setCell (p := ⟨x1.heap.size, 8, none⟩) (Nat.le_of_lt hR1) (.int .i64 lo)) ((HB3.out.setCell (p := ⟨x1.heap.size, 7, none⟩) (Nat.le_of_lt hR1) (.int .i64 lo)).setCell (p := ⟨x1.heap.size, 8, none⟩) (Nat.le_of_lt hR1) (.int .i64 lo)).size hb5); have HZ5 := Lib.hid (((HZ3.out.other ⟨x1.heap.size, 7, none⟩ hRn2 (.int .i64 lo)).other ⟨x1.heap.size, 8, none⟩ hRn2 (.int .i64 lo)).below hb5); have HR5 : Hid (Blk x5 x1.heap.size (rc true 0 0 0 0 0 ⟨#[]⟩ lo lo) _) := Lib.hid (((HR3.out.set 7 (.int .i64 lo)).set 8 (.int .i64 lo)).below hb5); have HWD5 : Hid (∀ j, (h : j < l.length) → x5.cell? ⟨w.heap.size + 1, j, none⟩ = some (.string l[j])) := Lib.hid (fun j h => pw_cell_below hb5 (by rw [World.cell?_setCell_other _ _ _ _ (by intro e; injection e with e; omega), World.cell?_setCell_other _ _ _ _ (by intro e; injection e with e; omega)]; exact HWD3.out j h)); clear wd1; have wd1 : x5.cell? ⟨w.heap.size + 1, 1, none⟩ = some (.string w1s) := (HWD5.out 1 (by have := Xh0.out; omega)).trans (by rw [(List.getElem?_eq_some_iff.1 Xhw1.out).2]); clear k0 k1 k2 k3 k4 k5 k6 k7 k8 f0 f1 f2 f3 f4 f5 f6 f7 f8; obtain ⟨k0, k1, k2, k3, k4, k5, k6, k7, k8⟩ := HR5.out.nine; obtain ⟨f0, f1, f2, f3, f4, f5, f6, f7, f8⟩ := HR5.out.frees; obtain ⟨z0, z1, z2, z3, z4, z5, z6, z7, z8⟩ := HZ5.out.nine; obtain ⟨g0, g1, g2, g3, g4, g5, g6, g7, g8⟩ := HZ5.out.frees; clear hb5) | (go_at_call 18; refine (XHRT.out _ (StdW.below HS.out (HB5.out.setCell (p := ⟨x1.heap.size, 6, none⟩) (Nat.le_of_lt hR1) (.string w1s)))).mono ?_; rintro e x8 ⟨rfl, hb8⟩; have HB8 := Lib.hid (below_then (HB5.out.setCell (p := ⟨x1.heap.size, 6, none⟩) (Nat.le_of_lt hR1) (.string w1s)) (HB5.out.setCell (p := ⟨x1.heap.size, 6, none⟩) (Nat.le_of_lt hR1) (.string w1s)).size hb8); have HZ8 := Lib.hid ((HZ5.out.other ⟨x1.heap.size, 6, none⟩ hRn2 (.string w1s)).below hb8); have HR8 : Hid (Blk x8 x1.heap.size (rc true 0 0 0 0 0 w1s lo lo) _) := Lib.hid ((HR5.out.set 6 (.string w1s)).below hb8); clear k0 k1 k2 k3 k4 k5 k6 k7 k8 f0 f1 f2 f3 f4 f5 f6 f7 f8; clear z0 z1 z2 z3 z4 z5 z6 z7 z8 g0 g1 g2 g3 g4 g5 g6 g7 g8; obtain ⟨k0, k1, k2, k3, k4, k5, k6, k7, k8⟩ := HR8.out.nine; obtain ⟨f0, f1, f2, f3, f4, f5, f6, f7, f8⟩ := HR8.out.frees; obtain ⟨z0, z1, z2, z3, z4, z5, z6, z7, z8⟩ := HZ8.out.nine; obtain ⟨g0, g1, g2, g3, g4, g5, g6, g7, g8⟩ := HZ8.out.frees; clear hb8))
          all_goals
            refine bodyPost_ret (v := zeroRule) (by simp [results, Tryd.results11, go_sem, zeroRule, rc, z0, z1, z2, z3, z4, z5, z6, z7, z8, hRn1, hRn2]) rfl ⟨rfl, ?_⟩
            repeat (refine Below.setCell ?_ (by first | exact Nat.le_refl _ | exact Nat.le_of_lt hR1) _)
            exact HB8.out
        · go_enter Tryd.func11, Tryd.ntmps11
          go_wp2_with (first | (go_at_call 22; refine (XHSP.out _ (StdW.below HS.out (below_alloc (Below.refl _ _) _))).mono ?_; rintro e x1 ⟨rfl, hc, hlt1, hb1⟩; have HB1 := Lib.hid (below_then (below_alloc (Below.refl w.heap.size w) _) (below_alloc (Below.refl w.heap.size w) _).size hb1); have hR1 : w.heap.size < x1.heap.size := (by have := hb1.size; simp at this; omega); have hRn1 : ¬ x1.heap.size = w.heap.size := (by omega); have hRn2 : ¬ w.heap.size = x1.heap.size := (by omega); have HZ1 := Lib.hid ((Blk.new w (rc false 0 0 0 0 0 ⟨#[]⟩ 0 0) _).below hb1); have HWD1 : Hid (∀ j, (h : j < l.length) → x1.cell? ⟨w.heap.size + 1, j, none⟩ = some (.string l[j])) := Lib.hid (fun j h => by have := hc j h; rw [World.size_alloc] at this; exact this); have wd0 : x1.cell? ⟨w.heap.size + 1, 0, none⟩ = some (.string w0) := (HWD1.out 0 (by have := Xh0.out; omega)).trans (by rw [(List.getElem?_eq_some_iff.1 Xhw0.out).2]); have wd2 : x1.cell? ⟨w.heap.size + 1, 2, none⟩ = some (.string w2s) := (HWD1.out 2 (by have := Xh0.out; omega)).trans (by rw [(List.getElem?_eq_some_iff.1 Xhw2.out).2]); have hwl : w.heap.size + 1 < x1.heap.size := (by simpa using hlt1); clear hc hlt1 hb1) | (go_at_call_of 23 (Value.string w2s); refine (XHC2.out _ (StdW.below HS.out (below_alloc HB1.out _))).mono ?_; rintro e x2 ⟨rfl, hb2⟩; have HB2 := Lib.hid (below_then (below_alloc HB1.out _) (below_alloc HB1.out _).size hb2); have HZ2 := Lib.hid ((HZ1.out.old _).below hb2); have HR2 : Hid (Blk x2 x1.heap.size (rc true 0 0 0 0 0 ⟨#[]⟩ 0 0) _) := Lib.hid ((Blk.new x1 (rc true 0 0 0 0 0 ⟨#[]⟩ 0 0) _).below hb2); have HWD2 : Hid (∀ j, (h : j < l.length) → x2.cell? ⟨w.heap.size + 1, j, none⟩ = some (.string l[j])) := Lib.hid (fun j h => pw_cell_below hb2 (pw_cell_below (below_alloc (Below.refl _ _) _) (HWD1.out j h))); clear hb2 wd0 wd2) | (go_at_call_of 24 (Value.string lowS); refine (XHN1.out _ (StdW.below HS.out HB2.out)).mono ?_; rintro e x3 ⟨rfl, hb3⟩; have HB3 := Lib.hid (below_then HB2.out HB2.out.size hb3); have HZ3 := Lib.hid (HZ2.out.below hb3); have HR3 := Lib.hid (HR2.out.below hb3); have HWD3 : Hid (∀ j, (h : j < l.length) → x3.cell? ⟨w.heap.size + 1, j, none⟩ = some (.string l[j])) := Lib.hid (fun j h => pw_cell_below hb3 (HWD2.out j h)); have wd1 : x3.cell? ⟨w.heap.size + 1, 1, none⟩ = some (.string w1s) := (HWD3.out 1 (by have := Xh0.out; omega)).trans (by rw [(List.getElem?_eq_some_iff.1 Xhw1.out).2]); obtain ⟨k0, k1, k2, k3, k4, k5, k6, k7, k8⟩ := HR3.out.nine; obtain ⟨f0, f1, f2, f3, f4, f5, f6, f7, f8⟩ := HR3.out.frees; clear hb3) | (go_at_call_of 23 (Value.string w1s); refine (XHC1.out _ (StdW.below HS.out ((HB3.out.setCell (p := ⟨x1.heap.size, 7, none⟩) (Nat.le_of_lt hR1) (.int .i64 lo)).setCell (p := ⟨x1.heap.size, 8, none⟩) (Nat.le_of_lt hR1) (.int .i64 lo)))).mono ?_; rintro e x5 ⟨rfl, hb5⟩; have HB5 := Lib.hid (below_then ((HB3.out.setCell (p := ⟨x1.heap.size, 7, none⟩) (Nat.le_of_lt hR1) (.int .i64 lo)).setCell (p := ⟨x1.heap.size, 8, none⟩) (Nat.le_of_lt hR1) (.int .i64 lo)) ((HB3.out.setCell (p := ⟨x1.heap.size, 7, none⟩) (Nat.le_of_lt hR1) (.int .i64 lo)).setCell (p := ⟨x1.heap.size, 8, none⟩) (Nat.le_of_lt hR1) (.int .i64 lo)).size hb5); have HZ5 := Lib.hid (((HZ3.out.other ⟨x1.heap.size, 7, none⟩ hRn2 (.int .i64 lo)).other ⟨x1.heap.size, 8, none⟩ hRn2 (.int .i64 lo)).below hb5); have HR5 : Hid (Blk x5 x1.heap.size (rc true 0 0 0 0 0 ⟨#[]⟩ lo lo) _) := Lib.hid (((HR3.out.set 7 (.int .i64 lo)).set 8 (.int .i64 lo)).below hb5); have HWD5 : Hid (∀ j, (h : j < l.length) → x5.cell? ⟨w.heap.size + 1, j, none⟩ = some (.string l[j])) := Lib.hid (fun j h => pw_cell_below hb5 (by rw [World.cell?_setCell_other _ _ _ _ (by intro e; injection e with e; omega), World.cell?_setCell_other _ _ _ _ (by intro e; injection e with e; omega)]; exact HWD3.out j h)); clear wd1; have wd1 : x5.cell? ⟨w.heap.size + 1, 1, none⟩ = some (.string w1s) := (HWD5.out 1 (by have := Xh0.out; omega)).trans (by rw [(List.getElem?_eq_some_iff.1 Xhw1.out).2]); clear k0 k1 k2 k3 k4 k5 k6 k7 k8 f0 f1 f2 f3 f4 f5 f6 f7 f8; obtain ⟨k0, k1, k2, k3, k4, k5, k6, k7, k8⟩ := HR5.out.nine; obtain ⟨f0, f1, f2, f3, f4, f5, f6, f7, f8⟩ := HR5.out.frees; obtain ⟨z0, z1, z2, z3, z4, z5, z6, z7, z8⟩ := HZ5.out.nine; obtain ⟨g0, g1, g2, g3, g4, g5, g6, g7, g8⟩ := HZ5.out.frees; clear hb5) | (go_at_call 18; refine (XHRT.out _ (StdW.below HS.out (HB5.out.setCell (p := ⟨x1.heap.size, 6, none⟩) (Nat.le_of_lt hR1) (.string w1s)))).mono ?_; rintro e x8 ⟨rfl, hb8⟩; have HB8 := Lib.hid (below_then (HB5.out.setCell (p := ⟨x1.heap.size, 6, none⟩) (Nat.le_of_lt hR1) (.string w1s)) (HB5.out.setCell (p := ⟨x1.heap.size, 6, none⟩) (Nat.le_of_lt hR1) (.string w1s)).size hb8); have HZ8 := Lib.hid ((HZ5.out.other ⟨x1.heap.size, 6, none⟩ hRn2 (.string w1s)).below hb8); have HR8 : Hid (Blk x8 x1.heap.size (rc true 0 0 0 0 0 w1s lo lo) _) := Lib.hid ((HR5.out.set 6 (.string w1s)).below hb8); clear k0 k1 k2 k3 k4 k5 k6 k7 k8 f0 f1 f2 f3 f4 f5 f6 f7 f8; clear z0 z1 z2 z3 z4 z5 z6 z7 z8 g0 g1 g2 g3 g4 g5 g6 g7 g8; obtain ⟨k0, k1, k2, k3, k4, k5, k6, k7, k8⟩ := HR8.out.nine; obtain ⟨f0, f1, f2, f3, f4, f5, f6, f7, f8⟩ := HR8.out.frees; obtain ⟨z0, z1, z2, z3, z4, z5, z6, z7, z8⟩ := HZ8.out.nine; obtain ⟨g0, g1, g2, g3, g4, g5, g6, g7, g8⟩ := HZ8.out.frees; clear hb8))
          all_goals
            refine bodyPost_ret (v := .tuple #[.agg (rc true 0 0 0 0 0 w1s lo lo), .int .i64 0]) (by simp [results, Tryd.results11, go_sem, rc, z0, z1, z2, z3, z4, z5, z6, z7, z8, hRn1, hRn2]) rfl ⟨rfl, ?_⟩
            repeat (refine Below.setCell ?_ (by first | exact Nat.le_refl _ | exact Nat.le_of_lt hR1) _)
            exact HB8.out
end Go.Proofs.YteondnhokgmakaaDoor.E


namespace Go.Proofs.YteondnhokgmakaaDoor.E
open Go.RowKit Go.Proofs.YteondnhokgmakaaDoorW.PrintWords Go.Proofs.YteondnhokgmakaaDoorW.PrintLast
set_option linter.unusedVariables false
set_option linter.unusedSimpArgs false
set_option maxRecDepth 100000 in
set_option maxHeartbeats 40000000 in
theorem pp_011 (s w0 w1s w2s lowS highS netS nS : ByteArray) (al okA rb : Bool) (lo : Int) (bi : Int) (okN : Bool) (a b c d : Int) (l : List ByteArray) (hs1 : s.size ≤ 285) (hs : s.size < 4294967281)
    (HSP : ∀ W, StdW W → Calls Tryd.prog 22 #[.string s, .string ⟨#[32]⟩] W fun e w' => e = .returned (.slice (some ⟨W.heap.size, 0, none⟩) l.length l.length) ∧ (∀ j, (h : j < l.length) → w'.cell? ⟨W.heap.size, j, none⟩ = some (.string l[j])) ∧ W.heap.size < w'.heap.size ∧ Below W.heap.size W w')
    (h0 : 3 = l.length)
    (hw0 : l[0]? = some w0)
    (hw1 : l[1]? = some w1s)
    (hw2 : l[2]? = some w2s)
    (hal : (w0.toList == [97, 108, 108, 111, 119]) = al)
    (hde : al = false → (w0.toList == [100, 101, 110, 121]) = true)
    (HC2 : ∀ W, StdW W → Calls Tryd.prog 23 #[.string w2s, .string ⟨#[45]⟩] W fun e w' => e = .returned (.tuple #[.string lowS, .string highS, .bool false]) ∧ Below W.heap.size W w')
    (HN1 : ∀ W, StdW W → Calls Tryd.prog 24 #[.string lowS] W fun e w' => e = .returned (.tuple #[.int .i64 lo, .bool okA]) ∧ Below W.heap.size W w')
    (HC1 : ∀ W, StdW W → Calls Tryd.prog 23 #[.string w1s, .string ⟨#[47]⟩] W fun e w' => e = .returned (.tuple #[.string netS, .string nS, .bool true]) ∧ Below W.heap.size W w')
    (HN3 : ∀ W, StdW W → Calls Tryd.prog 24 #[.string nS] W fun e w' => e = .returned (.tuple #[.int .i64 bi, .bool okN]) ∧ Below W.heap.size W w')
    (HPA : ∀ W, StdW W → Calls Tryd.prog 25 #[.string netS] W fun e w' => e = .returned (.tuple #[.agg #[.int .u8 a, .int .u8 b, .int .u8 c, .int .u8 d], .nilIface]) ∧ Below W.heap.size W w')
    (HRT : ∀ W, StdW W → Calls Tryd.prog 18 #[.agg (rc al a b c d bi ⟨#[]⟩ lo lo)] W fun e w' => e = .returned (.bool rb) ∧ Below W.heap.size W w')
    (w : World) (hS : StdW w) :
    Calls Tryd.prog 11 #[.string s] w fun e w' => e = .returned (ppOut (okA && (true && (okN && rb))) al a b c d bi ⟨#[]⟩ lo lo) ∧ Below w.heap.size w w' := by
  have HS := Lib.hid hS
  clear hS
  have hs1' : (s.size : Int) ≤ 285 := by omega
  have hl3 : ((l.length : Int) != 3) = false := by rw [← h0]; rfl
  have hl0 : (0 : Int) < (l.length : Int) := by omega
  have hl1 : (1 : Int) < (l.length : Int) := by omega
  have hl2 : (2 : Int) < (l.length : Int) := by omega
  have XHSP := Lib.hid HSP
  have XHC2 := Lib.hid HC2
  have XHN1 := Lib.hid HN1
  have XHC1 := Lib.hid HC1
  have XHRT := Lib.hid HRT
  have Xhw0 := Lib.hid hw0
  have Xhw1 := Lib.hid hw1
  have Xhw2 := Lib.hid hw2
  have XHN3 := Lib.hid HN3
  have XHPA := Lib.hid HPA
  clear HSP HC2 HN1 HC1 HRT hw0 hw1 hw2 HN3 HPA
  have Xh0 := Lib.hid h0
  clear h0 hs1
  cases al
  · have hde' := hde rfl
    clear hde
    cases okA
    · go_enter Tryd.func11, Tryd.ntmps11
      go_wp2_with (first | (go_at_call 22; refine (XHSP.out _ (StdW.below HS.out (below_alloc (Below.refl _ _) _))).mono ?_; rintro e x1 ⟨rfl, hc, hlt1, hb1⟩; have HB1 := Lib.hid (below_then (below_alloc (Below.refl w.heap.size w) _) (below_alloc (Below.refl w.heap.size w) _).size hb1); have hR1 : w.heap.size < x1.heap.size := (by have := hb1.size; simp at this; omega); have hRn1 : ¬ x1.heap.size = w.heap.size := (by omega); have hRn2 : ¬ w.heap.size = x1.heap.size := (by omega); have HZ1 := Lib.hid ((Blk.new w (rc false 0 0 0 0 0 ⟨#[]⟩ 0 0) _).below hb1); have HWD1 : Hid (∀ j, (h : j < l.length) → x1.cell? ⟨w.heap.size + 1, j, none⟩ = some (.string l[j])) := Lib.hid (fun j h => by have := hc j h; rw [World.size_alloc] at this; exact this); have wd0 : x1.cell? ⟨w.heap.size + 1, 0, none⟩ = some (.string w0) := (HWD1.out 0 (by have := Xh0.out; omega)).trans (by rw [(List.getElem?_eq_some_iff.1 Xhw0.out).2]); have wd2 : x1.cell? ⟨w.heap.size + 1, 2, none⟩ = some (.string w2s) := (HWD1.out 2 (by have := Xh0.out; omega)).trans (by rw [(List.getElem?_eq_some_iff.1 Xhw2.out).2]); have hwl : w.heap.size + 1 < x1.heap.size := (by simpa using hlt1); clear hc hlt1 hb1) | (go_at_call_of 23 (Value.string w2s); refine (XHC2.out _ (StdW.below HS.out (below_alloc HB1.out _))).mono ?_; rintro e x2 ⟨rfl, hb2⟩; have HB2 := Lib.hid (below_then (below_alloc HB1.out _) (below_alloc HB1.out _).size hb2); have HZ2 := Lib.hid ((HZ1.out.old _).below hb2); have HR2 : Hid (Blk x2 x1.heap.size (rc false 0 0 0 0 0 ⟨#[]⟩ 0 0) _) := Lib.hid ((Blk.new x1 (rc false 0 0 0 0 0 ⟨#[]⟩ 0 0) _).below hb2); have HWD2 : Hid (∀ j, (h : j < l.length) → x2.cell? ⟨w.heap.size + 1, j, none⟩ = some (.string l[j])) := Lib.hid (fun j h => pw_cell_below hb2 (pw_cell_below (below_alloc (Below.refl _ _) _) (HWD1.out j h))); clear hb2 wd0 wd2) | (go_at_call_of 24 (Value.string lowS); refine (XHN1.out _ (StdW.below HS.out HB2.out)).mono ?_; rintro e x3 ⟨rfl, hb3⟩; have HB3 := Lib.hid (below_then HB2.out HB2.out.size hb3); have HZ3 := Lib.hid (HZ2.out.below hb3); have HR3 := Lib.hid (HR2.out.below hb3); have HWD3 : Hid (∀ j, (h : j < l.length) → x3.cell? ⟨w.heap.size + 1, j, none⟩ = some (.string l[j])) := Lib.hid (fun j h => pw_cell_below hb3 (HWD2.out j h)); have wd1 : x3.cell? ⟨w.heap.size + 1, 1, none⟩ = some (.string w1s) := (HWD3.out 1 (by have := Xh0.out; omega)).trans (by rw [(List.getElem?_eq_some_iff.1 Xhw1.out).2]); obtain ⟨k0, k1, k2, k3, k4, k5, k6, k7, k8⟩ := HR3.out.nine; obtain ⟨f0, f1, f2, f3, f4, f5, f6, f7, f8⟩ := HR3.out.frees; clear hb3) | (go_at_call_of 23 (Value.string w1s); refine (XHC1.out _ (StdW.below HS.out ((HB3.out.setCell (p := ⟨x1.heap.size, 7, none⟩) (Nat.le_of_lt hR1) (.int .i64 lo)).setCell (p := ⟨x1.heap.size, 8, none⟩) (Nat.le_of_lt hR1) (.int .i64 lo)))).mono ?_; rintro e x5 ⟨rfl, hb5⟩; have HB5 := Lib.hid (below_then ((HB3.out.setCell (p := ⟨x1.heap.size, 7, none⟩) (Nat.le_of_lt hR1) (.int .i64 lo)).setCell (p := ⟨x1.heap.size, 8, none⟩) (Nat.le_of_lt hR1) (.int .i64 lo)) ((HB3.out.setCell (p := ⟨x1.heap.size, 7, none⟩) (Nat.le_of_lt hR1) (.int .i64 lo)).setCell (p := ⟨x1.heap.size, 8, none⟩) (Nat.le_of_lt hR1) (.int .i64 lo)).size hb5); have HZ5 := Lib.hid (((HZ3.out.other ⟨x1.heap.size, 7, none⟩ hRn2 (.int .i64 lo)).other ⟨x1.heap.size, 8, none⟩ hRn2 (.int .i64 lo)).below hb5); have HR5 : Hid (Blk x5 x1.heap.size (rc false 0 0 0 0 0 ⟨#[]⟩ lo lo) _) := Lib.hid (((HR3.out.set 7 (.int .i64 lo)).set 8 (.int .i64 lo)).below hb5); have HWD5 : Hid (∀ j, (h : j < l.length) → x5.cell? ⟨w.heap.size + 1, j, none⟩ = some (.string l[j])) := Lib.hid (fun j h => pw_cell_below hb5 (by rw [World.cell?_setCell_other _ _ _ _ (by intro e; injection e with e; omega), World.cell?_setCell_other _ _ _ _ (by intro e; injection e with e; omega)]; exact HWD3.out j h)); clear wd1; have wd1 : x5.cell? ⟨w.heap.size + 1, 1, none⟩ = some (.string w1s) := (HWD5.out 1 (by have := Xh0.out; omega)).trans (by rw [(List.getElem?_eq_some_iff.1 Xhw1.out).2]); clear k0 k1 k2 k3 k4 k5 k6 k7 k8 f0 f1 f2 f3 f4 f5 f6 f7 f8; obtain ⟨k0, k1, k2, k3, k4, k5, k6, k7, k8⟩ := HR5.out.nine; obtain ⟨f0, f1, f2, f3, f4, f5, f6, f7, f8⟩ := HR5.out.frees; clear hb5) | (go_at_call_of 24 (Value.string nS); refine (XHN3.out _ (StdW.below HS.out HB5.out)).mono ?_; rintro e x6 ⟨rfl, hb6⟩; have HB6 := Lib.hid (below_then HB5.out HB5.out.size hb6); have HZ6 := Lib.hid (HZ5.out.below hb6); have HR6 := Lib.hid (HR5.out.below hb6); clear k0 k1 k2 k3 k4 k5 k6 k7 k8 f0 f1 f2 f3 f4 f5 f6 f7 f8; obtain ⟨k0, k1, k2, k3, k4, k5, k6, k7, k8⟩ := HR6.out.nine; obtain ⟨f0, f1, f2, f3, f4, f5, f6, f7, f8⟩ := HR6.out.frees; clear hb6) | (go_at_call 25; refine (XHPA.out _ (StdW.below HS.out (HB6.out.setCell (p := ⟨x1.heap.size, 5, none⟩) (Nat.le_of_lt hR1) (.int .i64 bi)))).mono ?_; rintro e x7 ⟨rfl, hb7⟩; have HB7 := Lib.hid (below_then (HB6.out.setCell (p := ⟨x1.heap.size, 5, none⟩) (Nat.le_of_lt hR1) (.int .i64 bi)) (HB6.out.setCell (p := ⟨x1.heap.size, 5, none⟩) (Nat.le_of_lt hR1) (.int .i64 bi)).size hb7); have HZ7 := Lib.hid ((HZ6.out.other ⟨x1.heap.size, 5, none⟩ hRn2 (.int .i64 bi)).below hb7); have HR7 : Hid (Blk x7 x1.heap.size (rc false 0 0 0 0 bi ⟨#[]⟩ lo lo) _) := Lib.hid ((HR6.out.set 5 (.int .i64 bi)).below hb7); clear k0 k1 k2 k3 k4 k5 k6 k7 k8 f0 f1 f2 f3 f4 f5 f6 f7 f8; obtain ⟨k0, k1, k2, k3, k4, k5, k6, k7, k8⟩ := HR7.out.nine; obtain ⟨f0, f1, f2, f3, f4, f5, f6, f7, f8⟩ := HR7.out.frees; obtain ⟨z0, z1, z2, z3, z4, z5, z6, z7, z8⟩ := HZ7.out.nine; obtain ⟨g0, g1, g2, g3, g4, g5, g6, g7, g8⟩ := HZ7.out.frees; clear hb7) | (go_at_call 18; refine (XHRT.out _ (StdW.below HS.out ((((HB7.out.setCell (p := ⟨x1.heap.size, 1, none⟩) (Nat.le_of_lt hR1) (.int .u8 a)).setCell (p := ⟨x1.heap.size, 2, none⟩) (Nat.le_of_lt hR1) (.int .u8 b)).setCell (p := ⟨x1.heap.size, 3, none⟩) (Nat.le_of_lt hR1) (.int .u8 c)).setCell (p := ⟨x1.heap.size, 4, none⟩) (Nat.le_of_lt hR1) (.int .u8 d)))).mono ?_; rintro e x8 ⟨rfl, hb8⟩; have HB8 := Lib.hid (below_then ((((HB7.out.setCell (p := ⟨x1.heap.size, 1, none⟩) (Nat.le_of_lt hR1) (.int .u8 a)).setCell (p := ⟨x1.heap.size, 2, none⟩) (Nat.le_of_lt hR1) (.int .u8 b)).setCell (p := ⟨x1.heap.size, 3, none⟩) (Nat.le_of_lt hR1) (.int .u8 c)).setCell (p := ⟨x1.heap.size, 4, none⟩) (Nat.le_of_lt hR1) (.int .u8 d)) ((((HB7.out.setCell (p := ⟨x1.heap.size, 1, none⟩) (Nat.le_of_lt hR1) (.int .u8 a)).setCell (p := ⟨x1.heap.size, 2, none⟩) (Nat.le_of_lt hR1) (.int .u8 b)).setCell (p := ⟨x1.heap.size, 3, none⟩) (Nat.le_of_lt hR1) (.int .u8 c)).setCell (p := ⟨x1.heap.size, 4, none⟩) (Nat.le_of_lt hR1) (.int .u8 d)).size hb8); have HZ8 := Lib.hid (((((HZ7.out.other ⟨x1.heap.size, 1, none⟩ hRn2 (.int .u8 a)).other ⟨x1.heap.size, 2, none⟩ hRn2 (.int .u8 b)).other ⟨x1.heap.size, 3, none⟩ hRn2 (.int .u8 c)).other ⟨x1.heap.size, 4, none⟩ hRn2 (.int .u8 d)).below hb8); have HR8 : Hid (Blk x8 x1.heap.size (rc false a b c d bi ⟨#[]⟩ lo lo) _) := Lib.hid (((((HR7.out.set 1 (.int .u8 a)).set 2 (.int .u8 b)).set 3 (.int .u8 c)).set 4 (.int .u8 d)).below hb8); clear k0 k1 k2 k3 k4 k5 k6 k7 k8 f0 f1 f2 f3 f4 f5 f6 f7 f8; clear z0 z1 z2 z3 z4 z5 z6 z7 z8 g0 g1 g2 g3 g4 g5 g6 g7 g8; obtain ⟨k0, k1, k2, k3, k4, k5, k6, k7, k8⟩ := HR8.out.nine; obtain ⟨f0, f1, f2, f3, f4, f5, f6, f7, f8⟩ := HR8.out.frees; obtain ⟨z0, z1, z2, z3, z4, z5, z6, z7, z8⟩ := HZ8.out.nine; obtain ⟨g0, g1, g2, g3, g4, g5, g6, g7, g8⟩ := HZ8.out.frees; clear hb8))
      all_goals
        refine bodyPost_ret (v := zeroRule) (by simp [results, Tryd.results11, go_sem, zeroRule, rc, z0, z1, z2, z3, z4, z5, z6, z7, z8, hRn1, hRn2]) rfl ⟨rfl, ?_⟩
        repeat (refine Below.setCell ?_ (by first | exact Nat.le_refl _ | exact Nat.le_of_lt hR1) _)
        exact HB7.out
    · cases okN
      · go_enter Tryd.func11, Tryd.ntmps11
        go_wp2_with (first | (go_at_call 22; refine (XHSP.out _ (StdW.below HS.out (below_alloc (Below.refl _ _) _))).mono ?_; rintro e x1 ⟨rfl, hc, hlt1, hb1⟩; have HB1 := Lib.hid (below_then (below_alloc (Below.refl w.heap.size w) _) (below_alloc (Below.refl w.heap.size w) _).size hb1); have hR1 : w.heap.size < x1.heap.size := (by have := hb1.size; simp at this; omega); have hRn1 : ¬ x1.heap.size = w.heap.size := (by omega); have hRn2 : ¬ w.heap.size = x1.heap.size := (by omega); have HZ1 := Lib.hid ((Blk.new w (rc false 0 0 0 0 0 ⟨#[]⟩ 0 0) _).below hb1); have HWD1 : Hid (∀ j, (h : j < l.length) → x1.cell? ⟨w.heap.size + 1, j, none⟩ = some (.string l[j])) := Lib.hid (fun j h => by have := hc j h; rw [World.size_alloc] at this; exact this); have wd0 : x1.cell? ⟨w.heap.size + 1, 0, none⟩ = some (.string w0) := (HWD1.out 0 (by have := Xh0.out; omega)).trans (by rw [(List.getElem?_eq_some_iff.1 Xhw0.out).2]); have wd2 : x1.cell? ⟨w.heap.size + 1, 2, none⟩ = some (.string w2s) := (HWD1.out 2 (by have := Xh0.out; omega)).trans (by rw [(List.getElem?_eq_some_iff.1 Xhw2.out).2]); have hwl : w.heap.size + 1 < x1.heap.size := (by simpa using hlt1); clear hc hlt1 hb1) | (go_at_call_of 23 (Value.string w2s); refine (XHC2.out _ (StdW.below HS.out (below_alloc HB1.out _))).mono ?_; rintro e x2 ⟨rfl, hb2⟩; have HB2 := Lib.hid (below_then (below_alloc HB1.out _) (below_alloc HB1.out _).size hb2); have HZ2 := Lib.hid ((HZ1.out.old _).below hb2); have HR2 : Hid (Blk x2 x1.heap.size (rc false 0 0 0 0 0 ⟨#[]⟩ 0 0) _) := Lib.hid ((Blk.new x1 (rc false 0 0 0 0 0 ⟨#[]⟩ 0 0) _).below hb2); have HWD2 : Hid (∀ j, (h : j < l.length) → x2.cell? ⟨w.heap.size + 1, j, none⟩ = some (.string l[j])) := Lib.hid (fun j h => pw_cell_below hb2 (pw_cell_below (below_alloc (Below.refl _ _) _) (HWD1.out j h))); clear hb2 wd0 wd2) | (go_at_call_of 24 (Value.string lowS); refine (XHN1.out _ (StdW.below HS.out HB2.out)).mono ?_; rintro e x3 ⟨rfl, hb3⟩; have HB3 := Lib.hid (below_then HB2.out HB2.out.size hb3); have HZ3 := Lib.hid (HZ2.out.below hb3); have HR3 := Lib.hid (HR2.out.below hb3); have HWD3 : Hid (∀ j, (h : j < l.length) → x3.cell? ⟨w.heap.size + 1, j, none⟩ = some (.string l[j])) := Lib.hid (fun j h => pw_cell_below hb3 (HWD2.out j h)); have wd1 : x3.cell? ⟨w.heap.size + 1, 1, none⟩ = some (.string w1s) := (HWD3.out 1 (by have := Xh0.out; omega)).trans (by rw [(List.getElem?_eq_some_iff.1 Xhw1.out).2]); obtain ⟨k0, k1, k2, k3, k4, k5, k6, k7, k8⟩ := HR3.out.nine; obtain ⟨f0, f1, f2, f3, f4, f5, f6, f7, f8⟩ := HR3.out.frees; clear hb3) | (go_at_call_of 23 (Value.string w1s); refine (XHC1.out _ (StdW.below HS.out ((HB3.out.setCell (p := ⟨x1.heap.size, 7, none⟩) (Nat.le_of_lt hR1) (.int .i64 lo)).setCell (p := ⟨x1.heap.size, 8, none⟩) (Nat.le_of_lt hR1) (.int .i64 lo)))).mono ?_; rintro e x5 ⟨rfl, hb5⟩; have HB5 := Lib.hid (below_then ((HB3.out.setCell (p := ⟨x1.heap.size, 7, none⟩) (Nat.le_of_lt hR1) (.int .i64 lo)).setCell (p := ⟨x1.heap.size, 8, none⟩) (Nat.le_of_lt hR1) (.int .i64 lo)) ((HB3.out.setCell (p := ⟨x1.heap.size, 7, none⟩) (Nat.le_of_lt hR1) (.int .i64 lo)).setCell (p := ⟨x1.heap.size, 8, none⟩) (Nat.le_of_lt hR1) (.int .i64 lo)).size hb5); have HZ5 := Lib.hid (((HZ3.out.other ⟨x1.heap.size, 7, none⟩ hRn2 (.int .i64 lo)).other ⟨x1.heap.size, 8, none⟩ hRn2 (.int .i64 lo)).below hb5); have HR5 : Hid (Blk x5 x1.heap.size (rc false 0 0 0 0 0 ⟨#[]⟩ lo lo) _) := Lib.hid (((HR3.out.set 7 (.int .i64 lo)).set 8 (.int .i64 lo)).below hb5); have HWD5 : Hid (∀ j, (h : j < l.length) → x5.cell? ⟨w.heap.size + 1, j, none⟩ = some (.string l[j])) := Lib.hid (fun j h => pw_cell_below hb5 (by rw [World.cell?_setCell_other _ _ _ _ (by intro e; injection e with e; omega), World.cell?_setCell_other _ _ _ _ (by intro e; injection e with e; omega)]; exact HWD3.out j h)); clear wd1; have wd1 : x5.cell? ⟨w.heap.size + 1, 1, none⟩ = some (.string w1s) := (HWD5.out 1 (by have := Xh0.out; omega)).trans (by rw [(List.getElem?_eq_some_iff.1 Xhw1.out).2]); clear k0 k1 k2 k3 k4 k5 k6 k7 k8 f0 f1 f2 f3 f4 f5 f6 f7 f8; obtain ⟨k0, k1, k2, k3, k4, k5, k6, k7, k8⟩ := HR5.out.nine; obtain ⟨f0, f1, f2, f3, f4, f5, f6, f7, f8⟩ := HR5.out.frees; clear hb5) | (go_at_call_of 24 (Value.string nS); refine (XHN3.out _ (StdW.below HS.out HB5.out)).mono ?_; rintro e x6 ⟨rfl, hb6⟩; have HB6 := Lib.hid (below_then HB5.out HB5.out.size hb6); have HZ6 := Lib.hid (HZ5.out.below hb6); have HR6 := Lib.hid (HR5.out.below hb6); clear k0 k1 k2 k3 k4 k5 k6 k7 k8 f0 f1 f2 f3 f4 f5 f6 f7 f8; obtain ⟨k0, k1, k2, k3, k4, k5, k6, k7, k8⟩ := HR6.out.nine; obtain ⟨f0, f1, f2, f3, f4, f5, f6, f7, f8⟩ := HR6.out.frees; clear hb6) | (go_at_call 25; refine (XHPA.out _ (StdW.below HS.out (HB6.out.setCell (p := ⟨x1.heap.size, 5, none⟩) (Nat.le_of_lt hR1) (.int .i64 bi)))).mono ?_; rintro e x7 ⟨rfl, hb7⟩; have HB7 := Lib.hid (below_then (HB6.out.setCell (p := ⟨x1.heap.size, 5, none⟩) (Nat.le_of_lt hR1) (.int .i64 bi)) (HB6.out.setCell (p := ⟨x1.heap.size, 5, none⟩) (Nat.le_of_lt hR1) (.int .i64 bi)).size hb7); have HZ7 := Lib.hid ((HZ6.out.other ⟨x1.heap.size, 5, none⟩ hRn2 (.int .i64 bi)).below hb7); have HR7 : Hid (Blk x7 x1.heap.size (rc false 0 0 0 0 bi ⟨#[]⟩ lo lo) _) := Lib.hid ((HR6.out.set 5 (.int .i64 bi)).below hb7); clear k0 k1 k2 k3 k4 k5 k6 k7 k8 f0 f1 f2 f3 f4 f5 f6 f7 f8; obtain ⟨k0, k1, k2, k3, k4, k5, k6, k7, k8⟩ := HR7.out.nine; obtain ⟨f0, f1, f2, f3, f4, f5, f6, f7, f8⟩ := HR7.out.frees; obtain ⟨z0, z1, z2, z3, z4, z5, z6, z7, z8⟩ := HZ7.out.nine; obtain ⟨g0, g1, g2, g3, g4, g5, g6, g7, g8⟩ := HZ7.out.frees; clear hb7) | (go_at_call 18; refine (XHRT.out _ (StdW.below HS.out ((((HB7.out.setCell (p := ⟨x1.heap.size, 1, none⟩) (Nat.le_of_lt hR1) (.int .u8 a)).setCell (p := ⟨x1.heap.size, 2, none⟩) (Nat.le_of_lt hR1) (.int .u8 b)).setCell (p := ⟨x1.heap.size, 3, none⟩) (Nat.le_of_lt hR1) (.int .u8 c)).setCell (p := ⟨x1.heap.size, 4, none⟩) (Nat.le_of_lt hR1) (.int .u8 d)))).mono ?_; rintro e x8 ⟨rfl, hb8⟩; have HB8 := Lib.hid (below_then ((((HB7.out.setCell (p := ⟨x1.heap.size, 1, none⟩) (Nat.le_of_lt hR1) (.int .u8 a)).setCell (p := ⟨x1.heap.size, 2, none⟩) (Nat.le_of_lt hR1) (.int .u8 b)).setCell (p := ⟨x1.heap.size, 3, none⟩) (Nat.le_of_lt hR1) (.int .u8 c)).setCell (p := ⟨x1.heap.size, 4, none⟩) (Nat.le_of_lt hR1) (.int .u8 d)) ((((HB7.out.setCell (p := ⟨x1.heap.size, 1, none⟩) (Nat.le_of_lt hR1) (.int .u8 a)).setCell (p := ⟨x1.heap.size, 2, none⟩) (Nat.le_of_lt hR1) (.int .u8 b)).setCell (p := ⟨x1.heap.size, 3, none⟩) (Nat.le_of_lt hR1) (.int .u8 c)).setCell (p := ⟨x1.heap.size, 4, none⟩) (Nat.le_of_lt hR1) (.int .u8 d)).size hb8); have HZ8 := Lib.hid (((((HZ7.out.other ⟨x1.heap.size, 1, none⟩ hRn2 (.int .u8 a)).other ⟨x1.heap.size, 2, none⟩ hRn2 (.int .u8 b)).other ⟨x1.heap.size, 3, none⟩ hRn2 (.int .u8 c)).other ⟨x1.heap.size, 4, none⟩ hRn2 (.int .u8 d)).below hb8); have HR8 : Hid (Blk x8 x1.heap.size (rc false a b c d bi ⟨#[]⟩ lo lo) _) := Lib.hid (((((HR7.out.set 1 (.int .u8 a)).set 2 (.int .u8 b)).set 3 (.int .u8 c)).set 4 (.int .u8 d)).below hb8); clear k0 k1 k2 k3 k4 k5 k6 k7 k8 f0 f1 f2 f3 f4 f5 f6 f7 f8; clear z0 z1 z2 z3 z4 z5 z6 z7 z8 g0 g1 g2 g3 g4 g5 g6 g7 g8; obtain ⟨k0, k1, k2, k3, k4, k5, k6, k7, k8⟩ := HR8.out.nine; obtain ⟨f0, f1, f2, f3, f4, f5, f6, f7, f8⟩ := HR8.out.frees; obtain ⟨z0, z1, z2, z3, z4, z5, z6, z7, z8⟩ := HZ8.out.nine; obtain ⟨g0, g1, g2, g3, g4, g5, g6, g7, g8⟩ := HZ8.out.frees; clear hb8))
        all_goals
          refine bodyPost_ret (v := zeroRule) (by simp [results, Tryd.results11, go_sem, zeroRule, rc, z0, z1, z2, z3, z4, z5, z6, z7, z8, hRn1, hRn2]) rfl ⟨rfl, ?_⟩
          repeat (refine Below.setCell ?_ (by first | exact Nat.le_refl _ | exact Nat.le_of_lt hR1) _)
          exact HB7.out
      · cases rb
        · go_enter Tryd.func11, Tryd.ntmps11
          go_wp2_with (first | (go_at_call 22; refine (XHSP.out _ (StdW.below HS.out (below_alloc (Below.refl _ _) _))).mono ?_; rintro e x1 ⟨rfl, hc, hlt1, hb1⟩; have HB1 := Lib.hid (below_then (below_alloc (Below.refl w.heap.size w) _) (below_alloc (Below.refl w.heap.size w) _).size hb1); have hR1 : w.heap.size < x1.heap.size := (by have := hb1.size; simp at this; omega); have hRn1 : ¬ x1.heap.size = w.heap.size := (by omega); have hRn2 : ¬ w.heap.size = x1.heap.size := (by omega); have HZ1 := Lib.hid ((Blk.new w (rc false 0 0 0 0 0 ⟨#[]⟩ 0 0) _).below hb1); have HWD1 : Hid (∀ j, (h : j < l.length) → x1.cell? ⟨w.heap.size + 1, j, none⟩ = some (.string l[j])) := Lib.hid (fun j h => by have := hc j h; rw [World.size_alloc] at this; exact this); have wd0 : x1.cell? ⟨w.heap.size + 1, 0, none⟩ = some (.string w0) := (HWD1.out 0 (by have := Xh0.out; omega)).trans (by rw [(List.getElem?_eq_some_iff.1 Xhw0.out).2]); have wd2 : x1.cell? ⟨w.heap.size + 1, 2, none⟩ = some (.string w2s) := (HWD1.out 2 (by have := Xh0.out; omega)).trans (by rw [(List.getElem?_eq_some_iff.1 Xhw2.out).2]); have hwl : w.heap.size + 1 < x1.heap.size := (by simpa using hlt1); clear hc hlt1 hb1) | (go_at_call_of 23 (Value.string w2s); refine (XHC2.out _ (StdW.below HS.out (below_alloc HB1.out _))).mono ?_; rintro e x2 ⟨rfl, hb2⟩; have HB2 := Lib.hid (below_then (below_alloc HB1.out _) (below_alloc HB1.out _).size hb2); have HZ2 := Lib.hid ((HZ1.out.old _).below hb2); have HR2 : Hid (Blk x2 x1.heap.size (rc false 0 0 0 0 0 ⟨#[]⟩ 0 0) _) := Lib.hid ((Blk.new x1 (rc false 0 0 0 0 0 ⟨#[]⟩ 0 0) _).below hb2); have HWD2 : Hid (∀ j, (h : j < l.length) → x2.cell? ⟨w.heap.size + 1, j, none⟩ = some (.string l[j])) := Lib.hid (fun j h => pw_cell_below hb2 (pw_cell_below (below_alloc (Below.refl _ _) _) (HWD1.out j h))); clear hb2 wd0 wd2) | (go_at_call_of 24 (Value.string lowS); refine (XHN1.out _ (StdW.below HS.out HB2.out)).mono ?_; rintro e x3 ⟨rfl, hb3⟩; have HB3 := Lib.hid (below_then HB2.out HB2.out.size hb3); have HZ3 := Lib.hid (HZ2.out.below hb3); have HR3 := Lib.hid (HR2.out.below hb3); have HWD3 : Hid (∀ j, (h : j < l.length) → x3.cell? ⟨w.heap.size + 1, j, none⟩ = some (.string l[j])) := Lib.hid (fun j h => pw_cell_below hb3 (HWD2.out j h)); have wd1 : x3.cell? ⟨w.heap.size + 1, 1, none⟩ = some (.string w1s) := (HWD3.out 1 (by have := Xh0.out; omega)).trans (by rw [(List.getElem?_eq_some_iff.1 Xhw1.out).2]); obtain ⟨k0, k1, k2, k3, k4, k5, k6, k7, k8⟩ := HR3.out.nine; obtain ⟨f0, f1, f2, f3, f4, f5, f6, f7, f8⟩ := HR3.out.frees; clear hb3) | (go_at_call_of 23 (Value.string w1s); refine (XHC1.out _ (StdW.below HS.out ((HB3.out.setCell (p := ⟨x1.heap.size, 7, none⟩) (Nat.le_of_lt hR1) (.int .i64 lo)).setCell (p := ⟨x1.heap.size, 8, none⟩) (Nat.le_of_lt hR1) (.int .i64 lo)))).mono ?_; rintro e x5 ⟨rfl, hb5⟩; have HB5 := Lib.hid (below_then ((HB3.out.setCell (p := ⟨x1.heap.size, 7, none⟩) (Nat.le_of_lt hR1) (.int .i64 lo)).setCell (p := ⟨x1.heap.size, 8, none⟩) (Nat.le_of_lt hR1) (.int .i64 lo)) ((HB3.out.setCell (p := ⟨x1.heap.size, 7, none⟩) (Nat.le_of_lt hR1) (.int .i64 lo)).setCell (p := ⟨x1.heap.size, 8, none⟩) (Nat.le_of_lt hR1) (.int .i64 lo)).size hb5); have HZ5 := Lib.hid (((HZ3.out.other ⟨x1.heap.size, 7, none⟩ hRn2 (.int .i64 lo)).other ⟨x1.heap.size, 8, none⟩ hRn2 (.int .i64 lo)).below hb5); have HR5 : Hid (Blk x5 x1.heap.size (rc false 0 0 0 0 0 ⟨#[]⟩ lo lo) _) := Lib.hid (((HR3.out.set 7 (.int .i64 lo)).set 8 (.int .i64 lo)).below hb5); have HWD5 : Hid (∀ j, (h : j < l.length) → x5.cell? ⟨w.heap.size + 1, j, none⟩ = some (.string l[j])) := Lib.hid (fun j h => pw_cell_below hb5 (by rw [World.cell?_setCell_other _ _ _ _ (by intro e; injection e with e; omega), World.cell?_setCell_other _ _ _ _ (by intro e; injection e with e; omega)]; exact HWD3.out j h)); clear wd1; have wd1 : x5.cell? ⟨w.heap.size + 1, 1, none⟩ = some (.string w1s) := (HWD5.out 1 (by have := Xh0.out; omega)).trans (by rw [(List.getElem?_eq_some_iff.1 Xhw1.out).2]); clear k0 k1 k2 k3 k4 k5 k6 k7 k8 f0 f1 f2 f3 f4 f5 f6 f7 f8; obtain ⟨k0, k1, k2, k3, k4, k5, k6, k7, k8⟩ := HR5.out.nine; obtain ⟨f0, f1, f2, f3, f4, f5, f6, f7, f8⟩ := HR5.out.frees; clear hb5) | (go_at_call_of 24 (Value.string nS); refine (XHN3.out _ (StdW.below HS.out HB5.out)).mono ?_; rintro e x6 ⟨rfl, hb6⟩; have HB6 := Lib.hid (below_then HB5.out HB5.out.size hb6); have HZ6 := Lib.hid (HZ5.out.below hb6); have HR6 := Lib.hid (HR5.out.below hb6); clear k0 k1 k2 k3 k4 k5 k6 k7 k8 f0 f1 f2 f3 f4 f5 f6 f7 f8; obtain ⟨k0, k1, k2, k3, k4, k5, k6, k7, k8⟩ := HR6.out.nine; obtain ⟨f0, f1, f2, f3, f4, f5, f6, f7, f8⟩ := HR6.out.frees; clear hb6) | (go_at_call 25; refine (XHPA.out _ (StdW.below HS.out (HB6.out.setCell (p := ⟨x1.heap.size, 5, none⟩) (Nat.le_of_lt hR1) (.int .i64 bi)))).mono ?_; rintro e x7 ⟨rfl, hb7⟩; have HB7 := Lib.hid (below_then (HB6.out.setCell (p := ⟨x1.heap.size, 5, none⟩) (Nat.le_of_lt hR1) (.int .i64 bi)) (HB6.out.setCell (p := ⟨x1.heap.size, 5, none⟩) (Nat.le_of_lt hR1) (.int .i64 bi)).size hb7); have HZ7 := Lib.hid ((HZ6.out.other ⟨x1.heap.size, 5, none⟩ hRn2 (.int .i64 bi)).below hb7); have HR7 : Hid (Blk x7 x1.heap.size (rc false 0 0 0 0 bi ⟨#[]⟩ lo lo) _) := Lib.hid ((HR6.out.set 5 (.int .i64 bi)).below hb7); clear k0 k1 k2 k3 k4 k5 k6 k7 k8 f0 f1 f2 f3 f4 f5 f6 f7 f8; obtain ⟨k0, k1, k2, k3, k4, k5, k6, k7, k8⟩ := HR7.out.nine; obtain ⟨f0, f1, f2, f3, f4, f5, f6, f7, f8⟩ := HR7.out.frees; obtain ⟨z0, z1, z2, z3, z4, z5, z6, z7, z8⟩ := HZ7.out.nine; obtain ⟨g0, g1, g2, g3, g4, g5, g6, g7, g8⟩ := HZ7.out.frees; clear hb7) | (go_at_call 18; refine (XHRT.out _ (StdW.below HS.out ((((HB7.out.setCell (p := ⟨x1.heap.size, 1, none⟩) (Nat.le_of_lt hR1) (.int .u8 a)).setCell (p := ⟨x1.heap.size, 2, none⟩) (Nat.le_of_lt hR1) (.int .u8 b)).setCell (p := ⟨x1.heap.size, 3, none⟩) (Nat.le_of_lt hR1) (.int .u8 c)).setCell (p := ⟨x1.heap.size, 4, none⟩) (Nat.le_of_lt hR1) (.int .u8 d)))).mono ?_; rintro e x8 ⟨rfl, hb8⟩; have HB8 := Lib.hid (below_then ((((HB7.out.setCell (p := ⟨x1.heap.size, 1, none⟩) (Nat.le_of_lt hR1) (.int .u8 a)).setCell (p := ⟨x1.heap.size, 2, none⟩) (Nat.le_of_lt hR1) (.int .u8 b)).setCell (p := ⟨x1.heap.size, 3, none⟩) (Nat.le_of_lt hR1) (.int .u8 c)).setCell (p := ⟨x1.heap.size, 4, none⟩) (Nat.le_of_lt hR1) (.int .u8 d)) ((((HB7.out.setCell (p := ⟨x1.heap.size, 1, none⟩) (Nat.le_of_lt hR1) (.int .u8 a)).setCell (p := ⟨x1.heap.size, 2, none⟩) (Nat.le_of_lt hR1) (.int .u8 b)).setCell (p := ⟨x1.heap.size, 3, none⟩) (Nat.le_of_lt hR1) (.int .u8 c)).setCell (p := ⟨x1.heap.size, 4, none⟩) (Nat.le_of_lt hR1) (.int .u8 d)).size hb8); have HZ8 := Lib.hid (((((HZ7.out.other ⟨x1.heap.size, 1, none⟩ hRn2 (.int .u8 a)).other ⟨x1.heap.size, 2, none⟩ hRn2 (.int .u8 b)).other ⟨x1.heap.size, 3, none⟩ hRn2 (.int .u8 c)).other ⟨x1.heap.size, 4, none⟩ hRn2 (.int .u8 d)).below hb8); have HR8 : Hid (Blk x8 x1.heap.size (rc false a b c d bi ⟨#[]⟩ lo lo) _) := Lib.hid (((((HR7.out.set 1 (.int .u8 a)).set 2 (.int .u8 b)).set 3 (.int .u8 c)).set 4 (.int .u8 d)).below hb8); clear k0 k1 k2 k3 k4 k5 k6 k7 k8 f0 f1 f2 f3 f4 f5 f6 f7 f8; clear z0 z1 z2 z3 z4 z5 z6 z7 z8 g0 g1 g2 g3 g4 g5 g6 g7 g8; obtain ⟨k0, k1, k2, k3, k4, k5, k6, k7, k8⟩ := HR8.out.nine; obtain ⟨f0, f1, f2, f3, f4, f5, f6, f7, f8⟩ := HR8.out.frees; obtain ⟨z0, z1, z2, z3, z4, z5, z6, z7, z8⟩ := HZ8.out.nine; obtain ⟨g0, g1, g2, g3, g4, g5, g6, g7, g8⟩ := HZ8.out.frees; clear hb8))
          all_goals
            refine bodyPost_ret (v := zeroRule) (by simp [results, Tryd.results11, go_sem, zeroRule, rc, z0, z1, z2, z3, z4, z5, z6, z7, z8, hRn1, hRn2]) rfl ⟨rfl, ?_⟩
            repeat (refine Below.setCell ?_ (by first | exact Nat.le_refl _ | exact Nat.le_of_lt hR1) _)
            exact HB8.out
        · go_enter Tryd.func11, Tryd.ntmps11
          go_wp2_with (first | (go_at_call 22; refine (XHSP.out _ (StdW.below HS.out (below_alloc (Below.refl _ _) _))).mono ?_; rintro e x1 ⟨rfl, hc, hlt1, hb1⟩; have HB1 := Lib.hid (below_then (below_alloc (Below.refl w.heap.size w) _) (below_alloc (Below.refl w.heap.size w) _).size hb1); have hR1 : w.heap.size < x1.heap.size := (by have := hb1.size; simp at this; omega); have hRn1 : ¬ x1.heap.size = w.heap.size := (by omega); have hRn2 : ¬ w.heap.size = x1.heap.size := (by omega); have HZ1 := Lib.hid ((Blk.new w (rc false 0 0 0 0 0 ⟨#[]⟩ 0 0) _).below hb1); have HWD1 : Hid (∀ j, (h : j < l.length) → x1.cell? ⟨w.heap.size + 1, j, none⟩ = some (.string l[j])) := Lib.hid (fun j h => by have := hc j h; rw [World.size_alloc] at this; exact this); have wd0 : x1.cell? ⟨w.heap.size + 1, 0, none⟩ = some (.string w0) := (HWD1.out 0 (by have := Xh0.out; omega)).trans (by rw [(List.getElem?_eq_some_iff.1 Xhw0.out).2]); have wd2 : x1.cell? ⟨w.heap.size + 1, 2, none⟩ = some (.string w2s) := (HWD1.out 2 (by have := Xh0.out; omega)).trans (by rw [(List.getElem?_eq_some_iff.1 Xhw2.out).2]); have hwl : w.heap.size + 1 < x1.heap.size := (by simpa using hlt1); clear hc hlt1 hb1) | (go_at_call_of 23 (Value.string w2s); refine (XHC2.out _ (StdW.below HS.out (below_alloc HB1.out _))).mono ?_; rintro e x2 ⟨rfl, hb2⟩; have HB2 := Lib.hid (below_then (below_alloc HB1.out _) (below_alloc HB1.out _).size hb2); have HZ2 := Lib.hid ((HZ1.out.old _).below hb2); have HR2 : Hid (Blk x2 x1.heap.size (rc false 0 0 0 0 0 ⟨#[]⟩ 0 0) _) := Lib.hid ((Blk.new x1 (rc false 0 0 0 0 0 ⟨#[]⟩ 0 0) _).below hb2); have HWD2 : Hid (∀ j, (h : j < l.length) → x2.cell? ⟨w.heap.size + 1, j, none⟩ = some (.string l[j])) := Lib.hid (fun j h => pw_cell_below hb2 (pw_cell_below (below_alloc (Below.refl _ _) _) (HWD1.out j h))); clear hb2 wd0 wd2) | (go_at_call_of 24 (Value.string lowS); refine (XHN1.out _ (StdW.below HS.out HB2.out)).mono ?_; rintro e x3 ⟨rfl, hb3⟩; have HB3 := Lib.hid (below_then HB2.out HB2.out.size hb3); have HZ3 := Lib.hid (HZ2.out.below hb3); have HR3 := Lib.hid (HR2.out.below hb3); have HWD3 : Hid (∀ j, (h : j < l.length) → x3.cell? ⟨w.heap.size + 1, j, none⟩ = some (.string l[j])) := Lib.hid (fun j h => pw_cell_below hb3 (HWD2.out j h)); have wd1 : x3.cell? ⟨w.heap.size + 1, 1, none⟩ = some (.string w1s) := (HWD3.out 1 (by have := Xh0.out; omega)).trans (by rw [(List.getElem?_eq_some_iff.1 Xhw1.out).2]); obtain ⟨k0, k1, k2, k3, k4, k5, k6, k7, k8⟩ := HR3.out.nine; obtain ⟨f0, f1, f2, f3, f4, f5, f6, f7, f8⟩ := HR3.out.frees; clear hb3) | (go_at_call_of 23 (Value.string w1s); refine (XHC1.out _ (StdW.below HS.out ((HB3.out.setCell (p := ⟨x1.heap.size, 7, none⟩) (Nat.le_of_lt hR1) (.int .i64 lo)).setCell (p := ⟨x1.heap.size, 8, none⟩) (Nat.le_of_lt hR1) (.int .i64 lo)))).mono ?_; rintro e x5 ⟨rfl, hb5⟩; have HB5 := Lib.hid (below_then ((HB3.out.setCell (p := ⟨x1.heap.size, 7, none⟩) (Nat.le_of_lt hR1) (.int .i64 lo)).setCell (p := ⟨x1.heap.size, 8, none⟩) (Nat.le_of_lt hR1) (.int .i64 lo)) ((HB3.out.setCell (p := ⟨x1.heap.size, 7, none⟩) (Nat.le_of_lt hR1) (.int .i64 lo)).setCell (p := ⟨x1.heap.size, 8, none⟩) (Nat.le_of_lt hR1) (.int .i64 lo)).size hb5); have HZ5 := Lib.hid (((HZ3.out.other ⟨x1.heap.size, 7, none⟩ hRn2 (.int .i64 lo)).other ⟨x1.heap.size, 8, none⟩ hRn2 (.int .i64 lo)).below hb5); have HR5 : Hid (Blk x5 x1.heap.size (rc false 0 0 0 0 0 ⟨#[]⟩ lo lo) _) := Lib.hid (((HR3.out.set 7 (.int .i64 lo)).set 8 (.int .i64 lo)).below hb5); have HWD5 : Hid (∀ j, (h : j < l.length) → x5.cell? ⟨w.heap.size + 1, j, none⟩ = some (.string l[j])) := Lib.hid (fun j h => pw_cell_below hb5 (by rw [World.cell?_setCell_other _ _ _ _ (by intro e; injection e with e; omega), World.cell?_setCell_other _ _ _ _ (by intro e; injection e with e; omega)]; exact HWD3.out j h)); clear wd1; have wd1 : x5.cell? ⟨w.heap.size + 1, 1, none⟩ = some (.string w1s) := (HWD5.out 1 (by have := Xh0.out; omega)).trans (by rw [(List.getElem?_eq_some_iff.1 Xhw1.out).2]); clear k0 k1 k2 k3 k4 k5 k6 k7 k8 f0 f1 f2 f3 f4 f5 f6 f7 f8; obtain ⟨k0, k1, k2, k3, k4, k5, k6, k7, k8⟩ := HR5.out.nine; obtain ⟨f0, f1, f2, f3, f4, f5, f6, f7, f8⟩ := HR5.out.frees; clear hb5) | (go_at_call_of 24 (Value.string nS); refine (XHN3.out _ (StdW.below HS.out HB5.out)).mono ?_; rintro e x6 ⟨rfl, hb6⟩; have HB6 := Lib.hid (below_then HB5.out HB5.out.size hb6); have HZ6 := Lib.hid (HZ5.out.below hb6); have HR6 := Lib.hid (HR5.out.below hb6); clear k0 k1 k2 k3 k4 k5 k6 k7 k8 f0 f1 f2 f3 f4 f5 f6 f7 f8; obtain ⟨k0, k1, k2, k3, k4, k5, k6, k7, k8⟩ := HR6.out.nine; obtain ⟨f0, f1, f2, f3, f4, f5, f6, f7, f8⟩ := HR6.out.frees; clear hb6) | (go_at_call 25; refine (XHPA.out _ (StdW.below HS.out (HB6.out.setCell (p := ⟨x1.heap.size, 5, none⟩) (Nat.le_of_lt hR1) (.int .i64 bi)))).mono ?_; rintro e x7 ⟨rfl, hb7⟩; have HB7 := Lib.hid (below_then (HB6.out.setCell (p := ⟨x1.heap.size, 5, none⟩) (Nat.le_of_lt hR1) (.int .i64 bi)) (HB6.out.setCell (p := ⟨x1.heap.size, 5, none⟩) (Nat.le_of_lt hR1) (.int .i64 bi)).size hb7); have HZ7 := Lib.hid ((HZ6.out.other ⟨x1.heap.size, 5, none⟩ hRn2 (.int .i64 bi)).below hb7); have HR7 : Hid (Blk x7 x1.heap.size (rc false 0 0 0 0 bi ⟨#[]⟩ lo lo) _) := Lib.hid ((HR6.out.set 5 (.int .i64 bi)).below hb7); clear k0 k1 k2 k3 k4 k5 k6 k7 k8 f0 f1 f2 f3 f4 f5 f6 f7 f8; obtain ⟨k0, k1, k2, k3, k4, k5, k6, k7, k8⟩ := HR7.out.nine; obtain ⟨f0, f1, f2, f3, f4, f5, f6, f7, f8⟩ := HR7.out.frees; obtain ⟨z0, z1, z2, z3, z4, z5, z6, z7, z8⟩ := HZ7.out.nine; obtain ⟨g0, g1, g2, g3, g4, g5, g6, g7, g8⟩ := HZ7.out.frees; clear hb7) | (go_at_call 18; refine (XHRT.out _ (StdW.below HS.out ((((HB7.out.setCell (p := ⟨x1.heap.size, 1, none⟩) (Nat.le_of_lt hR1) (.int .u8 a)).setCell (p := ⟨x1.heap.size, 2, none⟩) (Nat.le_of_lt hR1) (.int .u8 b)).setCell (p := ⟨x1.heap.size, 3, none⟩) (Nat.le_of_lt hR1) (.int .u8 c)).setCell (p := ⟨x1.heap.size, 4, none⟩) (Nat.le_of_lt hR1) (.int .u8 d)))).mono ?_; rintro e x8 ⟨rfl, hb8⟩; have HB8 := Lib.hid (below_then ((((HB7.out.setCell (p := ⟨x1.heap.size, 1, none⟩) (Nat.le_of_lt hR1) (.int .u8 a)).setCell (p := ⟨x1.heap.size, 2, none⟩) (Nat.le_of_lt hR1) (.int .u8 b)).setCell (p := ⟨x1.heap.size, 3, none⟩) (Nat.le_of_lt hR1) (.int .u8 c)).setCell (p := ⟨x1.heap.size, 4, none⟩) (Nat.le_of_lt hR1) (.int .u8 d)) ((((HB7.out.setCell (p := ⟨x1.heap.size, 1, none⟩) (Nat.le_of_lt hR1) (.int .u8 a)).setCell (p := ⟨x1.heap.size, 2, none⟩) (Nat.le_of_lt hR1) (.int .u8 b)).setCell (p := ⟨x1.heap.size, 3, none⟩) (Nat.le_of_lt hR1) (.int .u8 c)).setCell (p := ⟨x1.heap.size, 4, none⟩) (Nat.le_of_lt hR1) (.int .u8 d)).size hb8); have HZ8 := Lib.hid (((((HZ7.out.other ⟨x1.heap.size, 1, none⟩ hRn2 (.int .u8 a)).other ⟨x1.heap.size, 2, none⟩ hRn2 (.int .u8 b)).other ⟨x1.heap.size, 3, none⟩ hRn2 (.int .u8 c)).other ⟨x1.heap.size, 4, none⟩ hRn2 (.int .u8 d)).below hb8); have HR8 : Hid (Blk x8 x1.heap.size (rc false a b c d bi ⟨#[]⟩ lo lo) _) := Lib.hid (((((HR7.out.set 1 (.int .u8 a)).set 2 (.int .u8 b)).set 3 (.int .u8 c)).set 4 (.int .u8 d)).below hb8); clear k0 k1 k2 k3 k4 k5 k6 k7 k8 f0 f1 f2 f3 f4 f5 f6 f7 f8; clear z0 z1 z2 z3 z4 z5 z6 z7 z8 g0 g1 g2 g3 g4 g5 g6 g7 g8; obtain ⟨k0, k1, k2, k3, k4, k5, k6, k7, k8⟩ := HR8.out.nine; obtain ⟨f0, f1, f2, f3, f4, f5, f6, f7, f8⟩ := HR8.out.frees; obtain ⟨z0, z1, z2, z3, z4, z5, z6, z7, z8⟩ := HZ8.out.nine; obtain ⟨g0, g1, g2, g3, g4, g5, g6, g7, g8⟩ := HZ8.out.frees; clear hb8))
          all_goals
            refine bodyPost_ret (v := .tuple #[.agg (rc false a b c d bi ⟨#[]⟩ lo lo), .int .i64 0]) (by simp [results, Tryd.results11, go_sem, rc, z0, z1, z2, z3, z4, z5, z6, z7, z8, hRn1, hRn2]) rfl ⟨rfl, ?_⟩
            repeat (refine Below.setCell ?_ (by first | exact Nat.le_refl _ | exact Nat.le_of_lt hR1) _)
            exact HB8.out
  · clear hde
    cases okA
    · go_enter Tryd.func11, Tryd.ntmps11
      go_wp2_with (first | (go_at_call 22; refine (XHSP.out _ (StdW.below HS.out (below_alloc (Below.refl _ _) _))).mono ?_; rintro e x1 ⟨rfl, hc, hlt1, hb1⟩; have HB1 := Lib.hid (below_then (below_alloc (Below.refl w.heap.size w) _) (below_alloc (Below.refl w.heap.size w) _).size hb1); have hR1 : w.heap.size < x1.heap.size := (by have := hb1.size; simp at this; omega); have hRn1 : ¬ x1.heap.size = w.heap.size := (by omega); have hRn2 : ¬ w.heap.size = x1.heap.size := (by omega); have HZ1 := Lib.hid ((Blk.new w (rc false 0 0 0 0 0 ⟨#[]⟩ 0 0) _).below hb1); have HWD1 : Hid (∀ j, (h : j < l.length) → x1.cell? ⟨w.heap.size + 1, j, none⟩ = some (.string l[j])) := Lib.hid (fun j h => by have := hc j h; rw [World.size_alloc] at this; exact this); have wd0 : x1.cell? ⟨w.heap.size + 1, 0, none⟩ = some (.string w0) := (HWD1.out 0 (by have := Xh0.out; omega)).trans (by rw [(List.getElem?_eq_some_iff.1 Xhw0.out).2]); have wd2 : x1.cell? ⟨w.heap.size + 1, 2, none⟩ = some (.string w2s) := (HWD1.out 2 (by have := Xh0.out; omega)).trans (by rw [(List.getElem?_eq_some_iff.1 Xhw2.out).2]); have hwl : w.heap.size + 1 < x1.heap.size := (by simpa using hlt1); clear hc hlt1 hb1) | (go_at_call_of 23 (Value.string w2s); refine (XHC2.out _ (StdW.below HS.out (below_alloc HB1.out _))).mono ?_; rintro e x2 ⟨rfl, hb2⟩; have HB2 := Lib.hid (below_then (below_alloc HB1.out _) (below_alloc HB1.out _).size hb2); have HZ2 := Lib.hid ((HZ1.out.old _).below hb2); have HR2 : Hid (Blk x2 x1.heap.size (rc true 0 0 0 0 0 ⟨#[]⟩ 0 0) _) := Lib.hid ((Blk.new x1 (rc true 0 0 0 0 0 ⟨#[]⟩ 0 0) _).below hb2); have HWD2 : Hid (∀ j, (h : j < l.length) → x2.cell? ⟨w.heap.size + 1, j, none⟩ = some (.string l[j])) := Lib.hid (fun j h => pw_cell_below hb2 (pw_cell_below (below_alloc (Below.refl _ _) _) (HWD1.out j h))); clear hb2 wd0 wd2) | (go_at_call_of 24 (Value.string lowS); refine (XHN1.out _ (StdW.below HS.out HB2.out)).mono ?_; rintro e x3 ⟨rfl, hb3⟩; have HB3 := Lib.hid (below_then HB2.out HB2.out.size hb3); have HZ3 := Lib.hid (HZ2.out.below hb3); have HR3 := Lib.hid (HR2.out.below hb3); have HWD3 : Hid (∀ j, (h : j < l.length) → x3.cell? ⟨w.heap.size + 1, j, none⟩ = some (.string l[j])) := Lib.hid (fun j h => pw_cell_below hb3 (HWD2.out j h)); have wd1 : x3.cell? ⟨w.heap.size + 1, 1, none⟩ = some (.string w1s) := (HWD3.out 1 (by have := Xh0.out; omega)).trans (by rw [(List.getElem?_eq_some_iff.1 Xhw1.out).2]); obtain ⟨k0, k1, k2, k3, k4, k5, k6, k7, k8⟩ := HR3.out.nine; obtain ⟨f0, f1, f2, f3, f4, f5, f6, f7, f8⟩ := HR3.out.frees; clear hb3) | (go_at_call_of 23 (Value.string w1s); refine (XHC1.out _ (StdW.below HS.out ((HB3.out.setCell (p := ⟨x1.heap.size, 7, none⟩) (Nat.le_of_lt hR1) (.int .i64 lo)).setCell (p := ⟨x1.heap.size, 8, none⟩) (Nat.le_of_lt hR1) (.int .i64 lo)))).mono ?_; rintro e x5 ⟨rfl, hb5⟩; have HB5 := Lib.hid (below_then ((HB3.out.setCell (p := ⟨x1.heap.size, 7, none⟩) (Nat.le_of_lt hR1) (.int .i64 lo)).setCell (p := ⟨x1.heap.size, 8, none⟩) (Nat.le_of_lt hR1) (.int .i64 lo)) ((HB3.out.setCell (p := ⟨x1.heap.size, 7, none⟩) (Nat.le_of_lt hR1) (.int .i64 lo)).setCell (p := ⟨x1.heap.size, 8, none⟩) (Nat.le_of_lt hR1) (.int .i64 lo)).size hb5); have HZ5 := Lib.hid (((HZ3.out.other ⟨x1.heap.size, 7, none⟩ hRn2 (.int .i64 lo)).other ⟨x1.heap.size, 8, none⟩ hRn2 (.int .i64 lo)).below hb5); have HR5 : Hid (Blk x5 x1.heap.size (rc true 0 0 0 0 0 ⟨#[]⟩ lo lo) _) := Lib.hid (((HR3.out.set 7 (.int .i64 lo)).set 8 (.int .i64 lo)).below hb5); have HWD5 : Hid (∀ j, (h : j < l.length) → x5.cell? ⟨w.heap.size + 1, j, none⟩ = some (.string l[j])) := Lib.hid (fun j h => pw_cell_below hb5 (by rw [World.cell?_setCell_other _ _ _ _ (by intro e; injection e with e; omega), World.cell?_setCell_other _ _ _ _ (by intro e; injection e with e; omega)]; exact HWD3.out j h)); clear wd1; have wd1 : x5.cell? ⟨w.heap.size + 1, 1, none⟩ = some (.string w1s) := (HWD5.out 1 (by have := Xh0.out; omega)).trans (by rw [(List.getElem?_eq_some_iff.1 Xhw1.out).2]); clear k0 k1 k2 k3 k4 k5 k6 k7 k8 f0 f1 f2 f3 f4 f5 f6 f7 f8; obtain ⟨k0, k1, k2, k3, k4, k5, k6, k7, k8⟩ := HR5.out.nine; obtain ⟨f0, f1, f2, f3, f4, f5, f6, f7, f8⟩ := HR5.out.frees; clear hb5) | (go_at_call_of 24 (Value.string nS); refine (XHN3.out _ (StdW.below HS.out HB5.out)).mono ?_; rintro e x6 ⟨rfl, hb6⟩; have HB6 := Lib.hid (below_then HB5.out HB5.out.size hb6); have HZ6 := Lib.hid (HZ5.out.below hb6); have HR6 := Lib.hid (HR5.out.below hb6); clear k0 k1 k2 k3 k4 k5 k6 k7 k8 f0 f1 f2 f3 f4 f5 f6 f7 f8; obtain ⟨k0, k1, k2, k3, k4, k5, k6, k7, k8⟩ := HR6.out.nine; obtain ⟨f0, f1, f2, f3, f4, f5, f6, f7, f8⟩ := HR6.out.frees; clear hb6) | (go_at_call 25; refine (XHPA.out _ (StdW.below HS.out (HB6.out.setCell (p := ⟨x1.heap.size, 5, none⟩) (Nat.le_of_lt hR1) (.int .i64 bi)))).mono ?_; rintro e x7 ⟨rfl, hb7⟩; have HB7 := Lib.hid (below_then (HB6.out.setCell (p := ⟨x1.heap.size, 5, none⟩) (Nat.le_of_lt hR1) (.int .i64 bi)) (HB6.out.setCell (p := ⟨x1.heap.size, 5, none⟩) (Nat.le_of_lt hR1) (.int .i64 bi)).size hb7); have HZ7 := Lib.hid ((HZ6.out.other ⟨x1.heap.size, 5, none⟩ hRn2 (.int .i64 bi)).below hb7); have HR7 : Hid (Blk x7 x1.heap.size (rc true 0 0 0 0 bi ⟨#[]⟩ lo lo) _) := Lib.hid ((HR6.out.set 5 (.int .i64 bi)).below hb7); clear k0 k1 k2 k3 k4 k5 k6 k7 k8 f0 f1 f2 f3 f4 f5 f6 f7 f8; obtain ⟨k0, k1, k2, k3, k4, k5, k6, k7, k8⟩ := HR7.out.nine; obtain ⟨f0, f1, f2, f3, f4, f5, f6, f7, f8⟩ := HR7.out.frees; obtain ⟨z0, z1, z2, z3, z4, z5, z6, z7, z8⟩ := HZ7.out.nine; obtain ⟨g0, g1, g2, g3, g4, g5, g6, g7, g8⟩ := HZ7.out.frees; clear hb7) | (go_at_call 18; refine (XHRT.out _ (StdW.below HS.out ((((HB7.out.setCell (p := ⟨x1.heap.size, 1, none⟩) (Nat.le_of_lt hR1) (.int .u8 a)).setCell (p := ⟨x1.heap.size, 2, none⟩) (Nat.le_of_lt hR1) (.int .u8 b)).setCell (p := ⟨x1.heap.size, 3, none⟩) (Nat.le_of_lt hR1) (.int .u8 c)).setCell (p := ⟨x1.heap.size, 4, none⟩) (Nat.le_of_lt hR1) (.int .u8 d)))).mono ?_; rintro e x8 ⟨rfl, hb8⟩; have HB8 := Lib.hid (below_then ((((HB7.out.setCell (p := ⟨x1.heap.size, 1, none⟩) (Nat.le_of_lt hR1) (.int .u8 a)).setCell (p := ⟨x1.heap.size, 2, none⟩) (Nat.le_of_lt hR1) (.int .u8 b)).setCell (p := ⟨x1.heap.size, 3, none⟩) (Nat.le_of_lt hR1) (.int .u8 c)).setCell (p := ⟨x1.heap.size, 4, none⟩) (Nat.le_of_lt hR1) (.int .u8 d)) ((((HB7.out.setCell (p := ⟨x1.heap.size, 1, none⟩) (Nat.le_of_lt hR1) (.int .u8 a)).setCell (p := ⟨x1.heap.size, 2, none⟩) (Nat.le_of_lt hR1) (.int .u8 b)).setCell (p := ⟨x1.heap.size, 3, none⟩) (Nat.le_of_lt hR1) (.int .u8 c)).setCell (p := ⟨x1.heap.size, 4, none⟩) (Nat.le_of_lt hR1) (.int .u8 d)).size hb8); have HZ8 := Lib.hid (((((HZ7.out.other ⟨x1.heap.size, 1, none⟩ hRn2 (.int .u8 a)).other ⟨x1.heap.size, 2, none⟩ hRn2 (.int .u8 b)).other ⟨x1.heap.size, 3, none⟩ hRn2 (.int .u8 c)).other ⟨x1.heap.size, 4, none⟩ hRn2 (.int .u8 d)).below hb8); have HR8 : Hid (Blk x8 x1.heap.size (rc true a b c d bi ⟨#[]⟩ lo lo) _) := Lib.hid (((((HR7.out.set 1 (.int .u8 a)).set 2 (.int .u8 b)).set 3 (.int .u8 c)).set 4 (.int .u8 d)).below hb8); clear k0 k1 k2 k3 k4 k5 k6 k7 k8 f0 f1 f2 f3 f4 f5 f6 f7 f8; clear z0 z1 z2 z3 z4 z5 z6 z7 z8 g0 g1 g2 g3 g4 g5 g6 g7 g8; obtain ⟨k0, k1, k2, k3, k4, k5, k6, k7, k8⟩ := HR8.out.nine; obtain ⟨f0, f1, f2, f3, f4, f5, f6, f7, f8⟩ := HR8.out.frees; obtain ⟨z0, z1, z2, z3, z4, z5, z6, z7, z8⟩ := HZ8.out.nine; obtain ⟨g0, g1, g2, g3, g4, g5, g6, g7, g8⟩ := HZ8.out.frees; clear hb8))
      all_goals
        refine bodyPost_ret (v := zeroRule) (by simp [results, Tryd.results11, go_sem, zeroRule, rc, z0, z1, z2, z3, z4, z5, z6, z7, z8, hRn1, hRn2]) rfl ⟨rfl, ?_⟩
        repeat (refine Below.setCell ?_ (by first | exact Nat.le_refl _ | exact Nat.le_of_lt hR1) _)
        exact HB7.out
    · cases okN
      · go_enter Tryd.func11, Tryd.ntmps11
        go_wp2_with (first | (go_at_call 22; refine (XHSP.out _ (StdW.below HS.out (below_alloc (Below.refl _ _) _))).mono ?_; rintro e x1 ⟨rfl, hc, hlt1, hb1⟩; have HB1 := Lib.hid (below_then (below_alloc (Below.refl w.heap.size w) _) (below_alloc (Below.refl w.heap.size w) _).size hb1); have hR1 : w.heap.size < x1.heap.size := (by have := hb1.size; simp at this; omega); have hRn1 : ¬ x1.heap.size = w.heap.size := (by omega); have hRn2 : ¬ w.heap.size = x1.heap.size := (by omega); have HZ1 := Lib.hid ((Blk.new w (rc false 0 0 0 0 0 ⟨#[]⟩ 0 0) _).below hb1); have HWD1 : Hid (∀ j, (h : j < l.length) → x1.cell? ⟨w.heap.size + 1, j, none⟩ = some (.string l[j])) := Lib.hid (fun j h => by have := hc j h; rw [World.size_alloc] at this; exact this); have wd0 : x1.cell? ⟨w.heap.size + 1, 0, none⟩ = some (.string w0) := (HWD1.out 0 (by have := Xh0.out; omega)).trans (by rw [(List.getElem?_eq_some_iff.1 Xhw0.out).2]); have wd2 : x1.cell? ⟨w.heap.size + 1, 2, none⟩ = some (.string w2s) := (HWD1.out 2 (by have := Xh0.out; omega)).trans (by rw [(List.getElem?_eq_some_iff.1 Xhw2.out).2]); have hwl : w.heap.size + 1 < x1.heap.size := (by simpa using hlt1); clear hc hlt1 hb1) | (go_at_call_of 23 (Value.string w2s); refine (XHC2.out _ (StdW.below HS.out (below_alloc HB1.out _))).mono ?_; rintro e x2 ⟨rfl, hb2⟩; have HB2 := Lib.hid (below_then (below_alloc HB1.out _) (below_alloc HB1.out _).size hb2); have HZ2 := Lib.hid ((HZ1.out.old _).below hb2); have HR2 : Hid (Blk x2 x1.heap.size (rc true 0 0 0 0 0 ⟨#[]⟩ 0 0) _) := Lib.hid ((Blk.new x1 (rc true 0 0 0 0 0 ⟨#[]⟩ 0 0) _).below hb2); have HWD2 : Hid (∀ j, (h : j < l.length) → x2.cell? ⟨w.heap.size + 1, j, none⟩ = some (.string l[j])) := Lib.hid (fun j h => pw_cell_below hb2 (pw_cell_below (below_alloc (Below.refl _ _) _) (HWD1.out j h))); clear hb2 wd0 wd2) | (go_at_call_of 24 (Value.string lowS); refine (XHN1.out _ (StdW.below HS.out HB2.out)).mono ?_; rintro e x3 ⟨rfl, hb3⟩; have HB3 := Lib.hid (below_then HB2.out HB2.out.size hb3); have HZ3 := Lib.hid (HZ2.out.below hb3); have HR3 := Lib.hid (HR2.out.below hb3); have HWD3 : Hid (∀ j, (h : j < l.length) → x3.cell? ⟨w.heap.size + 1, j, none⟩ = some (.string l[j])) := Lib.hid (fun j h => pw_cell_below hb3 (HWD2.out j h)); have wd1 : x3.cell? ⟨w.heap.size + 1, 1, none⟩ = some (.string w1s) := (HWD3.out 1 (by have := Xh0.out; omega)).trans (by rw [(List.getElem?_eq_some_iff.1 Xhw1.out).2]); obtain ⟨k0, k1, k2, k3, k4, k5, k6, k7, k8⟩ := HR3.out.nine; obtain ⟨f0, f1, f2, f3, f4, f5, f6, f7, f8⟩ := HR3.out.frees; clear hb3) | (go_at_call_of 23 (Value.string w1s); refine (XHC1.out _ (StdW.below HS.out ((HB3.out.setCell (p := ⟨x1.heap.size, 7, none⟩) (Nat.le_of_lt hR1) (.int .i64 lo)).setCell (p := ⟨x1.heap.size, 8, none⟩) (Nat.le_of_lt hR1) (.int .i64 lo)))).mono ?_; rintro e x5 ⟨rfl, hb5⟩; have HB5 := Lib.hid (below_then ((HB3.out.setCell (p := ⟨x1.heap.size, 7, none⟩) (Nat.le_of_lt hR1) (.int .i64 lo)).setCell (p := ⟨x1.heap.size, 8, none⟩) (Nat.le_of_lt hR1) (.int .i64 lo)) ((HB3.out.setCell (p := ⟨x1.heap.size, 7, none⟩) (Nat.le_of_lt hR1) (.int .i64 lo)).setCell (p := ⟨x1.heap.size, 8, none⟩) (Nat.le_of_lt hR1) (.int .i64 lo)).size hb5); have HZ5 := Lib.hid (((HZ3.out.other ⟨x1.heap.size, 7, none⟩ hRn2 (.int .i64 lo)).other ⟨x1.heap.size, 8, none⟩ hRn2 (.int .i64 lo)).below hb5); have HR5 : Hid (Blk x5 x1.heap.size (rc true 0 0 0 0 0 ⟨#[]⟩ lo lo) _) := Lib.hid (((HR3.out.set 7 (.int .i64 lo)).set 8 (.int .i64 lo)).below hb5); have HWD5 : Hid (∀ j, (h : j < l.length) → x5.cell? ⟨w.heap.size + 1, j, none⟩ = some (.string l[j])) := Lib.hid (fun j h => pw_cell_below hb5 (by rw [World.cell?_setCell_other _ _ _ _ (by intro e; injection e with e; omega), World.cell?_setCell_other _ _ _ _ (by intro e; injection e with e; omega)]; exact HWD3.out j h)); clear wd1; have wd1 : x5.cell? ⟨w.heap.size + 1, 1, none⟩ = some (.string w1s) := (HWD5.out 1 (by have := Xh0.out; omega)).trans (by rw [(List.getElem?_eq_some_iff.1 Xhw1.out).2]); clear k0 k1 k2 k3 k4 k5 k6 k7 k8 f0 f1 f2 f3 f4 f5 f6 f7 f8; obtain ⟨k0, k1, k2, k3, k4, k5, k6, k7, k8⟩ := HR5.out.nine; obtain ⟨f0, f1, f2, f3, f4, f5, f6, f7, f8⟩ := HR5.out.frees; clear hb5) | (go_at_call_of 24 (Value.string nS); refine (XHN3.out _ (StdW.below HS.out HB5.out)).mono ?_; rintro e x6 ⟨rfl, hb6⟩; have HB6 := Lib.hid (below_then HB5.out HB5.out.size hb6); have HZ6 := Lib.hid (HZ5.out.below hb6); have HR6 := Lib.hid (HR5.out.below hb6); clear k0 k1 k2 k3 k4 k5 k6 k7 k8 f0 f1 f2 f3 f4 f5 f6 f7 f8; obtain ⟨k0, k1, k2, k3, k4, k5, k6, k7, k8⟩ := HR6.out.nine; obtain ⟨f0, f1, f2, f3, f4, f5, f6, f7, f8⟩ := HR6.out.frees; clear hb6) | (go_at_call 25; refine (XHPA.out _ (StdW.below HS.out (HB6.out.setCell (p := ⟨x1.heap.size, 5, none⟩) (Nat.le_of_lt hR1) (.int .i64 bi)))).mono ?_; rintro e x7 ⟨rfl, hb7⟩; have HB7 := Lib.hid (below_then (HB6.out.setCell (p := ⟨x1.heap.size, 5, none⟩) (Nat.le_of_lt hR1) (.int .i64 bi)) (HB6.out.setCell (p := ⟨x1.heap.size, 5, none⟩) (Nat.le_of_lt hR1) (.int .i64 bi)).size hb7); have HZ7 := Lib.hid ((HZ6.out.other ⟨x1.heap.size, 5, none⟩ hRn2 (.int .i64 bi)).below hb7); have HR7 : Hid (Blk x7 x1.heap.size (rc true 0 0 0 0 bi ⟨#[]⟩ lo lo) _) := Lib.hid ((HR6.out.set 5 (.int .i64 bi)).below hb7); clear k0 k1 k2 k3 k4 k5 k6 k7 k8 f0 f1 f2 f3 f4 f5 f6 f7 f8; obtain ⟨k0, k1, k2, k3, k4, k5, k6, k7, k8⟩ := HR7.out.nine; obtain ⟨f0, f1, f2, f3, f4, f5, f6, f7, f8⟩ := HR7.out.frees; obtain ⟨z0, z1, z2, z3, z4, z5, z6, z7, z8⟩ := HZ7.out.nine; obtain ⟨g0, g1, g2, g3, g4, g5, g6, g7, g8⟩ := HZ7.out.frees; clear hb7) | (go_at_call 18; refine (XHRT.out _ (StdW.below HS.out ((((HB7.out.setCell (p := ⟨x1.heap.size, 1, none⟩) (Nat.le_of_lt hR1) (.int .u8 a)).setCell (p := ⟨x1.heap.size, 2, none⟩) (Nat.le_of_lt hR1) (.int .u8 b)).setCell (p := ⟨x1.heap.size, 3, none⟩) (Nat.le_of_lt hR1) (.int .u8 c)).setCell (p := ⟨x1.heap.size, 4, none⟩) (Nat.le_of_lt hR1) (.int .u8 d)))).mono ?_; rintro e x8 ⟨rfl, hb8⟩; have HB8 := Lib.hid (below_then ((((HB7.out.setCell (p := ⟨x1.heap.size, 1, none⟩) (Nat.le_of_lt hR1) (.int .u8 a)).setCell (p := ⟨x1.heap.size, 2, none⟩) (Nat.le_of_lt hR1) (.int .u8 b)).setCell (p := ⟨x1.heap.size, 3, none⟩) (Nat.le_of_lt hR1) (.int .u8 c)).setCell (p := ⟨x1.heap.size, 4, none⟩) (Nat.le_of_lt hR1) (.int .u8 d)) ((((HB7.out.setCell (p := ⟨x1.heap.size, 1, none⟩) (Nat.le_of_lt hR1) (.int .u8 a)).setCell (p := ⟨x1.heap.size, 2, none⟩) (Nat.le_of_lt hR1) (.int .u8 b)).setCell (p := ⟨x1.heap.size, 3, none⟩) (Nat.le_of_lt hR1) (.int .u8 c)).setCell (p := ⟨x1.heap.size, 4, none⟩) (Nat.le_of_lt hR1) (.int .u8 d)).size hb8); have HZ8 := Lib.hid (((((HZ7.out.other ⟨x1.heap.size, 1, none⟩ hRn2 (.int .u8 a)).other ⟨x1.heap.size, 2, none⟩ hRn2 (.int .u8 b)).other ⟨x1.heap.size, 3, none⟩ hRn2 (.int .u8 c)).other ⟨x1.heap.size, 4, none⟩ hRn2 (.int .u8 d)).below hb8); have HR8 : Hid (Blk x8 x1.heap.size (rc true a b c d bi ⟨#[]⟩ lo lo) _) := Lib.hid (((((HR7.out.set 1 (.int .u8 a)).set 2 (.int .u8 b)).set 3 (.int .u8 c)).set 4 (.int .u8 d)).below hb8); clear k0 k1 k2 k3 k4 k5 k6 k7 k8 f0 f1 f2 f3 f4 f5 f6 f7 f8; clear z0 z1 z2 z3 z4 z5 z6 z7 z8 g0 g1 g2 g3 g4 g5 g6 g7 g8; obtain ⟨k0, k1, k2, k3, k4, k5, k6, k7, k8⟩ := HR8.out.nine; obtain ⟨f0, f1, f2, f3, f4, f5, f6, f7, f8⟩ := HR8.out.frees; obtain ⟨z0, z1, z2, z3, z4, z5, z6, z7, z8⟩ := HZ8.out.nine; obtain ⟨g0, g1, g2, g3, g4, g5, g6, g7, g8⟩ := HZ8.out.frees; clear hb8))
        all_goals
          refine bodyPost_ret (v := zeroRule) (by simp [results, Tryd.results11, go_sem, zeroRule, rc, z0, z1, z2, z3, z4, z5, z6, z7, z8, hRn1, hRn2]) rfl ⟨rfl, ?_⟩
          repeat (refine Below.setCell ?_ (by first | exact Nat.le_refl _ | exact Nat.le_of_lt hR1) _)
          exact HB7.out
      · cases rb
        · go_enter Tryd.func11, Tryd.ntmps11
          go_wp2_with (first | (go_at_call 22; refine (XHSP.out _ (StdW.below HS.out (below_alloc (Below.refl _ _) _))).mono ?_; rintro e x1 ⟨rfl, hc, hlt1, hb1⟩; have HB1 := Lib.hid (below_then (below_alloc (Below.refl w.heap.size w) _) (below_alloc (Below.refl w.heap.size w) _).size hb1); have hR1 : w.heap.size < x1.heap.size := (by have := hb1.size; simp at this; omega); have hRn1 : ¬ x1.heap.size = w.heap.size := (by omega); have hRn2 : ¬ w.heap.size = x1.heap.size := (by omega); have HZ1 := Lib.hid ((Blk.new w (rc false 0 0 0 0 0 ⟨#[]⟩ 0 0) _).below hb1); have HWD1 : Hid (∀ j, (h : j < l.length) → x1.cell? ⟨w.heap.size + 1, j, none⟩ = some (.string l[j])) := Lib.hid (fun j h => by have := hc j h; rw [World.size_alloc] at this; exact this); have wd0 : x1.cell? ⟨w.heap.size + 1, 0, none⟩ = some (.string w0) := (HWD1.out 0 (by have := Xh0.out; omega)).trans (by rw [(List.getElem?_eq_some_iff.1 Xhw0.out).2]); have wd2 : x1.cell? ⟨w.heap.size + 1, 2, none⟩ = some (.string w2s) := (HWD1.out 2 (by have := Xh0.out; omega)).trans (by rw [(List.getElem?_eq_some_iff.1 Xhw2.out).2]); have hwl : w.heap.size + 1 < x1.heap.size := (by simpa using hlt1); clear hc hlt1 hb1) | (go_at_call_of 23 (Value.string w2s); refine (XHC2.out _ (StdW.below HS.out (below_alloc HB1.out _))).mono ?_; rintro e x2 ⟨rfl, hb2⟩; have HB2 := Lib.hid (below_then (below_alloc HB1.out _) (below_alloc HB1.out _).size hb2); have HZ2 := Lib.hid ((HZ1.out.old _).below hb2); have HR2 : Hid (Blk x2 x1.heap.size (rc true 0 0 0 0 0 ⟨#[]⟩ 0 0) _) := Lib.hid ((Blk.new x1 (rc true 0 0 0 0 0 ⟨#[]⟩ 0 0) _).below hb2); have HWD2 : Hid (∀ j, (h : j < l.length) → x2.cell? ⟨w.heap.size + 1, j, none⟩ = some (.string l[j])) := Lib.hid (fun j h => pw_cell_below hb2 (pw_cell_below (below_alloc (Below.refl _ _) _) (HWD1.out j h))); clear hb2 wd0 wd2) | (go_at_call_of 24 (Value.string lowS); refine (XHN1.out _ (StdW.below HS.out HB2.out)).mono ?_; rintro e x3 ⟨rfl, hb3⟩; have HB3 := Lib.hid (below_then HB2.out HB2.out.size hb3); have HZ3 := Lib.hid (HZ2.out.below hb3); have HR3 := Lib.hid (HR2.out.below hb3); have HWD3 : Hid (∀ j, (h : j < l.length) → x3.cell? ⟨w.heap.size + 1, j, none⟩ = some (.string l[j])) := Lib.hid (fun j h => pw_cell_below hb3 (HWD2.out j h)); have wd1 : x3.cell? ⟨w.heap.size + 1, 1, none⟩ = some (.string w1s) := (HWD3.out 1 (by have := Xh0.out; omega)).trans (by rw [(List.getElem?_eq_some_iff.1 Xhw1.out).2]); obtain ⟨k0, k1, k2, k3, k4, k5, k6, k7, k8⟩ := HR3.out.nine; obtain ⟨f0, f1, f2, f3, f4, f5, f6, f7, f8⟩ := HR3.out.frees; clear hb3) | (go_at_call_of 23 (Value.string w1s); refine (XHC1.out _ (StdW.below HS.out ((HB3.out.setCell (p := ⟨x1.heap.size, 7, none⟩) (Nat.le_of_lt hR1) (.int .i64 lo)).setCell (p := ⟨x1.heap.size, 8, none⟩) (Nat.le_of_lt hR1) (.int .i64 lo)))).mono ?_; rintro e x5 ⟨rfl, hb5⟩; have HB5 := Lib.hid (below_then ((HB3.out.setCell (p := ⟨x1.heap.size, 7, none⟩) (Nat.le_of_lt hR1) (.int .i64 lo)).setCell (p := ⟨x1.heap.size, 8, none⟩) (Nat.le_of_lt hR1) (.int .i64 lo)) ((HB3.out.setCell (p := ⟨x1.heap.size, 7, none⟩) (Nat.le_of_lt hR1) (.int .i64 lo)).setCell (p := ⟨x1.heap.size, 8, none⟩) (Nat.le_of_lt hR1) (.int .i64 lo)).size hb5); have HZ5 := Lib.hid (((HZ3.out.other ⟨x1.heap.size, 7, none⟩ hRn2 (.int .i64 lo)).other ⟨x1.heap.size, 8, none⟩ hRn2 (.int .i64 lo)).below hb5); have HR5 : Hid (Blk x5 x1.heap.size (rc true 0 0 0 0 0 ⟨#[]⟩ lo lo) _) := Lib.hid (((HR3.out.set 7 (.int .i64 lo)).set 8 (.int .i64 lo)).below hb5); have HWD5 : Hid (∀ j, (h : j < l.length) → x5.cell? ⟨w.heap.size + 1, j, none⟩ = some (.string l[j])) := Lib.hid (fun j h => pw_cell_below hb5 (by rw [World.cell?_setCell_other _ _ _ _ (by intro e; injection e with e; omega), World.cell?_setCell_other _ _ _ _ (by intro e; injection e with e; omega)]; exact HWD3.out j h)); clear wd1; have wd1 : x5.cell? ⟨w.heap.size + 1, 1, none⟩ = some (.string w1s) := (HWD5.out 1 (by have := Xh0.out; omega)).trans (by rw [(List.getElem?_eq_some_iff.1 Xhw1.out).2]); clear k0 k1 k2 k3 k4 k5 k6 k7 k8 f0 f1 f2 f3 f4 f5 f6 f7 f8; obtain ⟨k0, k1, k2, k3, k4, k5, k6, k7, k8⟩ := HR5.out.nine; obtain ⟨f0, f1, f2, f3, f4, f5, f6, f7, f8⟩ := HR5.out.frees; clear hb5) | (go_at_call_of 24 (Value.string nS); refine (XHN3.out _ (StdW.below HS.out HB5.out)).mono ?_; rintro e x6 ⟨rfl, hb6⟩; have HB6 := Lib.hid (below_then HB5.out HB5.out.size hb6); have HZ6 := Lib.hid (HZ5.out.below hb6); have HR6 := Lib.hid (HR5.out.below hb6); clear k0 k1 k2 k3 k4 k5 k6 k7 k8 f0 f1 f2 f3 f4 f5 f6 f7 f8; obtain ⟨k0, k1, k2, k3, k4, k5, k6, k7, k8⟩ := HR6.out.nine; obtain ⟨f0, f1, f2, f3, f4, f5, f6, f7, f8⟩ := HR6.out.frees; clear hb6) | (go_at_call 25; refine (XHPA.out _ (StdW.below HS.out (HB6.out.setCell (p := ⟨x1.heap.size, 5, none⟩) (Nat.le_of_lt hR1) (.int .i64 bi)))).mono ?_; rintro e x7 ⟨rfl, hb7⟩; have HB7 := Lib.hid (below_then (HB6.out.setCell (p := ⟨x1.heap.size, 5, none⟩) (Nat.le_of_lt hR1) (.int .i64 bi)) (HB6.out.setCell (p := ⟨x1.heap.size, 5, none⟩) (Nat.le_of_lt hR1) (.int .i64 bi)).size hb7); have HZ7 := Lib.hid ((HZ6.out.other ⟨x1.heap.size, 5, none⟩ hRn2 (.int .i64 bi)).below hb7); have HR7 : Hid (Blk x7 x1.heap.size (rc true 0 0 0 0 bi ⟨#[]⟩ lo lo) _) := Lib.hid ((HR6.out.set 5 (.int .i64 bi)).below hb7); clear k0 k1 k2 k3 k4 k5 k6 k7 k8 f0 f1 f2 f3 f4 f5 f6 f7 f8; obtain ⟨k0, k1, k2, k3, k4, k5, k6, k7, k8⟩ := HR7.out.nine; obtain ⟨f0, f1, f2, f3, f4, f5, f6, f7, f8⟩ := HR7.out.frees; obtain ⟨z0, z1, z2, z3, z4, z5, z6, z7, z8⟩ := HZ7.out.nine; obtain ⟨g0, g1, g2, g3, g4, g5, g6, g7, g8⟩ := HZ7.out.frees; clear hb7) | (go_at_call 18; refine (XHRT.out _ (StdW.below HS.out ((((HB7.out.setCell (p := ⟨x1.heap.size, 1, none⟩) (Nat.le_of_lt hR1) (.int .u8 a)).setCell (p := ⟨x1.heap.size, 2, none⟩) (Nat.le_of_lt hR1) (.int .u8 b)).setCell (p := ⟨x1.heap.size, 3, none⟩) (Nat.le_of_lt hR1) (.int .u8 c)).setCell (p := ⟨x1.heap.size, 4, none⟩) (Nat.le_of_lt hR1) (.int .u8 d)))).mono ?_; rintro e x8 ⟨rfl, hb8⟩; have HB8 := Lib.hid (below_then ((((HB7.out.setCell (p := ⟨x1.heap.size, 1, none⟩) (Nat.le_of_lt hR1) (.int .u8 a)).setCell (p := ⟨x1.heap.size, 2, none⟩) (Nat.le_of_lt hR1) (.int .u8 b)).setCell (p := ⟨x1.heap.size, 3, none⟩) (Nat.le_of_lt hR1) (.int .u8 c)).setCell (p := ⟨x1.heap.size, 4, none⟩) (Nat.le_of_lt hR1) (.int .u8 d)) ((((HB7.out.setCell (p := ⟨x1.heap.size, 1, none⟩) (Nat.le_of_lt hR1) (.int .u8 a)).setCell (p := ⟨x1.heap.size, 2, none⟩) (Nat.le_of_lt hR1) (.int .u8 b)).setCell (p := ⟨x1.heap.size, 3, none⟩) (Nat.le_of_lt hR1) (.int .u8 c)).setCell (p := ⟨x1.heap.size, 4, none⟩) (Nat.le_of_lt hR1) (.int .u8 d)).size hb8); have HZ8 := Lib.hid (((((HZ7.out.other ⟨x1.heap.size, 1, none⟩ hRn2 (.int .u8 a)).other ⟨x1.heap.size, 2, none⟩ hRn2 (.int .u8 b)).other ⟨x1.heap.size, 3, none⟩ hRn2 (.int .u8 c)).other ⟨x1.heap.size, 4, none⟩ hRn2 (.int .u8 d)).below hb8); have HR8 : Hid (Blk x8 x1.heap.size (rc true a b c d bi ⟨#[]⟩ lo lo) _) := Lib.hid (((((HR7.out.set 1 (.int .u8 a)).set 2 (.int .u8 b)).set 3 (.int .u8 c)).set 4 (.int .u8 d)).below hb8); clear k0 k1 k2 k3 k4 k5 k6 k7 k8 f0 f1 f2 f3 f4 f5 f6 f7 f8; clear z0 z1 z2 z3 z4 z5 z6 z7 z8 g0 g1 g2 g3 g4 g5 g6 g7 g8; obtain ⟨k0, k1, k2, k3, k4, k5, k6, k7, k8⟩ := HR8.out.nine; obtain ⟨f0, f1, f2, f3, f4, f5, f6, f7, f8⟩ := HR8.out.frees; obtain ⟨z0, z1, z2, z3, z4, z5, z6, z7, z8⟩ := HZ8.out.nine; obtain ⟨g0, g1, g2, g3, g4, g5, g6, g7, g8⟩ := HZ8.out.frees; clear hb8))
          all_goals
            refine bodyPost_ret (v := zeroRule) (by simp [results, Tryd.results11, go_sem, zeroRule, rc, z0, z1, z2, z3, z4, z5, z6, z7, z8, hRn1, hRn2]) rfl ⟨rfl, ?_⟩
            repeat (refine Below.setCell ?_ (by first | exact Nat.le_refl _ | exact Nat.le_of_lt hR1) _)
            exact HB8.out
        · go_enter Tryd.func11, Tryd.ntmps11
          go_wp2_with (first | (go_at_call 22; refine (XHSP.out _ (StdW.below HS.out (below_alloc (Below.refl _ _) _))).mono ?_; rintro e x1 ⟨rfl, hc, hlt1, hb1⟩; have HB1 := Lib.hid (below_then (below_alloc (Below.refl w.heap.size w) _) (below_alloc (Below.refl w.heap.size w) _).size hb1); have hR1 : w.heap.size < x1.heap.size := (by have := hb1.size; simp at this; omega); have hRn1 : ¬ x1.heap.size = w.heap.size := (by omega); have hRn2 : ¬ w.heap.size = x1.heap.size := (by omega); have HZ1 := Lib.hid ((Blk.new w (rc false 0 0 0 0 0 ⟨#[]⟩ 0 0) _).below hb1); have HWD1 : Hid (∀ j, (h : j < l.length) → x1.cell? ⟨w.heap.size + 1, j, none⟩ = some (.string l[j])) := Lib.hid (fun j h => by have := hc j h; rw [World.size_alloc] at this; exact this); have wd0 : x1.cell? ⟨w.heap.size + 1, 0, none⟩ = some (.string w0) := (HWD1.out 0 (by have := Xh0.out; omega)).trans (by rw [(List.getElem?_eq_some_iff.1 Xhw0.out).2]); have wd2 : x1.cell? ⟨w.heap.size + 1, 2, none⟩ = some (.string w2s) := (HWD1.out 2 (by have := Xh0.out; omega)).trans (by rw [(List.getElem?_eq_some_iff.1 Xhw2.out).2]); have hwl : w.heap.size + 1 < x1.heap.size := (by simpa using hlt1); clear hc hlt1 hb1) | (go_at_call_of 23 (Value.string w2s); refine (XHC2.out _ (StdW.below HS.out (below_alloc HB1.out _))).mono ?_; rintro e x2 ⟨rfl, hb2⟩; have HB2 := Lib.hid (below_then (below_alloc HB1.out _) (below_alloc HB1.out _).size hb2); have HZ2 := Lib.hid ((HZ1.out.old _).below hb2); have HR2 : Hid (Blk x2 x1.heap.size (rc true 0 0 0 0 0 ⟨#[]⟩ 0 0) _) := Lib.hid ((Blk.new x1 (rc true 0 0 0 0 0 ⟨#[]⟩ 0 0) _).below hb2); have HWD2 : Hid (∀ j, (h : j < l.length) → x2.cell? ⟨w.heap.size + 1, j, none⟩ = some (.string l[j])) := Lib.hid (fun j h => pw_cell_below hb2 (pw_cell_below (below_alloc (Below.refl _ _) _) (HWD1.out j h))); clear hb2 wd0 wd2) | (go_at_call_of 24 (Value.string lowS); refine (XHN1.out _ (StdW.below HS.out HB2.out)).mono ?_; rintro e x3 ⟨rfl, hb3⟩; have HB3 := Lib.hid (below_then HB2.out HB2.out.size hb3); have HZ3 := Lib.hid (HZ2.out.below hb3); have HR3 := Lib.hid (HR2.out.below hb3); have HWD3 : Hid (∀ j, (h : j < l.length) → x3.cell? ⟨w.heap.size + 1, j, none⟩ = some (.string l[j])) := Lib.hid (fun j h => pw_cell_below hb3 (HWD2.out j h)); have wd1 : x3.cell? ⟨w.heap.size + 1, 1, none⟩ = some (.string w1s) := (HWD3.out 1 (by have := Xh0.out; omega)).trans (by rw [(List.getElem?_eq_some_iff.1 Xhw1.out).2]); obtain ⟨k0, k1, k2, k3, k4, k5, k6, k7, k8⟩ := HR3.out.nine; obtain ⟨f0, f1, f2, f3, f4, f5, f6, f7, f8⟩ := HR3.out.frees; clear hb3) | (go_at_call_of 23 (Value.string w1s); refine (XHC1.out _ (StdW.below HS.out ((HB3.out.setCell (p := ⟨x1.heap.size, 7, none⟩) (Nat.le_of_lt hR1) (.int .i64 lo)).setCell (p := ⟨x1.heap.size, 8, none⟩) (Nat.le_of_lt hR1) (.int .i64 lo)))).mono ?_; rintro e x5 ⟨rfl, hb5⟩; have HB5 := Lib.hid (below_then ((HB3.out.setCell (p := ⟨x1.heap.size, 7, none⟩) (Nat.le_of_lt hR1) (.int .i64 lo)).setCell (p := ⟨x1.heap.size, 8, none⟩) (Nat.le_of_lt hR1) (.int .i64 lo)) ((HB3.out.setCell (p := ⟨x1.heap.size, 7, none⟩) (Nat.le_of_lt hR1) (.int .i64 lo)).setCell (p := ⟨x1.heap.size, 8, none⟩) (Nat.le_of_lt hR1) (.int .i64 lo)).size hb5); have HZ5 := Lib.hid (((HZ3.out.other ⟨x1.heap.size, 7, none⟩ hRn2 (.int .i64 lo)).other ⟨x1.heap.size, 8, none⟩ hRn2 (.int .i64 lo)).below hb5); have HR5 : Hid (Blk x5 x1.heap.size (rc true 0 0 0 0 0 ⟨#[]⟩ lo lo) _) := Lib.hid (((HR3.out.set 7 (.int .i64 lo)).set 8 (.int .i64 lo)).below hb5); have HWD5 : Hid (∀ j, (h : j < l.length) → x5.cell? ⟨w.heap.size + 1, j, none⟩ = some (.string l[j])) := Lib.hid (fun j h => pw_cell_below hb5 (by rw [World.cell?_setCell_other _ _ _ _ (by intro e; injection e with e; omega), World.cell?_setCell_other _ _ _ _ (by intro e; injection e with e; omega)]; exact HWD3.out j h)); clear wd1; have wd1 : x5.cell? ⟨w.heap.size + 1, 1, none⟩ = some (.string w1s) := (HWD5.out 1 (by have := Xh0.out; omega)).trans (by rw [(List.getElem?_eq_some_iff.1 Xhw1.out).2]); clear k0 k1 k2 k3 k4 k5 k6 k7 k8 f0 f1 f2 f3 f4 f5 f6 f7 f8; obtain ⟨k0, k1, k2, k3, k4, k5, k6, k7, k8⟩ := HR5.out.nine; obtain ⟨f0, f1, f2, f3, f4, f5, f6, f7, f8⟩ := HR5.out.frees; clear hb5) | (go_at_call_of 24 (Value.string nS); refine (XHN3.out _ (StdW.below HS.out HB5.out)).mono ?_; rintro e x6 ⟨rfl, hb6⟩; have HB6 := Lib.hid (below_then HB5.out HB5.out.size hb6); have HZ6 := Lib.hid (HZ5.out.below hb6); have HR6 := Lib.hid (HR5.out.below hb6); clear k0 k1 k2 k3 k4 k5 k6 k7 k8 f0 f1 f2 f3 f4 f5 f6 f7 f8; obtain ⟨k0, k1, k2, k3, k4, k5, k6, k7, k8⟩ := HR6.out.nine; obtain ⟨f0, f1, f2, f3, f4, f5, f6, f7, f8⟩ := HR6.out.frees; clear hb6) | (go_at_call 25; refine (XHPA.out _ (StdW.below HS.out (HB6.out.setCell (p := ⟨x1.heap.size, 5, none⟩) (Nat.le_of_lt hR1) (.int .i64 bi)))).mono ?_; rintro e x7 ⟨rfl, hb7⟩; have HB7 := Lib.hid (below_then (HB6.out.setCell (p := ⟨x1.heap.size, 5, none⟩) (Nat.le_of_lt hR1) (.int .i64 bi)) (HB6.out.setCell (p := ⟨x1.heap.size, 5, none⟩) (Nat.le_of_lt hR1) (.int .i64 bi)).size hb7); have HZ7 := Lib.hid ((HZ6.out.other ⟨x1.heap.size, 5, none⟩ hRn2 (.int .i64 bi)).below hb7); have HR7 : Hid (Blk x7 x1.heap.size (rc true 0 0 0 0 bi ⟨#[]⟩ lo lo) _) := Lib.hid ((HR6.out.set 5 (.int .i64 bi)).below hb7); clear k0 k1 k2 k3 k4 k5 k6 k7 k8 f0 f1 f2 f3 f4 f5 f6 f7 f8; obtain ⟨k0, k1, k2, k3, k4, k5, k6, k7, k8⟩ := HR7.out.nine; obtain ⟨f0, f1, f2, f3, f4, f5, f6, f7, f8⟩ := HR7.out.frees; obtain ⟨z0, z1, z2, z3, z4, z5, z6, z7, z8⟩ := HZ7.out.nine; obtain ⟨g0, g1, g2, g3, g4, g5, g6, g7, g8⟩ := HZ7.out.frees; clear hb7) | (go_at_call 18; refine (XHRT.out _ (StdW.below HS.out ((((HB7.out.setCell (p := ⟨x1.heap.size, 1, none⟩) (Nat.le_of_lt hR1) (.int .u8 a)).setCell (p := ⟨x1.heap.size, 2, none⟩) (Nat.le_of_lt hR1) (.int .u8 b)).setCell (p := ⟨x1.heap.size, 3, none⟩) (Nat.le_of_lt hR1) (.int .u8 c)).setCell (p := ⟨x1.heap.size, 4, none⟩) (Nat.le_of_lt hR1) (.int .u8 d)))).mono ?_; rintro e x8 ⟨rfl, hb8⟩; have HB8 := Lib.hid (below_then ((((HB7.out.setCell (p := ⟨x1.heap.size, 1, none⟩) (Nat.le_of_lt hR1) (.int .u8 a)).setCell (p := ⟨x1.heap.size, 2, none⟩) (Nat.le_of_lt hR1) (.int .u8 b)).setCell (p := ⟨x1.heap.size, 3, none⟩) (Nat.le_of_lt hR1) (.int .u8 c)).setCell (p := ⟨x1.heap.size, 4, none⟩) (Nat.le_of_lt hR1) (.int .u8 d)) ((((HB7.out.setCell (p := ⟨x1.heap.size, 1, none⟩) (Nat.le_of_lt hR1) (.int .u8 a)).setCell (p := ⟨x1.heap.size, 2, none⟩) (Nat.le_of_lt hR1) (.int .u8 b)).setCell (p := ⟨x1.heap.size, 3, none⟩) (Nat.le_of_lt hR1) (.int .u8 c)).setCell (p := ⟨x1.heap.size, 4, none⟩) (Nat.le_of_lt hR1) (.int .u8 d)).size hb8); have HZ8 := Lib.hid (((((HZ7.out.other ⟨x1.heap.size, 1, none⟩ hRn2 (.int .u8 a)).other ⟨x1.heap.size, 2, none⟩ hRn2 (.int .u8 b)).other ⟨x1.heap.size, 3, none⟩ hRn2 (.int .u8 c)).other ⟨x1.heap.size, 4, none⟩ hRn2 (.int .u8 d)).below hb8); have HR8 : Hid (Blk x8 x1.heap.size (rc true a b c d bi ⟨#[]⟩ lo lo) _) := Lib.hid (((((HR7.out.set 1 (.int .u8 a)).set 2 (.int .u8 b)).set 3 (.int .u8 c)).set 4 (.int .u8 d)).below hb8); clear k0 k1 k2 k3 k4 k5 k6 k7 k8 f0 f1 f2 f3 f4 f5 f6 f7 f8; clear z0 z1 z2 z3 z4 z5 z6 z7 z8 g0 g1 g2 g3 g4 g5 g6 g7 g8; obtain ⟨k0, k1, k2, k3, k4, k5, k6, k7, k8⟩ := HR8.out.nine; obtain ⟨f0, f1, f2, f3, f4, f5, f6, f7, f8⟩ := HR8.out.frees; obtain ⟨z0, z1, z2, z3, z4, z5, z6, z7, z8⟩ := HZ8.out.nine; obtain ⟨g0, g1, g2, g3, g4, g5, g6, g7, g8⟩ := HZ8.out.frees; clear hb8))
          all_goals
            refine bodyPost_ret (v := .tuple #[.agg (rc true a b c d bi ⟨#[]⟩ lo lo), .int .i64 0]) (by simp [results, Tryd.results11, go_sem, rc, z0, z1, z2, z3, z4, z5, z6, z7, z8, hRn1, hRn2]) rfl ⟨rfl, ?_⟩
            repeat (refine Below.setCell ?_ (by first | exact Nat.le_refl _ | exact Nat.le_of_lt hR1) _)
            exact HB8.out
end Go.Proofs.YteondnhokgmakaaDoor.E
