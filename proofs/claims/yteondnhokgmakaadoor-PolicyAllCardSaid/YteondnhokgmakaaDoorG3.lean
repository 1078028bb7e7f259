/- What the proof of the card in YteondnhokgmakaaDoorG4 rests on: the walks and plain laws, part 3. Its parts stand one behind the other, each with its own first line. -/
import Derived.Test.YteondnhokgmakaaDoorG2
import Derived.Deep.LoopGhost
import Derived.WalkMore
import Derived.Test.YteondnhokgmakaaDoorProg
import Derived.Below
import Derived.Deep.Draws
import Derived.Deep.AppendLies
import Derived.Maps.AppendAt
import Derived.OwnWalk
import Derived.Laws.BytesArg
import Derived.Laws.MakeOwn
import Derived.Laws.OwnMore
import Derived.Deep.OwnRows
import Derived.Tactics
import Derived.Lib.ConvBytes
import Derived.Laws.Slices
import Derived.WalkKit
import Derived.KernelRfl
import Derived.RowKit3
import Derived.Deep.QuietTactic
import Derived.BigQuiet
import Derived.WideLaws
import Derived.Deep.DeepCutAuto
import Derived.Deep.CutBlock
import Derived.Deep.RegionHeld3
import Derived.Laws.Rows
import Derived.Lib.AppendStr
import Derived.ArgAppend
import Derived.Laws.IdiomCopy
import Derived.OrdersHeld
import Derived.Laws.BitsLemmas
import Derived.RowKit
import Derived.Test.YteondnhokgmakaaDoorWWords
import Derived.Test.YteondnhokgmakaaDoorWLast
import Derived.Test.YteondnhokgmakaaDoorWTab
import Derived.Test.YteondnhokgmakaaDoorWFour
import Derived.Test.YteondnhokgmakaaDoorWQPut
import Derived.Test.YteondnhokgmakaaDoorWApart
import Derived.Test.YteondnhokgmakaaDoorWArr
import Derived.Test.YteondnhokgmakaaDoorWZeros
import Derived.Test.YteondnhokgmakaaDoorWFoot
import Derived.Test.YteondnhokgmakaaDoorWKept
import Derived.Test.YteondnhokgmakaaDoorWShare
import Derived.Test.YteondnhokgmakaaDoorWN
import Derived.Test.YteondnhokgmakaaDoorWFootNe
import Derived.Test.YteondnhokgmakaaDoorWAt
import Derived.Test.YteondnhokgmakaaDoorWEqStruct
import Derived.Test.YteondnhokgmakaaDoorWRepsOne
import Derived.Test.YteondnhokgmakaaDoorWInv
import Derived.Test.YteondnhokgmakaaDoorWInvWords
import Derived.Test.YteondnhokgmakaaDoorWGuard
import Derived.Test.YteondnhokgmakaaDoorWNEv
import Derived.Test.YteondnhokgmakaaDoorWMore
import Derived.Test.YteondnhokgmakaaDoorG1
import Derived.Deep.Slices
import Derived.Deep.Fields
import Derived.ChangeSame
import Derived.SizedLaws
import Derived.OpenShut

/- Printed by a program of this session's own (xprint.py) out of the translation. Lean checks it. -/
namespace Go.Proofs.YteondnhokgmakaaDoor.XC
open Go.RowKit Go.Proofs.YteondnhokgmakaaDoorW.PrintWords Go.Proofs.YteondnhokgmakaaDoorW.PrintLast Go.Proofs.YteondnhokgmakaaDoorW.PrintMore
attribute [local go_sem] max2_int min2_int max_two min_two max_three min_three max_four min_four   -- for this text's walks alone
set_option linter.unusedVariables false
set_option linter.unusedSimpArgs false

/-! ### policy_Check: function 14 -/
def policy_Check.l0 : Nat → List (S33) → Int → Int → Option (Int)
  | 0, _, _, _ => none
  | k + 1, x8, x9, x10 => if x10 < x9 then (if 0 ≤ x10 then (if x10 < (x8.length : Int) then ((policy_right.f k ((rd_T33 x8 x10).f0) ((rd_T33 x8 x10).f1.f0) ((rd_T33 x8 x10).f1.f1) ((rd_T33 x8 x10).f1.f2) ((rd_T33 x8 x10).f1.f3) ((rd_T33 x8 x10).f2) ((rd_T33 x8 x10).f3) ((rd_T33 x8 x10).f4) ((rd_T33 x8 x10).f5)).bind fun t107 => (if t107 = true then (policy_Check.l0 k x8 x9 (wrap64 (x10 + 1))) else (some 120))) else (none)) else (none)) else (some 0)
def policy_Check.f (k : Nat) (l0 : List (S33)) : Option (Int) := if (l0.length : Int) > 64 then (some 3) else (policy_Check.l0 k l0 (l0.length : Int) 0)
theorem policy_Check.mono_l : ∀ k, (∀ y0 y1 y2, LeO (policy_Check.l0 k y0 y1 y2) (policy_Check.l0 (k + 1) y0 y1 y2))
  | 0 => fun _ _ _ r h => by simp [policy_Check.l0] at h
  | k + 1 => by
    have ih0 := policy_Check.mono_l k
    · intro y0 y1 y2
      unfold policy_Check.l0
      repeat' first
      | (with_reducible exact ih0 _ _ _)
      | (with_reducible exact policy_right.mono _ _ _ _ _ _ _ _ _ _)
      | (with_reducible exact LeO.refl _)
      | (with_reducible exact LeO.none _)
      | (with_reducible refine LeO.ite ?_ ?_)
      | (with_reducible refine LeO.bind ?_ (fun _ => ?_))
      | exact ih0 _ _ _
      | exact policy_right.mono _ _ _ _ _ _ _ _ _ _
      | exact LeO.none _
      | refine LeO.ite ?_ ?_
      | refine LeO.bind ?_ (fun _ => ?_)
theorem policy_Check.mono : ∀ a0 k, LeO (policy_Check.f k a0) (policy_Check.f (k + 1) a0) := by
  intro a0 k
  have ih0 := policy_Check.mono_l k
  unfold policy_Check.f
  repeat' first
      | (with_reducible exact ih0 _ _ _)
      | (with_reducible exact policy_right.mono _ _ _ _ _ _ _ _ _ _)
      | (with_reducible exact LeO.refl _)
      | (with_reducible exact LeO.none _)
      | (with_reducible refine LeO.ite ?_ ?_)
      | (with_reducible refine LeO.bind ?_ (fun _ => ?_))
      | exact ih0 _ _ _
      | exact policy_right.mono _ _ _ _ _ _ _ _ _ _
      | exact LeO.none _
      | refine LeO.ite ?_ ?_
      | refine LeO.bind ?_ (fun _ => ?_)
set_option maxHeartbeats 8000000 in
set_option maxRecDepth 100000 in
theorem policy_Check.calls (k : Nat) (A0 : Option Addr) (c0 : Nat) (l0 : List (S33)) (r : Int) (w : World) (hr0 : Kd.C k33 w A0 l0.length l0) (hc0 : l0.length ≤ c0) (hS_ : StdW w) (h : policy_Check.f k l0 = some r) :
    Calls Tryd.prog 14 #[.slice A0 l0.length c0] w fun e w' => e = .returned (.int .i64 r) ∧ Below w.heap.size w w' := by
  have hu33 := Tryd.underlying33
  have HR0 := Aside0.mk hr0
  have HC0 := Aside0.mk hc0
  clear hr0 hc0
  have HS_ := Aside0.mk hS_
  clear hS_
  have HB := Aside0.mk (Below.refl w.heap.size w)
  have H : (if (l0.length : Int) > 64 then (some 3) else (policy_Check.l0 k l0 (l0.length : Int) 0)) = some r := h
  clear h
  by_cases c2 : (l0.length : Int) > 64
  · rw [if_pos c2] at H
    have c2b0 : decide (64 < (l0.length : Int)) = true := decide_eq_true c2
    have c2b1 : decide (64 < l0.length) = true := decide_eq_true (by omega)
    clear c2
    obtain rfl := Option.some.inj H
    go_enter Tryd.func14, Tryd.ntmps14
    go_wp2
    go_ret
    exact ⟨by first | rfl | (simp [errW_none, errW_some] <;> rfl) | (simp [*, errW_none, errW_some] <;> rfl), by repeat (first | (with_reducible first | exact HB.out | apply below_alloc | apply pw_below_drewN | apply below_drew1) | exact HB.out)⟩
  · rw [if_neg c2] at H
    have c2b0 : decide (64 < (l0.length : Int)) = false := decide_eq_false c2
    have c2b1 : decide (64 < l0.length) = false := decide_eq_false (by omega)
    clear c2
    have H' := Aside0.mk H
    clear H
    go_enter Tryd.func14, Tryd.ntmps14
    go_wp2
    go_loopg [10] k (fun kq v10 w' => ∃ (x10_1 : Int), v10 = .int .i64 x10_1 ∧ Aside0 (policy_Check.l0 kq l0 (l0.length : Int) x10_1 = some r) ∧ Aside0 (kq ≤ k) ∧ Aside0 (Below w.heap.size w w'))
    case atStart => exact ⟨(0), (by first | rfl | (simp; done) | (simp [*]; done)), H', ⟨Nat.le_refl _⟩, ⟨by repeat (first | (with_reducible first | exact HB.out | apply below_alloc | apply pw_below_drewN | apply below_drew1) | exact HB.out)⟩⟩
    case round =>
      clear H'
      try clear c1
      try clear c2
      try clear c2b0
      try clear c2b1
      try clear p2
      obtain ⟨x10_1, rfl, HA, HK1, HB⟩ := hrel
      cases gk with
      | zero => exact absurd HA.out (by simp [policy_Check.l0])
      | succ k1 =>
        have H := HA.out
        clear HA
        simp only [policy_Check.l0] at H
        by_cases c3 : x10_1 < (l0.length : Int)
        · rw [if_pos c3] at H
          have c3b0 : decide (x10_1 < (l0.length : Int)) = true := decide_eq_true c3
          clear c3
          by_cases c4 : 0 ≤ x10_1
          · rw [if_pos c4] at H
            have c4b0 : decide (0 ≤ x10_1) = true := decide_eq_true c4
            clear c4
            by_cases c5 : x10_1 < (l0.length : Int)
            · rw [if_pos c5] at H
              have c5b0 : decide (x10_1 < (l0.length : Int)) = true := decide_eq_true c5
              clear c5
              replace H := Option.bind_eq_some_iff.mp H
              obtain ⟨t107, A60, H⟩ := H
              replace H : (if t107 = true then (policy_Check.l0 k1 l0 (l0.length : Int) (wrap64 (x10_1 + 1))) else (some 120)) = some r := H
              have A6 := Aside0.mk A60
              clear A60
              by_cases c7 : t107 = true
              · subst c7
                have H1 : (policy_Check.l0 k1 l0 (l0.length : Int) (wrap64 (x10_1 + 1))) = some r := by rw [if_pos rfl] at H; exact H
                clear H
                have H := H1
                clear H1
                have H' := Aside0.mk H
                clear H
                have p105 : 0 ≤ (x10_1 : Int) := of_decide_eq_true (by first | (with_reducible assumption) | assumption)
                have q105 : x10_1 < (l0.length : Int) := of_decide_eq_true (by first | (with_reducible assumption) | assumption)
                obtain ⟨ad105, e105, hx105_0, hx105_1, hx105_2, hx105_3, hx105_4, hx105_5, hx105_6, hx105_7, hx105_8⟩ := at_T33 HR0.out x10_1 p105 q105
                cases e105
                replace hx105_0 := (HB.out.cell (World.block_lt_of_cell? w _ hx105_0)).trans hx105_0
                replace hx105_1 := (HB.out.cell (World.block_lt_of_cell? w _ hx105_1)).trans hx105_1
                replace hx105_2 := (HB.out.cell (World.block_lt_of_cell? w _ hx105_2)).trans hx105_2
                replace hx105_3 := (HB.out.cell (World.block_lt_of_cell? w _ hx105_3)).trans hx105_3
                replace hx105_4 := (HB.out.cell (World.block_lt_of_cell? w _ hx105_4)).trans hx105_4
                replace hx105_5 := (HB.out.cell (World.block_lt_of_cell? w _ hx105_5)).trans hx105_5
                replace hx105_6 := (HB.out.cell (World.block_lt_of_cell? w _ hx105_6)).trans hx105_6
                replace hx105_7 := (HB.out.cell (World.block_lt_of_cell? w _ hx105_7)).trans hx105_7
                replace hx105_8 := (HB.out.cell (World.block_lt_of_cell? w _ hx105_8)).trans hx105_8
                replace p105 := eq_true p105
                replace q105 := eq_true q105
                go_wp2_with (first | ((with_reducible refine gate_dst (N := 4) rfl ?_); refine box_event ?hg (N := 4) ?hd (cs := #[.bool false, .int .u8 0, .int .u8 0, .int .u8 0, .int .u8 0, .int .i64 0, .string (⟨#[]⟩ : ByteArray), .int .i64 0, .int .i64 0]) (t := 33) ?hr ?_; (case hd => rfl); (case hg => rfl); (case hr => first | (go_simp; done) | (go_simp; rfl)); intro gb106 hg w8 hbox hb; have n0_ := Aside0.mk (below_step (by repeat (first | (with_reducible first | exact HB.out | apply below_alloc | apply pw_below_drewN | apply below_drew1) | exact HB.out)) hb); have n1_ := Aside0.mk (hbox); have n2_ := Aside0.mk ((by rw [hg]; exact (below_size (by repeat (first | (with_reducible first | exact HB.out | apply below_alloc | apply pw_below_drewN | apply below_drew1) | exact HB.out))) : w.heap.size ≤ gb106)); have n3_ := Aside0.mk ((by rw [hg]; exact (below_size (by repeat (first | (with_reducible first | exact HB.out | apply below_alloc | apply pw_below_drewN | apply below_drew1) | exact HB.out))) : w.heap.size ≤ gb106)); clear HB; have HB := n0_; have BK106 := n1_; have GW106 := n2_; have GE106 := n3_; clear n0_ n1_ n2_ n3_; clear hb hbox hg; have hcz9_0 : w8.cell? ⟨gb106, 0, none⟩ = some (.bool false) := (blk_cell BK106.out 0).trans rfl; have hcz9_1 : w8.cell? ⟨gb106, 1, none⟩ = some (.int .u8 0) := (blk_cell BK106.out 1).trans rfl; have hcz9_2 : w8.cell? ⟨gb106, 2, none⟩ = some (.int .u8 0) := (blk_cell BK106.out 2).trans rfl; have hcz9_3 : w8.cell? ⟨gb106, 3, none⟩ = some (.int .u8 0) := (blk_cell BK106.out 3).trans rfl; have hcz9_4 : w8.cell? ⟨gb106, 4, none⟩ = some (.int .u8 0) := (blk_cell BK106.out 4).trans rfl; have hcz9_5 : w8.cell? ⟨gb106, 5, none⟩ = some (.int .i64 0) := (blk_cell BK106.out 5).trans rfl; have hcz9_6 : w8.cell? ⟨gb106, 6, none⟩ = some (.string (⟨#[]⟩ : ByteArray)) := (blk_cell BK106.out 6).trans rfl; have hcz9_7 : w8.cell? ⟨gb106, 7, none⟩ = some (.int .i64 0) := (blk_cell BK106.out 7).trans rfl; have hcz9_8 : w8.cell? ⟨gb106, 8, none⟩ = some (.int .i64 0) := (blk_cell BK106.out 8).trans rfl; have hfz9_0 := blk_frozen BK106.out 0; have hfz9_1 := blk_frozen BK106.out 1; have hfz9_2 := blk_frozen BK106.out 2; have hfz9_3 := blk_frozen BK106.out 3; have hfz9_4 := blk_frozen BK106.out 4; have hfz9_5 := blk_frozen BK106.out 5; have hfz9_6 := blk_frozen BK106.out 6; have hfz9_7 := blk_frozen BK106.out 7; have hfz9_8 := blk_frozen BK106.out 8) | ((with_reducible refine gate_callee (f := 18) rfl ?_); refine goesL_ (some 15) rfl rfl Tryd.func18 (by kernel_rfl) rfl #[.agg #[.bool ((rd_T33 l0 x10_1).f0), .int .u8 ((rd_T33 l0 x10_1).f1.f0), .int .u8 ((rd_T33 l0 x10_1).f1.f1), .int .u8 ((rd_T33 l0 x10_1).f1.f2), .int .u8 ((rd_T33 l0 x10_1).f1.f3), .int .i64 ((rd_T33 l0 x10_1).f2), .string ((rd_T33 l0 x10_1).f3), .int .i64 ((rd_T33 l0 x10_1).f4), .int .i64 ((rd_T33 l0 x10_1).f5)]] rfl (by (try simp only [List.map_toArray, List.map_cons, List.map_nil]); first | done | rfl | (simp only [List.length_drop, List.length_take]; rfl)) ?_; (with_reducible refine (policy_right.calls k1 ((rd_T33 l0 x10_1).f0) ((rd_T33 l0 x10_1).f1.f0) ((rd_T33 l0 x10_1).f1.f1) ((rd_T33 l0 x10_1).f1.f2) ((rd_T33 l0 x10_1).f1.f3) ((rd_T33 l0 x10_1).f2) ((rd_T33 l0 x10_1).f3) ((rd_T33 l0 x10_1).f4) ((rd_T33 l0 x10_1).f5) true _ ?side1 A6.out).mono ?_); (case side1 => exact StdW.below HS_.out (by repeat (first | (with_reducible first | exact HB.out | apply below_alloc | apply pw_below_drewN | apply below_drew1 | refine below_set ?_ GE106.out) | exact HB.out))); rintro e w10 ⟨rfl, hb⟩; refine ⟨_, rfl, ?_⟩; have n0_ := Aside0.mk (blk_below (g := gb106) (o := .cells #[.bool ((rd_T33 l0 x10_1).f0), .int .u8 ((rd_T33 l0 x10_1).f1.f0), .int .u8 ((rd_T33 l0 x10_1).f1.f1), .int .u8 ((rd_T33 l0 x10_1).f1.f2), .int .u8 ((rd_T33 l0 x10_1).f1.f3), .int .i64 ((rd_T33 l0 x10_1).f2), .string ((rd_T33 l0 x10_1).f3), .int .i64 ((rd_T33 l0 x10_1).f4), .int .i64 ((rd_T33 l0 x10_1).f5)] 33 (0, 0)) (by (with_reducible repeat (first | refine blk_drewN ?_ _ | refine blk_drew ?_ | refine blk_alloc ?_ _)); refine blk_put (cs := #[.bool ((rd_T33 l0 x10_1).f0), .int .u8 ((rd_T33 l0 x10_1).f1.f0), .int .u8 ((rd_T33 l0 x10_1).f1.f1), .int .u8 ((rd_T33 l0 x10_1).f1.f2), .int .u8 ((rd_T33 l0 x10_1).f1.f3), .int .i64 ((rd_T33 l0 x10_1).f2), .string ((rd_T33 l0 x10_1).f3), .int .i64 ((rd_T33 l0 x10_1).f4), .int .i64 0]) ?_ 8 _ rfl; (with_reducible repeat (first | refine blk_drewN ?_ _ | refine blk_drew ?_ | refine blk_alloc ?_ _)); refine blk_put (cs := #[.bool ((rd_T33 l0 x10_1).f0), .int .u8 ((rd_T33 l0 x10_1).f1.f0), .int .u8 ((rd_T33 l0 x10_1).f1.f1), .int .u8 ((rd_T33 l0 x10_1).f1.f2), .int .u8 ((rd_T33 l0 x10_1).f1.f3), .int .i64 ((rd_T33 l0 x10_1).f2), .string ((rd_T33 l0 x10_1).f3), .int .i64 0, .int .i64 0]) ?_ 7 _ rfl; (with_reducible repeat (first | refine blk_drewN ?_ _ | refine blk_drew ?_ | refine blk_alloc ?_ _)); refine blk_put (cs := #[.bool ((rd_T33 l0 x10_1).f0), .int .u8 ((rd_T33 l0 x10_1).f1.f0), .int .u8 ((rd_T33 l0 x10_1).f1.f1), .int .u8 ((rd_T33 l0 x10_1).f1.f2), .int .u8 ((rd_T33 l0 x10_1).f1.f3), .int .i64 ((rd_T33 l0 x10_1).f2), .string (⟨#[]⟩ : ByteArray), .int .i64 0, .int .i64 0]) ?_ 6 _ rfl; (with_reducible repeat (first | refine blk_drewN ?_ _ | refine blk_drew ?_ | refine blk_alloc ?_ _)); refine blk_put (cs := #[.bool ((rd_T33 l0 x10_1).f0), .int .u8 ((rd_T33 l0 x10_1).f1.f0), .int .u8 ((rd_T33 l0 x10_1).f1.f1), .int .u8 ((rd_T33 l0 x10_1).f1.f2), .int .u8 ((rd_T33 l0 x10_1).f1.f3), .int .i64 0, .string (⟨#[]⟩ : ByteArray), .int .i64 0, .int .i64 0]) ?_ 5 _ rfl; (with_reducible repeat (first | refine blk_drewN ?_ _ | refine blk_drew ?_ | refine blk_alloc ?_ _)); refine blk_put (cs := #[.bool ((rd_T33 l0 x10_1).f0), .int .u8 ((rd_T33 l0 x10_1).f1.f0), .int .u8 ((rd_T33 l0 x10_1).f1.f1), .int .u8 ((rd_T33 l0 x10_1).f1.f2), .int .u8 0, .int .i64 0, .string (⟨#[]⟩ : ByteArray), .int .i64 0, .int .i64 0]) ?_ 4 _ rfl; (with_reducible repeat (first | refine blk_drewN ?_ _ | refine blk_drew ?_ | refine blk_alloc ?_ _)); refine blk_put (cs := #[.bool ((rd_T33 l0 x10_1).f0), .int .u8 ((rd_T33 l0 x10_1).f1.f0), .int .u8 ((rd_T33 l0 x10_1).f1.f1), .int .u8 0, .int .u8 0, .int .i64 0, .string (⟨#[]⟩ : ByteArray), .int .i64 0, .int .i64 0]) ?_ 3 _ rfl; (with_reducible repeat (first | refine blk_drewN ?_ _ | refine blk_drew ?_ | refine blk_alloc ?_ _)); refine blk_put (cs := #[.bool ((rd_T33 l0 x10_1).f0), .int .u8 ((rd_T33 l0 x10_1).f1.f0), .int .u8 0, .int .u8 0, .int .u8 0, .int .i64 0, .string (⟨#[]⟩ : ByteArray), .int .i64 0, .int .i64 0]) ?_ 2 _ rfl; (with_reducible repeat (first | refine blk_drewN ?_ _ | refine blk_drew ?_ | refine blk_alloc ?_ _)); refine blk_put (cs := #[.bool ((rd_T33 l0 x10_1).f0), .int .u8 0, .int .u8 0, .int .u8 0, .int .u8 0, .int .i64 0, .string (⟨#[]⟩ : ByteArray), .int .i64 0, .int .i64 0]) ?_ 1 _ rfl; (with_reducible repeat (first | refine blk_drewN ?_ _ | refine blk_drew ?_ | refine blk_alloc ?_ _)); refine blk_put (cs := #[.bool false, .int .u8 0, .int .u8 0, .int .u8 0, .int .u8 0, .int .i64 0, .string (⟨#[]⟩ : ByteArray), .int .i64 0, .int .i64 0]) ?_ 0 _ rfl; (with_reducible repeat (first | refine blk_drewN ?_ _ | refine blk_drew ?_ | refine blk_alloc ?_ _)); exact BK106.out) hb); have n1_ := Aside0.mk (below_step (by repeat (first | (with_reducible first | exact HB.out | apply below_alloc | apply pw_below_drewN | apply below_drew1 | refine below_set ?_ GE106.out) | exact HB.out)) hb); clear BK106; clear HB; have BK106 := n0_; have HB := n1_; clear n0_ n1_; (try clear hb); (try clear hb2); (try clear hk); (try clear hi)))
                go_roundg k1
                case measure => have := HK1.out; omega
                case rel => exact ⟨(wrap64 (x10_1 + 1)), (by first | rfl | (simp; done) | (simp [*]; done)), H', ⟨by have := HK1.out; omega⟩, ⟨by repeat (first | (with_reducible first | exact HB.out | apply below_alloc | apply pw_below_drewN | apply below_drew1 | refine below_set ?_ GE106.out) | exact HB.out)⟩⟩
              · replace c7 := Bool.eq_false_iff.mpr c7
                subst c7
                have H1 : (some 120) = some r := by rw [if_neg (show ¬ (false = true) by decide)] at H; exact H
                clear H
                have H := H1
                clear H1
                obtain rfl := Option.some.inj H
                have p105 : 0 ≤ (x10_1 : Int) := of_decide_eq_true (by first | (with_reducible assumption) | assumption)
                have q105 : x10_1 < (l0.length : Int) := of_decide_eq_true (by first | (with_reducible assumption) | assumption)
                obtain ⟨ad105, e105, hx105_0, hx105_1, hx105_2, hx105_3, hx105_4, hx105_5, hx105_6, hx105_7, hx105_8⟩ := at_T33 HR0.out x10_1 p105 q105
                cases e105
                replace hx105_0 := (HB.out.cell (World.block_lt_of_cell? w _ hx105_0)).trans hx105_0
                replace hx105_1 := (HB.out.cell (World.block_lt_of_cell? w _ hx105_1)).trans hx105_1
                replace hx105_2 := (HB.out.cell (World.block_lt_of_cell? w _ hx105_2)).trans hx105_2
                replace hx105_3 := (HB.out.cell (World.block_lt_of_cell? w _ hx105_3)).trans hx105_3
                replace hx105_4 := (HB.out.cell (World.block_lt_of_cell? w _ hx105_4)).trans hx105_4
                replace hx105_5 := (HB.out.cell (World.block_lt_of_cell? w _ hx105_5)).trans hx105_5
                replace hx105_6 := (HB.out.cell (World.block_lt_of_cell? w _ hx105_6)).trans hx105_6
                replace hx105_7 := (HB.out.cell (World.block_lt_of_cell? w _ hx105_7)).trans hx105_7
                replace hx105_8 := (HB.out.cell (World.block_lt_of_cell? w _ hx105_8)).trans hx105_8
                replace p105 := eq_true p105
                replace q105 := eq_true q105
                go_wp2_with (first | ((with_reducible refine gate_dst (N := 4) rfl ?_); refine box_event ?hg (N := 4) ?hd (cs := #[.bool false, .int .u8 0, .int .u8 0, .int .u8 0, .int .u8 0, .int .i64 0, .string (⟨#[]⟩ : ByteArray), .int .i64 0, .int .i64 0]) (t := 33) ?hr ?_; (case hd => rfl); (case hg => rfl); (case hr => first | (go_simp; done) | (go_simp; rfl)); intro gb106 hg w11 hbox hb; have n0_ := Aside0.mk (below_step (by repeat (first | (with_reducible first | exact HB.out | apply below_alloc | apply pw_below_drewN | apply below_drew1) | exact HB.out)) hb); have n1_ := Aside0.mk (hbox); have n2_ := Aside0.mk ((by rw [hg]; exact (below_size (by repeat (first | (with_reducible first | exact HB.out | apply below_alloc | apply pw_below_drewN | apply below_drew1) | exact HB.out))) : w.heap.size ≤ gb106)); have n3_ := Aside0.mk ((by rw [hg]; exact (below_size (by repeat (first | (with_reducible first | exact HB.out | apply below_alloc | apply pw_below_drewN | apply below_drew1) | exact HB.out))) : w.heap.size ≤ gb106)); clear HB; have HB := n0_; have BK106 := n1_; have GW106 := n2_; have GE106 := n3_; clear n0_ n1_ n2_ n3_; clear hb hbox hg; have hcz12_0 : w11.cell? ⟨gb106, 0, none⟩ = some (.bool false) := (blk_cell BK106.out 0).trans rfl; have hcz12_1 : w11.cell? ⟨gb106, 1, none⟩ = some (.int .u8 0) := (blk_cell BK106.out 1).trans rfl; have hcz12_2 : w11.cell? ⟨gb106, 2, none⟩ = some (.int .u8 0) := (blk_cell BK106.out 2).trans rfl; have hcz12_3 : w11.cell? ⟨gb106, 3, none⟩ = some (.int .u8 0) := (blk_cell BK106.out 3).trans rfl; have hcz12_4 : w11.cell? ⟨gb106, 4, none⟩ = some (.int .u8 0) := (blk_cell BK106.out 4).trans rfl; have hcz12_5 : w11.cell? ⟨gb106, 5, none⟩ = some (.int .i64 0) := (blk_cell BK106.out 5).trans rfl; have hcz12_6 : w11.cell? ⟨gb106, 6, none⟩ = some (.string (⟨#[]⟩ : ByteArray)) := (blk_cell BK106.out 6).trans rfl; have hcz12_7 : w11.cell? ⟨gb106, 7, none⟩ = some (.int .i64 0) := (blk_cell BK106.out 7).trans rfl; have hcz12_8 : w11.cell? ⟨gb106, 8, none⟩ = some (.int .i64 0) := (blk_cell BK106.out 8).trans rfl; have hfz12_0 := blk_frozen BK106.out 0; have hfz12_1 := blk_frozen BK106.out 1; have hfz12_2 := blk_frozen BK106.out 2; have hfz12_3 := blk_frozen BK106.out 3; have hfz12_4 := blk_frozen BK106.out 4; have hfz12_5 := blk_frozen BK106.out 5; have hfz12_6 := blk_frozen BK106.out 6; have hfz12_7 := blk_frozen BK106.out 7; have hfz12_8 := blk_frozen BK106.out 8) | ((with_reducible refine gate_callee (f := 18) rfl ?_); refine goesL_ (some 15) rfl rfl Tryd.func18 (by kernel_rfl) rfl #[.agg #[.bool ((rd_T33 l0 x10_1).f0), .int .u8 ((rd_T33 l0 x10_1).f1.f0), .int .u8 ((rd_T33 l0 x10_1).f1.f1), .int .u8 ((rd_T33 l0 x10_1).f1.f2), .int .u8 ((rd_T33 l0 x10_1).f1.f3), .int .i64 ((rd_T33 l0 x10_1).f2), .string ((rd_T33 l0 x10_1).f3), .int .i64 ((rd_T33 l0 x10_1).f4), .int .i64 ((rd_T33 l0 x10_1).f5)]] rfl (by (try simp only [List.map_toArray, List.map_cons, List.map_nil]); first | done | rfl | (simp only [List.length_drop, List.length_take]; rfl)) ?_; (with_reducible refine (policy_right.calls k1 ((rd_T33 l0 x10_1).f0) ((rd_T33 l0 x10_1).f1.f0) ((rd_T33 l0 x10_1).f1.f1) ((rd_T33 l0 x10_1).f1.f2) ((rd_T33 l0 x10_1).f1.f3) ((rd_T33 l0 x10_1).f2) ((rd_T33 l0 x10_1).f3) ((rd_T33 l0 x10_1).f4) ((rd_T33 l0 x10_1).f5) false _ ?side1 A6.out).mono ?_); (case side1 => exact StdW.below HS_.out (by repeat (first | (with_reducible first | exact HB.out | apply below_alloc | apply pw_below_drewN | apply below_drew1 | refine below_set ?_ GE106.out) | exact HB.out))); rintro e w13 ⟨rfl, hb⟩; refine ⟨_, rfl, ?_⟩; have n0_ := Aside0.mk (blk_below (g := gb106) (o := .cells #[.bool ((rd_T33 l0 x10_1).f0), .int .u8 ((rd_T33 l0 x10_1).f1.f0), .int .u8 ((rd_T33 l0 x10_1).f1.f1), .int .u8 ((rd_T33 l0 x10_1).f1.f2), .int .u8 ((rd_T33 l0 x10_1).f1.f3), .int .i64 ((rd_T33 l0 x10_1).f2), .string ((rd_T33 l0 x10_1).f3), .int .i64 ((rd_T33 l0 x10_1).f4), .int .i64 ((rd_T33 l0 x10_1).f5)] 33 (0, 0)) (by (with_reducible repeat (first | refine blk_drewN ?_ _ | refine blk_drew ?_ | refine blk_alloc ?_ _)); refine blk_put (cs := #[.bool ((rd_T33 l0 x10_1).f0), .int .u8 ((rd_T33 l0 x10_1).f1.f0), .int .u8 ((rd_T33 l0 x10_1).f1.f1), .int .u8 ((rd_T33 l0 x10_1).f1.f2), .int .u8 ((rd_T33 l0 x10_1).f1.f3), .int .i64 ((rd_T33 l0 x10_1).f2), .string ((rd_T33 l0 x10_1).f3), .int .i64 ((rd_T33 l0 x10_1).f4), .int .i64 0]) ?_ 8 _ rfl; (with_reducible repeat (first | refine blk_drewN ?_ _ | refine blk_drew ?_ | refine blk_alloc ?_ _)); refine blk_put (cs := #[.bool ((rd_T33 l0 x10_1).f0), .int .u8 ((rd_T33 l0 x10_1).f1.f0), .int .u8 ((rd_T33 l0 x10_1).f1.f1), .int .u8 ((rd_T33 l0 x10_1).f1.f2), .int .u8 ((rd_T33 l0 x10_1).f1.f3), .int .i64 ((rd_T33 l0 x10_1).f2), .string ((rd_T33 l0 x10_1).f3), .int .i64 0, .int .i64 0]) ?_ 7 _ rfl; (with_reducible repeat (first | refine blk_drewN ?_ _ | refine blk_drew ?_ | refine blk_alloc ?_ _)); refine blk_put (cs := #[.bool ((rd_T33 l0 x10_1).f0), .int .u8 ((rd_T33 l0 x10_1).f1.f0), .int .u8 ((rd_T33 l0 x10_1).f1.f1), .int .u8 ((rd_T33 l0 x10_1).f1.f2), .int .u8 ((rd_T33 l0 x10_1).f1.f3), .int .i64 ((rd_T33 l0 x10_1).f2), .string (⟨#[]⟩ : ByteArray), .int .i64 0, .int .i64 0]) ?_ 6 _ rfl; (with_reducible repeat (first | refine blk_drewN ?_ _ | refine blk_drew ?_ | refine blk_alloc ?_ _)); refine blk_put (cs := #[.bool ((rd_T33 l0 x10_1).f0), .int .u8 ((rd_T33 l0 x10_1).f1.f0), .int .u8 ((rd_T33 l0 x10_1).f1.f1), .int .u8 ((rd_T33 l0 x10_1).f1.f2), .int .u8 ((rd_T33 l0 x10_1).f1.f3), .int .i64 0, .string (⟨#[]⟩ : ByteArray), .int .i64 0, .int .i64 0]) ?_ 5 _ rfl; (with_reducible repeat (first | refine blk_drewN ?_ _ | refine blk_drew ?_ | refine blk_alloc ?_ _)); refine blk_put (cs := #[.bool ((rd_T33 l0 x10_1).f0), .int .u8 ((rd_T33 l0 x10_1).f1.f0), .int .u8 ((rd_T33 l0 x10_1).f1.f1), .int .u8 ((rd_T33 l0 x10_1).f1.f2), .int .u8 0, .int .i64 0, .string (⟨#[]⟩ : ByteArray), .int .i64 0, .int .i64 0]) ?_ 4 _ rfl; (with_reducible repeat (first | refine blk_drewN ?_ _ | refine blk_drew ?_ | refine blk_alloc ?_ _)); refine blk_put (cs := #[.bool ((rd_T33 l0 x10_1).f0), .int .u8 ((rd_T33 l0 x10_1).f1.f0), .int .u8 ((rd_T33 l0 x10_1).f1.f1), .int .u8 0, .int .u8 0, .int .i64 0, .string (⟨#[]⟩ : ByteArray), .int .i64 0, .int .i64 0]) ?_ 3 _ rfl; (with_reducible repeat (first | refine blk_drewN ?_ _ | refine blk_drew ?_ | refine blk_alloc ?_ _)); refine blk_put (cs := #[.bool ((rd_T33 l0 x10_1).f0), .int .u8 ((rd_T33 l0 x10_1).f1.f0), .int .u8 0, .int .u8 0, .int .u8 0, .int .i64 0, .string (⟨#[]⟩ : ByteArray), .int .i64 0, .int .i64 0]) ?_ 2 _ rfl; (with_reducible repeat (first | refine blk_drewN ?_ _ | refine blk_drew ?_ | refine blk_alloc ?_ _)); refine blk_put (cs := #[.bool ((rd_T33 l0 x10_1).f0), .int .u8 0, .int .u8 0, .int .u8 0, .int .u8 0, .int .i64 0, .string (⟨#[]⟩ : ByteArray), .int .i64 0, .int .i64 0]) ?_ 1 _ rfl; (with_reducible repeat (first | refine blk_drewN ?_ _ | refine blk_drew ?_ | refine blk_alloc ?_ _)); refine blk_put (cs := #[.bool false, .int .u8 0, .int .u8 0, .int .u8 0, .int .u8 0, .int .i64 0, .string (⟨#[]⟩ : ByteArray), .int .i64 0, .int .i64 0]) ?_ 0 _ rfl; (with_reducible repeat (first | refine blk_drewN ?_ _ | refine blk_drew ?_ | refine blk_alloc ?_ _)); exact BK106.out) hb); have n1_ := Aside0.mk (below_step (by repeat (first | (with_reducible first | exact HB.out | apply below_alloc | apply pw_below_drewN | apply below_drew1 | refine below_set ?_ GE106.out) | exact HB.out)) hb); clear BK106; clear HB; have BK106 := n0_; have HB := n1_; clear n0_ n1_; (try clear hb); (try clear hb2); (try clear hk); (try clear hi)))
                go_ret
                exact ⟨by first | rfl | (simp [errW_none, errW_some] <;> rfl) | (simp [*, errW_none, errW_some] <;> rfl), by repeat (first | (with_reducible first | exact HB.out | apply below_alloc | apply pw_below_drewN | apply below_drew1 | refine below_set ?_ GE106.out) | exact HB.out)⟩
            · rw [if_neg c5] at H
              exact absurd H (by simp)
          · rw [if_neg c4] at H
            exact absurd H (by simp)
        · rw [if_neg c3] at H
          have c3b0 : decide (x10_1 < (l0.length : Int)) = false := decide_eq_false c3
          clear c3
          obtain rfl := Option.some.inj H
          go_wp2
          go_ret
          exact ⟨by first | rfl | (simp [errW_none, errW_some] <;> rfl) | (simp [*, errW_none, errW_some] <;> rfl), by repeat (first | (with_reducible first | exact HB.out | apply below_alloc | apply pw_below_drewN | apply below_drew1) | exact HB.out)⟩

/-! ### host_word: function 28 -/
def host_word.f (a0_0 : Int) (a0_1 : Int) (a0_2 : Int) (a0_3 : Int) : Option (Int) := some (Go.bits .or .u32 (Go.bits .or .u32 (Go.bits .or .u32 ((((a0_0) % 4294967296) * 16777216) % 4294967296) ((((a0_1) % 4294967296) * 65536) % 4294967296)) ((((a0_2) % 4294967296) * 256) % 4294967296)) ((a0_3) % 4294967296))
set_option maxHeartbeats 8000000 in
set_option maxRecDepth 100000 in
theorem host_word.calls (a0_0 : Int) (a0_1 : Int) (a0_2 : Int) (a0_3 : Int) (r : Int) (w : World) (h : host_word.f a0_0 a0_1 a0_2 a0_3 = some r) :
    Calls Tryd.prog 28 #[.agg #[.int .u8 a0_0, .int .u8 a0_1, .int .u8 a0_2, .int .u8 a0_3]] w fun e w' => e = .returned (.int .u32 r) ∧ Below w.heap.size w w' := by
  have hu24 := Tryd.underlying24
  have HB := Aside0.mk (Below.refl w.heap.size w)
  have H : (some (Go.bits .or .u32 (Go.bits .or .u32 (Go.bits .or .u32 ((((a0_0) % 4294967296) * 16777216) % 4294967296) ((((a0_1) % 4294967296) * 65536) % 4294967296)) ((((a0_2) % 4294967296) * 256) % 4294967296)) ((a0_3) % 4294967296))) = some r := h
  clear h
  obtain rfl := Option.some.inj H
  go_enter Tryd.func28, Tryd.ntmps28
  go_wp2_with (first | ((with_reducible refine gate_dst (N := 1) rfl ?_); refine box_event ?hg (N := 1) ?hd (cs := #[.int .u8 a0_0, .int .u8 a0_1, .int .u8 a0_2, .int .u8 a0_3]) (t := 24) ?hr ?_; (case hd => rfl); (case hg => rfl); (case hr => first | (go_simp; done) | (go_simp; rfl)); intro gb108 hg w2 hbox hb; have n0_ := Aside0.mk (below_step (by repeat (first | (with_reducible first | exact HB.out | apply below_alloc | apply pw_below_drewN | apply below_drew1) | exact HB.out)) hb); have n1_ := Aside0.mk (hbox); have n2_ := Aside0.mk ((by rw [hg]; exact (below_size (by repeat (first | (with_reducible first | exact HB.out | apply below_alloc | apply pw_below_drewN | apply below_drew1) | exact HB.out))) : w.heap.size ≤ gb108)); have n3_ := Aside0.mk ((by rw [hg]; exact (below_size (by repeat (first | (with_reducible first | exact HB.out | apply below_alloc | apply pw_below_drewN | apply below_drew1) | exact HB.out))) : w.heap.size ≤ gb108)); clear HB; have HB := n0_; have BK108 := n1_; have GW108 := n2_; have GE108 := n3_; clear n0_ n1_ n2_ n3_; clear hb hbox hg; have hcz3_0 : w2.cell? ⟨gb108, 0, none⟩ = some (.int .u8 a0_0) := (blk_cell BK108.out 0).trans rfl; have hcz3_1 : w2.cell? ⟨gb108, 1, none⟩ = some (.int .u8 a0_1) := (blk_cell BK108.out 1).trans rfl; have hcz3_2 : w2.cell? ⟨gb108, 2, none⟩ = some (.int .u8 a0_2) := (blk_cell BK108.out 2).trans rfl; have hcz3_3 : w2.cell? ⟨gb108, 3, none⟩ = some (.int .u8 a0_3) := (blk_cell BK108.out 3).trans rfl; have hfz3_0 := blk_frozen BK108.out 0; have hfz3_1 := blk_frozen BK108.out 1; have hfz3_2 := blk_frozen BK108.out 2; have hfz3_3 := blk_frozen BK108.out 3))
  go_ret
  exact ⟨by first | rfl | (simp [errW_none, errW_some] <;> rfl) | (simp [*, errW_none, errW_some] <;> rfl), by repeat (first | (with_reducible first | exact HB.out | apply below_alloc | apply pw_below_drewN | apply below_drew1 | refine below_set ?_ GE108.out) | exact HB.out)⟩

/-! ### host_In: function 17 -/
def host_In.f (a0_0 : Int) (a0_1 : Int) (a0_2 : Int) (a0_3 : Int) (a1_0 : Int) (a1_1 : Int) (a1_2 : Int) (a1_3 : Int) (a2 : Int) : Option (Bool) := if a2 ≥ 0 then (if a2 ≤ 32 then ((host_word.f a0_0 a0_1 a0_2 a0_3).bind fun t111 => ((host_word.f a1_0 a1_1 a1_2 a1_3).bind fun t112 => (if 0 ≤ (wrap64 (32 - a2)) then (some ((shr .u32 (Go.bits .xor .u32 t111 t112) (wrap64 (32 - a2))) == 0)) else (none)))) else (some false)) else (some false)
def host_In.T1 : Bool × List (List Nat × List Nat) := (true, [([], []), ([0], [0]), ([1], [1]), ([2], [2]), ([3, 2], [2, 3]), ([2, 4], [2, 4]), ([5, 2], [5]), ([6], [6]), ([7, 6, 6], [6, 7]), ([6], [6]), ([9, 8, 6], [6, 9]), ([8, 10, 6], [6, 8, 10]), ([6], [6]), ([12, 6], [6, 12]), ([11, 13, 6], [6, 11, 13]), ([14, 6], [6, 14]), ([6, 15], [6, 15]), ([16, 10, 0, 1, 2, 3, 4, 5, 6, 7, 8, 9, 10, 11, 12, 13, 14, 15, 16], [16])])
def host_In.B1 : List Nat := [0, 1, 3, 7, 15, 31, 63, 127, 255, 127, 1023, 2047, 127, 4223, 16383, 32767, 65535, 131071]
theorem host_In.tab1 : rtab .any (opsOf Tryd.f17 1) = host_In.T1 := by kernel_rfl
theorem host_In.bits1 : waitsOk host_In.T1.2 host_In.B1 = true := by kernel_rfl
set_option maxHeartbeats 8000000 in
set_option maxRecDepth 100000 in
theorem host_In.calls (a0_0 : Int) (a0_1 : Int) (a0_2 : Int) (a0_3 : Int) (a1_0 : Int) (a1_1 : Int) (a1_2 : Int) (a1_3 : Int) (a2 : Int) (r : Bool) (w : World) (h : host_In.f a0_0 a0_1 a0_2 a0_3 a1_0 a1_1 a1_2 a1_3 a2 = some r) :
    Calls Tryd.prog 17 #[.agg #[.int .u8 a0_0, .int .u8 a0_1, .int .u8 a0_2, .int .u8 a0_3], .agg #[.int .u8 a1_0, .int .u8 a1_1, .int .u8 a1_2, .int .u8 a1_3], .int .i64 a2] w fun e w' => e = .returned (.bool r) ∧ Below w.heap.size w w' := by
  have hu24 := Tryd.underlying24
  have HB := Aside0.mk (Below.refl w.heap.size w)
  have H : (if a2 ≥ 0 then (if a2 ≤ 32 then ((host_word.f a0_0 a0_1 a0_2 a0_3).bind fun t111 => ((host_word.f a1_0 a1_1 a1_2 a1_3).bind fun t112 => (if 0 ≤ (wrap64 (32 - a2)) then (some ((shr .u32 (Go.bits .xor .u32 t111 t112) (wrap64 (32 - a2))) == 0)) else (none)))) else (some false)) else (some false)) = some r := h
  clear h
  by_cases c4 : a2 ≥ 0
  · rw [if_pos c4] at H
    have c4b0 : decide (0 ≤ a2) = true := decide_eq_true c4
    clear c4
    by_cases c5 : a2 ≤ 32
    · rw [if_pos c5] at H
      have c5b0 : decide (a2 ≤ 32) = true := decide_eq_true c5
      clear c5
      replace H := Option.bind_eq_some_iff.mp H
      obtain ⟨t111, A60, H⟩ := H
      replace H : ((host_word.f a1_0 a1_1 a1_2 a1_3).bind fun t112 => (if 0 ≤ (wrap64 (32 - a2)) then (some ((shr .u32 (Go.bits .xor .u32 t111 t112) (wrap64 (32 - a2))) == 0)) else (none))) = some r := H
      have A6 := Aside0.mk A60
      clear A60
      replace H := Option.bind_eq_some_iff.mp H
      obtain ⟨t112, A70, H⟩ := H
      replace H : (if 0 ≤ (wrap64 (32 - a2)) then (some ((shr .u32 (Go.bits .xor .u32 t111 t112) (wrap64 (32 - a2))) == 0)) else (none)) = some r := H
      have A7 := Aside0.mk A70
      clear A70
      obtain ⟨ji8, hji8⟩ : ∃ j_ : Int, (wrap64 (32 - a2)) = j_ := ⟨_, rfl⟩
      replace H : (if 0 ≤ (ji8) then (some ((shr .u32 (Go.bits .xor .u32 t111 t112) (ji8)) == 0)) else (none)) = some r := by first | (rw [hji8] at H; exact H) | (simp only [hji8] at H ⊢; exact H)
      (try rw [hji8] at A6)
      (try rw [hji8] at A7)
      have hji8w : (IntKind.i64.wrap (32 - a2)) = ji8 := (i64_w _).trans hji8
      by_cases c9 : 0 ≤ (ji8)
      · rw [if_pos c9] at H
        have c9b0 := eq_true c9
        have c9b1 : decide (0 ≤ (ji8)) = true := decide_eq_true c9
        clear c9
        obtain ⟨ji10, hji10⟩ : ∃ j_ : Int, (shr .u32 (Go.bits .xor .u32 t111 t112) (ji8)) = j_ := ⟨_, rfl⟩
        replace H : (some ((ji10) == 0)) = some r := by first | (rw [hji10] at H; exact H) | (simp only [hji10] at H ⊢; exact H)
        (try rw [hji10] at A6)
        (try rw [hji10] at A7)
        have hji10_ : ((Go.bits .xor .u32 t111 t112) / 2 ^ min (ji8).toNat 32) = ji10 := hji10
        have hji10z : (ji8) ≤ 32 → ((Go.bits .xor .u32 t111 t112) / 2 ^ (ji8).toNat) = ji10 := shr_small hji10
        obtain rfl := Option.some.inj H
        go_enter Tryd.func17, Tryd.ntmps17
        try go_wp2_with (first | ((with_reducible refine gate_dst (N := 3) rfl ?_); refine box_event ?hg (N := 3) ?hd (cs := #[.int .u8 a0_0, .int .u8 a0_1, .int .u8 a0_2, .int .u8 a0_3]) (t := 24) ?hr ?_; (case hd => rfl); (case hg => rfl); (case hr => first | (go_simp; done) | (go_simp; rfl)); intro gb109 hg w11 hbox hb; have n0_ := Aside0.mk (below_step (by repeat (first | (with_reducible first | exact HB.out | apply below_alloc | apply pw_below_drewN | apply below_drew1) | exact HB.out)) hb); have n1_ := Aside0.mk (hbox); have n2_ := Aside0.mk ((by rw [hg]; exact (below_size (by repeat (first | (with_reducible first | exact HB.out | apply below_alloc | apply pw_below_drewN | apply below_drew1) | exact HB.out))) : w.heap.size ≤ gb109)); have n3_ := Aside0.mk ((by rw [hg]; exact (below_size (by repeat (first | (with_reducible first | exact HB.out | apply below_alloc | apply pw_below_drewN | apply below_drew1) | exact HB.out))) : w.heap.size ≤ gb109)); clear HB; have HB := n0_; have BK109 := n1_; have GW109 := n2_; have GE109 := n3_; clear n0_ n1_ n2_ n3_; clear hb hbox hg) | ((with_reducible refine gate_dst (N := 4) rfl ?_); refine box_event ?hg (N := 4) ?hd (cs := #[.int .u8 a1_0, .int .u8 a1_1, .int .u8 a1_2, .int .u8 a1_3]) (t := 24) ?hr ?_; (case hd => rfl); (case hg => rfl); (case hr => first | (go_simp; done) | (go_simp; rfl)); intro gb110 hg w12 hbox hb; have n0_ := Aside0.mk (blk_below (g := gb109) (o := .cells #[.int .u8 a0_0, .int .u8 a0_1, .int .u8 a0_2, .int .u8 a0_3] 24 (0, 0)) (by (with_reducible repeat (first | refine blk_drewN ?_ _ | refine blk_drew ?_ | refine blk_alloc ?_ _)); exact BK109.out) hb); have n1_ := Aside0.mk (below_step (by repeat (first | (with_reducible first | exact HB.out | apply below_alloc | apply pw_below_drewN | apply below_drew1 | refine below_set ?_ GE109.out) | exact HB.out)) hb); have n2_ := Aside0.mk (hbox); have n3_ := Aside0.mk ((by rw [hg]; exact (below_size (by repeat (first | (with_reducible first | exact HB.out | apply below_alloc | apply pw_below_drewN | apply below_drew1 | refine below_set ?_ GE109.out) | exact HB.out))) : w.heap.size ≤ gb110)); have n4_ := Aside0.mk ((by rw [hg]; exact (below_size (by repeat (first | (with_reducible first | exact HB.out | apply below_alloc | apply pw_below_drewN | apply below_drew1 | refine below_set ?_ GE109.out) | exact HB.out))) : w.heap.size ≤ gb110)); have n5_ := Aside0.mk ((by rw [hg]; exact Nat.ne_of_lt (blk_lt (g := gb109) (o := .cells #[.int .u8 a0_0, .int .u8 a0_1, .int .u8 a0_2, .int .u8 a0_3] 24 (0, 0)) (by (with_reducible repeat (first | refine blk_drewN ?_ _ | refine blk_drew ?_ | refine blk_alloc ?_ _)); exact BK109.out)) : gb109 ≠ gb110)); have n6_ := Aside0.mk ((by rw [hg]; exact Nat.ne_of_gt (blk_lt (g := gb109) (o := .cells #[.int .u8 a0_0, .int .u8 a0_1, .int .u8 a0_2, .int .u8 a0_3] 24 (0, 0)) (by (with_reducible repeat (first | refine blk_drewN ?_ _ | refine blk_drew ?_ | refine blk_alloc ?_ _)); exact BK109.out)) : gb110 ≠ gb109)); clear BK109; clear HB; have BK109 := n0_; have HB := n1_; have BK110 := n2_; have GW110 := n3_; have GE110 := n4_; have NB109_110 := n5_; have NB110_109 := n6_; clear n0_ n1_ n2_ n3_ n4_ n5_ n6_; clear hb hbox hg))
        have n0_ := Aside0.mk (blk_drew BK109.out)
        have n1_ := Aside0.mk (blk_drew BK110.out)
        have n2_ := Aside0.mk (below_drew1 HB.out)
        clear BK109
        clear BK110
        clear HB
        have BK109 := n0_
        have BK110 := n1_
        have HB := n2_
        clear n0_ n1_ n2_
        refine start_ (n := 18) (S := fun w' => w'.cell? ⟨gb109, 0, none⟩ = some (.int .u8 a0_0) ∧ w'.cell? ⟨gb109, 1, none⟩ = some (.int .u8 a0_1) ∧ w'.cell? ⟨gb109, 2, none⟩ = some (.int .u8 a0_2) ∧ w'.cell? ⟨gb109, 3, none⟩ = some (.int .u8 a0_3) ∧ w'.cell? ⟨gb110, 0, none⟩ = some (.int .u8 a1_0) ∧ w'.cell? ⟨gb110, 1, none⟩ = some (.int .u8 a1_1) ∧ w'.cell? ⟨gb110, 2, none⟩ = some (.int .u8 a1_2) ∧ w'.cell? ⟨gb110, 3, none⟩ = some (.int .u8 a1_3)) (ds := []) #[false, false, false, false, false, false, false, false, false, false, false, false, false, false, false, false, false, false] (by kernel_rfl) rfl rfl ⟨(blk_cell BK109.out 0).trans rfl, (blk_cell BK109.out 1).trans rfl, (blk_cell BK109.out 2).trans rfl, (blk_cell BK109.out 3).trans rfl, (blk_cell BK110.out 0).trans rfl, (blk_cell BK110.out 1).trans rfl, (blk_cell BK110.out 2).trans rfl, (blk_cell BK110.out 3).trans rfl⟩ (fun hHeld => ?_); refine with_tabW host_In.tab1 host_In.bits1 (fun HT_ HW_ => ?_)
        generalize w12.drew = w13 at BK109 BK110 HB hHeld ⊢
        refine pure_ (i := 0) (N := some 7) (v := ?_) (a' := ?_) #[true, false, false, false, false, false, false, false, false, false, false, false, false, false, false, false, false, false] rfl rfl (any_of HT_.out (by kernel_rfl)) (fun _ _ _ h => h) (Or.inl ⟨by rfl, ?_⟩) ?_ ?_
        rotate_left
        · intro w'
          go_simp
          with_reducible rfl
        rotate_left
        · simp only [Act.put, List.setIfInBounds_toArray, List.set_cons_zero, List.set_cons_succ, i64_w, i32_w]
          rfl
        refine pure_ (i := 1) (N := some 8) (v := ?_) (a' := ?_) #[true, true, false, false, false, false, false, false, false, false, false, false, false, false, false, false, false, false] rfl rfl (any_of HT_.out (by kernel_rfl)) (fun _ _ _ h => h) (Or.inl ⟨by rfl, ?_⟩) ?_ ?_
        rotate_left
        · intro w'
          go_simp
          with_reducible rfl
        rotate_left
        · simp only [Act.put, List.setIfInBounds_toArray, List.set_cons_zero, List.set_cons_succ, i64_w, i32_w]
          rfl
        refine pure_ (i := 2) (N := some 9) (v := ?_) (a' := ?_) #[true, true, true, false, false, false, false, false, false, false, false, false, false, false, false, false, false, false] rfl rfl (any_of HT_.out (by kernel_rfl)) (fun _ _ _ h => h) (Or.inl ⟨by rfl, ?_⟩) ?_ ?_
        rotate_left
        · intro w'
          go_simp
          with_reducible rfl
        rotate_left
        · simp only [Act.put, List.setIfInBounds_toArray, List.set_cons_zero, List.set_cons_succ, i64_w, i32_w]
          rfl
        refine pure_ (i := 3) (N := some 10) (v := ?_) (a' := ?_) #[true, true, true, true, false, false, false, false, false, false, false, false, false, false, false, false, false, false] rfl rfl (any_of HT_.out (by kernel_rfl)) (fun _ _ _ h => h) (Or.inl ⟨by rfl, ?_⟩) ?_ ?_
        rotate_left
        · intro w'
          go_simp
          with_reducible rfl
        rotate_left
        · simp only [Act.put, List.setIfInBounds_toArray, List.set_cons_zero, List.set_cons_succ, i64_w, i32_w]
          rfl
        refine pure_ (i := 4) (N := some 11) (v := ?_) (a' := ?_) #[true, true, true, true, true, false, false, false, false, false, false, false, false, false, false, false, false, false] rfl rfl (any_of HT_.out (by kernel_rfl)) (fun _ _ _ h => h) (Or.inl ⟨by rfl, ?_⟩) ?_ ?_
        rotate_left
        · intro w'
          go_simp
          with_reducible rfl
        rotate_left
        · simp only [Act.put, List.setIfInBounds_toArray, List.set_cons_zero, List.set_cons_succ, i64_w, i32_w]
          rfl
        refine pure_ (i := 5) (N := some 12) (v := ?_) (a' := ?_) #[true, true, true, true, true, true, false, false, false, false, false, false, false, false, false, false, false, false] rfl rfl (any_of HT_.out (by kernel_rfl)) (fun _ _ _ h => h) (Or.inl ⟨by rfl, ?_⟩) ?_ ?_
        rotate_left
        · intro w'
          go_simp
          with_reducible rfl
        rotate_left
        · simp only [Act.put, List.setIfInBounds_toArray, List.set_cons_zero, List.set_cons_succ, i64_w, i32_w]
          rfl
        refine pure_ (i := 6) (N := some 13) (v := ?_) (a' := ?_) #[true, true, true, true, true, true, true, false, false, false, false, false, false, false, false, false, false, false] rfl rfl (any_of HT_.out (by kernel_rfl)) (fun _ _ _ h => h) (Or.inl ⟨by rfl, ?_⟩) ?_ ?_
        rotate_left
        · intro w'
          go_simp
          with_reducible rfl
        rotate_left
        · simp only [Act.put, List.setIfInBounds_toArray, List.set_cons_zero, List.set_cons_succ, i64_w, i32_w]
          rfl
        refine pure_ (i := 12) (N := some 19) (v := ?_) (a' := ?_) #[true, true, true, true, true, true, true, false, false, false, false, false, true, false, false, false, false, false] rfl rfl (any_of HT_.out (by kernel_rfl)) (fun _ _ _ h => h) (Or.inl ⟨by rfl, ?_⟩) ?_ ?_
        rotate_left
        · intro w'
          go_simp
          with_reducible rfl
        rotate_left
        · simp only [Act.put, List.setIfInBounds_toArray, List.set_cons_zero, List.set_cons_succ, i64_w, i32_w]
          rfl
        refine pure_ (i := 13) (N := some 20) (v := ?_) (a' := ?_) #[true, true, true, true, true, true, true, false, false, false, false, false, true, true, false, false, false, false] rfl rfl (any_of HT_.out (by kernel_rfl)) (fun _ _ _ h => h) (Or.inl ⟨by rfl, ?_⟩) ?_ ?_
        rotate_left
        · intro w'
          go_simp
          with_reducible rfl
        rotate_left
        · simp only [Act.put, List.setIfInBounds_toArray, List.set_cons_zero, List.set_cons_succ, i64_w, i32_w]
          rfl
        refine take_ (i := 7) (N := some 14) (v := ?_) (a' := ?_) #[true, true, true, true, true, true, true, true, false, false, false, false, true, true, false, false, false, false] rfl rfl (take_ofW HT_.out HW_.out (by kernel_rfl)) (fun _ _ _ h => h) (Or.inl ⟨by rfl, ?_⟩) hHeld ?_ ?_
        rotate_left
        · rintro w' ⟨s0, s1, s2, s3, s4, s5, s6, s7⟩
          go_simp
          with_reducible rfl
        rotate_left
        · simp only [Act.put, List.setIfInBounds_toArray, List.set_cons_zero, List.set_cons_succ, i64_w, i32_w]
          rfl
        refine take_ (i := 9) (N := some 16) (v := ?_) (a' := ?_) #[true, true, true, true, true, true, true, true, false, true, false, false, true, true, false, false, false, false] rfl rfl (take_ofW HT_.out HW_.out (by kernel_rfl)) (fun _ _ _ h => h) (Or.inl ⟨by rfl, ?_⟩) hHeld ?_ ?_
        rotate_left
        · rintro w' ⟨s0, s1, s2, s3, s4, s5, s6, s7⟩
          go_simp
          with_reducible rfl
        rotate_left
        · simp only [Act.put, List.setIfInBounds_toArray, List.set_cons_zero, List.set_cons_succ, i64_w, i32_w]
          rfl
        refine one_ (i := 8) (N := some 15) #[true, true, true, true, true, true, true, true, true, true, false, false, true, true, false, false, false, false] rfl rfl (one_of HT_.out (by kernel_rfl)) (by decide) (fun K hK => ?_)
        refine goes_ Tryd.func28 (by kernel_rfl) rfl #[.agg #[.int .u8 a0_0, .int .u8 a0_1, .int .u8 a0_2, .int .u8 a0_3]] (by rfl) rfl rfl (by (try simp only [List.map_toArray, List.map_cons, List.map_nil]); first | done | rfl | (simp only [List.length_drop, List.length_take]; rfl)) ?_
        with_reducible refine (host_word.calls a0_0 a0_1 a0_2 a0_3 t111 _ A6.out).mono ?_
        rintro e w14 ⟨rfl, hb⟩
        refine ⟨_, rfl, ?_⟩
        have n0_ := Aside0.mk (blk_below (g := gb109) (o := .cells #[.int .u8 a0_0, .int .u8 a0_1, .int .u8 a0_2, .int .u8 a0_3] 24 (0, 0)) (by (with_reducible repeat (first | refine blk_drewN ?_ _ | refine blk_drew ?_ | refine blk_alloc ?_ _)); exact BK109.out) hb)
        have n1_ := Aside0.mk (blk_below (g := gb110) (o := .cells #[.int .u8 a1_0, .int .u8 a1_1, .int .u8 a1_2, .int .u8 a1_3] 24 (0, 0)) (by (with_reducible repeat (first | refine blk_drewN ?_ _ | refine blk_drew ?_ | refine blk_alloc ?_ _)); exact BK110.out) hb)
        have n2_ := Aside0.mk (below_step (by repeat (first | (with_reducible first | exact HB.out | apply below_alloc | apply pw_below_drewN | apply below_drew1 | refine below_set ?_ GE109.out | refine below_set ?_ GE110.out) | exact HB.out)) hb)
        clear BK109
        clear BK110
        clear HB
        have BK109 := n0_
        have BK110 := n1_
        have HB := n2_
        clear n0_ n1_ n2_
        (try clear hb)
        (try clear hb2)
        (try clear hk)
        (try clear hi)
        refine hK.out _ _ ⟨(blk_cell BK109.out 0).trans rfl, (blk_cell BK109.out 1).trans rfl, (blk_cell BK109.out 2).trans rfl, (blk_cell BK109.out 3).trans rfl, (blk_cell BK110.out 0).trans rfl, (blk_cell BK110.out 1).trans rfl, (blk_cell BK110.out 2).trans rfl, (blk_cell BK110.out 3).trans rfl⟩ (fun hHeld => ?_)
        clear hK K
        refine norm_ (a' := ?_) ?_ ?_
        rotate_left
        · show Act.put _ (some 15) _ = _
          simp only [Act.put, List.setIfInBounds_toArray, List.set_cons_zero, List.set_cons_succ, i64_w, i32_w]
          rfl
        refine one_ (i := 10) (N := some 17) #[true, true, true, true, true, true, true, true, true, true, true, false, true, true, false, false, false, false] rfl rfl (one_of HT_.out (by kernel_rfl)) (by decide) (fun K hK => ?_)
        refine goes_ Tryd.func28 (by kernel_rfl) rfl #[.agg #[.int .u8 a1_0, .int .u8 a1_1, .int .u8 a1_2, .int .u8 a1_3]] (by rfl) rfl rfl (by (try simp only [List.map_toArray, List.map_cons, List.map_nil]); first | done | rfl | (simp only [List.length_drop, List.length_take]; rfl)) ?_
        with_reducible refine (host_word.calls a1_0 a1_1 a1_2 a1_3 t112 _ A7.out).mono ?_
        rintro e w15 ⟨rfl, hb⟩
        refine ⟨_, rfl, ?_⟩
        have n0_ := Aside0.mk (blk_below (g := gb109) (o := .cells #[.int .u8 a0_0, .int .u8 a0_1, .int .u8 a0_2, .int .u8 a0_3] 24 (0, 0)) (by (with_reducible repeat (first | refine blk_drewN ?_ _ | refine blk_drew ?_ | refine blk_alloc ?_ _)); exact BK109.out) hb)
        have n1_ := Aside0.mk (blk_below (g := gb110) (o := .cells #[.int .u8 a1_0, .int .u8 a1_1, .int .u8 a1_2, .int .u8 a1_3] 24 (0, 0)) (by (with_reducible repeat (first | refine blk_drewN ?_ _ | refine blk_drew ?_ | refine blk_alloc ?_ _)); exact BK110.out) hb)
        have n2_ := Aside0.mk (below_step (by repeat (first | (with_reducible first | exact HB.out | apply below_alloc | apply pw_below_drewN | apply below_drew1 | refine below_set ?_ GE109.out | refine below_set ?_ GE110.out) | exact HB.out)) hb)
        clear BK109
        clear BK110
        clear HB
        have BK109 := n0_
        have BK110 := n1_
        have HB := n2_
        clear n0_ n1_ n2_
        (try clear hb)
        (try clear hb2)
        (try clear hk)
        (try clear hi)
        refine hK.out _ _ ⟨(blk_cell BK109.out 0).trans rfl, (blk_cell BK109.out 1).trans rfl, (blk_cell BK109.out 2).trans rfl, (blk_cell BK109.out 3).trans rfl, (blk_cell BK110.out 0).trans rfl, (blk_cell BK110.out 1).trans rfl, (blk_cell BK110.out 2).trans rfl, (blk_cell BK110.out 3).trans rfl⟩ (fun hHeld => ?_)
        clear hK K
        refine norm_ (a' := ?_) ?_ ?_
        rotate_left
        · show Act.put _ (some 17) _ = _
          simp only [Act.put, List.setIfInBounds_toArray, List.set_cons_zero, List.set_cons_succ, i64_w, i32_w]
          rfl
        refine pure_ (i := 11) (N := some 18) (v := ?_) (a' := ?_) #[true, true, true, true, true, true, true, true, true, true, true, true, true, true, false, false, false, false] rfl rfl (any_of HT_.out (by kernel_rfl)) (fun _ _ _ h => h) (Or.inl ⟨by rfl, ?_⟩) ?_ ?_
        rotate_left
        · intro w'
          go_simp
          with_reducible rfl
        rotate_left
        · simp only [Act.put, List.setIfInBounds_toArray, List.set_cons_zero, List.set_cons_succ, i64_w, i32_w]
          rfl
        refine pure_ (i := 14) (N := some 21) (v := ?_) (a' := ?_) #[true, true, true, true, true, true, true, true, true, true, true, true, true, true, true, false, false, false] rfl rfl (any_of HT_.out (by kernel_rfl)) (fun _ _ _ h => h) (Or.inl ⟨by rfl, ?_⟩) ?_ ?_
        rotate_left
        · intro w'
          go_simp
          with_reducible rfl
        rotate_left
        · simp only [Act.put, List.setIfInBounds_toArray, List.set_cons_zero, List.set_cons_succ, i64_w, i32_w]
          rfl
        refine pure_ (i := 15) (N := some 22) (v := ?_) (a' := ?_) #[true, true, true, true, true, true, true, true, true, true, true, true, true, true, true, true, false, false] rfl rfl (any_of HT_.out (by kernel_rfl)) (fun _ _ _ h => h) (Or.inl ⟨by rfl, ?_⟩) ?_ ?_
        rotate_left
        · intro w'
          go_simp
          with_reducible rfl
        rotate_left
        · simp only [Act.put, List.setIfInBounds_toArray, List.set_cons_zero, List.set_cons_succ, i64_w, i32_w]
          rfl
        refine pure_ (i := 16) (N := some 23) (v := ?_) (a' := ?_) #[true, true, true, true, true, true, true, true, true, true, true, true, true, true, true, true, true, false] rfl rfl (any_of HT_.out (by kernel_rfl)) (fun _ _ _ h => h) (Or.inl ⟨by rfl, ?_⟩) ?_ ?_
        rotate_left
        · intro w'
          go_simp
          with_reducible rfl
        rotate_left
        · simp only [Act.put, List.setIfInBounds_toArray, List.set_cons_zero, List.set_cons_succ, i64_w, i32_w]
          rfl
        refine pure_ (i := 17) (N := some 6) (v := ?_) (a' := ?_) #[true, true, true, true, true, true, true, true, true, true, true, true, true, true, true, true, true, true] rfl rfl (any_of HT_.out (by kernel_rfl)) (fun _ _ _ h => h) (Or.inl ⟨by rfl, ?_⟩) ?_ ?_
        rotate_left
        · intro w'
          go_simp
          with_reducible rfl
        rotate_left
        · simp only [Act.put, List.setIfInBounds_toArray, List.set_cons_zero, List.set_cons_succ, i64_w, i32_w]
          rfl
        refine done_ (done_of HT_.out (by kernel_rfl)) ?_
        try go_wp2
        go_ret
        exact ⟨by first | rfl | (simp [errW_none, errW_some] <;> rfl) | (simp only [← hji8, ← hji10]; first | rfl | (simp [errW_none, errW_some] <;> rfl)) | (simp [*, errW_none, errW_some] <;> rfl), by repeat (first | (with_reducible first | exact HB.out | apply below_alloc | apply pw_below_drewN | apply below_drew1 | refine below_set ?_ GE109.out | refine below_set ?_ GE110.out) | exact HB.out)⟩
      · rw [if_neg c9] at H
        exact absurd H (by simp)
    · rw [if_neg c5] at H
      have c5b0 : decide (a2 ≤ 32) = false := decide_eq_false c5
      clear c5
      obtain rfl := Option.some.inj H
      go_enter Tryd.func17, Tryd.ntmps17
      try go_wp2_with (first | ((with_reducible refine gate_dst (N := 3) rfl ?_); refine box_event ?hg (N := 3) ?hd (cs := #[.int .u8 a0_0, .int .u8 a0_1, .int .u8 a0_2, .int .u8 a0_3]) (t := 24) ?hr ?_; (case hd => rfl); (case hg => rfl); (case hr => first | (go_simp; done) | (go_simp; rfl)); intro gb109 hg w16 hbox hb; have n0_ := Aside0.mk (below_step (by repeat (first | (with_reducible first | exact HB.out | apply below_alloc | apply pw_below_drewN | apply below_drew1) | exact HB.out)) hb); have n1_ := Aside0.mk (hbox); have n2_ := Aside0.mk ((by rw [hg]; exact (below_size (by repeat (first | (with_reducible first | exact HB.out | apply below_alloc | apply pw_below_drewN | apply below_drew1) | exact HB.out))) : w.heap.size ≤ gb109)); have n3_ := Aside0.mk ((by rw [hg]; exact (below_size (by repeat (first | (with_reducible first | exact HB.out | apply below_alloc | apply pw_below_drewN | apply below_drew1) | exact HB.out))) : w.heap.size ≤ gb109)); clear HB; have HB := n0_; have BK109 := n1_; have GW109 := n2_; have GE109 := n3_; clear n0_ n1_ n2_ n3_; clear hb hbox hg) | ((with_reducible refine gate_dst (N := 4) rfl ?_); refine box_event ?hg (N := 4) ?hd (cs := #[.int .u8 a1_0, .int .u8 a1_1, .int .u8 a1_2, .int .u8 a1_3]) (t := 24) ?hr ?_; (case hd => rfl); (case hg => rfl); (case hr => first | (go_simp; done) | (go_simp; rfl)); intro gb110 hg w17 hbox hb; have n0_ := Aside0.mk (blk_below (g := gb109) (o := .cells #[.int .u8 a0_0, .int .u8 a0_1, .int .u8 a0_2, .int .u8 a0_3] 24 (0, 0)) (by (with_reducible repeat (first | refine blk_drewN ?_ _ | refine blk_drew ?_ | refine blk_alloc ?_ _)); exact BK109.out) hb); have n1_ := Aside0.mk (below_step (by repeat (first | (with_reducible first | exact HB.out | apply below_alloc | apply pw_below_drewN | apply below_drew1 | refine below_set ?_ GE109.out) | exact HB.out)) hb); have n2_ := Aside0.mk (hbox); have n3_ := Aside0.mk ((by rw [hg]; exact (below_size (by repeat (first | (with_reducible first | exact HB.out | apply below_alloc | apply pw_below_drewN | apply below_drew1 | refine below_set ?_ GE109.out) | exact HB.out))) : w.heap.size ≤ gb110)); have n4_ := Aside0.mk ((by rw [hg]; exact (below_size (by repeat (first | (with_reducible first | exact HB.out | apply below_alloc | apply pw_below_drewN | apply below_drew1 | refine below_set ?_ GE109.out) | exact HB.out))) : w.heap.size ≤ gb110)); have n5_ := Aside0.mk ((by rw [hg]; exact Nat.ne_of_lt (blk_lt (g := gb109) (o := .cells #[.int .u8 a0_0, .int .u8 a0_1, .int .u8 a0_2, .int .u8 a0_3] 24 (0, 0)) (by (with_reducible repeat (first | refine blk_drewN ?_ _ | refine blk_drew ?_ | refine blk_alloc ?_ _)); exact BK109.out)) : gb109 ≠ gb110)); have n6_ := Aside0.mk ((by rw [hg]; exact Nat.ne_of_gt (blk_lt (g := gb109) (o := .cells #[.int .u8 a0_0, .int .u8 a0_1, .int .u8 a0_2, .int .u8 a0_3] 24 (0, 0)) (by (with_reducible repeat (first | refine blk_drewN ?_ _ | refine blk_drew ?_ | refine blk_alloc ?_ _)); exact BK109.out)) : gb110 ≠ gb109)); clear BK109; clear HB; have BK109 := n0_; have HB := n1_; have BK110 := n2_; have GW110 := n3_; have GE110 := n4_; have NB109_110 := n5_; have NB110_109 := n6_; clear n0_ n1_ n2_ n3_ n4_ n5_ n6_; clear hb hbox hg))
      have n0_ := Aside0.mk (blk_drew BK109.out)
      have n1_ := Aside0.mk (blk_drew BK110.out)
      have n2_ := Aside0.mk (below_drew1 HB.out)
      clear BK109
      clear BK110
      clear HB
      have BK109 := n0_
      have BK110 := n1_
      have HB := n2_
      clear n0_ n1_ n2_
      refine start_ (n := 18) (S := fun w' => True) (ds := []) #[false, false, false, false, false, false, false, false, false, false, false, false, false, false, false, false, false, false] (by kernel_rfl) rfl rfl trivial (fun hHeld => ?_); refine with_tabW host_In.tab1 host_In.bits1 (fun HT_ HW_ => ?_)
      generalize w17.drew = w18 at BK109 BK110 HB hHeld ⊢
      refine pure_ (i := 0) (N := some 7) (v := ?_) (a' := ?_) #[true, false, false, false, false, false, false, false, false, false, false, false, false, false, false, false, false, false] rfl rfl (any_of HT_.out (by kernel_rfl)) (fun _ _ _ h => h) (Or.inl ⟨by rfl, ?_⟩) ?_ ?_
      rotate_left
      · intro w'
        go_simp
        with_reducible rfl
      rotate_left
      · simp only [Act.put, List.setIfInBounds_toArray, List.set_cons_zero, List.set_cons_succ, i64_w, i32_w]
        rfl
      refine pure_ (i := 1) (N := some 8) (v := ?_) (a' := ?_) #[true, true, false, false, false, false, false, false, false, false, false, false, false, false, false, false, false, false] rfl rfl (any_of HT_.out (by kernel_rfl)) (fun _ _ _ h => h) (Or.inl ⟨by rfl, ?_⟩) ?_ ?_
      rotate_left
      · intro w'
        go_simp
        with_reducible rfl
      rotate_left
      · simp only [Act.put, List.setIfInBounds_toArray, List.set_cons_zero, List.set_cons_succ, i64_w, i32_w]
        rfl
      refine pure_ (i := 2) (N := some 9) (v := ?_) (a' := ?_) #[true, true, true, false, false, false, false, false, false, false, false, false, false, false, false, false, false, false] rfl rfl (any_of HT_.out (by kernel_rfl)) (fun _ _ _ h => h) (Or.inl ⟨by rfl, ?_⟩) ?_ ?_
      rotate_left
      · intro w'
        go_simp
        with_reducible rfl
      rotate_left
      · simp only [Act.put, List.setIfInBounds_toArray, List.set_cons_zero, List.set_cons_succ, i64_w, i32_w]
        rfl
      refine pure_ (i := 3) (N := some 10) (v := ?_) (a' := ?_) #[true, true, true, true, false, false, false, false, false, false, false, false, false, false, false, false, false, false] rfl rfl (any_of HT_.out (by kernel_rfl)) (fun _ _ _ h => h) (Or.inl ⟨by rfl, ?_⟩) ?_ ?_
      rotate_left
      · intro w'
        go_simp
        with_reducible rfl
      rotate_left
      · simp only [Act.put, List.setIfInBounds_toArray, List.set_cons_zero, List.set_cons_succ, i64_w, i32_w]
        rfl
      refine pure_ (i := 4) (N := some 11) (v := ?_) (a' := ?_) #[true, true, true, true, true, false, false, false, false, false, false, false, false, false, false, false, false, false] rfl rfl (any_of HT_.out (by kernel_rfl)) (fun _ _ _ h => h) (Or.inl ⟨by rfl, ?_⟩) ?_ ?_
      rotate_left
      · intro w'
        go_simp
        with_reducible rfl
      rotate_left
      · simp only [Act.put, List.setIfInBounds_toArray, List.set_cons_zero, List.set_cons_succ, i64_w, i32_w]
        rfl
      refine pure_ (i := 5) (N := some 12) (v := ?_) (a' := ?_) #[true, true, true, true, true, true, false, false, false, false, false, false, false, false, false, false, false, false] rfl rfl (any_of HT_.out (by kernel_rfl)) (fun _ _ _ h => h) (Or.inl ⟨by rfl, ?_⟩) ?_ ?_
      rotate_left
      · intro w'
        go_simp
        with_reducible rfl
      rotate_left
      · simp only [Act.put, List.setIfInBounds_toArray, List.set_cons_zero, List.set_cons_succ, i64_w, i32_w]
        rfl
      refine pure_ (i := 6) (N := some 13) (v := ?_) (a' := ?_) #[true, true, true, true, true, true, true, false, false, false, false, false, false, false, false, false, false, false] rfl rfl (any_of HT_.out (by kernel_rfl)) (fun _ _ _ h => h) (Or.inl ⟨by rfl, ?_⟩) ?_ ?_
      rotate_left
      · intro w'
        go_simp
        with_reducible rfl
      rotate_left
      · simp only [Act.put, List.setIfInBounds_toArray, List.set_cons_zero, List.set_cons_succ, i64_w, i32_w]
        rfl
      refine pure_ (i := 7) (N := some 14) (v := undef) (a' := ?_) #[true, true, true, true, true, true, true, true, false, false, false, false, false, false, false, false, false, false] rfl rfl (any_of HT_.out (by kernel_rfl)) (fun _ _ _ h => h) (Or.inr ⟨by rfl, rfl⟩) ?_ ?_
      rotate_left
      · simp only [Act.put, List.setIfInBounds_toArray, List.set_cons_zero, List.set_cons_succ, i64_w, i32_w]
        rfl
      refine pure_ (i := 8) (N := some 15) (v := undef) (a' := ?_) #[true, true, true, true, true, true, true, true, true, false, false, false, false, false, false, false, false, false] rfl rfl (any_of HT_.out (by kernel_rfl)) (fun _ _ _ h => h) (Or.inr ⟨by rfl, rfl⟩) ?_ ?_
      rotate_left
      · simp only [Act.put, List.setIfInBounds_toArray, List.set_cons_zero, List.set_cons_succ, i64_w, i32_w]
        rfl
      refine pure_ (i := 9) (N := some 16) (v := undef) (a' := ?_) #[true, true, true, true, true, true, true, true, true, true, false, false, false, false, false, false, false, false] rfl rfl (any_of HT_.out (by kernel_rfl)) (fun _ _ _ h => h) (Or.inr ⟨by rfl, rfl⟩) ?_ ?_
      rotate_left
      · simp only [Act.put, List.setIfInBounds_toArray, List.set_cons_zero, List.set_cons_succ, i64_w, i32_w]
        rfl
      refine pure_ (i := 10) (N := some 17) (v := undef) (a' := ?_) #[true, true, true, true, true, true, true, true, true, true, true, false, false, false, false, false, false, false] rfl rfl (any_of HT_.out (by kernel_rfl)) (fun _ _ _ h => h) (Or.inr ⟨by rfl, rfl⟩) ?_ ?_
      rotate_left
      · simp only [Act.put, List.setIfInBounds_toArray, List.set_cons_zero, List.set_cons_succ, i64_w, i32_w]
        rfl
      refine pure_ (i := 11) (N := some 18) (v := undef) (a' := ?_) #[true, true, true, true, true, true, true, true, true, true, true, true, false, false, false, false, false, false] rfl rfl (any_of HT_.out (by kernel_rfl)) (fun _ _ _ h => h) (Or.inr ⟨by rfl, rfl⟩) ?_ ?_
      rotate_left
      · simp only [Act.put, List.setIfInBounds_toArray, List.set_cons_zero, List.set_cons_succ, i64_w, i32_w]
        rfl
      refine pure_ (i := 12) (N := some 19) (v := undef) (a' := ?_) #[true, true, true, true, true, true, true, true, true, true, true, true, true, false, false, false, false, false] rfl rfl (any_of HT_.out (by kernel_rfl)) (fun _ _ _ h => h) (Or.inr ⟨by rfl, rfl⟩) ?_ ?_
      rotate_left
      · simp only [Act.put, List.setIfInBounds_toArray, List.set_cons_zero, List.set_cons_succ, i64_w, i32_w]
        rfl
      refine pure_ (i := 13) (N := some 20) (v := undef) (a' := ?_) #[true, true, true, true, true, true, true, true, true, true, true, true, true, true, false, false, false, false] rfl rfl (any_of HT_.out (by kernel_rfl)) (fun _ _ _ h => h) (Or.inr ⟨by rfl, rfl⟩) ?_ ?_
      rotate_left
      · simp only [Act.put, List.setIfInBounds_toArray, List.set_cons_zero, List.set_cons_succ, i64_w, i32_w]
        rfl
      refine pure_ (i := 14) (N := some 21) (v := undef) (a' := ?_) #[true, true, true, true, true, true, true, true, true, true, true, true, true, true, true, false, false, false] rfl rfl (any_of HT_.out (by kernel_rfl)) (fun _ _ _ h => h) (Or.inr ⟨by rfl, rfl⟩) ?_ ?_
      rotate_left
      · simp only [Act.put, List.setIfInBounds_toArray, List.set_cons_zero, List.set_cons_succ, i64_w, i32_w]
        rfl
      refine pure_ (i := 15) (N := some 22) (v := undef) (a' := ?_) #[true, true, true, true, true, true, true, true, true, true, true, true, true, true, true, true, false, false] rfl rfl (any_of HT_.out (by kernel_rfl)) (fun _ _ _ h => h) (Or.inr ⟨by rfl, rfl⟩) ?_ ?_
      rotate_left
      · simp only [Act.put, List.setIfInBounds_toArray, List.set_cons_zero, List.set_cons_succ, i64_w, i32_w]
        rfl
      refine pure_ (i := 16) (N := some 23) (v := ?_) (a' := ?_) #[true, true, true, true, true, true, true, true, true, true, true, true, true, true, true, true, true, false] rfl rfl (any_of HT_.out (by kernel_rfl)) (fun _ _ _ h => h) (Or.inl ⟨by rfl, ?_⟩) ?_ ?_
      rotate_left
      · intro w'
        go_simp
        with_reducible rfl
      rotate_left
      · simp only [Act.put, List.setIfInBounds_toArray, List.set_cons_zero, List.set_cons_succ, i64_w, i32_w]
        rfl
      refine pure_ (i := 17) (N := some 6) (v := ?_) (a' := ?_) #[true, true, true, true, true, true, true, true, true, true, true, true, true, true, true, true, true, true] rfl rfl (any_of HT_.out (by kernel_rfl)) (fun _ _ _ h => h) (Or.inl ⟨by rfl, ?_⟩) ?_ ?_
      rotate_left
      · intro w'
        go_simp
        with_reducible rfl
      rotate_left
      · simp only [Act.put, List.setIfInBounds_toArray, List.set_cons_zero, List.set_cons_succ, i64_w, i32_w]
        rfl
      refine done_ (done_of HT_.out (by kernel_rfl)) ?_
      try go_wp2
      go_ret
      exact ⟨by first | rfl | (simp [errW_none, errW_some] <;> rfl) | (simp [*, errW_none, errW_some] <;> rfl), by repeat (first | (with_reducible first | exact HB.out | apply below_alloc | apply pw_below_drewN | apply below_drew1 | refine below_set ?_ GE109.out | refine below_set ?_ GE110.out) | exact HB.out)⟩
  · rw [if_neg c4] at H
    have c4b0 : decide (0 ≤ a2) = false := decide_eq_false c4
    clear c4
    obtain rfl := Option.some.inj H
    go_enter Tryd.func17, Tryd.ntmps17
    try go_wp2_with (first | ((with_reducible refine gate_dst (N := 3) rfl ?_); refine box_event ?hg (N := 3) ?hd (cs := #[.int .u8 a0_0, .int .u8 a0_1, .int .u8 a0_2, .int .u8 a0_3]) (t := 24) ?hr ?_; (case hd => rfl); (case hg => rfl); (case hr => first | (go_simp; done) | (go_simp; rfl)); intro gb109 hg w19 hbox hb; have n0_ := Aside0.mk (below_step (by repeat (first | (with_reducible first | exact HB.out | apply below_alloc | apply pw_below_drewN | apply below_drew1) | exact HB.out)) hb); have n1_ := Aside0.mk (hbox); have n2_ := Aside0.mk ((by rw [hg]; exact (below_size (by repeat (first | (with_reducible first | exact HB.out | apply below_alloc | apply pw_below_drewN | apply below_drew1) | exact HB.out))) : w.heap.size ≤ gb109)); have n3_ := Aside0.mk ((by rw [hg]; exact (below_size (by repeat (first | (with_reducible first | exact HB.out | apply below_alloc | apply pw_below_drewN | apply below_drew1) | exact HB.out))) : w.heap.size ≤ gb109)); clear HB; have HB := n0_; have BK109 := n1_; have GW109 := n2_; have GE109 := n3_; clear n0_ n1_ n2_ n3_; clear hb hbox hg) | ((with_reducible refine gate_dst (N := 4) rfl ?_); refine box_event ?hg (N := 4) ?hd (cs := #[.int .u8 a1_0, .int .u8 a1_1, .int .u8 a1_2, .int .u8 a1_3]) (t := 24) ?hr ?_; (case hd => rfl); (case hg => rfl); (case hr => first | (go_simp; done) | (go_simp; rfl)); intro gb110 hg w20 hbox hb; have n0_ := Aside0.mk (blk_below (g := gb109) (o := .cells #[.int .u8 a0_0, .int .u8 a0_1, .int .u8 a0_2, .int .u8 a0_3] 24 (0, 0)) (by (with_reducible repeat (first | refine blk_drewN ?_ _ | refine blk_drew ?_ | refine blk_alloc ?_ _)); exact BK109.out) hb); have n1_ := Aside0.mk (below_step (by repeat (first | (with_reducible first | exact HB.out | apply below_alloc | apply pw_below_drewN | apply below_drew1 | refine below_set ?_ GE109.out) | exact HB.out)) hb); have n2_ := Aside0.mk (hbox); have n3_ := Aside0.mk ((by rw [hg]; exact (below_size (by repeat (first | (with_reducible first | exact HB.out | apply below_alloc | apply pw_below_drewN | apply below_drew1 | refine below_set ?_ GE109.out) | exact HB.out))) : w.heap.size ≤ gb110)); have n4_ := Aside0.mk ((by rw [hg]; exact (below_size (by repeat (first | (with_reducible first | exact HB.out | apply below_alloc | apply pw_below_drewN | apply below_drew1 | refine below_set ?_ GE109.out) | exact HB.out))) : w.heap.size ≤ gb110)); have n5_ := Aside0.mk ((by rw [hg]; exact Nat.ne_of_lt (blk_lt (g := gb109) (o := .cells #[.int .u8 a0_0, .int .u8 a0_1, .int .u8 a0_2, .int .u8 a0_3] 24 (0, 0)) (by (with_reducible repeat (first | refine blk_drewN ?_ _ | refine blk_drew ?_ | refine blk_alloc ?_ _)); exact BK109.out)) : gb109 ≠ gb110)); have n6_ := Aside0.mk ((by rw [hg]; exact Nat.ne_of_gt (blk_lt (g := gb109) (o := .cells #[.int .u8 a0_0, .int .u8 a0_1, .int .u8 a0_2, .int .u8 a0_3] 24 (0, 0)) (by (with_reducible repeat (first | refine blk_drewN ?_ _ | refine blk_drew ?_ | refine blk_alloc ?_ _)); exact BK109.out)) : gb110 ≠ gb109)); clear BK109; clear HB; have BK109 := n0_; have HB := n1_; have BK110 := n2_; have GW110 := n3_; have GE110 := n4_; have NB109_110 := n5_; have NB110_109 := n6_; clear n0_ n1_ n2_ n3_ n4_ n5_ n6_; clear hb hbox hg))
    have n0_ := Aside0.mk (blk_drew BK109.out)
    have n1_ := Aside0.mk (blk_drew BK110.out)
    have n2_ := Aside0.mk (below_drew1 HB.out)
    clear BK109
    clear BK110
    clear HB
    have BK109 := n0_
    have BK110 := n1_
    have HB := n2_
    clear n0_ n1_ n2_
    refine start_ (n := 18) (S := fun w' => True) (ds := []) #[false, false, false, false, false, false, false, false, false, false, false, false, false, false, false, false, false, false] (by kernel_rfl) rfl rfl trivial (fun hHeld => ?_); refine with_tabW host_In.tab1 host_In.bits1 (fun HT_ HW_ => ?_)
    generalize w20.drew = w21 at BK109 BK110 HB hHeld ⊢
    refine pure_ (i := 0) (N := some 7) (v := ?_) (a' := ?_) #[true, false, false, false, false, false, false, false, false, false, false, false, false, false, false, false, false, false] rfl rfl (any_of HT_.out (by kernel_rfl)) (fun _ _ _ h => h) (Or.inl ⟨by rfl, ?_⟩) ?_ ?_
    rotate_left
    · intro w'
      go_simp
      with_reducible rfl
    rotate_left
    · simp only [Act.put, List.setIfInBounds_toArray, List.set_cons_zero, List.set_cons_succ, i64_w, i32_w]
      rfl
    refine pure_ (i := 1) (N := some 8) (v := ?_) (a' := ?_) #[true, true, false, false, false, false, false, false, false, false, false, false, false, false, false, false, false, false] rfl rfl (any_of HT_.out (by kernel_rfl)) (fun _ _ _ h => h) (Or.inl ⟨by rfl, ?_⟩) ?_ ?_
    rotate_left
    · intro w'
      go_simp
      with_reducible rfl
    rotate_left
    · simp only [Act.put, List.setIfInBounds_toArray, List.set_cons_zero, List.set_cons_succ, i64_w, i32_w]
      rfl
    refine pure_ (i := 2) (N := some 9) (v := ?_) (a' := ?_) #[true, true, true, false, false, false, false, false, false, false, false, false, false, false, false, false, false, false] rfl rfl (any_of HT_.out (by kernel_rfl)) (fun _ _ _ h => h) (Or.inl ⟨by rfl, ?_⟩) ?_ ?_
    rotate_left
    · intro w'
      go_simp
      with_reducible rfl
    rotate_left
    · simp only [Act.put, List.setIfInBounds_toArray, List.set_cons_zero, List.set_cons_succ, i64_w, i32_w]
      rfl
    refine pure_ (i := 3) (N := some 10) (v := undef) (a' := ?_) #[true, true, true, true, false, false, false, false, false, false, false, false, false, false, false, false, false, false] rfl rfl (any_of HT_.out (by kernel_rfl)) (fun _ _ _ h => h) (Or.inr ⟨by rfl, rfl⟩) ?_ ?_
    rotate_left
    · simp only [Act.put, List.setIfInBounds_toArray, List.set_cons_zero, List.set_cons_succ, i64_w, i32_w]
      rfl
    refine pure_ (i := 4) (N := some 11) (v := undef) (a' := ?_) #[true, true, true, true, true, false, false, false, false, false, false, false, false, false, false, false, false, false] rfl rfl (any_of HT_.out (by kernel_rfl)) (fun _ _ _ h => h) (Or.inr ⟨by rfl, rfl⟩) ?_ ?_
    rotate_left
    · simp only [Act.put, List.setIfInBounds_toArray, List.set_cons_zero, List.set_cons_succ, i64_w, i32_w]
      rfl
    refine pure_ (i := 5) (N := some 12) (v := ?_) (a' := ?_) #[true, true, true, true, true, true, false, false, false, false, false, false, false, false, false, false, false, false] rfl rfl (any_of HT_.out (by kernel_rfl)) (fun _ _ _ h => h) (Or.inl ⟨by rfl, ?_⟩) ?_ ?_
    rotate_left
    · intro w'
      go_simp
      with_reducible rfl
    rotate_left
    · simp only [Act.put, List.setIfInBounds_toArray, List.set_cons_zero, List.set_cons_succ, i64_w, i32_w]
      rfl
    refine pure_ (i := 6) (N := some 13) (v := ?_) (a' := ?_) #[true, true, true, true, true, true, true, false, false, false, false, false, false, false, false, false, false, false] rfl rfl (any_of HT_.out (by kernel_rfl)) (fun _ _ _ h => h) (Or.inl ⟨by rfl, ?_⟩) ?_ ?_
    rotate_left
    · intro w'
      go_simp
      with_reducible rfl
    rotate_left
    · simp only [Act.put, List.setIfInBounds_toArray, List.set_cons_zero, List.set_cons_succ, i64_w, i32_w]
      rfl
    refine pure_ (i := 7) (N := some 14) (v := undef) (a' := ?_) #[true, true, true, true, true, true, true, true, false, false, false, false, false, false, false, false, false, false] rfl rfl (any_of HT_.out (by kernel_rfl)) (fun _ _ _ h => h) (Or.inr ⟨by rfl, rfl⟩) ?_ ?_
    rotate_left
    · simp only [Act.put, List.setIfInBounds_toArray, List.set_cons_zero, List.set_cons_succ, i64_w, i32_w]
      rfl
    refine pure_ (i := 8) (N := some 15) (v := undef) (a' := ?_) #[true, true, true, true, true, true, true, true, true, false, false, false, false, false, false, false, false, false] rfl rfl (any_of HT_.out (by kernel_rfl)) (fun _ _ _ h => h) (Or.inr ⟨by rfl, rfl⟩) ?_ ?_
    rotate_left
    · simp only [Act.put, List.setIfInBounds_toArray, List.set_cons_zero, List.set_cons_succ, i64_w, i32_w]
      rfl
    refine pure_ (i := 9) (N := some 16) (v := undef) (a' := ?_) #[true, true, true, true, true, true, true, true, true, true, false, false, false, false, false, false, false, false] rfl rfl (any_of HT_.out (by kernel_rfl)) (fun _ _ _ h => h) (Or.inr ⟨by rfl, rfl⟩) ?_ ?_
    rotate_left
    · simp only [Act.put, List.setIfInBounds_toArray, List.set_cons_zero, List.set_cons_succ, i64_w, i32_w]
      rfl
    refine pure_ (i := 10) (N := some 17) (v := undef) (a' := ?_) #[true, true, true, true, true, true, true, true, true, true, true, false, false, false, false, false, false, false] rfl rfl (any_of HT_.out (by kernel_rfl)) (fun _ _ _ h => h) (Or.inr ⟨by rfl, rfl⟩) ?_ ?_
    rotate_left
    · simp only [Act.put, List.setIfInBounds_toArray, List.set_cons_zero, List.set_cons_succ, i64_w, i32_w]
      rfl
    refine pure_ (i := 11) (N := some 18) (v := undef) (a' := ?_) #[true, true, true, true, true, true, true, true, true, true, true, true, false, false, false, false, false, false] rfl rfl (any_of HT_.out (by kernel_rfl)) (fun _ _ _ h => h) (Or.inr ⟨by rfl, rfl⟩) ?_ ?_
    rotate_left
    · simp only [Act.put, List.setIfInBounds_toArray, List.set_cons_zero, List.set_cons_succ, i64_w, i32_w]
      rfl
    refine pure_ (i := 12) (N := some 19) (v := undef) (a' := ?_) #[true, true, true, true, true, true, true, true, true, true, true, true, true, false, false, false, false, false] rfl rfl (any_of HT_.out (by kernel_rfl)) (fun _ _ _ h => h) (Or.inr ⟨by rfl, rfl⟩) ?_ ?_
    rotate_left
    · simp only [Act.put, List.setIfInBounds_toArray, List.set_cons_zero, List.set_cons_succ, i64_w, i32_w]
      rfl
    refine pure_ (i := 13) (N := some 20) (v := undef) (a' := ?_) #[true, true, true, true, true, true, true, true, true, true, true, true, true, true, false, false, false, false] rfl rfl (any_of HT_.out (by kernel_rfl)) (fun _ _ _ h => h) (Or.inr ⟨by rfl, rfl⟩) ?_ ?_
    rotate_left
    · simp only [Act.put, List.setIfInBounds_toArray, List.set_cons_zero, List.set_cons_succ, i64_w, i32_w]
      rfl
    refine pure_ (i := 14) (N := some 21) (v := undef) (a' := ?_) #[true, true, true, true, true, true, true, true, true, true, true, true, true, true, true, false, false, false] rfl rfl (any_of HT_.out (by kernel_rfl)) (fun _ _ _ h => h) (Or.inr ⟨by rfl, rfl⟩) ?_ ?_
    rotate_left
    · simp only [Act.put, List.setIfInBounds_toArray, List.set_cons_zero, List.set_cons_succ, i64_w, i32_w]
      rfl
    refine pure_ (i := 15) (N := some 22) (v := undef) (a' := ?_) #[true, true, true, true, true, true, true, true, true, true, true, true, true, true, true, true, false, false] rfl rfl (any_of HT_.out (by kernel_rfl)) (fun _ _ _ h => h) (Or.inr ⟨by rfl, rfl⟩) ?_ ?_
    rotate_left
    · simp only [Act.put, List.setIfInBounds_toArray, List.set_cons_zero, List.set_cons_succ, i64_w, i32_w]
      rfl
    refine pure_ (i := 16) (N := some 23) (v := ?_) (a' := ?_) #[true, true, true, true, true, true, true, true, true, true, true, true, true, true, true, true, true, false] rfl rfl (any_of HT_.out (by kernel_rfl)) (fun _ _ _ h => h) (Or.inl ⟨by rfl, ?_⟩) ?_ ?_
    rotate_left
    · intro w'
      go_simp
      with_reducible rfl
    rotate_left
    · simp only [Act.put, List.setIfInBounds_toArray, List.set_cons_zero, List.set_cons_succ, i64_w, i32_w]
      rfl
    refine pure_ (i := 17) (N := some 6) (v := ?_) (a' := ?_) #[true, true, true, true, true, true, true, true, true, true, true, true, true, true, true, true, true, true] rfl rfl (any_of HT_.out (by kernel_rfl)) (fun _ _ _ h => h) (Or.inl ⟨by rfl, ?_⟩) ?_ ?_
    rotate_left
    · intro w'
      go_simp
      with_reducible rfl
    rotate_left
    · simp only [Act.put, List.setIfInBounds_toArray, List.set_cons_zero, List.set_cons_succ, i64_w, i32_w]
      rfl
    refine done_ (done_of HT_.out (by kernel_rfl)) ?_
    try go_wp2
    go_ret
    exact ⟨by first | rfl | (simp [errW_none, errW_some] <;> rfl) | (simp [*, errW_none, errW_some] <;> rfl), by repeat (first | (with_reducible first | exact HB.out | apply below_alloc | apply pw_below_drewN | apply below_drew1 | refine below_set ?_ GE109.out | refine below_set ?_ GE110.out) | exact HB.out)⟩

/-! ### stringslite_HasSuffix: function 41 -/
def stringslite_HasSuffix.f (a0 : ByteArray) (a1 : ByteArray) : Option (Bool) := if (a0.size : Int) ≥ (a1.size : Int) then (if 0 ≤ (wrap64 ((a0.size : Int) - (a1.size : Int))) then (if (wrap64 ((a0.size : Int) - (a1.size : Int))) ≤ (a0.size : Int) then (some ((a0.extract ((wrap64 ((a0.size : Int) - (a1.size : Int))) : Int).toNat a0.size).toList == a1.toList)) else (none)) else (none)) else (some false)
set_option maxHeartbeats 8000000 in
set_option maxRecDepth 100000 in
theorem stringslite_HasSuffix.calls (a0 : ByteArray) (a1 : ByteArray) (r : Bool) (w : World) (h : stringslite_HasSuffix.f a0 a1 = some r) :
    Calls Tryd.prog 41 #[.string a0, .string a1] w fun e w' => e = .returned (.bool r) ∧ Drawn0 w w' := by
  have H : (if (a0.size : Int) ≥ (a1.size : Int) then (if 0 ≤ (wrap64 ((a0.size : Int) - (a1.size : Int))) then (if (wrap64 ((a0.size : Int) - (a1.size : Int))) ≤ (a0.size : Int) then (some ((a0.extract ((wrap64 ((a0.size : Int) - (a1.size : Int))) : Int).toNat a0.size).toList == a1.toList)) else (none)) else (none)) else (some false)) = some r := h
  clear h
  by_cases c3 : (a0.size : Int) ≥ (a1.size : Int)
  · rw [if_pos c3] at H
    have c3b0 : decide ((a1.size : Int) ≤ (a0.size : Int)) = true := decide_eq_true c3
    have c3b1 : decide (a1.size ≤ a0.size) = true := decide_eq_true (Int.ofNat_le.mp c3)
    clear c3
    obtain ⟨ji4, hji4⟩ : ∃ j_ : Int, (wrap64 ((a0.size : Int) - (a1.size : Int))) = j_ := ⟨_, rfl⟩
    replace H : (if 0 ≤ (ji4) then (if (ji4) ≤ (a0.size : Int) then (some ((a0.extract ((ji4) : Int).toNat a0.size).toList == a1.toList)) else (none)) else (none)) = some r := by first | (rw [hji4] at H; exact H) | (simp only [hji4] at H ⊢; exact H)
    have hji4w : (IntKind.i64.wrap ((a0.size : Int) - (a1.size : Int))) = ji4 := (i64_w _).trans hji4
    by_cases c5 : 0 ≤ (ji4)
    · rw [if_pos c5] at H
      have c5b0 := eq_true c5
      have c5b1 : decide (0 ≤ (ji4)) = true := decide_eq_true c5
      clear c5
      by_cases c6 : (ji4) ≤ (a0.size : Int)
      · rw [if_pos c6] at H
        have c6b0 := eq_true c6
        have c6b1 : decide ((ji4) ≤ (a0.size : Int)) = true := decide_eq_true c6
        clear c6
        obtain rfl := Option.some.inj H
        go_enter Tryd.func41, Tryd.ntmps41
        go_wp2
        go_ret
        exact ⟨by first | rfl | (simp; done) | (simp only [← hji4] <;> (first | rfl | simp)) | (simp [*]; done), by repeat (first | exact Drawn0.refl _ | apply Drawn0.step)⟩
      · rw [if_neg c6] at H
        exact absurd H (by simp)
    · rw [if_neg c5] at H
      exact absurd H (by simp)
  · rw [if_neg c3] at H
    have c3b0 : decide ((a1.size : Int) ≤ (a0.size : Int)) = false := decide_eq_false c3
    have c3b1 : decide (a1.size ≤ a0.size) = false := decide_eq_false (fun h => c3 (Int.ofNat_le.mpr h))
    clear c3
    obtain rfl := Option.some.inj H
    go_enter Tryd.func41, Tryd.ntmps41
    go_wp2
    go_ret
    exact ⟨by first | rfl | (simp; done) | (simp [*]; done), by repeat (first | exact Drawn0.refl _ | apply Drawn0.step)⟩

/-! ### stringslite_CutSuffix: function 40 -/
def stringslite_CutSuffix.f (a0 : ByteArray) (a1 : ByteArray) : Option (ByteArray × Bool) := (stringslite_HasSuffix.f a0 a1).bind fun t113 => (if t113 = true then (if 0 ≤ (wrap64 ((a0.size : Int) - (a1.size : Int))) then (if (wrap64 ((a0.size : Int) - (a1.size : Int))) ≤ (a0.size : Int) then (some (a0.extract 0 ((wrap64 ((a0.size : Int) - (a1.size : Int))) : Int).toNat, true)) else (none)) else (none)) else (some (a0, false)))
set_option maxHeartbeats 8000000 in
set_option maxRecDepth 100000 in
theorem stringslite_CutSuffix.calls (a0 : ByteArray) (a1 : ByteArray) (r1 : ByteArray) (r2 : Bool) (w : World) (h : stringslite_CutSuffix.f a0 a1 = some (r1, r2)) :
    Calls Tryd.prog 40 #[.string a0, .string a1] w fun e w' => e = .returned (.tuple #[.string r1, .bool r2]) ∧ Drawn0 w w' := by
  have H : ((stringslite_HasSuffix.f a0 a1).bind fun t113 => (if t113 = true then (if 0 ≤ (wrap64 ((a0.size : Int) - (a1.size : Int))) then (if (wrap64 ((a0.size : Int) - (a1.size : Int))) ≤ (a0.size : Int) then (some (a0.extract 0 ((wrap64 ((a0.size : Int) - (a1.size : Int))) : Int).toNat, true)) else (none)) else (none)) else (some (a0, false)))) = some (r1, r2) := h
  clear h
  replace H := Option.bind_eq_some_iff.mp H
  obtain ⟨t113, A30, H⟩ := H
  replace H : (if t113 = true then (if 0 ≤ (wrap64 ((a0.size : Int) - (a1.size : Int))) then (if (wrap64 ((a0.size : Int) - (a1.size : Int))) ≤ (a0.size : Int) then (some (a0.extract 0 ((wrap64 ((a0.size : Int) - (a1.size : Int))) : Int).toNat, true)) else (none)) else (none)) else (some (a0, false))) = some (r1, r2) := H
  have A3 := Aside0.mk A30
  clear A30
  by_cases c4 : t113 = true
  · subst c4
    have H1 : (if 0 ≤ (wrap64 ((a0.size : Int) - (a1.size : Int))) then (if (wrap64 ((a0.size : Int) - (a1.size : Int))) ≤ (a0.size : Int) then (some (a0.extract 0 ((wrap64 ((a0.size : Int) - (a1.size : Int))) : Int).toNat, true)) else (none)) else (none)) = some (r1, r2) := by rw [if_pos rfl] at H; exact H
    clear H
    have H := H1
    clear H1
    obtain ⟨ji5, hji5⟩ : ∃ j_ : Int, (wrap64 ((a0.size : Int) - (a1.size : Int))) = j_ := ⟨_, rfl⟩
    replace H : (if 0 ≤ (ji5) then (if (ji5) ≤ (a0.size : Int) then (some (a0.extract 0 ((ji5) : Int).toNat, true)) else (none)) else (none)) = some (r1, r2) := by first | (rw [hji5] at H; exact H) | (simp only [hji5] at H ⊢; exact H)
    (try rw [hji5] at A3)
    have hji5w : (IntKind.i64.wrap ((a0.size : Int) - (a1.size : Int))) = ji5 := (i64_w _).trans hji5
    by_cases c6 : 0 ≤ (ji5)
    · rw [if_pos c6] at H
      have c6b0 := eq_true c6
      have c6b1 : decide (0 ≤ (ji5)) = true := decide_eq_true c6
      clear c6
      by_cases c7 : (ji5) ≤ (a0.size : Int)
      · rw [if_pos c7] at H
        have c7b0 := eq_true c7
        have c7b1 : decide ((ji5) ≤ (a0.size : Int)) = true := decide_eq_true c7
        clear c7
        simp only [Option.some.injEq, Prod.mk.injEq] at H
        obtain ⟨rfl, rfl⟩ := H
        go_enter Tryd.func40, Tryd.ntmps40
        go_wp2_with (first | ((with_reducible refine gate_callee (f := 41) rfl ?_); refine goesL_ (some 8) rfl rfl Tryd.func41 (by kernel_rfl) rfl #[.string a0, .string a1] rfl (by (try simp only [List.map_toArray, List.map_cons, List.map_nil]); first | done | rfl | (simp only [List.length_drop, List.length_take]; rfl)) ?_; (with_reducible refine (stringslite_HasSuffix.calls a0 a1 true _ A3.out).mono ?_); rintro e w' ⟨rfl, ⟨nd, rfl⟩⟩; refine ⟨_, rfl, ?_⟩))
        go_ret2
        exact ⟨by first | rfl | (simp; done) | (simp only [← hji5] <;> (first | rfl | simp)) | (simp [*]; done), by repeat (first | exact Drawn0.refl _ | apply Drawn0.step)⟩
      · rw [if_neg c7] at H
        exact absurd H (by simp)
    · rw [if_neg c6] at H
      exact absurd H (by simp)
  · replace c4 := Bool.eq_false_iff.mpr c4
    subst c4
    have H1 : (some (a0, false)) = some (r1, r2) := by rw [if_neg (show ¬ (false = true) by decide)] at H; exact H
    clear H
    have H := H1
    clear H1
    simp only [Option.some.injEq, Prod.mk.injEq] at H
    obtain ⟨rfl, rfl⟩ := H
    go_enter Tryd.func40, Tryd.ntmps40
    go_wp2_with (first | ((with_reducible refine gate_callee (f := 41) rfl ?_); refine goesL_ (some 8) rfl rfl Tryd.func41 (by kernel_rfl) rfl #[.string a0, .string a1] rfl (by (try simp only [List.map_toArray, List.map_cons, List.map_nil]); first | done | rfl | (simp only [List.length_drop, List.length_take]; rfl)) ?_; (with_reducible refine (stringslite_HasSuffix.calls a0 a1 false _ A3.out).mono ?_); rintro e w' ⟨rfl, ⟨nd, rfl⟩⟩; refine ⟨_, rfl, ?_⟩))
    go_ret2
    exact ⟨by first | rfl | (simp; done) | (simp [*]; done), by repeat (first | exact Drawn0.refl _ | apply Drawn0.step)⟩

/-! ### strings_CutSuffix: function 26 -/
def strings_CutSuffix.f (a0 : ByteArray) (a1 : ByteArray) : Option (ByteArray × Bool) := (stringslite_CutSuffix.f a0 a1).bind fun bt114 => (some (bt114.1, bt114.2))
set_option maxHeartbeats 8000000 in
set_option maxRecDepth 100000 in
theorem strings_CutSuffix.calls (a0 : ByteArray) (a1 : ByteArray) (r1 : ByteArray) (r2 : Bool) (w : World) (h : strings_CutSuffix.f a0 a1 = some (r1, r2)) :
    Calls Tryd.prog 26 #[.string a0, .string a1] w fun e w' => e = .returned (.tuple #[.string r1, .bool r2]) ∧ Drawn0 w w' := by
  have H : ((stringslite_CutSuffix.f a0 a1).bind fun bt114 => (some (bt114.1, bt114.2))) = some (r1, r2) := h
  clear h
  replace H := Option.bind_eq_some_iff.mp H
  obtain ⟨⟨t114, t115⟩, A30, H⟩ := H
  replace H : (some (t114, t115)) = some (r1, r2) := H
  have A3 := Aside0.mk A30
  clear A30
  simp only [Option.some.injEq, Prod.mk.injEq] at H
  obtain ⟨rfl, rfl⟩ := H
  go_enter Tryd.func26, Tryd.ntmps26
  go_wp2_with (first | ((with_reducible refine gate_callee (f := 40) rfl ?_); refine goesL_ (some 8) rfl rfl Tryd.func40 (by kernel_rfl) rfl #[.string a0, .string a1] rfl (by (try simp only [List.map_toArray, List.map_cons, List.map_nil]); first | done | rfl | (simp only [List.length_drop, List.length_take]; rfl)) ?_; (with_reducible refine (stringslite_CutSuffix.calls a0 a1 t114 t115 _ A3.out).mono ?_); rintro e w' ⟨rfl, ⟨nd, rfl⟩⟩; refine ⟨_, rfl, ?_⟩))
  go_ret2
  exact ⟨by first | rfl | (simp; done) | (simp [*]; done), by repeat (first | exact Drawn0.refl _ | apply Drawn0.step)⟩

/-! ### strings_HasSuffix: function 27 -/
def strings_HasSuffix.f (a0 : ByteArray) (a1 : ByteArray) : Option (Bool) := (stringslite_HasSuffix.f a0 a1).bind fun t116 => (some t116)
set_option maxHeartbeats 8000000 in
set_option maxRecDepth 100000 in
theorem strings_HasSuffix.calls (a0 : ByteArray) (a1 : ByteArray) (r : Bool) (w : World) (h : strings_HasSuffix.f a0 a1 = some r) :
    Calls Tryd.prog 27 #[.string a0, .string a1] w fun e w' => e = .returned (.bool r) ∧ Drawn0 w w' := by
  have H : ((stringslite_HasSuffix.f a0 a1).bind fun t116 => (some t116)) = some r := h
  clear h
  replace H := Option.bind_eq_some_iff.mp H
  obtain ⟨t116, A30, H⟩ := H
  replace H : (some t116) = some r := H
  have A3 := Aside0.mk A30
  clear A30
  obtain rfl := Option.some.inj H
  go_enter Tryd.func27, Tryd.ntmps27
  go_wp2_with (first | ((with_reducible refine gate_callee (f := 41) rfl ?_); refine goesL_ (some 7) rfl rfl Tryd.func41 (by kernel_rfl) rfl #[.string a0, .string a1] rfl (by (try simp only [List.map_toArray, List.map_cons, List.map_nil]); first | done | rfl | (simp only [List.length_drop, List.length_take]; rfl)) ?_; (with_reducible refine (stringslite_HasSuffix.calls a0 a1 t116 _ A3.out).mono ?_); rintro e w' ⟨rfl, ⟨nd, rfl⟩⟩; refine ⟨_, rfl, ?_⟩))
  go_ret
  exact ⟨by first | rfl | (simp; done) | (simp [*]; done), by repeat (first | exact Drawn0.refl _ | apply Drawn0.step)⟩

/-! ### host_Under: function 16 -/
def host_Under.f (a0 : ByteArray) (a1 : ByteArray) : Option (Bool) := (strings_CutSuffix.f a0 a1).bind fun bt117 => (if a1.toList = ([] : List UInt8) then (some false) else (if bt117.2 = true then (if bt117.1.toList = ([] : List UInt8) then (some true) else ((strings_HasSuffix.f bt117.1 (⟨#[46]⟩ : ByteArray)).bind fun t119 => (some t119))) else (some false)))
set_option maxHeartbeats 8000000 in
set_option maxRecDepth 100000 in
theorem host_Under.calls (a0 : ByteArray) (a1 : ByteArray) (r : Bool) (w : World) (h : host_Under.f a0 a1 = some r) :
    Calls Tryd.prog 16 #[.string a0, .string a1] w fun e w' => e = .returned (.bool r) ∧ Drawn0 w w' := by
  have H : ((strings_CutSuffix.f a0 a1).bind fun bt117 => (if a1.toList = ([] : List UInt8) then (some false) else (if bt117.2 = true then (if bt117.1.toList = ([] : List UInt8) then (some true) else ((strings_HasSuffix.f bt117.1 (⟨#[46]⟩ : ByteArray)).bind fun t119 => (some t119))) else (some false)))) = some r := h
  clear h
  replace H := Option.bind_eq_some_iff.mp H
  obtain ⟨⟨t117, t118⟩, A30, H⟩ := H
  replace H : (if a1.toList = ([] : List UInt8) then (some false) else (if t118 = true then (if t117.toList = ([] : List UInt8) then (some true) else ((strings_HasSuffix.f t117 (⟨#[46]⟩ : ByteArray)).bind fun t119 => (some t119))) else (some false))) = some r := H
  have A3 := Aside0.mk A30
  clear A30
  by_cases c4 : a1.toList = ([] : List UInt8)
  · rw [if_pos c4] at H
    have c4b0 : (a1.toList == ([] : List UInt8)) = true := beq_iff_eq.mpr c4
    have c4b1 : (a1.toList != ([] : List UInt8)) = false := bne_eq_false_iff_eq.mpr c4
    clear c4
    obtain rfl := Option.some.inj H
    go_enter Tryd.func16, Tryd.ntmps16
    go_wp2_with (first | ((with_reducible refine gate_callee (f := 26) rfl ?_); refine goesL_ (some 10) rfl rfl Tryd.func26 (by kernel_rfl) rfl #[.string a0, .string a1] rfl (by (try simp only [List.map_toArray, List.map_cons, List.map_nil]); first | done | rfl | (simp only [List.length_drop, List.length_take]; rfl)) ?_; (with_reducible refine (strings_CutSuffix.calls a0 a1 t117 t118 _ A3.out).mono ?_); rintro e w' ⟨rfl, ⟨nd, rfl⟩⟩; refine ⟨_, rfl, ?_⟩))
    go_ret
    exact ⟨by first | rfl | (simp; done) | (simp [*]; done), by repeat (first | exact Drawn0.refl _ | apply Drawn0.step)⟩
  · rw [if_neg c4] at H
    have c4b0 : (a1.toList == ([] : List UInt8)) = false := beq_eq_false_iff_ne.mpr c4
    have c4b1 : (a1.toList != ([] : List UInt8)) = true := bne_iff_ne.mpr c4
    by_cases c5 : t118 = true
    · subst c5
      have H1 : (if t117.toList = ([] : List UInt8) then (some true) else ((strings_HasSuffix.f t117 (⟨#[46]⟩ : ByteArray)).bind fun t119 => (some t119))) = some r := by rw [if_pos rfl] at H; exact H
      clear H
      have H := H1
      clear H1
      by_cases c6 : t117.toList = ([] : List UInt8)
      · rw [if_pos c6] at H
        have c6b0 : (t117.toList == ([] : List UInt8)) = true := beq_iff_eq.mpr c6
        have c6b1 : (t117.toList != ([] : List UInt8)) = false := bne_eq_false_iff_eq.mpr c6
        clear c6
        obtain rfl := Option.some.inj H
        go_enter Tryd.func16, Tryd.ntmps16
        go_wp2_with (first | ((with_reducible refine gate_callee (f := 26) rfl ?_); refine goesL_ (some 10) rfl rfl Tryd.func26 (by kernel_rfl) rfl #[.string a0, .string a1] rfl (by (try simp only [List.map_toArray, List.map_cons, List.map_nil]); first | done | rfl | (simp only [List.length_drop, List.length_take]; rfl)) ?_; (with_reducible refine (strings_CutSuffix.calls a0 a1 t117 true _ A3.out).mono ?_); rintro e w' ⟨rfl, ⟨nd, rfl⟩⟩; refine ⟨_, rfl, ?_⟩))
        go_ret
        exact ⟨by first | rfl | (simp; done) | (simp [*]; done), by repeat (first | exact Drawn0.refl _ | apply Drawn0.step)⟩
      · rw [if_neg c6] at H
        have c6b0 : (t117.toList == ([] : List UInt8)) = false := beq_eq_false_iff_ne.mpr c6
        have c6b1 : (t117.toList != ([] : List UInt8)) = true := bne_iff_ne.mpr c6
        replace H := Option.bind_eq_some_iff.mp H
        obtain ⟨t119, A70, H⟩ := H
        replace H : (some t119) = some r := H
        have A7 := Aside0.mk A70
        clear A70
        obtain rfl := Option.some.inj H
        go_enter Tryd.func16, Tryd.ntmps16
        go_wp2_with (first | ((with_reducible refine gate_callee (f := 26) rfl ?_); refine goesL_ (some 10) rfl rfl Tryd.func26 (by kernel_rfl) rfl #[.string a0, .string a1] rfl (by (try simp only [List.map_toArray, List.map_cons, List.map_nil]); first | done | rfl | (simp only [List.length_drop, List.length_take]; rfl)) ?_; (with_reducible refine (strings_CutSuffix.calls a0 a1 t117 true _ A3.out).mono ?_); rintro e w' ⟨rfl, ⟨nd, rfl⟩⟩; refine ⟨_, rfl, ?_⟩) | (go_at_call 27; (with_reducible refine (strings_HasSuffix.calls t117 (⟨#[46]⟩ : ByteArray) t119 _ A7.out).mono ?_); rintro e w' ⟨rfl, ⟨nd, rfl⟩⟩))
        go_ret
        exact ⟨by first | rfl | (simp; done) | (simp [*]; done), by repeat (first | exact Drawn0.refl _ | apply Drawn0.step)⟩
    · replace c5 := Bool.eq_false_iff.mpr c5
      subst c5
      have H1 : (some false) = some r := by rw [if_neg (show ¬ (false = true) by decide)] at H; exact H
      clear H
      have H := H1
      clear H1
      obtain rfl := Option.some.inj H
      go_enter Tryd.func16, Tryd.ntmps16
      go_wp2_with (first | ((with_reducible refine gate_callee (f := 26) rfl ?_); refine goesL_ (some 10) rfl rfl Tryd.func26 (by kernel_rfl) rfl #[.string a0, .string a1] rfl (by (try simp only [List.map_toArray, List.map_cons, List.map_nil]); first | done | rfl | (simp only [List.length_drop, List.length_take]; rfl)) ?_; (with_reducible refine (strings_CutSuffix.calls a0 a1 t117 false _ A3.out).mono ?_); rintro e w' ⟨rfl, ⟨nd, rfl⟩⟩; refine ⟨_, rfl, ?_⟩))
      go_ret
      exact ⟨by first | rfl | (simp; done) | (simp [*]; done), by repeat (first | exact Drawn0.refl _ | apply Drawn0.step)⟩

end Go.Proofs.YteondnhokgmakaaDoor.XC

/- Printed by a program of this session's own (xprint.py) out of the translation. Lean checks it. -/
namespace Go.Proofs.YteondnhokgmakaaDoor.XC
open Go.RowKit Go.Proofs.YteondnhokgmakaaDoorW.PrintWords Go.Proofs.YteondnhokgmakaaDoorW.PrintLast Go.Proofs.YteondnhokgmakaaDoorW.PrintMore
attribute [local go_sem] max2_int min2_int max_two min_two max_three min_three max_four min_four   -- for this text's walks alone
set_option linter.unusedVariables false
set_option linter.unusedSimpArgs false

end Go.Proofs.YteondnhokgmakaaDoor.XC

/- policy.Which, walked; policy.right, policy.Check, host.In, host.Under told purely. -/
namespace Go.Proofs.YteondnhokgmakaaDoor.E
open Go.RowKit Go.Proofs.YteondnhokgmakaaDoorW.PrintWords Go.Proofs.YteondnhokgmakaaDoorW.PrintLast Go.Proofs.YteondnhokgmakaaDoor.XC
set_option linter.unusedVariables false
set_option linter.unusedSimpArgs false

def rightB (r : S33) : Bool := (policy_right.f 1 r.f0 r.f1.f0 r.f1.f1 r.f1.f2 r.f1.f3 r.f2 r.f3 r.f4 r.f5).getD false
def checkL (l : List S33) : Int := if 64 < l.length then 3 else if l.all rightB then 0 else 120
def inB (a b c d e f g h bi : Int) : Bool := (host_In.f a b c d e f g h bi).getD false
def underB (n x : ByteArray) : Bool := (host_Under.f n x).getD false
def fitB (a b c d : Int) (n : ByteArray) (po : Int) (r : S33) : Bool :=
  if po < r.f4 then false else if r.f5 < po then false else if (r.f3.toList.isEmpty != n.toList.isEmpty) then false
  else if r.f3.toList.isEmpty then inB a b c d r.f1.f0 r.f1.f1 r.f1.f2 r.f1.f3 r.f2 else underB n r.f3
def whichAt (fit : S33 → Bool) : List S33 → Int → Int
  | [], _ => -1
  | r :: l, i => if fit r then i else whichAt fit l (i + 1)
def whichB (l : List S33) (a b c d : Int) (n : ByteArray) (po : Int) : Int :=
  if checkL l = 0 then if (printDestB a b c d n po).toList.isEmpty then -1 else whichAt (fitB a b c d n po) l 0 else -1

theorem wrap64_id (x : Int) (h0 : -9223372036854775808 ≤ x) (h1 : x ≤ 9223372036854775807) : wrap64 x = x := by
  unfold wrap64; omega
theorem inB_some (a b c d e f g h bi : Int) : host_In.f a b c d e f g h bi = some (inB a b c d e f g h bi) := by
  unfold inB
  have : ∃ r, host_In.f a b c d e f g h bi = some r := by
    unfold host_In.f
    split
    · split
      · have : (0 : Int) ≤ wrap64 (32 - bi) := by rw [wrap64_id _ (by omega) (by omega)]; omega
        simp only [host_word.f, Option.bind_some, if_pos this]
        exact ⟨_, rfl⟩
      · exact ⟨_, rfl⟩
    · exact ⟨_, rfl⟩
  obtain ⟨r, hr⟩ := this
  rw [hr]; rfl
theorem hasSuffix_some (a b : ByteArray) (ha : a.size ≤ 281474976710656) : stringslite_HasSuffix.f a b = some (decide (b.size ≤ a.size) && ((a.extract (a.size - b.size) a.size).toList == b.toList)) := by
  unfold stringslite_HasSuffix.f
  by_cases h : (a.size : Int) ≥ (b.size : Int)
  · have e : wrap64 ((a.size : Int) - (b.size : Int)) = (a.size : Int) - (b.size : Int) := wrap64_id _ (by omega) (by omega)
    rw [if_pos h, e, if_pos (by omega), if_pos (by omega), show ((a.size : Int) - (b.size : Int)).toNat = a.size - b.size by omega, decide_eq_true (show b.size ≤ a.size by omega)]; rfl
  · rw [if_neg h, decide_eq_false (show ¬ b.size ≤ a.size by omega)]; rfl
theorem underB_some (n x : ByteArray) (hn : n.size ≤ 281474976710656) : host_Under.f n x = some (underB n x) := by
  unfold underB
  have : ∃ r, host_Under.f n x = some r := by
    have hc : ∃ p, strings_CutSuffix.f n x = some p ∧ p.1.size ≤ 281474976710656 := by
      unfold strings_CutSuffix.f stringslite_CutSuffix.f
      rw [hasSuffix_some _ _ hn]
      simp only [Option.bind_some]
      split
      · rename_i hb
        have hle : x.size ≤ n.size := by
          have := (Bool.and_eq_true_iff.mp hb).1; exact of_decide_eq_true this
        have e : wrap64 ((n.size : Int) - (x.size : Int)) = (n.size : Int) - (x.size : Int) := wrap64_id _ (by omega) (by omega)
        rw [e, if_pos (by omega), if_pos (by omega)]
        refine ⟨_, rfl, ?_⟩
        show (n.extract 0 _).size ≤ _
        rw [ByteArray.size_extract]; omega
      · exact ⟨_, rfl, hn⟩
    obtain ⟨p, hp, hps⟩ := hc
    unfold host_Under.f
    rw [hp]
    simp only [Option.bind_some]
    split
    · exact ⟨_, rfl⟩
    · split
      · split
        · exact ⟨_, rfl⟩
        · unfold strings_HasSuffix.f
          rw [hasSuffix_some _ _ hps]
          exact ⟨_, rfl⟩
      · exact ⟨_, rfl⟩
  obtain ⟨r, hr⟩ := this
  rw [hr]; rfl
theorem rightB_some (k : Nat) (r : S33) (hs : r.f3.size ≤ 281474976710656) : policy_right.f (k + 1) r.f0 r.f1.f0 r.f1.f1 r.f1.f2 r.f1.f3 r.f2 r.f3 r.f4 r.f5 = some (rightB r) := by
  have he : policy_right.f (k + 1) r.f0 r.f1.f0 r.f1.f1 r.f1.f2 r.f1.f3 r.f2 r.f3 r.f4 r.f5 = policy_right.f 1 r.f0 r.f1.f0 r.f1.f1 r.f1.f2 r.f1.f3 r.f2 r.f3 r.f4 r.f5 := by
    unfold policy_right.f policy_right.j0; rfl
  rw [he]
  unfold rightB
  have : ∃ x, policy_right.f 1 r.f0 r.f1.f0 r.f1.f1 r.f1.f2 r.f1.f3 r.f2 r.f3 r.f4 r.f5 = some x := by
    have hj : ∀ t, ∃ x, policy_right.j0 1 t r.f0 r.f1.f0 r.f1.f1 r.f1.f2 r.f1.f3 r.f2 r.f3 r.f4 r.f5 = some x := by
      intro t
      simp only [policy_right.j0, E.hCheck.f, policy_bits.f, if_pos hs, Option.bind_some]
      split
      · exact ⟨_, rfl⟩
      · split
        · split
          · split
            · exact ⟨_, rfl⟩
            · exact ⟨_, rfl⟩
          · exact ⟨_, rfl⟩
        · split
          · split <;> exact ⟨_, rfl⟩
          · exact ⟨_, rfl⟩
    unfold policy_right.f
    split
    · exact hj _
    · split
      · exact hj _
      · exact hj _
  obtain ⟨x, hx⟩ := this
  rw [hx]; rfl
theorem checkL_some (l : List S33) (hs : ∀ r ∈ l, r.f3.size ≤ 281474976710656) : policy_Check.f 67 l = some (checkL l) := by
  unfold policy_Check.f checkL
  by_cases h : 64 < l.length
  · rw [if_pos (by omega), if_pos h]
  · rw [if_neg (by omega), if_neg h]
    have main : ∀ m k : Nat, ∀ j : Nat, j + m = l.length → m < k → policy_Check.l0 (k + 1) l (l.length : Int) (j : Int) = some (if (l.drop j).all rightB then 0 else 120) := by
      intro m
      induction m with
      | zero =>
        intro k j hj hk
        unfold policy_Check.l0
        rw [if_neg (by omega), List.drop_of_length_le (by omega)]
        rfl
      | succ m ih =>
        intro k j hj hk
        have hjl : j < l.length := by omega
        unfold policy_Check.l0
        have hrd : rd_T33 l (j : Int) = l[j] := by
          unfold rd_T33
          rw [show ((j : Int)).toNat = j by omega, List.getD_eq_getElem?_getD, List.getElem?_eq_getElem hjl]; rfl
        rw [if_pos (by omega), if_pos (by omega), if_pos (by omega), hrd, List.drop_eq_getElem_cons hjl, List.all_cons]
        cases k with
        | zero => omega
        | succ k =>
          rw [rightB_some k _ (hs _ (List.getElem_mem hjl)), Option.bind_some]
          cases hb : rightB l[j]
          · rw [if_neg (by simp)]; rfl
          · rw [if_pos rfl, wrap64_id _ (by omega) (by omega), show (j : Int) + 1 = ((j + 1 : Nat) : Int) by omega, ih k (j + 1) (by omega) (by omega)]; rfl
    have := main l.length 66 0 (by omega) (by omega)
    rw [List.drop_zero] at this
    exact this
end Go.Proofs.YteondnhokgmakaaDoor.E

/- policy.Which, walked. -/
namespace Go.Proofs.YteondnhokgmakaaDoor.E
open Go.RowKit Go.Proofs.YteondnhokgmakaaDoorW.PrintWords Go.Proofs.YteondnhokgmakaaDoorW.PrintLast Go.Proofs.YteondnhokgmakaaDoor.XC
set_option linter.unusedVariables false
set_option linter.unusedSimpArgs false

def dc (a b c d : Int) (n : ByteArray) (po : Int) : Array Value := #[.int .u8 a, .int .u8 b, .int .u8 c, .int .u8 d, .string n, .int .i64 po]
theorem Blk.six {w : World} {R : Nat} {a b c d : Int} {n : ByteArray} {po : Int} {T : TypeId} (h : Blk w R (dc a b c d n po) T) :
    w.cell? ⟨R, 0, none⟩ = some (.int .u8 a) ∧ w.cell? ⟨R, 1, none⟩ = some (.int .u8 b) ∧ w.cell? ⟨R, 2, none⟩ = some (.int .u8 c) ∧ w.cell? ⟨R, 3, none⟩ = some (.int .u8 d) ∧ w.cell? ⟨R, 4, none⟩ = some (.string n) ∧ w.cell? ⟨R, 5, none⟩ = some (.int .i64 po) :=
  ⟨h.cell 0 _ rfl, h.cell 1 _ rfl, h.cell 2 _ rfl, h.cell 3 _ rfl, h.cell 4 _ rfl, h.cell 5 _ rfl⟩

set_option maxRecDepth 100000 in
set_option maxHeartbeats 8000000 in
theorem which_no (A0 : Option Addr) (c0 : Nat) (l : List S33) (a b c d : Int) (n : ByteArray) (po : Int) (hc : checkL l ≠ 0 ∨ (printDestB a b c d n po).toList.isEmpty = true) (w : World) (hS : StdW w)
    (HCK : ∀ W, Below w.heap.size w W → Calls Tryd.prog 14 #[.slice A0 l.length c0] W fun e w' => e = .returned (.int .i64 (checkL l)) ∧ Below W.heap.size W w')
    (HPD : ∀ W, StdW W → Calls Tryd.prog 15 #[.agg (dc a b c d n po)] W fun e w' => e = .returned (.string (printDestB a b c d n po)) ∧ Below W.heap.size W w') :
    Calls Tryd.prog 7 #[.slice A0 l.length c0, .agg (dc a b c d n po)] w fun e w' => e = .returned (.int .i64 (-1)) ∧ Below w.heap.size w w' := by
  have XCK := Lib.hid HCK
  have XPD := Lib.hid HPD
  have HS := Lib.hid hS
  clear hS HCK HPD
  generalize checkL l = v at XCK hc
  generalize printDestB a b c d n po = t at XPD hc
  unfold dc at *
  by_cases h1 : v = 0
  · have h2 : t.toList.isEmpty = true := hc.resolve_left (fun h => h h1)
    have h1' : (v != 0) = false := by rw [h1]; rfl
    clear hc
    go_enter Tryd.func7, Tryd.ntmps7
    go_wp2
    go_step3
    go_wp2_with (first | (go_at_call 14; refine (XCK.out _ (below_alloc (Below.refl _ _) _)).mono ?_; rintro e w1 ⟨rfl, hb1⟩; have HB1 := Lib.hid (below_then (below_alloc (Below.refl w.heap.size w) _) (below_alloc (Below.refl w.heap.size w) _).size hb1); obtain ⟨c0, c1, c2, c3, c4, c5⟩ := ((Blk.new w (dc a b c d n po) _).below hb1).six; clear hb1) | (go_at_call 15; refine (XPD.out _ (StdW.below HS.out HB1.out)).mono ?_; rintro e w2 ⟨rfl, hb2⟩))
    try rw [Exit.noGoto_ret]
    go_ret
    exact ⟨rfl, below_then HB1.out HB1.out.size hb2⟩
  · have h1' : (v != 0) = true := bne_iff_ne.mpr h1
    clear hc
    go_enter Tryd.func7, Tryd.ntmps7
    go_wp2
    go_step3
    go_wp2_with (first | (go_at_call 14; refine (XCK.out _ (below_alloc (Below.refl _ _) _)).mono ?_; rintro e w1 ⟨rfl, hb1⟩; have HB1 := Lib.hid (below_then (below_alloc (Below.refl w.heap.size w) _) (below_alloc (Below.refl w.heap.size w) _).size hb1); obtain ⟨c0, c1, c2, c3, c4, c5⟩ := ((Blk.new w (dc a b c d n po) _).below hb1).six; clear hb1))
    try rw [Exit.noGoto_ret]
    go_ret
    exact ⟨rfl, HB1.out⟩
theorem whichAt_drop {fit : S33 → Bool} {l : List S33} {k : Nat} {v : Int} (hk : k < l.length) (hf : fit l[k] = false) (h : v = whichAt fit (l.drop k) k) : v = whichAt fit (l.drop (k + 1)) ((k + 1 : Nat) : Int) := by
  rw [List.drop_eq_getElem_cons hk] at h
  unfold whichAt at h
  rw [if_neg (by rw [hf]; simp)] at h
  rw [h]; rfl
theorem whichAt_here {fit : S33 → Bool} {l : List S33} {k : Nat} {v : Int} (hk : k < l.length) (hf : fit l[k] = true) (h : v = whichAt fit (l.drop k) k) : v = k := by
  rw [List.drop_eq_getElem_cons hk] at h
  unfold whichAt at h
  rw [if_pos hf] at h
  exact h
theorem whichAt_end {fit : S33 → Bool} {l : List S33} {k : Nat} {v : Int} (hk : ¬ k < l.length) (h : v = whichAt fit (l.drop k) k) : v = -1 := by
  rw [List.drop_of_length_le (by omega)] at h
  exact h

set_option maxRecDepth 100000 in
set_option maxHeartbeats 40000000 in
theorem which_go (A0 : Option Addr) (c0 : Nat) (l : List S33) (a b c d : Int) (n : ByteArray) (po : Int) (hl : l.length ≤ 64) (hn : n.size ≤ 281474976710656) (hck : checkL l = 0) (hpd : (printDestB a b c d n po).toList.isEmpty = false) (w : World) (hS : StdW w)
    (hR : Kd.C k33 w A0 l.length l)
    (HCK : ∀ W, Below w.heap.size w W → Calls Tryd.prog 14 #[.slice A0 l.length c0] W fun e w' => e = .returned (.int .i64 (checkL l)) ∧ Below W.heap.size W w')
    (HPD : ∀ W, StdW W → Calls Tryd.prog 15 #[.agg (dc a b c d n po)] W fun e w' => e = .returned (.string (printDestB a b c d n po)) ∧ Below W.heap.size W w') :
    Calls Tryd.prog 7 #[.slice A0 l.length c0, .agg (dc a b c d n po)] w fun e w' => e = .returned (.int .i64 (whichAt (fitB a b c d n po) l 0)) ∧ Below w.heap.size w w' := by
  have XCK := Lib.hid HCK
  have XPD := Lib.hid HPD
  have HS := Lib.hid hS
  have HR := Lib.hid hR
  have HN := Lib.hid hn
  clear hS HCK HPD hR hn
  rw [hck] at XCK
  generalize printDestB a b c d n po = t at XPD hpd
  have HW : Hid (∀ v, v = whichAt (fitB a b c d n po) l 0 → v = whichAt (fitB a b c d n po) l 0) := Lib.hid (fun v h => h)
  generalize hv : whichAt (fitB a b c d n po) l 0 = v
  have HV := Lib.hid hv
  clear hv HW
  have hl' : (l.length : Int) ≤ 64 := by omega
  have hlm : l.length ≤ 9223372036854775807 := by omega
  unfold dc at *
  go_enter Tryd.func7, Tryd.ntmps7
  go_wp2
  go_step3
  go_wp2_with (first | (go_at_call 14; refine (XCK.out _ (below_alloc (Below.refl _ _) _)).mono ?_; rintro e w1 ⟨rfl, hb1⟩; have HB1 := Lib.hid (below_then (below_alloc (Below.refl w.heap.size w) _) (below_alloc (Below.refl w.heap.size w) _).size hb1); have HD1 := Lib.hid ((Blk.new w (dc a b c d n po) _).below hb1); obtain ⟨c0, c1, c2, c3, c4, c5⟩ := HD1.out.six; clear hb1) | (go_at_call 15; refine (XPD.out _ (StdW.below HS.out HB1.out)).mono ?_; rintro e w2 ⟨rfl, hb2⟩; have HB2 := Lib.hid (below_then HB1.out HB1.out.size hb2); have HD2 := Lib.hid (HD1.out.below hb2); clear hb2))
  go_step3
  go_wp2
  go_loopw [5, 18] (fun at_ i wr => ∃ k : Nat, k ≤ l.length ∧ at_ = .int .i64 (-1) ∧ i = .int .i64 k ∧ Hid (v = whichAt (fitB a b c d n po) (l.drop k) k) ∧ Hid (Blk wr w.heap.size (dc a b c d n po) 28) ∧ Hid (Below w.heap.size w wr)) (fun _ i _ => l.length - (intOf i).toNat)
  case atStart => exact ⟨0, Nat.zero_le _, rfl, rfl, Lib.hid (by rw [List.drop_zero]; exact HV.out.symm), HD2, HB2⟩
  case round =>
    obtain ⟨k, hk, rfl, rfl, HP, HD, HB⟩ := hrel
    clear HB1 HD1 HB2 HD2 XCK XPD
    by_cases hlt : k < l.length
    · have hk0 : (0 : Int) ≤ (k : Int) := Int.natCast_nonneg _
      have hk1 : (k : Int) < (l.length : Int) := by omega
      have hrd : rd_T33 l (k : Int) = l[k] := by
        unfold rd_T33
        rw [show ((k : Int)).toNat = k by omega, List.getD_eq_getElem?_getD, List.getElem?_eq_getElem hlt]; rfl
      obtain ⟨ad, ea, x0, x1, x2, x3, x4, x5, x6, x7, x8⟩ := at_T33 HR.out (k : Int) hk0 hk1
      cases ea
      rw [hrd] at x0 x1 x2 x3 x4 x5 x6 x7 x8
      have HNF := Lib.hid (fun (hf : fitB a b c d n po l[k] = false) => whichAt_drop hlt hf HP.out)
      have HYF := Lib.hid (fun (hf : fitB a b c d n po l[k] = true) => whichAt_here hlt hf HP.out)
      clear HP
      generalize l[k] = r at x0 x1 x2 x3 x4 x5 x6 x7 x8 HNF HYF hrd
      obtain ⟨al, ⟨ra, rb, rc', rd⟩, bi, su, lo, hi⟩ := r
      simp only [Int.toNat_natCast] at x0 x1 x2 x3 x4 x5 x6 x7 x8
      clear hrd
      replace x0 := (HB.out.cell (World.block_lt_of_cell? w _ x0)).trans x0
      replace x1 := (HB.out.cell (World.block_lt_of_cell? w _ x1)).trans x1
      replace x2 := (HB.out.cell (World.block_lt_of_cell? w _ x2)).trans x2
      replace x3 := (HB.out.cell (World.block_lt_of_cell? w _ x3)).trans x3
      replace x4 := (HB.out.cell (World.block_lt_of_cell? w _ x4)).trans x4
      replace x5 := (HB.out.cell (World.block_lt_of_cell? w _ x5)).trans x5
      replace x6 := (HB.out.cell (World.block_lt_of_cell? w _ x6)).trans x6
      replace x7 := (HB.out.cell (World.block_lt_of_cell? w _ x7)).trans x7
      replace x8 := (HB.out.cell (World.block_lt_of_cell? w _ x8)).trans x8
      obtain ⟨d0, d1, d2, d3, d4, d5⟩ := HD.out.six
      have hdl := HD.out.lt
      have hne : ¬ w.heap.size = wr.heap.size := by omega
      by_cases h1 : po < lo
      · have hf := HNF.out (by unfold fitB; simp only; rw [if_pos h1])
        clear HNF HYF
        go_wp2
        go_roundw
        case rel => exact ⟨k + 1, by omega, rfl, by go_num, Lib.hid hf, Lib.hid (HD.out.old _), Lib.hid (below_alloc HB.out _)⟩
        case measure => simp [intOf]; omega
      · have h1' : decide (po < lo) = false := decide_eq_false h1
        by_cases h2 : hi < po
        · have hf := HNF.out (by unfold fitB; simp only; rw [if_neg h1, if_pos h2])
          clear HNF HYF
          go_wp2
          go_roundw
          case rel => exact ⟨k + 1, by omega, rfl, by go_num, Lib.hid hf, Lib.hid (HD.out.old _), Lib.hid (below_alloc HB.out _)⟩
          case measure => simp [intOf]; omega
        · have h2' : decide (hi < po) = false := decide_eq_false h2
          cases hsu : su.toList.isEmpty
          · cases hnn : n.toList.isEmpty
            · cases hb : underB n su
              · have hf := HNF.out (by unfold fitB; simp only; rw [if_neg h1, if_neg h2, hsu, hnn]; simpa using hb)
                clear HNF HYF
                have HU := Lib.hid (fun W => host_Under.calls n su _ W (underB_some n su HN.out))
                rw [hb] at HU
                go_wp2_with (first | (go_at_call 16; refine (HU.out _).mono ?_; rintro e w4 ⟨rfl, hb4⟩; have HB4 := Lib.hid (below_then (below_alloc HB.out _) (below_alloc HB.out _).size hb4.below); have HD4 : Hid (Blk w4 w.heap.size (dc a b c d n po) 28) := Lib.hid ((HD.out.old _).below hb4.below); obtain ⟨e0, e1, e2, e3, e4, e5, e6, e7, e8⟩ := ((Blk.new wr (rc al ra rb rc' rd bi su lo hi) 33).below hb4.below).nine))
                go_roundw
                case rel => exact ⟨k + 1, by omega, rfl, by go_num, Lib.hid hf, Lib.hid HD4.out, Lib.hid HB4.out⟩
                case measure => simp [intOf]; omega
              · have hf := HYF.out (by unfold fitB; simp only; rw [if_neg h1, if_neg h2, hsu, hnn]; simpa using hb)
                clear HNF HYF
                have HU := Lib.hid (fun W => host_Under.calls n su _ W (underB_some n su HN.out))
                rw [hb] at HU
                go_wp2_with (first | (go_at_call 16; refine (HU.out _).mono ?_; rintro e w4 ⟨rfl, hb4⟩; have HB4 := Lib.hid (below_then (below_alloc HB.out _) (below_alloc HB.out _).size hb4.below); have HD4 : Hid (Blk w4 w.heap.size (dc a b c d n po) 28) := Lib.hid ((HD.out.old _).below hb4.below); obtain ⟨e0, e1, e2, e3, e4, e5, e6, e7, e8⟩ := ((Blk.new wr (rc al ra rb rc' rd bi su lo hi) 33).below hb4.below).nine))
                try rw [Exit.noGoto_ret]
                go_ret
                exact ⟨by rw [hf]; rfl, HB4.out⟩
            · have hf := HNF.out (by unfold fitB; simp only; rw [if_neg h1, if_neg h2, hsu, hnn]; rfl)
              clear HNF HYF
              go_wp2
              go_roundw
              case rel => exact ⟨k + 1, by omega, rfl, by go_num, Lib.hid hf, Lib.hid (HD.out.old _), Lib.hid (below_alloc HB.out _)⟩
              case measure => simp [intOf]; omega
          · cases hnn : n.toList.isEmpty
            · have hf := HNF.out (by unfold fitB; simp only; rw [if_neg h1, if_neg h2, hsu, hnn]; rfl)
              clear HNF HYF
              go_wp2
              go_roundw
              case rel => exact ⟨k + 1, by omega, rfl, by go_num, Lib.hid hf, Lib.hid (HD.out.old _), Lib.hid (below_alloc HB.out _)⟩
              case measure => simp [intOf]; omega
            · cases hb : inB a b c d ra rb rc' rd bi
              · have hf := HNF.out (by unfold fitB; simp only; rw [if_neg h1, if_neg h2, hsu, hnn]; simpa using hb)
                clear HNF HYF
                have HU := Lib.hid (fun W => host_In.calls a b c d ra rb rc' rd bi _ W (inB_some a b c d ra rb rc' rd bi))
                rw [hb] at HU
                go_wp2_with (first | (go_at_call 17; refine (HU.out _).mono ?_; rintro e w4 ⟨rfl, hb4⟩; have HB4 := Lib.hid (below_then (below_alloc HB.out _) (below_alloc HB.out _).size hb4); have HD4 : Hid (Blk w4 w.heap.size (dc a b c d n po) 28) := Lib.hid ((HD.out.old _).below hb4); obtain ⟨e0, e1, e2, e3, e4, e5, e6, e7, e8⟩ := ((Blk.new wr (rc al ra rb rc' rd bi su lo hi) 33).below hb4).nine))
                go_roundw
                case rel => exact ⟨k + 1, by omega, rfl, by go_num, Lib.hid hf, Lib.hid HD4.out, Lib.hid HB4.out⟩
                case measure => simp [intOf]; omega
              · have hf := HYF.out (by unfold fitB; simp only; rw [if_neg h1, if_neg h2, hsu, hnn]; simpa using hb)
                clear HNF HYF
                have HU := Lib.hid (fun W => host_In.calls a b c d ra rb rc' rd bi _ W (inB_some a b c d ra rb rc' rd bi))
                rw [hb] at HU
                go_wp2_with (first | (go_at_call 17; refine (HU.out _).mono ?_; rintro e w4 ⟨rfl, hb4⟩; have HB4 := Lib.hid (below_then (below_alloc HB.out _) (below_alloc HB.out _).size hb4); have HD4 : Hid (Blk w4 w.heap.size (dc a b c d n po) 28) := Lib.hid ((HD.out.old _).below hb4); obtain ⟨e0, e1, e2, e3, e4, e5, e6, e7, e8⟩ := ((Blk.new wr (rc al ra rb rc' rd bi su lo hi) 33).below hb4).nine))
                try rw [Exit.noGoto_ret]
                go_ret
                exact ⟨by rw [hf]; rfl, HB4.out⟩
    · have hf := whichAt_end hlt HP.out
      have hk1 : (k : Int) = (l.length : Int) := by omega
      go_wp2
      try rw [Exit.noGoto_ret]
      go_ret
      exact ⟨by rw [hf]; rfl, HB.out⟩
end Go.Proofs.YteondnhokgmakaaDoor.E

/- The three rules of the chapter's example, parsed. -/
namespace Go.Proofs.YteondnhokgmakaaDoor.E
open Go.RowKit Go.Proofs.YteondnhokgmakaaDoorW.PrintWords Go.Proofs.YteondnhokgmakaaDoorW.PrintLast Go.Proofs.YteondnhokgmakaaDoor.XC
set_option linter.unusedVariables false
set_option linter.unusedSimpArgs false

def ruleT1 : ByteArray := ⟨#[100, 101, 110, 121, 32, 49, 48, 46, 48, 46, 48, 46, 48, 47, 56, 32, 49, 45, 54, 53, 53, 51, 53]⟩
def ruleT2 : ByteArray := ⟨#[97, 108, 108, 111, 119, 32, 101, 120, 97, 109, 112, 108, 101, 46, 99, 111, 109, 32, 52, 52, 51]⟩
def ruleT3 : ByteArray := ⟨#[97, 108, 108, 111, 119, 32, 49, 48, 46, 48, 46, 48, 46, 49, 47, 56, 32, 56, 48]⟩
def exS : ByteArray := ⟨#[101, 120, 97, 109, 112, 108, 101, 46, 99, 111, 109]⟩

theorem words1 : wordsS ruleT1 = [⟨#[100, 101, 110, 121]⟩, ⟨#[49, 48, 46, 48, 46, 48, 46, 48, 47, 56]⟩, ⟨#[49, 45, 54, 53, 53, 51, 53]⟩] := by kernel_rfl
theorem words2 : wordsS ruleT2 = [⟨#[97, 108, 108, 111, 119]⟩, exS, ⟨#[52, 52, 51]⟩] := by kernel_rfl
theorem words3 : wordsS ruleT3 = [⟨#[97, 108, 108, 111, 119]⟩, ⟨#[49, 48, 46, 48, 46, 48, 46, 49, 47, 56]⟩, ⟨#[56, 48]⟩] := by kernel_rfl
theorem right1 : policy_right.f 1 false 10 0 0 0 8 ⟨#[]⟩ 1 65535 = some true := by kernel_rfl
theorem right3 : policy_right.f 1 true 10 0 0 1 8 ⟨#[]⟩ 80 80 = some false := by kernel_rfl
theorem num1 : pnumber.f ⟨#[49]⟩ = some (1, true) := by kernel_rfl
theorem num2 : pnumber.f ⟨#[54, 53, 53, 51, 53]⟩ = some (65535, true) := by kernel_rfl
theorem num3 : pnumber.f ⟨#[56]⟩ = some (8, true) := by kernel_rfl
theorem num4 : pnumber.f ⟨#[52, 52, 51]⟩ = some (443, true) := by kernel_rfl
theorem num5 : pnumber.f ⟨#[56, 48]⟩ = some (80, true) := by kernel_rfl
theorem cut1 : Cut.f ⟨#[49, 45, 54, 53, 53, 51, 53]⟩ ⟨#[45]⟩ = some (⟨#[49]⟩, ⟨#[54, 53, 53, 51, 53]⟩, true) := by kernel_rfl
theorem cut2 : Cut.f ⟨#[52, 52, 51]⟩ ⟨#[45]⟩ = some (⟨#[52, 52, 51]⟩, ⟨#[]⟩, false) := by kernel_rfl
theorem cut3 : Cut.f ⟨#[56, 48]⟩ ⟨#[45]⟩ = some (⟨#[56, 48]⟩, ⟨#[]⟩, false) := by kernel_rfl
theorem cut4 : Cut.f ⟨#[49, 48, 46, 48, 46, 48, 46, 48, 47, 56]⟩ ⟨#[47]⟩ = some (⟨#[49, 48, 46, 48, 46, 48, 46, 48]⟩, ⟨#[56]⟩, true) := by kernel_rfl
theorem cut5 : Cut.f exS ⟨#[47]⟩ = some (exS, ⟨#[]⟩, false) := by kernel_rfl
theorem cut6 : Cut.f ⟨#[49, 48, 46, 48, 46, 48, 46, 49, 47, 56]⟩ ⟨#[47]⟩ = some (⟨#[49, 48, 46, 48, 46, 48, 46, 49]⟩, ⟨#[56]⟩, true) := by kernel_rfl
theorem addr1 : paRes ⟨#[49, 48, 46, 48, 46, 48, 46, 48]⟩ = .inr [10, 0, 0, 0] := by kernel_rfl
theorem addr3 : paRes ⟨#[49, 48, 46, 48, 46, 48, 46, 49]⟩ = .inr [10, 0, 0, 1] := by kernel_rfl
theorem right2 : policy_right.f 1 true 0 0 0 0 0 exS 443 443 = some true := by kernel_rfl
theorem cut_of {s sep a b : ByteArray} {f : Bool} (h : Cut.f s sep = some (a, b, f)) : ∀ W, StdW W → Calls Tryd.prog 23 #[.string s, .string sep] W fun e w' => e = .returned (.tuple #[.string a, .string b, .bool f]) ∧ Below W.heap.size W w' := fun W hS => Cut.calls s sep a b f W hS h
theorem num_of {s : ByteArray} {v : Int} {f : Bool} (h : pnumber.f s = some (v, f)) : ∀ W, StdW W → Calls Tryd.prog 24 #[.string s] W fun e w' => e = .returned (.tuple #[.int .i64 v, .bool f]) ∧ Below W.heap.size W w' := fun W hS => pnumber.calls s v f W hS h
theorem addr_of {s : ByteArray} {a b c d : Int} (hs : s.size ≤ 281474976710656) (h : paRes s = .inr [a, b, c, d]) : ∀ W, StdW W → Calls Tryd.prog 25 #[.string s] W fun e w' => e = .returned (.tuple #[.agg #[.int .u8 a, .int .u8 b, .int .u8 c, .int .u8 d], .nilIface]) ∧ Below W.heap.size W w' := fun W hS => (parseAddr_any s hs W hS).mono fun e w' hp => by
  unfold PAPost at hp
  rw [h] at hp
  exact ⟨hp.2.2, hp.1⟩
theorem right_of {al : Bool} {a b c d bi : Int} {su : ByteArray} {lo hi : Int} {r : Bool} (h : policy_right.f 1 al a b c d bi su lo hi = some r) : ∀ W, StdW W → Calls Tryd.prog 18 #[.agg (rc al a b c d bi su lo hi)] W fun e w' => e = .returned (.bool r) ∧ Below W.heap.size W w' := fun W hS => policy_right.calls 1 al a b c d bi su lo hi r W hS h
theorem parse1 (w : World) (hS : StdW w) : Calls Tryd.prog 11 #[.string ruleT1] w fun e w' => e = .returned (.tuple #[.agg (rc false 10 0 0 0 8 ⟨#[]⟩ 1 65535), .int .i64 0]) ∧ Below w.heap.size w w' := by
  have HSP := split_blanks ruleT1 (by decide)
  rw [words1] at HSP
  exact qq_1 ruleT1 ⟨#[100, 101, 110, 121]⟩ ⟨#[49, 48, 46, 48, 46, 48, 46, 48, 47, 56]⟩ ⟨#[49, 45, 54, 53, 53, 51, 53]⟩ ⟨#[49]⟩ ⟨#[54, 53, 53, 51, 53]⟩ ⟨#[49, 48, 46, 48, 46, 48, 46, 48]⟩ ⟨#[56]⟩ 1 65535 8 10 0 0 0 _ (by decide) (by decide) HSP rfl rfl rfl rfl (by kernel_rfl) (fun _ => by kernel_rfl) (cut_of cut1) (num_of num1) (cut_of cut4) (num_of num2) rfl (num_of num3) (addr_of (by decide) addr1) (right_of right1) w hS
theorem parse2 (w : World) (hS : StdW w) : Calls Tryd.prog 11 #[.string ruleT2] w fun e w' => e = .returned (.tuple #[.agg (rc true 0 0 0 0 0 exS 443 443), .int .i64 0]) ∧ Below w.heap.size w w' := by
  have HSP := split_blanks ruleT2 (by decide)
  rw [words2] at HSP
  exact qq_2 ruleT2 ⟨#[97, 108, 108, 111, 119]⟩ exS ⟨#[52, 52, 51]⟩ ⟨#[52, 52, 51]⟩ ⟨#[]⟩ exS ⟨#[]⟩ 443 _ (by decide) (by decide) HSP rfl rfl rfl rfl (by kernel_rfl) (fun h => by cases h) (cut_of cut2) (num_of num4) (cut_of cut5) (by kernel_rfl) (right_of right2) w hS
theorem parse3 (w : World) (hS : StdW w) : Calls Tryd.prog 11 #[.string ruleT3] w fun e w' => e = .returned zeroRule ∧ Below w.heap.size w w' := by
  have HSP := split_blanks ruleT3 (by decide)
  rw [words3] at HSP
  exact qq_3 ruleT3 ⟨#[97, 108, 108, 111, 119]⟩ ⟨#[49, 48, 46, 48, 46, 48, 46, 49, 47, 56]⟩ ⟨#[56, 48]⟩ ⟨#[56, 48]⟩ ⟨#[]⟩ ⟨#[49, 48, 46, 48, 46, 48, 46, 49]⟩ ⟨#[56]⟩ 80 8 10 0 0 1 _ (by decide) (by decide) HSP rfl rfl rfl rfl (by kernel_rfl) (fun h => by cases h) (cut_of cut3) (num_of num5) (cut_of cut6) (num_of num3) (addr_of (by decide) addr3) (right_of right3) w hS
end Go.Proofs.YteondnhokgmakaaDoor.E

/- policy.Which: its contract, whole. -/
namespace Go.Proofs.YteondnhokgmakaaDoor.E
open Go.RowKit Go.Proofs.YteondnhokgmakaaDoorW.PrintWords Go.Proofs.YteondnhokgmakaaDoorW.PrintLast Go.Proofs.YteondnhokgmakaaDoor.XC
set_option linter.unusedVariables false
set_option linter.unusedSimpArgs false

/-- Each rule's suffix is no longer than a text may be. -/
def sized (l : List S33) : Bool := l.all fun r => decide (r.f3.size ≤ 281474976710656)
theorem sized_mem {l : List S33} (h : sized l = true) : ∀ r ∈ l, r.f3.size ≤ 281474976710656 := fun r hr => of_decide_eq_true (List.all_eq_true.1 h r hr)
def Which.f (l : List S33) (a b c d : Int) (n : ByteArray) (po : Int) : Option Int :=
  if ((0 ≤ a ∧ a ≤ 255) ∧ (0 ≤ b ∧ b ≤ 255) ∧ (0 ≤ c ∧ c ≤ 255) ∧ (0 ≤ d ∧ d ≤ 255) ∧ n.size ≤ 281474976710656) ∧ sized l = true then some (whichB l a b c d n po) else none
theorem Which.calls (A0 : Option Addr) (c0 : Nat) (l0 : List S33) (a b c d : Int) (n : ByteArray) (po : Int) (r : Int) (w : World) (hr0 : Kd.C k33 w A0 l0.length l0) (hc0 : l0.length ≤ c0) (hS_ : StdW w) (h : Which.f l0 a b c d n po = some r) :
    Calls Tryd.prog 7 #[.slice A0 l0.length c0, .agg #[.int .u8 a, .int .u8 b, .int .u8 c, .int .u8 d, .string n, .int .i64 po]] w fun e w' => e = .returned (.int .i64 r) ∧ Below w.heap.size w w' := by
  unfold Which.f at h
  split at h
  · rename_i hc
    obtain rfl := Option.some.inj h
    have hz := sized_mem hc.2
    have HCK : ∀ W, Below w.heap.size w W → Calls Tryd.prog 14 #[.slice A0 l0.length c0] W fun e w' => e = .returned (.int .i64 (checkL l0)) ∧ Below W.heap.size W w' := fun W hb => policy_Check.calls 67 A0 c0 l0 _ W (Kd.C_below hr0 hb) hc0 (StdW.below hS_ hb) (checkL_some l0 hz)
    have HPD : ∀ W, StdW W → Calls Tryd.prog 15 #[.agg (dc a b c d n po)] W fun e w' => e = .returned (.string (printDestB a b c d n po)) ∧ Below W.heap.size W w' := fun W hW => hPrintDest.calls a b c d n po _ W hW (by unfold hPrintDest.f; rw [if_pos hc.1])
    unfold whichB
    by_cases h1 : checkL l0 = 0
    · rw [if_pos h1]
      cases h2 : (printDestB a b c d n po).toList.isEmpty
      · have hl : l0.length ≤ 64 := by
          unfold checkL at h1
          by_cases hh : 64 < l0.length
          · rw [if_pos hh] at h1; cases h1
          · omega
        rw [if_neg (by simp)]
        exact which_go A0 c0 l0 a b c d n po hl hc.1.2.2.2.2 h1 h2 w hS_ hr0 HCK HPD
      · rw [if_pos rfl]
        exact which_no A0 c0 l0 a b c d n po (.inr h2) w hS_ HCK HPD
    · rw [if_neg h1]
      exact which_no A0 c0 l0 a b c d n po (.inl h1) w hS_ HCK HPD
  · cases h
end Go.Proofs.YteondnhokgmakaaDoor.E

/- Printed by a program of this session's own (xprint.py) out of the translation. Lean checks it. -/
namespace Go.Proofs.YteondnhokgmakaaDoor.XM
open Go.Proofs.YteondnhokgmakaaDoor.XC
open Go.RowKit Go.Proofs.YteondnhokgmakaaDoorW.PrintWords Go.Proofs.YteondnhokgmakaaDoorW.PrintLast Go.Proofs.YteondnhokgmakaaDoorW.PrintMore
attribute [local go_sem] max2_int min2_int max_two min_two max_three min_three max_four min_four   -- for this text's walks alone
set_option linter.unusedVariables false
set_option linter.unusedSimpArgs false



-- the values' own types
/-! #### struct type 24 -/
/-! #### struct type 33 -/
/-! #### struct type 26 -/
/-! #### struct type 28 -/
structure S28 where
  f0 : S26
  f1 : Int
def z28 : S28 := ⟨z26, (0 : Int)⟩
def k28 : Kd S28 := Kd.iso (Kd.pair k26 (Kd.int .i64)) (fun x : S28 => (x.f0, x.f1))
theorem k28_open {w : World} {x : S28} {cs : List Value} (h : k28.K w x cs) : cs = [.int .u8 x.f0.f0.f0, .int .u8 x.f0.f0.f1, .int .u8 x.f0.f0.f2, .int .u8 x.f0.f0.f3, .string x.f0.f1, .int .i64 x.f1] := by
  obtain ⟨_, _, rfl, s0, rfl⟩ := h
  obtain rfl := k26_open s0
  exact rfl
theorem k28_openM {w : World} {base : Nat} {ok : Nat → Prop} {x : S28} {cs : List Value} (h : k28.M w base ok x cs) : cs = [.int .u8 x.f0.f0.f0, .int .u8 x.f0.f0.f1, .int .u8 x.f0.f0.f2, .int .u8 x.f0.f0.f3, .string x.f0.f1, .int .i64 x.f1] := by
  obtain ⟨_, _, rfl, s0, rfl⟩ := h
  obtain rfl := k26_openM s0
  exact rfl
theorem k28_mk (w : World) (x : S28)  : k28.K w x [.int .u8 x.f0.f0.f0, .int .u8 x.f0.f0.f1, .int .u8 x.f0.f0.f2, .int .u8 x.f0.f0.f3, .string x.f0.f1, .int .i64 x.f1] := ⟨[.int .u8 x.f0.f0.f0, .int .u8 x.f0.f0.f1, .int .u8 x.f0.f0.f2, .int .u8 x.f0.f0.f3, .string x.f0.f1], [.int .i64 x.f1], rfl, (k26_mk w x.f0 ), rfl⟩
theorem k28_mkM (w : World) (base : Nat) (ok : Nat → Prop) (x : S28)  : k28.M w base ok x [.int .u8 x.f0.f0.f0, .int .u8 x.f0.f0.f1, .int .u8 x.f0.f0.f2, .int .u8 x.f0.f0.f3, .string x.f0.f1, .int .i64 x.f1] := ⟨[.int .u8 x.f0.f0.f0, .int .u8 x.f0.f0.f1, .int .u8 x.f0.f0.f2, .int .u8 x.f0.f0.f3, .string x.f0.f1], [.int .i64 x.f1], rfl, (k26_mkM w base ok x.f0 ), rfl⟩
def rd_T28 (xs : List S28) (i : Int) : S28 := xs.getD i.toNat z28
theorem at_T28 {w : World} {A : Option Addr} {n : Nat} {xs : List S28} (h : Kd.C k28 w A n xs) (i : Int) (h0 : 0 ≤ i) (h1 : i < n) : ∃ ad , A = some ad ∧ w.cell? (ad.add (i.toNat * 6)) = some (.int .u8 (rd_T28 xs i).f0.f0.f0) ∧ w.cell? ⟨(ad.add (i.toNat * 6)).block, (ad.add (i.toNat * 6)).off + 1, none⟩ = some (.int .u8 (rd_T28 xs i).f0.f0.f1) ∧ w.cell? ⟨(ad.add (i.toNat * 6)).block, (ad.add (i.toNat * 6)).off + 2, none⟩ = some (.int .u8 (rd_T28 xs i).f0.f0.f2) ∧ w.cell? ⟨(ad.add (i.toNat * 6)).block, (ad.add (i.toNat * 6)).off + 3, none⟩ = some (.int .u8 (rd_T28 xs i).f0.f0.f3) ∧ w.cell? ⟨(ad.add (i.toNat * 6)).block, (ad.add (i.toNat * 6)).off + 4, none⟩ = some (.string (rd_T28 xs i).f0.f1) ∧ w.cell? ⟨(ad.add (i.toNat * 6)).block, (ad.add (i.toNat * 6)).off + 5, none⟩ = some (.int .i64 (rd_T28 xs i).f1) := by
  obtain ⟨ad, c, e, _, hK, hc0⟩ := Kd.C_get h z28 i h0 h1
  have hc : ∀ j u, c[j]? = some u → w.cell? (ad.add (i.toNat * 6 + j)) = some u := hc0
  obtain rfl := k28_open hK
  exact ⟨ad, e, hc 0 _ rfl, by rw [← add_field _ _ 1 (by omega)]; exact hc 1 _ rfl, by rw [← add_field _ _ 2 (by omega)]; exact hc 2 _ rfl, by rw [← add_field _ _ 3 (by omega)]; exact hc 3 _ rfl, by rw [← add_field _ _ 4 (by omega)]; exact hc 4 _ rfl, by rw [← add_field _ _ 5 (by omega)]; exact hc 5 _ rfl⟩

end Go.Proofs.YteondnhokgmakaaDoor.XM

/- Printed by a program of this session's own (xprint.py) out of the translation. Lean checks it. -/
namespace Go.Proofs.YteondnhokgmakaaDoor.XM
open Go.Proofs.YteondnhokgmakaaDoor.XC
open Go.RowKit Go.Proofs.YteondnhokgmakaaDoorW.PrintWords Go.Proofs.YteondnhokgmakaaDoorW.PrintLast Go.Proofs.YteondnhokgmakaaDoorW.PrintMore
attribute [local go_sem] max2_int min2_int max_two min_two max_three min_three max_four min_four   -- for this text's walks alone
set_option linter.unusedVariables false
set_option linter.unusedSimpArgs false

-- given: function 7 (policy_Which)

/-! ### policy_May: function 8 -/
def policy_May.f (l0 : List (S33)) (a1_0 : Int) (a1_1 : Int) (a1_2 : Int) (a1_3 : Int) (a1_4 : ByteArray) (a1_5 : Int) : Option (Bool) := (E.Which.f l0 a1_0 a1_1 a1_2 a1_3 a1_4 a1_5).bind fun t102 => (if t102 ≥ 0 then (if 0 ≤ t102 then (if t102 < (l0.length : Int) then (some ((rd_T33 l0 t102).f0)) else (none)) else (none)) else (some false))
set_option maxHeartbeats 8000000 in
set_option maxRecDepth 100000 in
theorem policy_May.calls (A0 : Option Addr) (c0 : Nat) (l0 : List (S33)) (a1_0 : Int) (a1_1 : Int) (a1_2 : Int) (a1_3 : Int) (a1_4 : ByteArray) (a1_5 : Int) (r : Bool) (w : World) (hr0 : Kd.C k33 w A0 l0.length l0) (hc0 : l0.length ≤ c0) (hS_ : StdW w) (h : policy_May.f l0 a1_0 a1_1 a1_2 a1_3 a1_4 a1_5 = some r) :
    Calls Tryd.prog 8 #[.slice A0 l0.length c0, .agg #[.int .u8 a1_0, .int .u8 a1_1, .int .u8 a1_2, .int .u8 a1_3, .string a1_4, .int .i64 a1_5]] w fun e w' => e = .returned (.bool r) ∧ Below w.heap.size w w' := by
  have hu28 := Tryd.underlying28
  have HR0 := Aside0.mk hr0
  have HC0 := Aside0.mk hc0
  clear hr0 hc0
  have HS_ := Aside0.mk hS_
  clear hS_
  have HB := Aside0.mk (Below.refl w.heap.size w)
  have H : ((E.Which.f l0 a1_0 a1_1 a1_2 a1_3 a1_4 a1_5).bind fun t102 => (if t102 ≥ 0 then (if 0 ≤ t102 then (if t102 < (l0.length : Int) then (some ((rd_T33 l0 t102).f0)) else (none)) else (none)) else (some false))) = some r := h
  clear h
  replace H := Option.bind_eq_some_iff.mp H
  obtain ⟨t102, A30, H⟩ := H
  replace H : (if t102 ≥ 0 then (if 0 ≤ t102 then (if t102 < (l0.length : Int) then (some ((rd_T33 l0 t102).f0)) else (none)) else (none)) else (some false)) = some r := H
  have A3 := Aside0.mk A30
  clear A30
  by_cases c4 : t102 ≥ 0
  · rw [if_pos c4] at H
    have c4b0 : decide (0 ≤ t102) = true := decide_eq_true c4
    clear c4
    by_cases c5 : 0 ≤ t102
    · rw [if_pos c5] at H
      have c5b0 : decide (0 ≤ t102) = true := decide_eq_true c5
      clear c5
      by_cases c6 : t102 < (l0.length : Int)
      · rw [if_pos c6] at H
        have c6b0 : decide (t102 < (l0.length : Int)) = true := decide_eq_true c6
        clear c6
        obtain rfl := Option.some.inj H
        go_enter Tryd.func8, Tryd.ntmps8
        go_wp2_with (first | ((with_reducible refine gate_dst (N := 3) rfl ?_); refine box_event ?hg (N := 3) ?hd (cs := #[.int .u8 a1_0, .int .u8 a1_1, .int .u8 a1_2, .int .u8 a1_3, .string a1_4, .int .i64 a1_5]) (t := 28) ?hr ?_; (case hd => rfl); (case hg => rfl); (case hr => first | (go_simp; done) | (go_simp; rfl)); intro gb101 hg w7 hbox hb; have n0_ := Aside0.mk (below_step (by repeat (first | (with_reducible first | exact HB.out | apply below_alloc | apply pw_below_drewN | apply below_drew1) | exact HB.out)) hb); have n1_ := Aside0.mk (hbox); have n2_ := Aside0.mk ((by rw [hg]; exact (below_size (by repeat (first | (with_reducible first | exact HB.out | apply below_alloc | apply pw_below_drewN | apply below_drew1) | exact HB.out))) : w.heap.size ≤ gb101)); have n3_ := Aside0.mk ((by rw [hg]; exact (below_size (by repeat (first | (with_reducible first | exact HB.out | apply below_alloc | apply pw_below_drewN | apply below_drew1) | exact HB.out))) : w.heap.size ≤ gb101)); clear HB; have HB := n0_; have BK101 := n1_; have GW101 := n2_; have GE101 := n3_; clear n0_ n1_ n2_ n3_; clear hb hbox hg; have hcz8_0 : w7.cell? ⟨gb101, 0, none⟩ = some (.int .u8 a1_0) := (blk_cell BK101.out 0).trans rfl; have hcz8_1 : w7.cell? ⟨gb101, 1, none⟩ = some (.int .u8 a1_1) := (blk_cell BK101.out 1).trans rfl; have hcz8_2 : w7.cell? ⟨gb101, 2, none⟩ = some (.int .u8 a1_2) := (blk_cell BK101.out 2).trans rfl; have hcz8_3 : w7.cell? ⟨gb101, 3, none⟩ = some (.int .u8 a1_3) := (blk_cell BK101.out 3).trans rfl; have hcz8_4 : w7.cell? ⟨gb101, 4, none⟩ = some (.string a1_4) := (blk_cell BK101.out 4).trans rfl; have hcz8_5 : w7.cell? ⟨gb101, 5, none⟩ = some (.int .i64 a1_5) := (blk_cell BK101.out 5).trans rfl; have hfz8_0 := blk_frozen BK101.out 0; have hfz8_1 := blk_frozen BK101.out 1; have hfz8_2 := blk_frozen BK101.out 2; have hfz8_3 := blk_frozen BK101.out 3; have hfz8_4 := blk_frozen BK101.out 4; have hfz8_5 := blk_frozen BK101.out 5) | ((with_reducible refine gate_callee (f := 7) rfl ?_); refine goesL_ (some 8) rfl rfl Tryd.func7 (by kernel_rfl) rfl #[.slice A0 l0.length c0, .agg #[.int .u8 a1_0, .int .u8 a1_1, .int .u8 a1_2, .int .u8 a1_3, .string a1_4, .int .i64 a1_5]] rfl (by (try simp only [List.map_toArray, List.map_cons, List.map_nil]); first | done | rfl | (simp only [List.length_drop, List.length_take]; rfl)) ?_; (with_reducible refine (E.Which.calls _ _ l0 a1_0 a1_1 a1_2 a1_3 a1_4 a1_5 t102 _ ?side1 ?side2 ?side3 A3.out).mono ?_); (case side1 => repeat (first | exact (Kd.C_below HR0.out HB.out) | (with_reducible refine Kd.C_alloc ?_ _) | (with_reducible refine Kd.C_drewN ?_ _) | (with_reducible refine Kd.C_drew ?_))); (case side2 => exact HC0.out); (case side3 => exact StdW.below HS_.out (by repeat (first | (with_reducible first | exact HB.out | apply below_alloc | apply pw_below_drewN | apply below_drew1 | refine below_set ?_ GE101.out) | exact HB.out))); rintro e w9 ⟨rfl, hb⟩; refine ⟨_, rfl, ?_⟩; have n0_ := Aside0.mk (blk_below (g := gb101) (o := .cells #[.int .u8 a1_0, .int .u8 a1_1, .int .u8 a1_2, .int .u8 a1_3, .string a1_4, .int .i64 a1_5] 28 (0, 0)) (by (with_reducible repeat (first | refine blk_drewN ?_ _ | refine blk_drew ?_ | refine blk_alloc ?_ _)); exact BK101.out) hb); have n1_ := Aside0.mk (below_step (by repeat (first | (with_reducible first | exact HB.out | apply below_alloc | apply pw_below_drewN | apply below_drew1 | refine below_set ?_ GE101.out) | exact HB.out)) hb); clear BK101; clear HB; have BK101 := n0_; have HB := n1_; clear n0_ n1_; (try clear hb); (try clear hb2); (try clear hk); (try clear hi); have p103 : 0 ≤ (t102 : Int) := of_decide_eq_true (by first | (with_reducible assumption) | assumption); have q103 : t102 < (l0.length : Int) := of_decide_eq_true (by first | (with_reducible assumption) | assumption); obtain ⟨ad103, e103, hx103_0, hx103_1, hx103_2, hx103_3, hx103_4, hx103_5, hx103_6, hx103_7, hx103_8⟩ := at_T33 HR0.out t102 p103 q103; cases e103; replace hx103_0 := (HB.out.cell (World.block_lt_of_cell? w _ hx103_0)).trans hx103_0; replace hx103_1 := (HB.out.cell (World.block_lt_of_cell? w _ hx103_1)).trans hx103_1; replace hx103_2 := (HB.out.cell (World.block_lt_of_cell? w _ hx103_2)).trans hx103_2; replace hx103_3 := (HB.out.cell (World.block_lt_of_cell? w _ hx103_3)).trans hx103_3; replace hx103_4 := (HB.out.cell (World.block_lt_of_cell? w _ hx103_4)).trans hx103_4; replace hx103_5 := (HB.out.cell (World.block_lt_of_cell? w _ hx103_5)).trans hx103_5; replace hx103_6 := (HB.out.cell (World.block_lt_of_cell? w _ hx103_6)).trans hx103_6; replace hx103_7 := (HB.out.cell (World.block_lt_of_cell? w _ hx103_7)).trans hx103_7; replace hx103_8 := (HB.out.cell (World.block_lt_of_cell? w _ hx103_8)).trans hx103_8; replace p103 := eq_true p103; replace q103 := eq_true q103))
        go_ret
        exact ⟨by first | rfl | (simp [errW_none, errW_some] <;> rfl) | (simp [*, errW_none, errW_some] <;> rfl), by repeat (first | (with_reducible first | exact HB.out | apply below_alloc | apply pw_below_drewN | apply below_drew1 | refine below_set ?_ GE101.out) | exact HB.out)⟩
      · rw [if_neg c6] at H
        exact absurd H (by simp)
    · rw [if_neg c5] at H
      exact absurd H (by simp)
  · rw [if_neg c4] at H
    have c4b0 : decide (0 ≤ t102) = false := decide_eq_false c4
    clear c4
    obtain rfl := Option.some.inj H
    go_enter Tryd.func8, Tryd.ntmps8
    go_wp2_with (first | ((with_reducible refine gate_dst (N := 3) rfl ?_); refine box_event ?hg (N := 3) ?hd (cs := #[.int .u8 a1_0, .int .u8 a1_1, .int .u8 a1_2, .int .u8 a1_3, .string a1_4, .int .i64 a1_5]) (t := 28) ?hr ?_; (case hd => rfl); (case hg => rfl); (case hr => first | (go_simp; done) | (go_simp; rfl)); intro gb101 hg w10 hbox hb; have n0_ := Aside0.mk (below_step (by repeat (first | (with_reducible first | exact HB.out | apply below_alloc | apply pw_below_drewN | apply below_drew1) | exact HB.out)) hb); have n1_ := Aside0.mk (hbox); have n2_ := Aside0.mk ((by rw [hg]; exact (below_size (by repeat (first | (with_reducible first | exact HB.out | apply below_alloc | apply pw_below_drewN | apply below_drew1) | exact HB.out))) : w.heap.size ≤ gb101)); have n3_ := Aside0.mk ((by rw [hg]; exact (below_size (by repeat (first | (with_reducible first | exact HB.out | apply below_alloc | apply pw_below_drewN | apply below_drew1) | exact HB.out))) : w.heap.size ≤ gb101)); clear HB; have HB := n0_; have BK101 := n1_; have GW101 := n2_; have GE101 := n3_; clear n0_ n1_ n2_ n3_; clear hb hbox hg; have hcz11_0 : w10.cell? ⟨gb101, 0, none⟩ = some (.int .u8 a1_0) := (blk_cell BK101.out 0).trans rfl; have hcz11_1 : w10.cell? ⟨gb101, 1, none⟩ = some (.int .u8 a1_1) := (blk_cell BK101.out 1).trans rfl; have hcz11_2 : w10.cell? ⟨gb101, 2, none⟩ = some (.int .u8 a1_2) := (blk_cell BK101.out 2).trans rfl; have hcz11_3 : w10.cell? ⟨gb101, 3, none⟩ = some (.int .u8 a1_3) := (blk_cell BK101.out 3).trans rfl; have hcz11_4 : w10.cell? ⟨gb101, 4, none⟩ = some (.string a1_4) := (blk_cell BK101.out 4).trans rfl; have hcz11_5 : w10.cell? ⟨gb101, 5, none⟩ = some (.int .i64 a1_5) := (blk_cell BK101.out 5).trans rfl; have hfz11_0 := blk_frozen BK101.out 0; have hfz11_1 := blk_frozen BK101.out 1; have hfz11_2 := blk_frozen BK101.out 2; have hfz11_3 := blk_frozen BK101.out 3; have hfz11_4 := blk_frozen BK101.out 4; have hfz11_5 := blk_frozen BK101.out 5) | ((with_reducible refine gate_callee (f := 7) rfl ?_); refine goesL_ (some 8) rfl rfl Tryd.func7 (by kernel_rfl) rfl #[.slice A0 l0.length c0, .agg #[.int .u8 a1_0, .int .u8 a1_1, .int .u8 a1_2, .int .u8 a1_3, .string a1_4, .int .i64 a1_5]] rfl (by (try simp only [List.map_toArray, List.map_cons, List.map_nil]); first | done | rfl | (simp only [List.length_drop, List.length_take]; rfl)) ?_; (with_reducible refine (E.Which.calls _ _ l0 a1_0 a1_1 a1_2 a1_3 a1_4 a1_5 t102 _ ?side1 ?side2 ?side3 A3.out).mono ?_); (case side1 => repeat (first | exact (Kd.C_below HR0.out HB.out) | (with_reducible refine Kd.C_alloc ?_ _) | (with_reducible refine Kd.C_drewN ?_ _) | (with_reducible refine Kd.C_drew ?_))); (case side2 => exact HC0.out); (case side3 => exact StdW.below HS_.out (by repeat (first | (with_reducible first | exact HB.out | apply below_alloc | apply pw_below_drewN | apply below_drew1 | refine below_set ?_ GE101.out) | exact HB.out))); rintro e w12 ⟨rfl, hb⟩; refine ⟨_, rfl, ?_⟩; have n0_ := Aside0.mk (blk_below (g := gb101) (o := .cells #[.int .u8 a1_0, .int .u8 a1_1, .int .u8 a1_2, .int .u8 a1_3, .string a1_4, .int .i64 a1_5] 28 (0, 0)) (by (with_reducible repeat (first | refine blk_drewN ?_ _ | refine blk_drew ?_ | refine blk_alloc ?_ _)); exact BK101.out) hb); have n1_ := Aside0.mk (below_step (by repeat (first | (with_reducible first | exact HB.out | apply below_alloc | apply pw_below_drewN | apply below_drew1 | refine below_set ?_ GE101.out) | exact HB.out)) hb); clear BK101; clear HB; have BK101 := n0_; have HB := n1_; clear n0_ n1_; (try clear hb); (try clear hb2); (try clear hk); (try clear hi)))
    go_ret
    exact ⟨by first | rfl | (simp [errW_none, errW_some] <;> rfl) | (simp [*, errW_none, errW_some] <;> rfl), by repeat (first | (with_reducible first | exact HB.out | apply below_alloc | apply pw_below_drewN | apply below_drew1 | refine below_set ?_ GE101.out) | exact HB.out)⟩

end Go.Proofs.YteondnhokgmakaaDoor.XM

/- Printed by a program of this session's own (xprint.py) out of the translation. Lean checks it. -/
namespace Go.Proofs.YteondnhokgmakaaDoor.XM
open Go.Proofs.YteondnhokgmakaaDoor.XC
open Go.RowKit Go.Proofs.YteondnhokgmakaaDoorW.PrintWords Go.Proofs.YteondnhokgmakaaDoorW.PrintLast Go.Proofs.YteondnhokgmakaaDoorW.PrintMore
attribute [local go_sem] max2_int min2_int max_two min_two max_three min_three max_four min_four   -- for this text's walks alone
set_option linter.unusedVariables false
set_option linter.unusedSimpArgs false

end Go.Proofs.YteondnhokgmakaaDoor.XM

/- The chapter's example, walked. -/
namespace Go.Proofs.YteondnhokgmakaaDoor.E
open Go.RowKit Go.Proofs.YteondnhokgmakaaDoorW.PrintWords Go.Proofs.YteondnhokgmakaaDoorW.PrintLast Go.Proofs.YteondnhokgmakaaDoor.XC Go.Proofs.YteondnhokgmakaaDoor.XM
set_option linter.unusedVariables false
set_option linter.unusedSimpArgs false

def aexS : ByteArray := ⟨#[97, 46, 101, 120, 97, 109, 112, 108, 101, 46, 99, 111, 109]⟩
def exRules : List S33 := [⟨false, ⟨10, 0, 0, 0⟩, 8, ⟨#[]⟩, 1, 65535⟩, ⟨true, ⟨0, 0, 0, 0⟩, 0, exS, 443, 443⟩]
theorem may1 : policy_May.f exRules 0 0 0 0 aexS 443 = some true := by kernel_rfl
theorem may2 : policy_May.f exRules 0 0 0 0 exS 80 = some false := by kernel_rfl
theorem may3 : policy_May.f exRules 10 0 0 0 ⟨#[]⟩ 443 = some false := by kernel_rfl
def exCells : Array Value := #[.bool false, .int .u8 10, .int .u8 0, .int .u8 0, .int .u8 0, .int .i64 8, .string ⟨#[]⟩, .int .i64 1, .int .i64 65535, .bool true, .int .u8 0, .int .u8 0, .int .u8 0, .int .u8 0, .int .i64 0, .string exS, .int .i64 443, .int .i64 443]
theorem exRules_lie {w : World} {R : Nat} {T : TypeId} (h : Blk w R exCells T) : Kd.C k33 w (some ⟨R, 0, none⟩) exRules.length exRules := by
  refine ⟨rfl, by decide, fun _ => ⟨_, rfl, fun j p hj => ?_⟩⟩
  match j, hj with
  | 0, hj =>
    obtain rfl := Option.some.inj hj
    refine ⟨_, rfl, k33_mk w _, fun i u hu => ?_⟩
    match i, hu with
    | 0, hu => exact h.cell 0 _ hu
    | 1, hu => exact h.cell 1 _ hu
    | 2, hu => exact h.cell 2 _ hu
    | 3, hu => exact h.cell 3 _ hu
    | 4, hu => exact h.cell 4 _ hu
    | 5, hu => exact h.cell 5 _ hu
    | 6, hu => exact h.cell 6 _ hu
    | 7, hu => exact h.cell 7 _ hu
    | 8, hu => exact h.cell 8 _ hu
  | 1, hj =>
    obtain rfl := Option.some.inj hj
    refine ⟨_, rfl, k33_mk w _, fun i u hu => ?_⟩
    match i, hu with
    | 0, hu => exact h.cell 9 _ hu
    | 1, hu => exact h.cell 10 _ hu
    | 2, hu => exact h.cell 11 _ hu
    | 3, hu => exact h.cell 12 _ hu
    | 4, hu => exact h.cell 13 _ hu
    | 5, hu => exact h.cell 14 _ hu
    | 6, hu => exact h.cell 15 _ hu
    | 7, hu => exact h.cell 16 _ hu
    | 8, hu => exact h.cell 17 _ hu
theorem named_any (s : ByteArray) (po : Int) (w : World) : Calls Tryd.prog 13 #[.string s, .int .i64 po] w fun e w' => e = .returned (.agg #[.int .u8 0, .int .u8 0, .int .u8 0, .int .u8 0, .string s, .int .i64 po]) ∧ Below w.heap.size w w' := by
  go_enter Tryd.func13, Tryd.ntmps13
  go_wp2
  refine bodyPost_ret (v := .agg #[.int .u8 0, .int .u8 0, .int .u8 0, .int .u8 0, .string s, .int .i64 po]) (by simp [results, Tryd.results13, go_sem]) rfl ⟨rfl, ?_⟩
  trace_state
  exact below_alloc (Below.refl _ _) _
end Go.Proofs.YteondnhokgmakaaDoor.E

/- The chapter's example, walked: works. -/
namespace Go.Proofs.YteondnhokgmakaaDoor.E
open Go.RowKit Go.Proofs.YteondnhokgmakaaDoorW.PrintWords Go.Proofs.YteondnhokgmakaaDoorW.PrintLast Go.Proofs.YteondnhokgmakaaDoor.XC Go.Proofs.YteondnhokgmakaaDoor.XM
set_option linter.unusedVariables false
set_option linter.unusedSimpArgs false

set_option maxRecDepth 100000 in
set_option maxHeartbeats 8000000 in
theorem works_any (w : World) (hS : StdW w) : Calls Tryd.prog 6 #[] w fun e w' => e = .returned (.bool true) ∧ Below w.heap.size w w' := by
  have HS := Lib.hid hS
  clear hS
  have X1 := Lib.hid parse1
  have X2 := Lib.hid parse2
  have X3 := Lib.hid parse3
  have M1 := Lib.hid (fun W A0 h hS => policy_May.calls A0 2 exRules 0 0 0 0 aexS 443 true W h (Nat.le_refl _) hS may1)
  have M2 := Lib.hid (fun W A0 h hS => policy_May.calls A0 2 exRules 0 0 0 0 exS 80 false W h (Nat.le_refl _) hS may2)
  have M3 := Lib.hid (fun W A0 h hS => policy_May.calls A0 2 exRules 10 0 0 0 ⟨#[]⟩ 443 false W h (Nat.le_refl _) hS may3)
  unfold ruleT1 rc at X1
  unfold ruleT2 rc exS at X2
  unfold ruleT3 zeroRule rc at X3
  unfold aexS at M1
  unfold exS at M2
  have HL : exRules.length = 2 := rfl
  go_enter Tryd.func6, Tryd.ntmps6
  go_wp2_with (first | (go_at_call_of 11 (Value.string ⟨#[100, 101, 110, 121, 32, 49, 48, 46, 48, 46, 48, 46, 48, 47, 56, 32, 49, 45, 54, 53, 53, 51, 53]⟩); refine (X1.out _ HS.out).mono ?_; rintro e x1 ⟨rfl, hb1⟩; have HB1 := Lib.hid hb1; clear hb1) | (go_at_call_of 11 (Value.string ⟨#[97, 108, 108, 111, 119, 32, 101, 120, 97, 109, 112, 108, 101, 46, 99, 111, 109, 32, 52, 52, 51]⟩); refine (X2.out _ (StdW.below HS.out (below_alloc HB1.out _))).mono ?_; rintro e x2 ⟨rfl, hb2⟩; have HB2 := Lib.hid (below_then (below_alloc HB1.out _) (below_alloc HB1.out _).size hb2); have HR1 := Lib.hid ((Blk.new x1 (rc false 10 0 0 0 8 ⟨#[]⟩ 1 65535) 33).below hb2); clear hb2) | (go_at_call_of 11 (Value.string ⟨#[97, 108, 108, 111, 119, 32, 49, 48, 46, 48, 46, 48, 46, 49, 47, 56, 32, 56, 48]⟩); refine (X3.out _ (StdW.below HS.out (below_alloc HB2.out _))).mono ?_; rintro e x3 ⟨rfl, hb3⟩; have HB3 := Lib.hid (below_then (below_alloc HB2.out _) (below_alloc HB2.out _).size hb3); have HR2 : Hid (Blk x3 x2.heap.size (rc true 0 0 0 0 0 exS 443 443) 33) := Lib.hid ((Blk.new x2 (rc true 0 0 0 0 0 exS 443 443) 33).below hb3); have HR3 := Lib.hid ((HR1.out.old _).below hb3); have l1 := HR3.out.lt; have l2 := HR2.out.lt; obtain ⟨c0, c1, c2, c3, c4, c5, c6, c7, c8⟩ := HR3.out.nine; obtain ⟨d0, d1, d2, d3, d4, d5, d6, d7, d8⟩ := HR2.out.nine; clear hb3) | (go_at_call_of 13 (Value.string ⟨#[97, 46, 101, 120, 97, 109, 112, 108, 101, 46, 99, 111, 109]⟩); refine (named_any _ _ _).mono ?_; rintro e x4 ⟨rfl, hb4⟩; have HB4 := Lib.hid (below_then (below_alloc (below_alloc HB3.out _) _) (below_alloc (below_alloc HB3.out _) _).size hb4); have HC4 : Hid (Blk x4 (x3.heap.size + 1) exCells 33) := Lib.hid (by have hh := ((Blk.new (x3.alloc (.cells #[Value.bool false, Value.int .u8 0, Value.int .u8 0, Value.int .u8 0, Value.int .u8 0, Value.int .i64 0, Value.string ⟨#[]⟩, Value.int .i64 0, Value.int .i64 0] 33)) exCells 33).below hb4); rw [World.size_alloc] at hh; exact hh); clear hb4) | (go_at_call_of 8 (Value.string ⟨#[97, 46, 101, 120, 97, 109, 112, 108, 101, 46, 99, 111, 109]⟩); refine (M1.out x4 (some ⟨x3.heap.size + 1, 0, none⟩) (exRules_lie HC4.out) (StdW.below HS.out HB4.out)).mono ?_; rintro e x5 ⟨rfl, hb5⟩; have HB5 := Lib.hid (below_then HB4.out HB4.out.size hb5); have HC5 : Hid (Blk x5 (x3.heap.size + 1) exCells 33) := Lib.hid (HC4.out.below hb5); clear hb5) | (go_at_call_of 13 (Value.int .i64 80); refine (named_any _ _ _).mono ?_; rintro e x6 ⟨rfl, hb6⟩; have HB6 := Lib.hid (below_then HB5.out HB5.out.size hb6); have HC6 : Hid (Blk x6 (x3.heap.size + 1) exCells 33) := Lib.hid (HC5.out.below hb6); clear hb6) | (go_at_call_of 8 (Value.int .i64 80); refine (M2.out x6 (some ⟨x3.heap.size + 1, 0, none⟩) (exRules_lie HC6.out) (StdW.below HS.out HB6.out)).mono ?_; rintro e x7 ⟨rfl, hb7⟩; have HB7 := Lib.hid (below_then HB6.out HB6.out.size hb7); have HC7 : Hid (Blk x7 (x3.heap.size + 1) exCells 33) := Lib.hid (HC6.out.below hb7); clear hb7) | (go_at_call_of 8 (Value.int .u8 10); refine (M3.out x7 (some ⟨x3.heap.size + 1, 0, none⟩) (exRules_lie HC7.out) (StdW.below HS.out HB7.out)).mono ?_; rintro e x8 ⟨rfl, hb8⟩; have HB8 := Lib.hid (below_then HB7.out HB7.out.size hb8); have HC8 : Hid (Blk x8 (x3.heap.size + 1) exCells 33) := Lib.hid (HC7.out.below hb8); clear hb8))
  go_ret
  exact ⟨rfl, HB8.out⟩
def works.f : Option Bool := some true
theorem works.calls (r : Bool) (w : World) (hS_ : StdW w) (h : works.f = some r) : Calls Tryd.prog 6 #[] w fun e w' => e = .returned (.bool r) ∧ Below w.heap.size w w' := by
  obtain rfl := Option.some.inj h
  exact works_any w hS_
end Go.Proofs.YteondnhokgmakaaDoor.E

/- Printed by a program of this session's own (xprint.py) out of the translation. Lean checks it. -/
namespace Go.Proofs.YteondnhokgmakaaDoor.XZ
open Go.Proofs.YteondnhokgmakaaDoor.XC Go.Proofs.YteondnhokgmakaaDoor.XM
open Go.RowKit Go.Proofs.YteondnhokgmakaaDoorW.PrintWords Go.Proofs.YteondnhokgmakaaDoorW.PrintLast Go.Proofs.YteondnhokgmakaaDoorW.PrintMore
attribute [local go_sem] max2_int min2_int max_two min_two max_three min_three max_four min_four   -- for this text's walks alone
set_option linter.unusedVariables false
set_option linter.unusedSimpArgs false



theorem info22 : (Tryd.prog.info? 22).map (fun i => (i.zero, i.size, i.bytes)) = some (some (.slice none 0 0), 1, 24) := by kernel_rfl
theorem info33 : (Tryd.prog.info? 33).map (fun i => (i.zero, i.size, i.bytes)) = some (some (.agg #[(.bool false), (.int .u8 0), (.int .u8 0), (.int .u8 0), (.int .u8 0), (.int .i64 0), (.string ⟨#[]⟩), (.int .i64 0), (.int .i64 0)]), 9, 48) := by kernel_rfl
-- the values' own types
/-! #### struct type 24 -/
theorem k24_heap : Kd.Heap k24 := Kd.heap_iso _ (Kd.heap_pair (Kd.heap_int .u8) (Kd.heap_pair (Kd.heap_int .u8) (Kd.heap_pair (Kd.heap_int .u8) (Kd.heap_int .u8))))
theorem k24_mkF (W : World) (ok : Nat → Prop) (x : S24) : Kd.FK k24 W ok x [.int .u8 x.f0, .int .u8 x.f1, .int .u8 x.f2, .int .u8 x.f3] := fun W2 _ => k24_mk W2 x
/-! #### struct type 33 -/
theorem k33_heap : Kd.Heap k33 := Kd.heap_iso _ (Kd.heap_pair Kd.heap_bool (Kd.heap_pair k24_heap (Kd.heap_pair (Kd.heap_int .i64) (Kd.heap_pair Kd.heap_string (Kd.heap_pair (Kd.heap_int .i64) (Kd.heap_int .i64))))))
theorem k33_mkF (W : World) (ok : Nat → Prop) (x : S33) : Kd.FK k33 W ok x [.bool x.f0, .int .u8 x.f1.f0, .int .u8 x.f1.f1, .int .u8 x.f1.f2, .int .u8 x.f1.f3, .int .i64 x.f2, .string x.f3, .int .i64 x.f4, .int .i64 x.f5] := fun W2 _ => k33_mk W2 x
/-! #### struct type 26 -/
theorem k26_heap : Kd.Heap k26 := Kd.heap_iso _ (Kd.heap_pair k24_heap Kd.heap_string)
theorem k26_mkF (W : World) (ok : Nat → Prop) (x : S26) : Kd.FK k26 W ok x [.int .u8 x.f0.f0, .int .u8 x.f0.f1, .int .u8 x.f0.f2, .int .u8 x.f0.f3, .string x.f1] := fun W2 _ => k26_mk W2 x
/-! #### struct type 28 -/
theorem k28_heap : Kd.Heap k28 := Kd.heap_iso _ (Kd.heap_pair k26_heap (Kd.heap_int .i64))
theorem k28_mkF (W : World) (ok : Nat → Prop) (x : S28) : Kd.FK k28 W ok x [.int .u8 x.f0.f0.f0, .int .u8 x.f0.f0.f1, .int .u8 x.f0.f0.f2, .int .u8 x.f0.f0.f3, .string x.f0.f1, .int .i64 x.f1] := fun W2 _ => k28_mk W2 x
def rd_L8 (xs : List (List S33)) (i : Int) : (List S33) := xs.getD i.toNat ([] : List S33)
theorem at_L8 {w : World} {A : Option Addr} {n : Nat} {xs : List (List S33)} (h : Kd.C (Kd.slice 33 k33) w A n xs) (i : Int) (h0 : 0 ≤ i) (h1 : i < n) : ∃ ad A0 c0, A = some ad ∧ w.cell? (ad.add i.toNat) = some (.slice A0 (rd_L8 xs i).length c0) ∧ (rd_L8 xs i).length ≤ c0 ∧ k33.C w A0 (rd_L8 xs i).length (rd_L8 xs i) := by
  obtain ⟨ad, c, e, _, hK, hc0⟩ := Kd.C_get h ([] : List S33) i h0 h1
  have hc : ∀ j u, c[j]? = some u → w.cell? (ad.add (i.toNat * 1 + j)) = some u := hc0
  obtain ⟨A0, c0, rfl, l0, g0⟩ := hK
  exact ⟨ad, A0, c0, e, by have hq := hc 0 _ rfl; rwa [Nat.mul_one, Nat.add_zero] at hq, l0, g0⟩

end Go.Proofs.YteondnhokgmakaaDoor.XZ

/- Printed by a program of this session's own (xprint.py) out of the translation. Lean checks it. -/
namespace Go.Proofs.YteondnhokgmakaaDoor.XZ
open Go.Proofs.YteondnhokgmakaaDoor.XC Go.Proofs.YteondnhokgmakaaDoor.XM
open Go.RowKit Go.Proofs.YteondnhokgmakaaDoorW.PrintWords Go.Proofs.YteondnhokgmakaaDoorW.PrintLast Go.Proofs.YteondnhokgmakaaDoorW.PrintMore
attribute [local go_sem] max2_int min2_int max_two min_two max_three min_three max_four min_four   -- for this text's walks alone
set_option linter.unusedVariables false
set_option linter.unusedSimpArgs false

-- given: function 6 (sallyportlaw12_works)

-- given: function 7 (policy_Which)

-- given: function 8 (policy_May)

-- given: function 14 (policy_Check)

/-! ### policy_Put: function 9 -/
mutual
def policy_Put.l0 : Nat → List (S33) → Int → List (S33) → List (List (S33)) → Int → Int → Option ((List (S33)) × Int)
  | 0, _, _, _, _, _, _ => none
  | k + 1, x0, x1, x2, x14, x15, x16 => if x16 < x15 then (if 0 ≤ x16 then (if x16 < (x14.length : Int) then ((XC.policy_Check.f k (rd_L8 x14 x16)).bind fun t105 => (if t105 = 0 then (policy_Put.l0 k x0 x1 x2 x14 x15 (wrap64 (x16 + 1))) else (some (([] : List (S33)), t105)))) else (none)) else (none)) else (if x1 < 0 then (policy_Put.j1 k x0 x1 x2 true) else (policy_Put.j1 k x0 x1 x2 (decide (x1 > (x0.length : Int)))))
def policy_Put.j1 : Nat → List (S33) → Int → List (S33) → Bool → Option ((List (S33)) × Int)
  | 0, _, _, _, _ => none
  | k + 1, x0, x1, x2, x26 => if x26 = true then (some (([] : List (S33)), 2)) else (if (wrap64 ((x0.length : Int) + (x2.length : Int))) > 64 then (some (([] : List (S33)), 3)) else ((some (([] : List (S33)) : List (S33))).bind fun y106 => (if 0 ≤ x1 then (if x1 ≤ (x0.length : Int) then ((some (x0.take (x1 : Int).toNat : List (S33))).bind fun y109 => (if y106.length + y109.length < 2932031007402 then ((some (y106 ++ y109 : List (S33))).bind fun y114 => (if y114.length + x2.length < 2932031007402 then ((some (y114 ++ x2 : List (S33))).bind fun y117 => ((some (x0.drop (x1 : Int).toNat : List (S33))).bind fun y120 => (if y117.length + y120.length < 2932031007402 then (some ((y117 ++ y120), 0)) else (none)))) else (none))) else (none))) else (none)) else (none))))
end
def policy_Put.f (k : Nat) (l0 : List (S33)) (a1 : Int) (l2 : List (S33)) : Option ((List (S33)) × Int) := (some (([l0, l2] : List (List (S33))) : List (List (S33)))).bind fun y101 => (policy_Put.l0 k l0 a1 l2 y101 (y101.length : Int) 0)
theorem policy_Put.mono_l : ∀ k, (∀ y0 y1 y2 y3 y4 y5, LeO (policy_Put.l0 k y0 y1 y2 y3 y4 y5) (policy_Put.l0 (k + 1) y0 y1 y2 y3 y4 y5)) ∧ (∀ y0 y1 y2 y3, LeO (policy_Put.j1 k y0 y1 y2 y3) (policy_Put.j1 (k + 1) y0 y1 y2 y3))
  | 0 => ⟨fun _ _ _ _ _ _ r h => by simp [policy_Put.l0] at h, fun _ _ _ _ r h => by simp [policy_Put.j1] at h⟩
  | k + 1 => by
    obtain ⟨ih0, ih1⟩ := policy_Put.mono_l k
    refine ⟨?_, ?_⟩
    · intro y0 y1 y2 y3 y4 y5
      unfold policy_Put.l0
      repeat' first
      | (with_reducible exact ih0 _ _ _ _ _ _)
      | (with_reducible exact ih1 _ _ _ _)
      | (with_reducible exact XC.policy_Check.mono _ _)
      | (with_reducible exact LeO.refl _)
      | (with_reducible exact LeO.none _)
      | (with_reducible refine LeO.ite ?_ ?_)
      | (with_reducible refine LeO.bind ?_ (fun _ => ?_))
      | exact ih0 _ _ _ _ _ _
      | exact ih1 _ _ _ _
      | exact XC.policy_Check.mono _ _
      | exact LeO.none _
      | refine LeO.ite ?_ ?_
      | refine LeO.bind ?_ (fun _ => ?_)
    · intro y0 y1 y2 y3
      unfold policy_Put.j1
      repeat' first
      | (with_reducible exact ih0 _ _ _ _ _ _)
      | (with_reducible exact ih1 _ _ _ _)
      | (with_reducible exact XC.policy_Check.mono _ _)
      | (with_reducible exact LeO.refl _)
      | (with_reducible exact LeO.none _)
      | (with_reducible refine LeO.ite ?_ ?_)
      | (with_reducible refine LeO.bind ?_ (fun _ => ?_))
      | exact ih0 _ _ _ _ _ _
      | exact ih1 _ _ _ _
      | exact XC.policy_Check.mono _ _
      | exact LeO.none _
      | refine LeO.ite ?_ ?_
      | refine LeO.bind ?_ (fun _ => ?_)
theorem policy_Put.mono : ∀ a0 a1 a2 k, LeO (policy_Put.f k a0 a1 a2) (policy_Put.f (k + 1) a0 a1 a2) := by
  intro a0 a1 a2 k
  obtain ⟨ih0, ih1⟩ := policy_Put.mono_l k
  unfold policy_Put.f
  repeat' first
      | (with_reducible exact ih0 _ _ _ _ _ _)
      | (with_reducible exact ih1 _ _ _ _)
      | (with_reducible exact XC.policy_Check.mono _ _)
      | (with_reducible exact LeO.refl _)
      | (with_reducible exact LeO.none _)
      | (with_reducible refine LeO.ite ?_ ?_)
      | (with_reducible refine LeO.bind ?_ (fun _ => ?_))
      | exact ih0 _ _ _ _ _ _
      | exact ih1 _ _ _ _
      | exact XC.policy_Check.mono _ _
      | exact LeO.none _
      | refine LeO.ite ?_ ?_
      | refine LeO.bind ?_ (fun _ => ?_)
set_option maxHeartbeats 8000000 in
set_option maxRecDepth 100000 in
theorem policy_Put.calls (k : Nat) (P0_ : Nat → Prop) (A0 : Option Addr) (c0 : Nat) (l0 : List (S33)) (a1 : Int) (P2_ : Nat → Prop) (A2 : Option Addr) (c2 : Nat) (l2 : List (S33)) (r1 : List (S33)) (r2 : Int) (w : World) (hs0 : Kd.V k33 33 w w.heap.size (fun k_ => P0_ k_) (.slice A0 l0.length c0) l0) (hs2 : Kd.V k33 33 w w.heap.size (fun k_ => P2_ k_) (.slice A2 l2.length c2) l2) (hS_ : StdW w) (h : policy_Put.f k l0 a1 l2 = some (r1, r2)) :
    Calls Tryd.prog 9 #[.slice A0 l0.length c0, .int .i64 a1, .slice A2 l2.length c2] w fun e w' => ∃ v0_ : Value, e = .returned (.tuple #[v0_, .int .i64 r2]) ∧ Kd.R k33 33 w' w.heap.size (fun k_ => (w.heap.size ≤ k_)) v0_ r1 ∧ Below w.heap.size w w' := by
  have HO0 := Aside0.mk (show Kd.V k33 33 w w.heap.size (fun k_ => ((P0_ k_ ∨ P2_ k_) ∨ w.heap.size ≤ k_)) (.slice A0 l0.length c0) l0 from Kd.V_mono hs0 (fun k_ hk => .inl (.inl hk)))
  have HO2 := Aside0.mk (show Kd.V k33 33 w w.heap.size (fun k_ => ((P0_ k_ ∨ P2_ k_) ∨ w.heap.size ≤ k_)) (.slice A2 l2.length c2) l2 from Kd.V_mono hs2 (fun k_ hk => .inl (.inr hk)))
  have HS_ := Aside0.mk hS_
  clear hS_
  have HB := Aside0.mk (Below.refl w.heap.size w)
  have H : ((some (([l0, l2] : List (List (S33))) : List (List (S33)))).bind fun y101 => (policy_Put.l0 k l0 a1 l2 y101 (y101.length : Int) 0)) = some (r1, r2) := h
  clear h
  obtain ⟨y101, hy101⟩ : ∃ y_ : List (List (S33)), y_ = (([l0, l2] : List (List (S33)))) := ⟨_, rfl⟩
  replace H : (policy_Put.l0 k l0 a1 l2 y101 (y101.length : Int) 0) = some (r1, r2) := by first | (rw [hy101]; with_reducible exact H) | (have H2_ := (Option.bind_some _ _).symm.trans H; rw [hy101]; with_reducible exact H2_) | (have H2_ := (Option.bind_some _ _).symm.trans H; with_reducible exact H2_) | with_reducible exact H | (rw [hy101]; exact H) | exact H
  have Ny101 := Aside0.mk hy101
  clear hy101
  have H' := Aside0.mk H
  clear H
  go_enter Tryd.func9, Tryd.ntmps9
  go_wp2_with (first | ((with_reducible refine gate_dst (N := 14) rfl ?_); (try (refine gate_guard (by rfl) ?_; dsimp only)); refine Kd.N_lit (Kd.slice 33 k33) _ 22 ?hg (N' := 14) ?hd (xs := ([l0, l2] : List (List (S33)))) (inner := [.slice A0 l0.length c0, .slice A2 l2.length c2]) (ok := (fun k_ => ((P0_ k_ ∨ P2_ k_) ∨ w.heap.size ≤ k_))) (okp := (fun k_ => ((P0_ k_ ∨ P2_ k_) ∨ w.heap.size ≤ k_))) ?hr ?hp (fun _ hk => hk) ((show ∀ k_, w.heap.size ≤ k_ → (fun k_ => ((P0_ k_ ∨ P2_ k_) ∨ w.heap.size ≤ k_)) k_ from fun k_ hk => (.inr (Nat.le_trans (below_size (by repeat (first | (with_reducible first | exact HB.out | apply below_alloc | apply pw_below_drewN | apply below_drew1) | exact HB.out))) hk))) _ (Nat.le_refl _)) (Below.refl _ _) (Nat.le_refl _) (by simp) ?_; (case hd => rfl); (case hg => rfl); (case hr => first | (go_simp; done) | (go_simp; rfl)); (case hp => exact (Reps.one (show Kd.FK (Kd.slice 33 k33) _ _ l0 [.slice A0 l0.length c0] from (Kd.FK_slice_mk (Kd.V_reads' (Kd.V_mono (ok' := (fun k_ => ((P0_ k_ ∨ P2_ k_) ∨ w.heap.size ≤ k_))) (HO0.out) (fun k_ hk => hk))).2.1 (Kd.V_F (Kd.V_mono (ok' := (fun k_ => ((P0_ k_ ∨ P2_ k_) ∨ w.heap.size ≤ k_))) (HO0.out) (fun k_ hk => hk))))) (Reps.one (show Kd.FK (Kd.slice 33 k33) _ _ l2 [.slice A2 l2.length c2] from (Kd.FK_slice_mk (Kd.V_reads' (Kd.V_mono (ok' := (fun k_ => ((P0_ k_ ∨ P2_ k_) ∨ w.heap.size ≤ k_))) (HO2.out) (fun k_ hk => hk))).2.1 (Kd.V_F (Kd.V_mono (ok' := (fun k_ => ((P0_ k_ ∨ P2_ k_) ∨ w.heap.size ≤ k_))) (HO2.out) (fun k_ hk => hk))))) (Reps.none _ _)))); intro v102 w4 ho5 hb hg_ hnew_; clear hg_ hnew_; (first | rw [← Ny101.out] at ho5 | (simp only [Int.reduceToNat] at ho5; rw [← Ny101.out] at ho5)); have n0_ := Aside0.mk (Kd.V_elder' (by (with_reducible repeat (first | apply Kd.V_alloc | apply Kd.V_drewN | apply Kd.V_drew)); exact HO0.out) (Kd.N_base ho5) hb); have n1_ := Aside0.mk (Kd.V_elder' (by (with_reducible repeat (first | apply Kd.V_alloc | apply Kd.V_drewN | apply Kd.V_drew)); exact HO2.out) (Kd.N_base ho5) hb); have n2_ := Aside0.mk (Kd.N_lower ho5 (below_size (by repeat (first | (with_reducible first | exact HB.out | apply below_alloc | apply pw_below_drewN | apply below_drew1) | exact HB.out)))); have n3_ := Aside0.mk (below_step (by repeat (first | (with_reducible first | exact HB.out | apply below_alloc | apply pw_below_drewN | apply below_drew1) | exact HB.out)) hb); clear HO0; clear HO2; clear HB; have HO0 := n0_; have HO2 := n1_; have HO103 := n2_; have HB := n3_; clear n0_ n1_ n2_ n3_; clear hb ho5; obtain ⟨Ao6, co6, eo6⟩ := Kd.N_slice HO103.out; subst eo6))
  go_loopg [16] k (fun kq v16 w' => ∃ (x16_1 : Int), v16 = .int .i64 x16_1 ∧ Aside0 (policy_Put.l0 kq l0 a1 l2 y101 (y101.length : Int) x16_1 = some (r1, r2)) ∧ Aside0 (kq ≤ k) ∧ Aside0 (Kd.V k33 33 w' w.heap.size (fun k_ => ((P0_ k_ ∨ P2_ k_) ∨ w.heap.size ≤ k_) ∧ some k_ ≠ ((.slice Ao6 y101.length co6) : Value).ownBlock) (.slice A0 l0.length c0) l0) ∧ Aside0 (Kd.V k33 33 w' w.heap.size (fun k_ => ((P0_ k_ ∨ P2_ k_) ∨ w.heap.size ≤ k_) ∧ some k_ ≠ ((.slice Ao6 y101.length co6) : Value).ownBlock) (.slice A2 l2.length c2) l2) ∧ Aside0 (Kd.N (Kd.slice 33 k33) 22 w' w.heap.size (fun k_ => ((P0_ k_ ∨ P2_ k_) ∨ w.heap.size ≤ k_)) (.slice Ao6 y101.length co6) y101) ∧ Aside0 (Below w.heap.size w w'))
  case atStart => exact ⟨(0), (by first | rfl | (simp; done) | (simp [*]; done)), H', ⟨Nat.le_refl _⟩, ⟨by (with_reducible repeat (first | apply Kd.V_alloc | apply Kd.V_drewN | apply Kd.V_drew)); exact HO0.out⟩, ⟨by (with_reducible repeat (first | apply Kd.V_alloc | apply Kd.V_drewN | apply Kd.V_drew)); exact HO2.out⟩, ⟨by (with_reducible repeat (first | apply Kd.N_alloc | apply Kd.N_drewN | apply Kd.N_drew)); exact HO103.out⟩, ⟨by repeat (first | (with_reducible first | exact HB.out | apply below_alloc | apply pw_below_drewN | apply below_drew1) | exact HB.out)⟩⟩
  case round =>
    clear H'
    try clear c2
    try clear p2
    obtain ⟨x16_1, rfl, HA, HK1, HO_0, HO_2, HO_14, HB⟩ := hrel
    cases gk with
    | zero => exact absurd HA.out (by simp [policy_Put.l0])
    | succ k1 =>
      have H := HA.out
      clear HA
      simp only [policy_Put.l0] at H
      by_cases c7 : x16_1 < (y101.length : Int)
      · rw [if_pos c7] at H
        have c7b0 : decide (x16_1 < (y101.length : Int)) = true := decide_eq_true c7
        clear c7
        by_cases c8 : 0 ≤ x16_1
        · rw [if_pos c8] at H
          have c8b0 : decide (0 ≤ x16_1) = true := decide_eq_true c8
          clear c8
          by_cases c9 : x16_1 < (y101.length : Int)
          · rw [if_pos c9] at H
            have c9b0 : decide (x16_1 < (y101.length : Int)) = true := decide_eq_true c9
            clear c9
            replace H := Option.bind_eq_some_iff.mp H
            obtain ⟨t105, A100, H⟩ := H
            replace H : (if t105 = 0 then (policy_Put.l0 k1 l0 a1 l2 y101 (y101.length : Int) (wrap64 (x16_1 + 1))) else (some (([] : List (S33)), t105))) = some (r1, r2) := H
            have A10 := Aside0.mk A100
            clear A100
            by_cases c11 : t105 = 0
            · rw [if_pos c11] at H
              have c11b0 : (t105 == 0) = true := beq_iff_eq.mpr c11
              have c11b1 : (t105 != 0) = false := bne_eq_false_iff_eq.mpr c11
              clear c11
              have H' := Aside0.mk H
              clear H
              have p104 : 0 ≤ (x16_1 : Int) := of_decide_eq_true (by first | (with_reducible assumption) | assumption)
              have q104 : x16_1 < (y101.length : Int) := of_decide_eq_true (by first | (with_reducible assumption) | assumption)
              obtain ⟨ad104, A104_0, c104_0, e104, hx104_0, hl104_0, hi104_0⟩ := at_L8 (Kd.N_reads' HO_14.out).2.2 x16_1 p104 q104
              cases e104
              obtain ⟨ce104, hce104, hMe104, hcc104⟩ := Kd.N_get HO_14.out [] x16_1 p104 (by first | exact q104 | exact of_decide_eq_true (by first | (with_reducible assumption) | assumption) | (have e_ := (Kd.N_reads' HO_14.out).1; omega))
              obtain ⟨ua104_0, uc104_0, rfl, ul104_0, ge104_0⟩ := Kd.FK_slice_open hMe104
              have hv104_0 := hcc104 0 _ rfl
              rw [Nat.add_zero, show ((Kd.slice 33 k33)).sz = 1 from rfl, Nat.mul_one] at hv104_0
              replace hv104_0 := Option.some.inj (hv104_0.symm.trans hx104_0)
              injection hv104_0 with hva_ hvn_ hvc_
              rw [hva_] at ge104_0
              rw [hvc_] at ul104_0
              have HL104_0 := Aside0.mk (show Kd.V k33 33 _ w.heap.size _ _ (rd_L8 y101 x16_1) from Kd.V_mk ul104_0 ge104_0)
              clear hva_ hvn_ hvc_ ge104_0 ul104_0
              clear hcc104 hce104
              have HR104_0 := Aside0.mk hi104_0
              have HC104_0 := Aside0.mk hl104_0
              clear hi104_0 hl104_0
              replace p104 := eq_true p104
              replace q104 := eq_true q104
              go_wp2_with (first | ((with_reducible refine gate_callee (f := 14) rfl ?_); refine goesL_ (some 21) rfl rfl Tryd.func14 (by kernel_rfl) rfl #[.slice A104_0 (rd_L8 y101 x16_1).length c104_0] rfl (by (try simp only [List.map_toArray, List.map_cons, List.map_nil]); first | done | rfl | (simp only [List.length_drop, List.length_take]; rfl)) ?_; (with_reducible refine (XC.policy_Check.calls k1 _ _ (rd_L8 y101 x16_1) t105 _ ?side1 ?side2 ?side3 A10.out).mono ?_); (case side1 => repeat (first | exact (by repeat (first | (with_reducible exact HR104_0.out) | (with_reducible refine Kd.C_alloc ?_ _) | (with_reducible refine Kd.C_drewN ?_ _) | (with_reducible refine Kd.C_drew ?_) | exact HR104_0.out)) | (with_reducible refine Kd.C_alloc ?_ _) | (with_reducible refine Kd.C_drewN ?_ _) | (with_reducible refine Kd.C_drew ?_))); (case side2 => exact HC104_0.out); (case side3 => exact StdW.below HS_.out (by repeat (first | (with_reducible first | exact HB.out | apply below_alloc | apply pw_below_drewN | apply below_drew1) | exact HB.out))); rintro e w12 ⟨rfl, hb⟩; refine ⟨_, rfl, ?_⟩; have n0_ := Aside0.mk (Kd.V_below (by (with_reducible repeat (first | apply Kd.V_alloc | apply Kd.V_drewN | apply Kd.V_drew)); exact HO_0.out) hb); have n1_ := Aside0.mk (Kd.V_below (by (with_reducible repeat (first | apply Kd.V_alloc | apply Kd.V_drewN | apply Kd.V_drew)); exact HO_2.out) hb); have n2_ := Aside0.mk (Kd.N_below (by (with_reducible repeat (first | apply Kd.N_alloc | apply Kd.N_drewN | apply Kd.N_drew)); exact HO_14.out) hb); have n3_ := Aside0.mk (Kd.V_below (by (with_reducible repeat (first | apply Kd.V_alloc | apply Kd.V_drewN | apply Kd.V_drew)); exact HL104_0.out) hb); have n4_ := Aside0.mk (Kd.C_below (by repeat (first | (with_reducible exact HR104_0.out) | (with_reducible refine Kd.C_alloc ?_ _) | (with_reducible refine Kd.C_drewN ?_ _) | (with_reducible refine Kd.C_drew ?_) | exact HR104_0.out)) hb); have n5_ := Aside0.mk (below_step (by repeat (first | (with_reducible first | exact HB.out | apply below_alloc | apply pw_below_drewN | apply below_drew1) | exact HB.out)) hb); clear HO_0; clear HO_2; clear HO_14; clear HL104_0; clear HR104_0; clear HB; have HO_0 := n0_; have HO_2 := n1_; have HO_14 := n2_; have HL104_0 := n3_; have HR104_0 := n4_; have HB := n5_; clear n0_ n1_ n2_ n3_ n4_ n5_; (try clear hb); (try clear hb2); (try clear hk); (try clear hi)))
              go_roundg k1
              case measure => have := HK1.out; omega
              case rel => exact ⟨(wrap64 (x16_1 + 1)), (by first | rfl | (simp; done) | (simp [*]; done)), H', ⟨by have := HK1.out; omega⟩, ⟨by (with_reducible repeat (first | apply Kd.V_alloc | apply Kd.V_drewN | apply Kd.V_drew)); exact HO_0.out⟩, ⟨by (with_reducible repeat (first | apply Kd.V_alloc | apply Kd.V_drewN | apply Kd.V_drew)); exact HO_2.out⟩, ⟨by (with_reducible repeat (first | apply Kd.N_alloc | apply Kd.N_drewN | apply Kd.N_drew)); exact HO_14.out⟩, ⟨by repeat (first | (with_reducible first | exact HB.out | apply below_alloc | apply pw_below_drewN | apply below_drew1) | exact HB.out)⟩⟩
            · rw [if_neg c11] at H
              have c11b0 : (t105 == 0) = false := beq_eq_false_iff_ne.mpr c11
              have c11b1 : (t105 != 0) = true := bne_iff_ne.mpr c11
              simp only [Option.some.injEq, Prod.mk.injEq] at H
              obtain ⟨rfl, rfl⟩ := H
              have p104 : 0 ≤ (x16_1 : Int) := of_decide_eq_true (by first | (with_reducible assumption) | assumption)
              have q104 : x16_1 < (y101.length : Int) := of_decide_eq_true (by first | (with_reducible assumption) | assumption)
              obtain ⟨ad104, A104_0, c104_0, e104, hx104_0, hl104_0, hi104_0⟩ := at_L8 (Kd.N_reads' HO_14.out).2.2 x16_1 p104 q104
              cases e104
              obtain ⟨ce104, hce104, hMe104, hcc104⟩ := Kd.N_get HO_14.out [] x16_1 p104 (by first | exact q104 | exact of_decide_eq_true (by first | (with_reducible assumption) | assumption) | (have e_ := (Kd.N_reads' HO_14.out).1; omega))
              obtain ⟨ua104_0, uc104_0, rfl, ul104_0, ge104_0⟩ := Kd.FK_slice_open hMe104
              have hv104_0 := hcc104 0 _ rfl
              rw [Nat.add_zero, show ((Kd.slice 33 k33)).sz = 1 from rfl, Nat.mul_one] at hv104_0
              replace hv104_0 := Option.some.inj (hv104_0.symm.trans hx104_0)
              injection hv104_0 with hva_ hvn_ hvc_
              rw [hva_] at ge104_0
              rw [hvc_] at ul104_0
              have HL104_0 := Aside0.mk (show Kd.V k33 33 _ w.heap.size _ _ (rd_L8 y101 x16_1) from Kd.V_mk ul104_0 ge104_0)
              clear hva_ hvn_ hvc_ ge104_0 ul104_0
              clear hcc104 hce104
              have HR104_0 := Aside0.mk hi104_0
              have HC104_0 := Aside0.mk hl104_0
              clear hi104_0 hl104_0
              replace p104 := eq_true p104
              replace q104 := eq_true q104
              go_wp2_with (first | ((with_reducible refine gate_callee (f := 14) rfl ?_); refine goesL_ (some 21) rfl rfl Tryd.func14 (by kernel_rfl) rfl #[.slice A104_0 (rd_L8 y101 x16_1).length c104_0] rfl (by (try simp only [List.map_toArray, List.map_cons, List.map_nil]); first | done | rfl | (simp only [List.length_drop, List.length_take]; rfl)) ?_; (with_reducible refine (XC.policy_Check.calls k1 _ _ (rd_L8 y101 x16_1) t105 _ ?side1 ?side2 ?side3 A10.out).mono ?_); (case side1 => repeat (first | exact (by repeat (first | (with_reducible exact HR104_0.out) | (with_reducible refine Kd.C_alloc ?_ _) | (with_reducible refine Kd.C_drewN ?_ _) | (with_reducible refine Kd.C_drew ?_) | exact HR104_0.out)) | (with_reducible refine Kd.C_alloc ?_ _) | (with_reducible refine Kd.C_drewN ?_ _) | (with_reducible refine Kd.C_drew ?_))); (case side2 => exact HC104_0.out); (case side3 => exact StdW.below HS_.out (by repeat (first | (with_reducible first | exact HB.out | apply below_alloc | apply pw_below_drewN | apply below_drew1) | exact HB.out))); rintro e w13 ⟨rfl, hb⟩; refine ⟨_, rfl, ?_⟩; have n0_ := Aside0.mk (Kd.V_below (by (with_reducible repeat (first | apply Kd.V_alloc | apply Kd.V_drewN | apply Kd.V_drew)); exact HO_0.out) hb); have n1_ := Aside0.mk (Kd.V_below (by (with_reducible repeat (first | apply Kd.V_alloc | apply Kd.V_drewN | apply Kd.V_drew)); exact HO_2.out) hb); have n2_ := Aside0.mk (Kd.N_below (by (with_reducible repeat (first | apply Kd.N_alloc | apply Kd.N_drewN | apply Kd.N_drew)); exact HO_14.out) hb); have n3_ := Aside0.mk (Kd.V_below (by (with_reducible repeat (first | apply Kd.V_alloc | apply Kd.V_drewN | apply Kd.V_drew)); exact HL104_0.out) hb); have n4_ := Aside0.mk (Kd.C_below (by repeat (first | (with_reducible exact HR104_0.out) | (with_reducible refine Kd.C_alloc ?_ _) | (with_reducible refine Kd.C_drewN ?_ _) | (with_reducible refine Kd.C_drew ?_) | exact HR104_0.out)) hb); have n5_ := Aside0.mk (below_step (by repeat (first | (with_reducible first | exact HB.out | apply below_alloc | apply pw_below_drewN | apply below_drew1) | exact HB.out)) hb); clear HO_0; clear HO_2; clear HO_14; clear HL104_0; clear HR104_0; clear HB; have HO_0 := n0_; have HO_2 := n1_; have HO_14 := n2_; have HL104_0 := n3_; have HR104_0 := n4_; have HB := n5_; clear n0_ n1_ n2_ n3_ n4_ n5_; (try clear hb); (try clear hb2); (try clear hk); (try clear hi)))
              go_ret2
              exact ⟨_, by first | rfl | (simp [errW_none, errW_some] <;> rfl) | (simp [*, errW_none, errW_some] <;> rfl), by first | exact Kd.R_nil _ _ _ _ _ | exact Kd.N_nil _ _ _ _ _ | exact Kd.V_nil _ _ _ _ _ | exact Kd.Q_nil _ _ _ _ _ | exact Kd.S_nil _ _ _ _ _, by repeat (first | (with_reducible first | exact HB.out | apply below_alloc | apply pw_below_drewN | apply below_drew1) | exact HB.out)⟩
          · rw [if_neg c9] at H
            exact absurd H (by simp)
        · rw [if_neg c8] at H
          exact absurd H (by simp)
      · rw [if_neg c7] at H
        have c7b0 : decide (x16_1 < (y101.length : Int)) = false := decide_eq_false c7
        clear c7
        have HC14 := Aside0.mk H
        clear H
        go_upto_region 8 with (fail)
        go_cut [26] (fun v26 wc => ∃ (kq : Nat) (x26_13 : Bool), v26 = .bool x26_13 ∧ Aside0 (policy_Put.j1 kq l0 a1 l2 x26_13 = some (r1, r2)) ∧ Aside0 (kq ≤ k1) ∧ Aside0 (Kd.V k33 33 wc w.heap.size (fun k_ => ((P0_ k_ ∨ P2_ k_) ∨ w.heap.size ≤ k_)) (.slice A0 l0.length c0) l0) ∧ Aside0 (Kd.V k33 33 wc w.heap.size (fun k_ => ((P0_ k_ ∨ P2_ k_) ∨ w.heap.size ≤ k_)) (.slice A2 l2.length c2) l2) ∧ Aside0 (Below w.heap.size w wc))
        case first =>
          have H := HC14.out
          clear HC14
          by_cases c15 : a1 < 0
          · rw [if_pos c15] at H
            have c15b0 : decide (a1 < 0) = true := decide_eq_true c15
            clear c15
            (first | rw [c15b0] | (simp only [i64_w, i32_w]; rw [c15b0]) | skip)
            have H' := Aside0.mk H
            clear H
            go_wp2
            go_meet
            case rel => exact ⟨_, (true), (by first | rfl | (simp; done) | (simp [*]; done)), H', ⟨by have := HK1.out; first | omega | exact Nat.le_refl _⟩, ⟨by (with_reducible repeat (first | apply Kd.V_alloc | apply Kd.V_drewN | apply Kd.V_drew)); exact Kd.V_mono HO_0.out (fun _ hk => hk.1)⟩, ⟨by (with_reducible repeat (first | apply Kd.V_alloc | apply Kd.V_drewN | apply Kd.V_drew)); exact Kd.V_mono HO_2.out (fun _ hk => hk.1)⟩, ⟨by repeat (first | (with_reducible first | exact HB.out | apply below_alloc | apply pw_below_drewN | apply below_drew1) | exact HB.out)⟩⟩
          · rw [if_neg c15] at H
            have c15b0 : decide (a1 < 0) = false := decide_eq_false c15
            clear c15
            (first | rw [c15b0] | (simp only [i64_w, i32_w]; rw [c15b0]) | skip)
            have H' := Aside0.mk H
            clear H
            go_wp2
            go_meet
            case rel => exact ⟨_, (decide (a1 > (l0.length : Int))), (by first | rfl | (simp; done) | (simp [*]; done)), H', ⟨by have := HK1.out; first | omega | exact Nat.le_refl _⟩, ⟨by (with_reducible repeat (first | apply Kd.V_alloc | apply Kd.V_drewN | apply Kd.V_drew)); exact Kd.V_mono HO_0.out (fun _ hk => hk.1)⟩, ⟨by (with_reducible repeat (first | apply Kd.V_alloc | apply Kd.V_drewN | apply Kd.V_drew)); exact Kd.V_mono HO_2.out (fun _ hk => hk.1)⟩, ⟨by repeat (first | (with_reducible first | exact HB.out | apply below_alloc | apply pw_below_drewN | apply below_drew1) | exact HB.out)⟩⟩
        case rest =>
          clear HC14
          try clear c1
          try clear p1
          try clear q1
          try clear hx1
          try clear c2
          try clear p2
          try clear p6
          try clear c7
          try clear c7b0
          try clear c8
          try clear c8b0
          try clear c9
          try clear c9b0
          try clear c10
          try clear p10
          try clear q10
          try clear hx10
          try clear c11
          try clear c11b0
          try clear c11b1
          try clear c14
          try clear c15
          try clear c15b0
          try clear hx104_0
          try clear p104
          try clear p2
          try clear q104
          obtain ⟨kq, x26_13, rfl, HA, HJ13, HO_0, HO_2, HB⟩ := hcut
          cases kq with
          | zero => exact absurd HA.out (by simp [policy_Put.j1])
          | succ kj13 =>
            have H := HA.out
            clear HA
            simp only [policy_Put.j1] at H
            by_cases c16 : x26_13 = true
            · subst c16
              have H1 : (some (([] : List (S33)), 2)) = some (r1, r2) := by rw [if_pos rfl] at H; exact H
              clear H
              have H := H1
              clear H1
              simp only [Option.some.injEq, Prod.mk.injEq] at H
              obtain ⟨rfl, rfl⟩ := H
              go_wp2
              go_ret2
              exact ⟨_, by first | rfl | (simp [errW_none, errW_some] <;> rfl) | (simp [*, errW_none, errW_some] <;> rfl), by first | exact Kd.R_nil _ _ _ _ _ | exact Kd.N_nil _ _ _ _ _ | exact Kd.V_nil _ _ _ _ _ | exact Kd.Q_nil _ _ _ _ _ | exact Kd.S_nil _ _ _ _ _, by repeat (first | (with_reducible first | exact HB.out | apply below_alloc | apply pw_below_drewN | apply below_drew1) | exact HB.out)⟩
            · replace c16 := Bool.eq_false_iff.mpr c16
              subst c16
              have H1 : (if (wrap64 ((l0.length : Int) + (l2.length : Int))) > 64 then (some (([] : List (S33)), 3)) else ((some (([] : List (S33)) : List (S33))).bind fun y106 => (if 0 ≤ a1 then (if a1 ≤ (l0.length : Int) then ((some (l0.take (a1 : Int).toNat : List (S33))).bind fun y109 => (if y106.length + y109.length < 2932031007402 then ((some (y106 ++ y109 : List (S33))).bind fun y114 => (if y114.length + l2.length < 2932031007402 then ((some (y114 ++ l2 : List (S33))).bind fun y117 => ((some (l0.drop (a1 : Int).toNat : List (S33))).bind fun y120 => (if y117.length + y120.length < 2932031007402 then (some ((y117 ++ y120), 0)) else (none)))) else (none))) else (none))) else (none)) else (none)))) = some (r1, r2) := by rw [if_neg (show ¬ (false = true) by decide)] at H; exact H
              clear H
              have H := H1
              clear H1
              by_cases c17 : (wrap64 ((l0.length : Int) + (l2.length : Int))) > 64
              · rw [if_pos c17] at H
                have c17b0 : decide (64 < (wrap64 ((l0.length : Int) + (l2.length : Int)))) = true := decide_eq_true c17
                clear c17
                simp only [Option.some.injEq, Prod.mk.injEq] at H
                obtain ⟨rfl, rfl⟩ := H
                go_wp2
                go_ret2
                exact ⟨_, by first | rfl | (simp [errW_none, errW_some] <;> rfl) | (simp [*, errW_none, errW_some] <;> rfl), by first | exact Kd.R_nil _ _ _ _ _ | exact Kd.N_nil _ _ _ _ _ | exact Kd.V_nil _ _ _ _ _ | exact Kd.Q_nil _ _ _ _ _ | exact Kd.S_nil _ _ _ _ _, by repeat (first | (with_reducible first | exact HB.out | apply below_alloc | apply pw_below_drewN | apply below_drew1) | exact HB.out)⟩
              · rw [if_neg c17] at H
                have c17b0 : decide (64 < (wrap64 ((l0.length : Int) + (l2.length : Int)))) = false := decide_eq_false c17
                clear c17
                obtain ⟨y106, hy106⟩ : ∃ y_ : List (S33), y_ = (([] : List (S33))) := ⟨_, rfl⟩
                replace H : (if 0 ≤ a1 then (if a1 ≤ (l0.length : Int) then ((some (l0.take (a1 : Int).toNat : List (S33))).bind fun y109 => (if y106.length + y109.length < 2932031007402 then ((some (y106 ++ y109 : List (S33))).bind fun y114 => (if y114.length + l2.length < 2932031007402 then ((some (y114 ++ l2 : List (S33))).bind fun y117 => ((some (l0.drop (a1 : Int).toNat : List (S33))).bind fun y120 => (if y117.length + y120.length < 2932031007402 then (some ((y117 ++ y120), 0)) else (none)))) else (none))) else (none))) else (none)) else (none)) = some (r1, r2) := by first | (rw [hy106]; with_reducible exact H) | (have H2_ := (Option.bind_some _ _).symm.trans H; rw [hy106]; with_reducible exact H2_) | (have H2_ := (Option.bind_some _ _).symm.trans H; with_reducible exact H2_) | with_reducible exact H | (rw [hy106]; exact H) | exact H
                have Ny106 := Aside0.mk hy106
                clear hy106
                by_cases c18 : 0 ≤ a1
                · rw [if_pos c18] at H
                  have c18b0 := eq_true c18
                  have c18b1 : decide (0 ≤ a1) = true := decide_eq_true c18
                  clear c18
                  by_cases c19 : a1 ≤ (l0.length : Int)
                  · rw [if_pos c19] at H
                    have c19b0 := eq_true c19
                    have c19b1 : decide (a1 ≤ (l0.length : Int)) = true := decide_eq_true c19
                    clear c19
                    obtain ⟨y109, hy109⟩ : ∃ y_ : List (S33), y_ = (l0.take (a1 : Int).toNat) := ⟨_, rfl⟩
                    replace H : (if y106.length + y109.length < 2932031007402 then ((some (y106 ++ y109 : List (S33))).bind fun y114 => (if y114.length + l2.length < 2932031007402 then ((some (y114 ++ l2 : List (S33))).bind fun y117 => ((some (l0.drop (a1 : Int).toNat : List (S33))).bind fun y120 => (if y117.length + y120.length < 2932031007402 then (some ((y117 ++ y120), 0)) else (none)))) else (none))) else (none)) = some (r1, r2) := by first | (rw [hy109]; with_reducible exact H) | (have H2_ := (Option.bind_some _ _).symm.trans H; rw [hy109]; with_reducible exact H2_) | (have H2_ := (Option.bind_some _ _).symm.trans H; with_reducible exact H2_) | with_reducible exact H | (rw [hy109]; exact H) | exact H
                    have Ny109 := Aside0.mk hy109
                    clear hy109
                    by_cases c20 : y106.length + y109.length < 2932031007402
                    · rw [if_pos c20] at H
                      have LMc20 := Aside0.mk c20
                      clear c20
                      obtain ⟨y114, hy114⟩ : ∃ y_ : List (S33), y_ = (y106 ++ y109) := ⟨_, rfl⟩
                      replace H : (if y114.length + l2.length < 2932031007402 then ((some (y114 ++ l2 : List (S33))).bind fun y117 => ((some (l0.drop (a1 : Int).toNat : List (S33))).bind fun y120 => (if y117.length + y120.length < 2932031007402 then (some ((y117 ++ y120), 0)) else (none)))) else (none)) = some (r1, r2) := by first | (rw [hy114]; with_reducible exact H) | (have H2_ := (Option.bind_some _ _).symm.trans H; rw [hy114]; with_reducible exact H2_) | (have H2_ := (Option.bind_some _ _).symm.trans H; with_reducible exact H2_) | with_reducible exact H | (rw [hy114]; exact H) | exact H
                      have Ny114 := Aside0.mk hy114
                      clear hy114
                      by_cases c21 : y114.length + l2.length < 2932031007402
                      · rw [if_pos c21] at H
                        have LMc21 := Aside0.mk c21
                        clear c21
                        obtain ⟨y117, hy117⟩ : ∃ y_ : List (S33), y_ = (y114 ++ l2) := ⟨_, rfl⟩
                        replace H : ((some (l0.drop (a1 : Int).toNat : List (S33))).bind fun y120 => (if y117.length + y120.length < 2932031007402 then (some ((y117 ++ y120), 0)) else (none))) = some (r1, r2) := by first | (rw [hy117]; with_reducible exact H) | (have H2_ := (Option.bind_some _ _).symm.trans H; rw [hy117]; with_reducible exact H2_) | (have H2_ := (Option.bind_some _ _).symm.trans H; with_reducible exact H2_) | with_reducible exact H | (rw [hy117]; exact H) | exact H
                        have Ny117 := Aside0.mk hy117
                        clear hy117
                        have c22b0 := eq_true (of_decide_eq_true (by first | (with_reducible assumption) | assumption) : 0 ≤ a1)
                        have c23b0 := eq_true (of_decide_eq_true (by first | (with_reducible assumption) | assumption) : a1 ≤ (l0.length : Int))
                        obtain ⟨y120, hy120⟩ : ∃ y_ : List (S33), y_ = (l0.drop (a1 : Int).toNat) := ⟨_, rfl⟩
                        replace H : (if y117.length + y120.length < 2932031007402 then (some ((y117 ++ y120), 0)) else (none)) = some (r1, r2) := by first | (rw [hy120]; with_reducible exact H) | (have H2_ := (Option.bind_some _ _).symm.trans H; rw [hy120]; with_reducible exact H2_) | (have H2_ := (Option.bind_some _ _).symm.trans H; with_reducible exact H2_) | with_reducible exact H | (rw [hy120]; exact H) | exact H
                        have Ny120 := Aside0.mk hy120
                        clear hy120
                        by_cases c24 : y117.length + y120.length < 2932031007402
                        · rw [if_pos c24] at H
                          have LMc24 := Aside0.mk c24
                          clear c24
                          obtain ⟨y125, hy125⟩ : ∃ y_ : List (S33), y_ = (y117 ++ y120) := ⟨_, rfl⟩
                          replace H : (some (y125, 0)) = some (r1, r2) := by first | (rw [hy125]; with_reducible exact H) | (have H2_ := (Option.bind_some _ _).symm.trans H; rw [hy125]; with_reducible exact H2_) | (have H2_ := (Option.bind_some _ _).symm.trans H; with_reducible exact H2_) | with_reducible exact H | (rw [hy125]; exact H) | exact H
                          have Ny125 := Aside0.mk hy125
                          clear hy125
                          simp only [Option.some.injEq, Prod.mk.injEq] at H
                          obtain ⟨rfl, rfl⟩ := H
                          go_wp2_with (first | ((with_reducible refine gate_dst (N := 42) rfl ?_); (try (refine gate_guard (by rfl) ?_; dsimp only)); refine Kd.R_lit k33 _ 33 ?hg (N := 42) ?hd (xs := ([] : List (S33))) (inner := []) (ok := fun _ => True) (okp := fun _ => True) ?hr ?hp (fun _ hk => hk) trivial (Below.refl _ _) (Nat.le_refl _) (by simp) ?_; (case hd => rfl); (case hg => rfl); (case hr => first | (go_simp; done) | (go_simp; rfl)); (case hp => exact (Reps.none _ _)); intro v107 w25 ho26 hb hg_ hnew_; clear hg_ hnew_; (first | rw [← Ny106.out] at ho26 | (simp only [Int.reduceToNat] at ho26; rw [← Ny106.out] at ho26)); have n0_ := Aside0.mk (Kd.V_elder' (by (with_reducible repeat (first | apply Kd.V_alloc | apply Kd.V_drewN | apply Kd.V_drew)); exact HO_0.out) (Kd.R_base ho26) hb); have n1_ := Aside0.mk (Kd.V_elder' (by (with_reducible repeat (first | apply Kd.V_alloc | apply Kd.V_drewN | apply Kd.V_drew)); exact HO_2.out) (Kd.R_base ho26) hb); have n2_ := Aside0.mk (Kd.R_lower (Kd.R_newM (M := fun k_ => (w.heap.size ≤ k_)) ho26 (below_size (by repeat (first | (with_reducible first | exact HB.out | apply below_alloc | apply pw_below_drewN | apply below_drew1) | exact HB.out))) (fun k_ h_ => h_)) (below_size (by repeat (first | (with_reducible first | exact HB.out | apply below_alloc | apply pw_below_drewN | apply below_drew1) | exact HB.out)))); have n3_ := Aside0.mk (below_step (by repeat (first | (with_reducible first | exact HB.out | apply below_alloc | apply pw_below_drewN | apply below_drew1) | exact HB.out)) hb); clear HO_0; clear HO_2; clear HB; have HO_0 := n0_; have HO_2 := n1_; have HO108 := n2_; have HB := n3_; clear n0_ n1_ n2_ n3_; clear hb ho26; have q27 : (a1 : Int) ≤ ((l0.length : Int) : Int) := of_decide_eq_true (by first | (with_reducible assumption) | assumption); obtain ⟨i027, hi027, _, hsz27, _⟩ := info_parts info33; have hroom27 : l0.length ≤ c0 := (Kd.V_reads' HO_0.out).2.1; have hC27 : Kd.F k33 _ _ A0 l0.length l0 := (Kd.V_at (base := w.heap.size) HO_0.out).2.2; have hcut27 := cut_to (P := Tryd.prog) 22 33 .i64 Tryd.underlying22 hi027 A0 l0.length c0 a1 (of_decide_eq_true (by first | (with_reducible assumption) | assumption)) q27 hroom27; have hr27 := Kd.F_take (m := (a1 : Int).toNat) hC27 (by omega); have hy27 : y109.length = (a1 : Int).toNat := (by rw [Ny109.out, List.length_take]; omega); rw [← Ny109.out] at hr27; rw [← hy27] at hcut27; have HO113 := Aside0.mk (show Kd.V k33 33 _ w.heap.size _ (.slice A0 y109.length c0) y109 from Kd.V_mk (by omega) hr27); have HC113 := Aside0.mk (show y109.length ≤ c0 from by omega); clear hr27 hC27 hroom27 hi027 hsz27; have KY27 := Aside0.mk hy27; clear hy27; replace q27 := eq_true q27) | ((with_reducible refine gate_builtin (b := .append) (xs := #[.tmp 42, .tmp 45]) rfl ?_); (try (refine gate_guard (by rfl) ?_; dsimp only)); at_builtin; refine Kd.R_append_rows k33 (w0 := w) w.heap.size rfl (.tmp 42) (.tmp 45) 22 33 (.agg #[(.bool false), (.int .u8 0), (.int .u8 0), (.int .u8 0), (.int .u8 0), (.int .i64 0), (.string ⟨#[]⟩), (.int .i64 0), (.int .i64 0)]) 48 rfl Tryd.underlying22 info33 rfl (by decide) (by omega) v107 y106 y109 _ _ _ (fun k_ => (w.heap.size ≤ k_)) (fun _ => False) rfl rfl ?aO ?aR (fun _ _ h => h) (fun _ h => h.elim) ?aF ?aB ?aS ?aL ?_; (case aR => repeat (first | exact (Kd.V_reads' HO113.out).2.2 | (with_reducible refine Kd.C_alloc ?_ _) | (with_reducible refine Kd.C_drewN ?_ _) | (with_reducible refine Kd.C_drew ?_))); (case aB => exact (by repeat (first | (with_reducible first | exact HB.out | apply below_alloc | apply pw_below_drewN | apply below_drew1) | exact HB.out))); (case aF => exact (fun k_ hk => (Nat.le_trans (below_size (by repeat (first | (with_reducible first | exact HB.out | apply below_alloc | apply pw_below_drewN | apply below_drew1) | exact HB.out))) hk))); (case aO => exact (by (with_reducible repeat (first | apply Kd.R_alloc | apply Kd.R_drewN | apply Kd.R_drew)); exact Kd.R_mono HO108.out (fun _ hk => hk.1))); (case aS => exact (below_size (by repeat (first | (with_reducible first | exact HB.out | apply below_alloc | apply pw_below_drewN | apply below_drew1) | exact HB.out)))); (case aL => have := LMc20.out; omega); intro v115 w28 ho hb hg hat; rw [← Ny114.out] at ho; have n0_ := Aside0.mk (Kd.V_afterv (ok := (fun k_ => ((P0_ k_ ∨ P2_ k_) ∨ w.heap.size ≤ k_))) (by (with_reducible repeat (first | apply Kd.V_alloc | apply Kd.V_drewN | apply Kd.V_drew)); exact HO_0.out) hg hat); have n1_ := Aside0.mk (Kd.V_afterv (ok := (fun k_ => ((P0_ k_ ∨ P2_ k_) ∨ w.heap.size ≤ k_))) (by (with_reducible repeat (first | apply Kd.V_alloc | apply Kd.V_drewN | apply Kd.V_drew)); exact HO_2.out) hg hat); have n2_ := Aside0.mk (Kd.V_afterv (ok := (fun k_ => ((P0_ k_ ∨ P2_ k_) ∨ w.heap.size ≤ k_))) (by (with_reducible repeat (first | apply Kd.V_alloc | apply Kd.V_drewN | apply Kd.V_drew)); exact HO113.out) hg hat); have n3_ := Aside0.mk (hb); have n4_ := Aside0.mk (ho); clear HO_0; clear HO_2; clear HO113; clear HB; clear HO108; have HO_0 := n0_; have HO_2 := n1_; have HO113 := n2_; have HB := n3_; have HO116 := n4_; clear n0_ n1_ n2_ n3_ n4_; clear ho hb hg hat) | ((with_reducible refine gate_builtin (b := .append) (xs := #[.tmp 47, .tmp 48]) rfl ?_); (try (refine gate_guard (by rfl) ?_; dsimp only)); at_builtin; refine Kd.R_append_rows k33 (w0 := w) w.heap.size rfl (.tmp 47) (.tmp 48) 22 33 (.agg #[(.bool false), (.int .u8 0), (.int .u8 0), (.int .u8 0), (.int .u8 0), (.int .i64 0), (.string ⟨#[]⟩), (.int .i64 0), (.int .i64 0)]) 48 rfl Tryd.underlying22 info33 rfl (by decide) (by omega) v115 y114 l2 _ _ _ (fun k_ => (w.heap.size ≤ k_)) (fun _ => False) rfl rfl ?aO ?aR (fun _ _ h => h) (fun _ h => h.elim) ?aF ?aB ?aS ?aL ?_; (case aR => repeat (first | exact (Kd.V_reads' HO_2.out).2.2 | (with_reducible refine Kd.C_alloc ?_ _) | (with_reducible refine Kd.C_drewN ?_ _) | (with_reducible refine Kd.C_drew ?_))); (case aB => exact (by repeat (first | (with_reducible first | exact HB.out | apply below_alloc | apply pw_below_drewN | apply below_drew1) | exact HB.out))); (case aF => exact (fun k_ hk => (Nat.le_trans (below_size (by repeat (first | (with_reducible first | exact HB.out | apply below_alloc | apply pw_below_drewN | apply below_drew1) | exact HB.out))) hk))); (case aO => exact (by (with_reducible repeat (first | apply Kd.R_alloc | apply Kd.R_drewN | apply Kd.R_drew)); exact HO116.out)); (case aS => exact (below_size (by repeat (first | (with_reducible first | exact HB.out | apply below_alloc | apply pw_below_drewN | apply below_drew1) | exact HB.out)))); (case aL => have := LMc21.out; omega); intro v118 w29 ho hb hg hat; rw [← Ny117.out] at ho; have n0_ := Aside0.mk (Kd.V_afterv (ok := (fun k_ => ((P0_ k_ ∨ P2_ k_) ∨ w.heap.size ≤ k_))) (by (with_reducible repeat (first | apply Kd.V_alloc | apply Kd.V_drewN | apply Kd.V_drew)); exact HO_0.out) hg hat); have n1_ := Aside0.mk (Kd.V_afterv (ok := (fun k_ => ((P0_ k_ ∨ P2_ k_) ∨ w.heap.size ≤ k_))) (by (with_reducible repeat (first | apply Kd.V_alloc | apply Kd.V_drewN | apply Kd.V_drew)); exact HO_2.out) hg hat); have n2_ := Aside0.mk (Kd.V_afterv (ok := (fun k_ => ((P0_ k_ ∨ P2_ k_) ∨ w.heap.size ≤ k_))) (by (with_reducible repeat (first | apply Kd.V_alloc | apply Kd.V_drewN | apply Kd.V_drew)); exact HO113.out) hg hat); have n3_ := Aside0.mk (hb); have n4_ := Aside0.mk (ho); clear HO_0; clear HO_2; clear HO113; clear HB; clear HO116; have HO_0 := n0_; have HO_2 := n1_; have HO113 := n2_; have HB := n3_; have HO119 := n4_; clear n0_ n1_ n2_ n3_ n4_; clear ho hb hg hat; have q30 : (a1 : Int) ≤ ((l0.length : Int) : Int) := of_decide_eq_true (by first | (with_reducible assumption) | assumption); obtain ⟨i030, hi030, _, hsz30, _⟩ := info_parts info33; have hroom30 : l0.length ≤ c0 := (Kd.V_reads' HO_0.out).2.1; have hC30 : Kd.F k33 _ _ A0 l0.length l0 := (Kd.V_at (base := w.heap.size) HO_0.out).2.2; have q030 : (0 : Int) ≤ (a1 : Int) := of_decide_eq_true (by first | (with_reducible assumption) | assumption); have hcut30 := cut_from (P := Tryd.prog) 22 33 .i64 Tryd.underlying22 hi030 9 hsz30 A0 l0.length c0 a1 q030 q30; have hr30 := Kd.F_cut (m := (a1 : Int).toNat) (c := c0) hC30 (by omega) hroom30; obtain ⟨A30, hA30⟩ : ∃ A1, A1 = (if c0 = (a1 : Int).toNat then A0 else (A0 : Option Addr).map (·.add ((a1 : Int).toNat * 9))) := ⟨_, rfl⟩; obtain ⟨c30, hc30⟩ : ∃ c1, c1 = c0 - (a1 : Int).toNat := ⟨_, rfl⟩; have hy30 : y120.length = l0.length - (a1 : Int).toNat := (by rw [Ny120.out, List.length_drop] <;> omega); rw [show (l0).drop (a1 : Int).toNat = y120 from Ny120.out.symm] at hr30; replace hr30 : Kd.F k33 _ _ A30 y120.length y120 := (by rw [hA30]; exact hr30); rw [← hy30, ← hA30, ← hc30] at hcut30; have HO124 := Aside0.mk (show Kd.V k33 33 _ w.heap.size _ (.slice A30 y120.length c30) y120 from Kd.V_mk (by rw [hy30, hc30]; exact Nat.sub_le_sub_right hroom30 _) hr30); have HC124 := Aside0.mk (show y120.length ≤ c30 from by rw [hy30, hc30]; exact Nat.sub_le_sub_right hroom30 _); clear hr30 hC30 hroom30 hi030 hsz30 hc30; have KY30 := Aside0.mk hy30; have KA30 := Aside0.mk hA30; clear hy30 hA30; replace q30 := eq_true q30) | ((with_reducible refine gate_builtin (b := .append) (xs := #[.tmp 50, .tmp 53]) rfl ?_); (try (refine gate_guard (by rfl) ?_; dsimp only)); at_builtin; refine Kd.R_append_rows k33 (w0 := w) w.heap.size rfl (.tmp 50) (.tmp 53) 22 33 (.agg #[(.bool false), (.int .u8 0), (.int .u8 0), (.int .u8 0), (.int .u8 0), (.int .i64 0), (.string ⟨#[]⟩), (.int .i64 0), (.int .i64 0)]) 48 rfl Tryd.underlying22 info33 rfl (by decide) (by omega) v118 y117 y120 _ _ _ (fun k_ => (w.heap.size ≤ k_)) (fun _ => False) rfl rfl ?aO ?aR (fun _ _ h => h) (fun _ h => h.elim) ?aF ?aB ?aS ?aL ?_; (case aR => repeat (first | exact (Kd.V_reads' HO124.out).2.2 | (with_reducible refine Kd.C_alloc ?_ _) | (with_reducible refine Kd.C_drewN ?_ _) | (with_reducible refine Kd.C_drew ?_))); (case aB => exact (by repeat (first | (with_reducible first | exact HB.out | apply below_alloc | apply pw_below_drewN | apply below_drew1) | exact HB.out))); (case aF => exact (fun k_ hk => (Nat.le_trans (below_size (by repeat (first | (with_reducible first | exact HB.out | apply below_alloc | apply pw_below_drewN | apply below_drew1) | exact HB.out))) hk))); (case aO => exact (by (with_reducible repeat (first | apply Kd.R_alloc | apply Kd.R_drewN | apply Kd.R_drew)); exact HO119.out)); (case aS => exact (below_size (by repeat (first | (with_reducible first | exact HB.out | apply below_alloc | apply pw_below_drewN | apply below_drew1) | exact HB.out)))); (case aL => have := LMc24.out; omega); intro v126 w31 ho hb hg hat; rw [← Ny125.out] at ho; have n0_ := Aside0.mk (Kd.V_afterv (ok := (fun k_ => ((P0_ k_ ∨ P2_ k_) ∨ w.heap.size ≤ k_))) (by (with_reducible repeat (first | apply Kd.V_alloc | apply Kd.V_drewN | apply Kd.V_drew)); exact HO_0.out) hg hat); have n1_ := Aside0.mk (Kd.V_afterv (ok := (fun k_ => ((P0_ k_ ∨ P2_ k_) ∨ w.heap.size ≤ k_))) (by (with_reducible repeat (first | apply Kd.V_alloc | apply Kd.V_drewN | apply Kd.V_drew)); exact HO_2.out) hg hat); have n2_ := Aside0.mk (Kd.V_afterv (ok := (fun k_ => ((P0_ k_ ∨ P2_ k_) ∨ w.heap.size ≤ k_))) (by (with_reducible repeat (first | apply Kd.V_alloc | apply Kd.V_drewN | apply Kd.V_drew)); exact HO113.out) hg hat); have n3_ := Aside0.mk (Kd.V_afterv (ok := (fun k_ => ((P0_ k_ ∨ P2_ k_) ∨ w.heap.size ≤ k_))) (by (with_reducible repeat (first | apply Kd.V_alloc | apply Kd.V_drewN | apply Kd.V_drew)); exact HO124.out) hg hat); have n4_ := Aside0.mk (hb); have n5_ := Aside0.mk (ho); clear HO_0; clear HO_2; clear HO113; clear HO124; clear HB; clear HO119; have HO_0 := n0_; have HO_2 := n1_; have HO113 := n2_; have HO124 := n3_; have HB := n4_; have HO127 := n5_; clear n0_ n1_ n2_ n3_ n4_ n5_; clear ho hb hg hat))
                          go_ret2
                          exact ⟨_, by first | rfl | (simp [errW_none, errW_some] <;> rfl) | (simp [*, errW_none, errW_some] <;> rfl), by (with_reducible repeat (first | apply Kd.R_alloc | apply Kd.R_drewN | apply Kd.R_drew)); exact HO127.out, by repeat (first | (with_reducible first | exact HB.out | apply below_alloc | apply pw_below_drewN | apply below_drew1) | exact HB.out)⟩
                        · rw [if_neg c24] at H
                          exact absurd H (by simp)
                      · rw [if_neg c21] at H
                        exact absurd H (by simp)
                    · rw [if_neg c20] at H
                      exact absurd H (by simp)
                  · rw [if_neg c19] at H
                    exact absurd H (by simp)
                · rw [if_neg c18] at H
                  exact absurd H (by simp)

/-! ### sallyportbase_Among: function 12 -/
def sallyportbase_Among.f (a0 : Int) (a1 : Int) : Option (Int) := if (IntKind.u64.wrap (a1)) = 0 then (none) else (some (wrap64 (Int.tmod (IntKind.u64.wrap (a0)) (IntKind.u64.wrap (a1)))))
set_option maxHeartbeats 8000000 in
set_option maxRecDepth 100000 in
theorem sallyportbase_Among.calls (a0 : Int) (a1 : Int) (r : Int) (w : World) (h : sallyportbase_Among.f a0 a1 = some r) :
    Calls Tryd.prog 12 #[.int .i64 a0, .int .i64 a1] w fun e w' => e = .returned (.int .i64 r) ∧ Drawn0 w w' := by
  have H : (if (IntKind.u64.wrap (a1)) = 0 then (none) else (some (wrap64 (Int.tmod (IntKind.u64.wrap (a0)) (IntKind.u64.wrap (a1)))))) = some r := h
  clear h
  by_cases c3 : (IntKind.u64.wrap (a1)) = 0
  · rw [if_pos c3] at H
    exact absurd H (by simp)
  · rw [if_neg c3] at H
    have c3b0 : ((IntKind.u64.wrap (a1)) == 0) = false := beq_eq_false_iff_ne.mpr c3
    have c3b1 : ((IntKind.u64.wrap (a1)) != 0) = true := bne_iff_ne.mpr c3
    obtain rfl := Option.some.inj H
    go_enter Tryd.func12, Tryd.ntmps12
    go_wp2
    go_ret
    exact ⟨by first | rfl | (simp; done) | (simp [*]; done), by repeat (first | exact Drawn0.refl _ | apply Drawn0.step)⟩

end Go.Proofs.YteondnhokgmakaaDoor.XZ

/- Arguments of this program's own types, opened to the walks' forms: an address, a destination, a rule, rules. -/
namespace Go.Proofs.YteondnhokgmakaaDoor.E
open Go.RowKit Go.ChangeShapes Go.WideShapes Go.Deep Go.Proofs.YteondnhokgmakaaDoorW.PrintWords Go.Proofs.YteondnhokgmakaaDoorW.PrintLast Go.Proofs.YteondnhokgmakaaDoor.XC
set_option linter.unusedVariables false
set_option linter.unusedSimpArgs false
section
variable {H : Type} {enc : TypeId × Value → H} {w : World} {base : Nat} {spare : Nat → Bool} {held : Bool}

theorem cellsAddr : Tryd.prog.cellsOf 24 = 4 := by kernel_rfl
theorem cellsHost : Tryd.prog.cellsOf 26 = 5 := by kernel_rfl
theorem cellsDest : Tryd.prog.cellsOf 28 = 6 := by kernel_rfl
theorem cellsRule : Tryd.prog.cellsOf 33 = 9 := by kernel_rfl
theorem cellsU8 : Tryd.prog.cellsOf 5 = 1 := by kernel_rfl
theorem cellsInt : Tryd.prog.cellsOf 3 = 1 := by kernel_rfl
theorem cellsBool : Tryd.prog.cellsOf 4 = 1 := by kernel_rfl
theorem cellsStr : Tryd.prog.cellsOf 9 = 1 := by kernel_rfl

def inU8 (a : Int) : Prop := 0 ≤ a ∧ a ≤ 255
theorem four_of {l : List Value} (h : l.length = 4) : ∃ a b c d, l = [a, b, c, d] := by
  match l, h with
  | [a, b, c, d], _ => exact ⟨a, b, c, d, rfl⟩
theorem open_addr {fuel : Nat} {cs : List Value} {x : DataW H × List MemPlace} (h : DataW.trod enc Tryd.prog w base spare held fuel 24 cs = some x) :
    ∃ a b c d, cs = [.int .u8 a, .int .u8 b, .int .u8 c, .int .u8 d] ∧ inU8 a ∧ inU8 b ∧ inU8 c ∧ inU8 d := by
  obtain ⟨xs, n, -, -, hl, hxl, hf⟩ := DataW.trod_struct Tryd.underlying24 h
  obtain ⟨v0, v1, v2, v3, rfl⟩ := four_of (hl.trans cellsAddr)
  obtain ⟨y0, h0⟩ : ∃ y, xs[0]? = some y := ⟨_, List.getElem?_eq_getElem (by rw [hxl]; decide)⟩
  obtain ⟨y1, h1⟩ : ∃ y, xs[1]? = some y := ⟨_, List.getElem?_eq_getElem (by rw [hxl]; decide)⟩
  obtain ⟨y2, h2⟩ : ∃ y, xs[2]? = some y := ⟨_, List.getElem?_eq_getElem (by rw [hxl]; decide)⟩
  obtain ⟨y3, h3⟩ : ∃ y, xs[3]? = some y := ⟨_, List.getElem?_eq_getElem (by rw [hxl]; decide)⟩
  have g0 : DataW.trod enc Tryd.prog w base spare held n 5 ((([v0, v1, v2, v3] : List Value).drop 0).take (Tryd.prog.cellsOf 5)) = xs[0]? := hf 0 _ rfl
  have g1 : DataW.trod enc Tryd.prog w base spare held n 5 ((([v0, v1, v2, v3] : List Value).drop 1).take (Tryd.prog.cellsOf 5)) = xs[1]? := hf 1 _ rfl
  have g2 : DataW.trod enc Tryd.prog w base spare held n 5 ((([v0, v1, v2, v3] : List Value).drop 2).take (Tryd.prog.cellsOf 5)) = xs[2]? := hf 2 _ rfl
  have g3 : DataW.trod enc Tryd.prog w base spare held n 5 ((([v0, v1, v2, v3] : List Value).drop 3).take (Tryd.prog.cellsOf 5)) = xs[3]? := hf 3 _ rfl
  simp only [cellsU8, List.drop_zero, List.drop_succ_cons, List.take_succ_cons, List.take_zero] at g0 g1 g2 g3
  rw [h0] at g0; rw [h1] at g1; rw [h2] at g2; rw [h3] at g3
  obtain ⟨a, ea, -, ha⟩ := DataW.trod_int Tryd.underlying5 g0
  obtain ⟨b, eb, -, hb⟩ := DataW.trod_int Tryd.underlying5 g1
  obtain ⟨c, ec, -, hc⟩ := DataW.trod_int Tryd.underlying5 g2
  obtain ⟨d, ed, -, hd⟩ := DataW.trod_int Tryd.underlying5 g3
  cases ea; cases eb; cases ec; cases ed
  exact ⟨a, b, c, d, rfl, bounds_u8 ha, bounds_u8 hb, bounds_u8 hc, bounds_u8 hd⟩
def rcells (r : S33) : List Value := [.bool r.f0, .int .u8 r.f1.f0, .int .u8 r.f1.f1, .int .u8 r.f1.f2, .int .u8 r.f1.f3, .int .i64 r.f2, .string r.f3, .int .i64 r.f4, .int .i64 r.f5]
def okI (n : Int) : Prop := -9223372036854775808 ≤ n ∧ n ≤ 9223372036854775807
def okRule (r : S33) : Prop := (inU8 r.f1.f0 ∧ inU8 r.f1.f1 ∧ inU8 r.f1.f2 ∧ inU8 r.f1.f3) ∧ okI r.f2 ∧ okI r.f4 ∧ okI r.f5
theorem nine_of {l : List Value} (h : l.length = 9) : ∃ a b c d e f g i j, l = [a, b, c, d, e, f, g, i, j] := by
  match l, h with
  | [a, b, c, d, e, f, g, i, j], _ => exact ⟨a, b, c, d, e, f, g, i, j, rfl⟩
theorem wf_i64 {n : Int} (h : (Lit.int .i64 n).wf = true) : okI n := by
  simp only [Lit.wf, Bool.and_eq_true, decide_eq_true_eq] at h
  exact ⟨h.1, h.2⟩
theorem open_rule {fuel : Nat} {cs : List Value} {x : DataW H × List MemPlace} (h : DataW.trod enc Tryd.prog w base spare held fuel 33 cs = some x) :
    ∃ r : S33, cs = rcells r ∧ okRule r ∧ r.f3.size ∈ x.1.weights Tryd.prog 33 := by
  obtain ⟨xs, n, -, hx, hl, hxl, hf⟩ := DataW.trod_struct Tryd.underlying33 h
  obtain ⟨v0, v1, v2, v3, v4, v5, v6, v7, v8, rfl⟩ := nine_of (hl.trans cellsRule)
  obtain ⟨y0, h0⟩ : ∃ y, xs[0]? = some y := ⟨_, List.getElem?_eq_getElem (by rw [hxl]; decide)⟩
  obtain ⟨y1, h1⟩ : ∃ y, xs[1]? = some y := ⟨_, List.getElem?_eq_getElem (by rw [hxl]; decide)⟩
  obtain ⟨y2, h2⟩ : ∃ y, xs[2]? = some y := ⟨_, List.getElem?_eq_getElem (by rw [hxl]; decide)⟩
  obtain ⟨y3, h3⟩ : ∃ y, xs[3]? = some y := ⟨_, List.getElem?_eq_getElem (by rw [hxl]; decide)⟩
  obtain ⟨y4, h4⟩ : ∃ y, xs[4]? = some y := ⟨_, List.getElem?_eq_getElem (by rw [hxl]; decide)⟩
  obtain ⟨y5, h5⟩ : ∃ y, xs[5]? = some y := ⟨_, List.getElem?_eq_getElem (by rw [hxl]; decide)⟩
  have g0 : DataW.trod enc Tryd.prog w base spare held n 4 ((([v0, v1, v2, v3, v4, v5, v6, v7, v8] : List Value).drop 0).take (Tryd.prog.cellsOf 4)) = xs[0]? := hf 0 _ rfl
  have g1 : DataW.trod enc Tryd.prog w base spare held n 24 ((([v0, v1, v2, v3, v4, v5, v6, v7, v8] : List Value).drop 1).take (Tryd.prog.cellsOf 24)) = xs[1]? := hf 1 _ rfl
  have g2 : DataW.trod enc Tryd.prog w base spare held n 3 ((([v0, v1, v2, v3, v4, v5, v6, v7, v8] : List Value).drop 5).take (Tryd.prog.cellsOf 3)) = xs[2]? := hf 2 _ rfl
  have g3 : DataW.trod enc Tryd.prog w base spare held n 9 ((([v0, v1, v2, v3, v4, v5, v6, v7, v8] : List Value).drop 6).take (Tryd.prog.cellsOf 9)) = xs[3]? := hf 3 _ rfl
  have g4 : DataW.trod enc Tryd.prog w base spare held n 3 ((([v0, v1, v2, v3, v4, v5, v6, v7, v8] : List Value).drop 7).take (Tryd.prog.cellsOf 3)) = xs[4]? := hf 4 _ rfl
  have g5 : DataW.trod enc Tryd.prog w base spare held n 3 ((([v0, v1, v2, v3, v4, v5, v6, v7, v8] : List Value).drop 8).take (Tryd.prog.cellsOf 3)) = xs[5]? := hf 5 _ rfl
  simp only [cellsU8, cellsBool, cellsInt, cellsStr, cellsAddr, List.drop_zero, List.drop_succ_cons, List.take_succ_cons, List.take_zero] at g0 g1 g2 g3 g4 g5
  rw [h0] at g0; rw [h1] at g1; rw [h2] at g2; rw [h3] at g3; rw [h4] at g4; rw [h5] at g5
  obtain ⟨al, ea, -⟩ := DataW.trod_bool Tryd.underlying4 g0
  obtain ⟨a, b, c, d, eb, ha, hb, hc, hd⟩ := open_addr g1
  obtain ⟨bi, ec, -, hbi⟩ := DataW.trod_int Tryd.underlying3 g2
  obtain ⟨su, ed, hsu, -⟩ := DataW.trod_string Tryd.underlying9 g3
  obtain ⟨lo, ee, -, hlo⟩ := DataW.trod_int Tryd.underlying3 g4
  obtain ⟨hi, ef, -, hhi⟩ := DataW.trod_int Tryd.underlying3 g5
  cases ea; cases eb; cases ec; cases ed; cases ee; cases ef
  refine ⟨⟨al, ⟨a, b, c, d⟩, bi, su, lo, hi⟩, rfl, ⟨⟨ha, hb, hc, hd⟩, wf_i64 hbi, wf_i64 hlo, wf_i64 hhi⟩, ?_⟩
  rw [hx]
  simp only [DataW.weights, Tryd.underlying33]
  refine DataW.weights_mem_each (j := 3) (t := 9) (d := y3.1) rfl (by rw [List.getElem?_map, h3]; rfl) _ ?_
  rw [hsu]
  unfold DataW.weights
  exact List.mem_singleton.2 (Array.length_toList (xs := su.data)).symm
theorem weights_mem_all {H : Type} {P : Program} {e : TypeId} : ∀ {ds : List (DataW H)} {d : DataW H}, d ∈ ds → ∀ n ∈ d.weights P e, n ∈ DataW.weightsAll P e ds
  | d0 :: ds, d, hd, n, hn => by
    simp only [DataW.weightsAll, List.mem_append]
    rcases List.mem_cons.1 hd with rfl | hd
    · exact .inl hn
    · exact .inr (weights_mem_all hd n hn)
  | [], d, hd, _, _ => by cases hd
theorem open_rules {t : TypeId} (ht : Tryd.prog.underlying t = some (.slice 33)) {fuel : Nat} {cs : List Value} {x : DataW H × List MemPlace} (h : DataW.trod enc Tryd.prog w base spare held fuel t cs = some x) :
    ∃ (A : Option Addr) (c : Nat) (l : List S33), cs = [.slice A l.length c] ∧ l.length ≤ c ∧ Kd.C k33 w A l.length l ∧ ∀ r ∈ l, okRule r ∧ r.f3.size ∈ x.1.weights Tryd.prog t := by
  rcases open_slice ht h with ⟨rfl, rfl⟩ | ⟨a, len, cap, m, n, D, Pl, rfl, hb, hl, hm, hmm, hx, hi⟩
  · exact ⟨none, 0, [], rfl, Nat.le_refl _, Kd.C_nil _ _, fun r hr => by cases hr⟩
  · have hlm : len ≤ m := by rw [hmm]; split <;> omega
    have hi' : ∀ i : Fin len, ∃ r : S33, okRule r ∧ r.f3.size ∈ (D i.1).weights Tryd.prog 33 ∧ ∀ j, j < 9 → w.cell? (a.add (i.1 * 9 + j)) = (rcells r)[j]? := by
      intro i
      obtain ⟨cs', hc, ht2⟩ := hi i.1 (by omega)
      obtain ⟨r, rfl, hr, hw⟩ := open_rule ht2
      obtain ⟨_, _, hat⟩ := World.cells?_some hc
      rw [cellsRule] at hat
      exact ⟨r, hr, hw, fun j hj => by rw [← Go.Deep.add_add]; exact hat j hj⟩
    have hg : ∀ i, i < len → (List.ofFn fun i : Fin len => (hi' i).choose)[i]? = some ((List.ofFn fun i : Fin len => (hi' i).choose).getD i z33) := fun i hi2 => by
      rw [List.getD_eq_getElem?_getD, List.getElem?_eq_getElem (by rw [List.length_ofFn]; exact hi2)]; rfl
    have hlen : (List.ofFn fun i : Fin len => (hi' i).choose).length = len := List.length_ofFn
    refine ⟨some a, cap, List.ofFn fun i : Fin len => (hi' i).choose, by rw [hlen], by rw [hlen]; exact hl, ?_, ?_⟩
    · refine ⟨rfl, by rw [hlen]; unfold maxLen at hm; omega, fun _ => ⟨a, rfl, fun j p hj => ?_⟩⟩
      have hjl : j < len := by rw [← hlen]; exact (List.getElem?_eq_some_iff.1 hj).1
      have hp : (hi' ⟨j, hjl⟩).choose = p := by
        rw [List.getElem?_ofFn, dif_pos hjl] at hj
        exact Option.some.inj hj
      subst hp
      refine ⟨_, rfl, k33_mk w _, fun i u hu => ?_⟩
      have hi9 : i < 9 := (List.getElem?_eq_some_iff.1 hu).1
      exact ((hi' ⟨j, hjl⟩).choose_spec.2.2 i hi9).trans hu
    · intro r hr
      obtain ⟨i, rfl⟩ := List.mem_ofFn.1 hr
      refine ⟨(hi' i).choose_spec.1, ?_⟩
      rw [hx]
      simp only [DataW.weights, ht]
      refine List.mem_cons_of_mem _ (List.mem_append_left _ (weights_mem_all (d := D i.1) (List.mem_map.2 ⟨i.1, List.mem_range.2 i.2, rfl⟩) _ (hi' i).choose_spec.2.1))
theorem six_of {l : List Value} (h : l.length = 6) : ∃ a b c d e f, l = [a, b, c, d, e, f] := by
  match l, h with
  | [a, b, c, d, e, f], _ => exact ⟨a, b, c, d, e, f, rfl⟩
theorem five_of {l : List Value} (h : l.length = 5) : ∃ a b c d e, l = [a, b, c, d, e] := by
  match l, h with
  | [a, b, c, d, e], _ => exact ⟨a, b, c, d, e, rfl⟩
theorem open_host {fuel : Nat} {cs : List Value} {x : DataW H × List MemPlace} (h : DataW.trod enc Tryd.prog w base spare held fuel 26 cs = some x) :
    ∃ a b c d n, cs = [.int .u8 a, .int .u8 b, .int .u8 c, .int .u8 d, .string n] ∧ (inU8 a ∧ inU8 b ∧ inU8 c ∧ inU8 d) ∧ n.size ∈ x.1.weights Tryd.prog 26 := by
  obtain ⟨xs, m, -, hx, hl, hxl, hf⟩ := DataW.trod_struct Tryd.underlying26 h
  obtain ⟨v0, v1, v2, v3, v4, rfl⟩ := five_of (hl.trans cellsHost)
  obtain ⟨y0, h0⟩ : ∃ y, xs[0]? = some y := ⟨_, List.getElem?_eq_getElem (by rw [hxl]; decide)⟩
  obtain ⟨y1, h1⟩ : ∃ y, xs[1]? = some y := ⟨_, List.getElem?_eq_getElem (by rw [hxl]; decide)⟩
  have g0 : DataW.trod enc Tryd.prog w base spare held m 24 ((([v0, v1, v2, v3, v4] : List Value).drop 0).take (Tryd.prog.cellsOf 24)) = xs[0]? := hf 0 _ rfl
  have g1 : DataW.trod enc Tryd.prog w base spare held m 9 ((([v0, v1, v2, v3, v4] : List Value).drop 4).take (Tryd.prog.cellsOf 9)) = xs[1]? := hf 1 _ rfl
  simp only [cellsAddr, cellsStr, List.drop_zero, List.drop_succ_cons, List.take_succ_cons, List.take_zero] at g0 g1
  rw [h0] at g0; rw [h1] at g1
  obtain ⟨a, b, c, d, eb, ha, hb, hc, hd⟩ := open_addr g0
  obtain ⟨n, ed, hsu, -⟩ := DataW.trod_string Tryd.underlying9 g1
  cases eb; cases ed
  refine ⟨a, b, c, d, n, rfl, ⟨ha, hb, hc, hd⟩, ?_⟩
  rw [hx]
  simp only [DataW.weights, Tryd.underlying26]
  refine DataW.weights_mem_each (j := 1) (t := 9) (d := y1.1) rfl (by rw [List.getElem?_map, h1]; rfl) _ ?_
  rw [hsu]
  unfold DataW.weights
  exact List.mem_singleton.2 (Array.length_toList (xs := n.data)).symm
theorem open_dest {fuel : Nat} {cs : List Value} {x : DataW H × List MemPlace} (h : DataW.trod enc Tryd.prog w base spare held fuel 28 cs = some x) :
    ∃ a b c d n po, cs = [.int .u8 a, .int .u8 b, .int .u8 c, .int .u8 d, .string n, .int .i64 po] ∧ (inU8 a ∧ inU8 b ∧ inU8 c ∧ inU8 d) ∧ okI po ∧ n.size ∈ x.1.weights Tryd.prog 28 := by
  obtain ⟨xs, m, -, hx, hl, hxl, hf⟩ := DataW.trod_struct Tryd.underlying28 h
  obtain ⟨v0, v1, v2, v3, v4, v5, rfl⟩ := six_of (hl.trans cellsDest)
  obtain ⟨y0, h0⟩ : ∃ y, xs[0]? = some y := ⟨_, List.getElem?_eq_getElem (by rw [hxl]; decide)⟩
  obtain ⟨y1, h1⟩ : ∃ y, xs[1]? = some y := ⟨_, List.getElem?_eq_getElem (by rw [hxl]; decide)⟩
  have g0 : DataW.trod enc Tryd.prog w base spare held m 26 ((([v0, v1, v2, v3, v4, v5] : List Value).drop 0).take (Tryd.prog.cellsOf 26)) = xs[0]? := hf 0 _ rfl
  have g1 : DataW.trod enc Tryd.prog w base spare held m 3 ((([v0, v1, v2, v3, v4, v5] : List Value).drop 5).take (Tryd.prog.cellsOf 3)) = xs[1]? := hf 1 _ rfl
  simp only [cellsHost, cellsInt, List.drop_zero, List.drop_succ_cons, List.take_succ_cons, List.take_zero] at g0 g1
  rw [h0] at g0; rw [h1] at g1
  obtain ⟨a, b, c, d, n, eb, hb, hw⟩ := open_host g0
  obtain ⟨po, ed, -, hpo⟩ := DataW.trod_int Tryd.underlying3 g1
  cases eb; cases ed
  refine ⟨a, b, c, d, n, po, rfl, hb, wf_i64 hpo, ?_⟩
  rw [hx]
  simp only [DataW.weights, Tryd.underlying28]
  exact DataW.weights_mem_each (j := 0) (t := 26) (d := y0.1) rfl (by rw [List.getElem?_map, h0]; rfl) _ hw
end
end Go.Proofs.YteondnhokgmakaaDoor.E

/- policy's Put, Which, May, purely (for PolicyAll). -/
namespace Go.Proofs.YteondnhokgmakaaDoor.E
open Go.RowKit Go.Proofs.YteondnhokgmakaaDoorW.PrintWords Go.Proofs.YteondnhokgmakaaDoorW.PrintLast Go.Proofs.YteondnhokgmakaaDoor.XC Go.Proofs.YteondnhokgmakaaDoor.XM Go.Proofs.YteondnhokgmakaaDoor.XZ
set_option linter.unusedVariables false
set_option linter.unusedSimpArgs false

theorem checkL_ge (l : List S33) (hs : ∀ r ∈ l, r.f3.size ≤ 281474976710656) (j : Nat) : policy_Check.f (67 + j) l = some (checkL l) := by
  induction j with
  | zero => exact checkL_some l hs
  | succ j ih => exact policy_Check.mono l (67 + j) _ ih
theorem checkL_zero {l : List S33} (h : checkL l = 0) : l.length ≤ 64 ∧ l.all rightB = true := by
  unfold checkL at h
  split at h
  · cases h
  · split at h
    · exact ⟨by omega, by assumption⟩
    · cases h
theorem checkL_of {l : List S33} (h0 : l.length ≤ 64) (h1 : l.all rightB = true) : checkL l = 0 := by
  unfold checkL
  rw [if_neg (by omega), if_pos h1]
theorem checkL_or (l : List S33) : checkL l = 0 ∨ checkL l = 3 ∨ checkL l = 120 := by
  unfold checkL
  split
  · exact .inr (.inl rfl)
  · split
    · exact .inl rfl
    · exact .inr (.inr rfl)
/-- What Put tells. -/
def putB (l : List S33) (i : Int) (m : List S33) : List S33 × Int :=
  if checkL l = 0 then if checkL m = 0 then if i < 0 ∨ (l.length : Int) < i then ([], 2) else if 64 < l.length + m.length then ([], 3) else (l.take i.toNat ++ m ++ l.drop i.toNat, 0)
    else ([], checkL m) else ([], checkL l)
theorem putB_some (l : List S33) (i : Int) (m : List S33) (hl : ∀ r ∈ l, r.f3.size ≤ 281474976710656) (hm : ∀ r ∈ m, r.f3.size ≤ 281474976710656) (j : Nat) : policy_Put.f (71 + j) l i m = some (putB l i m) := by
  unfold policy_Put.f putB
  rw [Option.bind_some]
  rw [show 71 + j = (67 + j) + 1 + 1 + 1 + 1 by omega]
  have e0 : rd_L8 [l, m] (0 : Int) = l := rfl
  have e1 : rd_L8 [l, m] (1 : Int) = m := rfl
  have w0 : wrap64 (0 + 1) = (1 : Int) := wrap64_id _ (by omega) (by omega)
  have w1 : wrap64 (1 + 1) = (2 : Int) := wrap64_id _ (by omega) (by omega)
  have L2 : (([l, m] : List (List S33)).length : Int) = 2 := rfl
  have c2 : policy_Check.f (67 + j + 1 + 1 + 1) l = some (checkL l) := checkL_ge l hl (j + 1 + 1 + 1)
  have c1 : policy_Check.f (67 + j + 1 + 1) m = some (checkL m) := checkL_ge m hm (j + 1 + 1)
  rw [policy_Put.l0, L2, if_pos (by decide), if_pos (by decide), if_pos (by decide), e0, c2, Option.bind_some]
  by_cases h1 : checkL l = 0
  · rw [if_pos h1, if_pos h1, w0, policy_Put.l0, if_pos (by decide), if_pos (by decide), L2, if_pos (by decide), e1, c1, Option.bind_some]
    by_cases h2 : checkL m = 0
    · obtain ⟨l64, -⟩ := checkL_zero h1
      obtain ⟨m64, -⟩ := checkL_zero h2
      rw [if_pos h2, if_pos h2, w1, policy_Put.l0, if_neg (by decide)]
      by_cases h3 : i < 0
      · rw [if_pos h3, policy_Put.j1, if_pos rfl, if_pos (.inl h3)]
      · rw [if_neg h3]
        by_cases h4 : (l.length : Int) < i
        · rw [decide_eq_true (show i > (l.length : Int) from h4), policy_Put.j1, if_pos rfl, if_pos (.inr h4)]
        · have hw : wrap64 ((l.length : Int) + (m.length : Int)) = (l.length : Int) + (m.length : Int) := wrap64_id _ (by omega) (by omega)
          rw [decide_eq_false (show ¬ i > (l.length : Int) from h4), policy_Put.j1, if_neg (by simp), if_neg (show ¬ (i < 0 ∨ (l.length : Int) < i) from fun h => h.elim h3 h4), hw]
          by_cases h5 : 64 < l.length + m.length
          · rw [if_pos (by omega), if_pos h5]
          · have t1 : (l.take i.toNat).length = i.toNat := by rw [List.length_take]; omega
            have t2 : (l.drop i.toNat).length = l.length - i.toNat := List.length_drop ..
            rw [if_neg (by omega), if_neg h5]
            simp only [Option.bind_some, List.nil_append, List.length_append, List.length_nil, t1, t2]
            rw [if_pos (by omega), if_pos (by omega), if_pos (by omega), if_pos (by omega), if_pos (by omega)]
    · rw [if_neg h2, if_neg h2]
  · rw [if_neg h1, if_neg h1]
theorem whichAt_range (fit : S33 → Bool) : ∀ (l : List S33) (i : Int), 0 ≤ i → whichAt fit l i = -1 ∨ (i ≤ whichAt fit l i ∧ whichAt fit l i < i + l.length)
  | [], i, _ => .inl rfl
  | r :: l, i, h => by
    unfold whichAt
    split
    · exact .inr ⟨Int.le_refl _, by simp only [List.length_cons]; omega⟩
    · rcases whichAt_range fit l (i + 1) (by omega) with h1 | h1
      · exact .inl h1
      · exact .inr ⟨by omega, by simp only [List.length_cons]; omega⟩
/-- What is before the rule that fits does not; what is behind it changes nothing. -/
theorem whichAt_split (fit : S33 → Bool) (m : List S33) : ∀ (l : List S33) (i : Int) (k : Nat), 0 ≤ i → k < l.length → whichAt fit l i = i + k → whichAt fit (l.take k) i = -1 ∧ whichAt fit (l.take (k + 1) ++ m) i = i + k
  | [], i, k, _, h, _ => by simp at h
  | r :: l, i, 0, h, _, hw => by
    unfold whichAt at hw
    have hr : fit r = true := by
      cases hf : fit r
      · rw [hf, if_neg (by simp)] at hw
        rcases whichAt_range fit l (i + 1) (by omega) with h1 | h1 <;> omega
      · rfl
    refine ⟨rfl, ?_⟩
    rw [show (r :: l).take (0 + 1) ++ m = r :: m from rfl]
    unfold whichAt
    rw [if_pos hr]; omega
  | r :: l, i, k + 1, h, hk, hw => by
    unfold whichAt at hw
    have hr : fit r = false := by
      cases hf : fit r
      · rfl
      · rw [hf, if_pos rfl] at hw; omega
    rw [hr, if_neg (by simp)] at hw
    have ih := whichAt_split fit m l (i + 1) k (by omega) (by simpa using hk) (by omega)
    constructor
    · rw [List.take_succ_cons]
      unfold whichAt
      rw [hr, if_neg (by simp)]
      exact ih.1
    · rw [List.take_succ_cons, List.cons_append]
      unfold whichAt
      rw [hr, if_neg (by simp), ih.2]; omega
theorem rd_at (l : List S33) (k : Nat) (hk : k < l.length) : rd_T33 l (k : Int) = l[k] := by
  unfold rd_T33
  rw [show ((k : Int)).toNat = k by omega, List.getD_eq_getElem?_getD, List.getElem?_eq_getElem hk]; rfl
theorem sized_sub {l m : List S33} (h : sized l = true) (hm : ∀ r ∈ m, r ∈ l) : sized m = true := List.all_eq_true.2 fun r hr => List.all_eq_true.1 h r (hm r hr)

def okD (a b c d : Int) (n : ByteArray) : Prop := (0 ≤ a ∧ a ≤ 255) ∧ (0 ≤ b ∧ b ≤ 255) ∧ (0 ≤ c ∧ c ≤ 255) ∧ (0 ≤ d ∧ d ≤ 255) ∧ n.size ≤ 281474976710656
theorem which_f {l : List S33} {a b c d : Int} {n : ByteArray} {po : Int} (hd : okD a b c d n) (hz : sized l = true) : Which.f l a b c d n po = some (whichB l a b c d n po) := by
  unfold Which.f
  exact if_pos ⟨hd, hz⟩
theorem may_f {l : List S33} {a b c d : Int} {n : ByteArray} {po : Int} (hd : okD a b c d n) (hz : sized l = true) (k : Nat) (hk : k < l.length) (hw : whichB l a b c d n po = k) : policy_May.f l a b c d n po = some l[k].f0 := by
  unfold policy_May.f
  rw [which_f hd hz, hw, Option.bind_some, if_pos (by omega), if_pos (by omega), if_pos (by omega), rd_at l k hk]
theorem may_f_no {l : List S33} {a b c d : Int} {n : ByteArray} {po : Int} (hd : okD a b c d n) (hz : sized l = true) (hw : whichB l a b c d n po = -1) : policy_May.f l a b c d n po = some false := by
  unfold policy_May.f
  rw [which_f hd hz, hw, Option.bind_some, if_neg (by omega)]
theorem whichB_or (l : List S33) (a b c d : Int) (n : ByteArray) (po : Int) : whichB l a b c d n po = -1 ∨ ∃ k : Nat, k < l.length ∧ whichB l a b c d n po = k ∧ checkL l = 0 ∧ (printDestB a b c d n po).toList.isEmpty = false ∧ whichAt (fitB a b c d n po) l 0 = (0 : Int) + k := by
  unfold whichB
  split
  · rename_i h1
    split
    · exact .inl rfl
    · rename_i h2
      rcases whichAt_range (fitB a b c d n po) l 0 (by omega) with h | h
      · exact .inl h
      · exact .inr ⟨(whichAt (fitB a b c d n po) l 0).toNat, by omega, by omega, h1, by simpa using h2, by omega⟩
  · exact .inl rfl
end Go.Proofs.YteondnhokgmakaaDoor.E
