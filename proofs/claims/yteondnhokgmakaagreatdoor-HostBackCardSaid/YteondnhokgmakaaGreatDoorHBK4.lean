/- What the cards of this seat rest on: the walks and plain laws, part 4. -/
import Derived.Test.YteondnhokgmakaaGreatDoorHBK3
import Derived.Lib.LastIndexByte
import Derived.Test.YteondnhokgmakaaGreatDoorProg
import Derived.Test.YteondnhokgmakaaGreatDoorHBK2
import Derived.WalkKit
import Derived.LaidEql
import Derived.Stop.Asserts
import Derived.RowKitTokens
import Derived.Deep.RegionWith
import Derived.RegionTactic
import Derived.BigRegion
import Derived.ChangeAlike
import Derived.Deep.QuietTactic
import Derived.BigQuiet
import Derived.Laws.BitsLemmas
import Derived.Laws.Bits64


namespace Go.Proofs.YteondnhokgmakaaGreatDoor.XR
open Go.Proofs.YteondnhokgmakaaGreatDoor.XC Go.Proofs.YteondnhokgmakaaGreatDoor.XM
open Go.RowKit Go.Proofs.YteondnhokgmakaaGreatDoorW.PrintWords Go.Proofs.YteondnhokgmakaaGreatDoorW.PrintLast Go.Proofs.YteondnhokgmakaaGreatDoorW.PrintMore
attribute [local go_sem] max2_int min2_int max_two min_two max_three min_three max_four min_four
set_option linter.unusedVariables false
set_option linter.unusedSimpArgs false
def sallyportref06_fault.f (a0 : Int) (a1 : Int) : Option (Int × ByteArray × ByteArray × ByteArray × ByteArray × Int × Int × Int × Int × Int) := (E.Fail.f (⟨#[104, 111, 115, 116]⟩ : ByteArray) a0 a1).bind fun bt102 => (some (bt102.1, bt102.2.1, bt102.2.2.1, bt102.2.2.2.1, bt102.2.2.2.2.1, bt102.2.2.2.2.2.1, bt102.2.2.2.2.2.2.1, bt102.2.2.2.2.2.2.2.1, bt102.2.2.2.2.2.2.2.2.1, bt102.2.2.2.2.2.2.2.2.2))
set_option maxHeartbeats 8000000 in
set_option maxRecDepth 100000 in
theorem sallyportref06_fault.calls (a0 : Int) (a1 : Int) (r1 : Int) (r2 : ByteArray) (r3 : ByteArray) (r4 : ByteArray) (r5 : ByteArray) (r6 : Int) (r7 : Int) (r8 : Int) (r9 : Int) (r10 : Int) (w : World) (hS_ : StdW w) (h : sallyportref06_fault.f a0 a1 = some (r1, r2, r3, r4, r5, r6, r7, r8, r9, r10)) :
    Calls Tryz.prog 76 #[.int .i64 a0, .int .i64 a1] w fun e w' => e = .returned (.agg #[.int .i64 r1, .string r2, .string r3, .string r4, .string r5, .int .i64 r6, .int .i64 r7, .int .i64 r8, .int .i64 r9, .int .i64 r10]) ∧ Below w.heap.size w w' := by
  have hu79 := Tryz.underlying79
  have HS_ := Aside0.mk hS_
  clear hS_
  have HB := Aside0.mk (Below.refl w.heap.size w)
  have H : ((E.Fail.f (⟨#[104, 111, 115, 116]⟩ : ByteArray) a0 a1).bind fun bt102 => (some (bt102.1, bt102.2.1, bt102.2.2.1, bt102.2.2.2.1, bt102.2.2.2.2.1, bt102.2.2.2.2.2.1, bt102.2.2.2.2.2.2.1, bt102.2.2.2.2.2.2.2.1, bt102.2.2.2.2.2.2.2.2.1, bt102.2.2.2.2.2.2.2.2.2))) = some (r1, r2, r3, r4, r5, r6, r7, r8, r9, r10) := h
  clear h
  replace H := Option.bind_eq_some_iff.mp H
  obtain ⟨⟨t102, t103, t104, t105, t106, t107, t108, t109, t110, t111⟩, A30, H⟩ := H
  replace H : (some (t102, t103, t104, t105, t106, t107, t108, t109, t110, t111)) = some (r1, r2, r3, r4, r5, r6, r7, r8, r9, r10) := H
  have A3 := Aside0.mk A30
  clear A30
  simp only [Option.some.injEq, Prod.mk.injEq] at H
  obtain ⟨rfl, rfl, rfl, rfl, rfl, rfl, rfl, rfl, rfl, rfl⟩ := H
  go_enter Tryz.func76, Tryz.ntmps76
  go_wp2_with (first | ((with_reducible refine gate_dst (N := 4) rfl ?_); refine box_event ?hg (N := 4) ?hd (cs := #[.int .i64 0, .string (⟨#[]⟩ : ByteArray), .string (⟨#[]⟩ : ByteArray), .string (⟨#[]⟩ : ByteArray), .string (⟨#[]⟩ : ByteArray), .int .i64 0, .int .i64 0, .int .i64 0, .int .i64 0, .int .i64 0]) (t := 79) ?hr ?_; (case hd => rfl); (case hg => rfl); (case hr => first | (go_simp; done) | (go_simp; rfl)); intro gb101 hg w4 hbox hb; have n0_ := Aside0.mk (below_step (by repeat (first | (with_reducible first | exact HB.out | apply below_alloc | apply pw_below_drewN | apply below_drew1) | exact HB.out)) hb); have n1_ := Aside0.mk (hbox); have n2_ := Aside0.mk ((by rw [hg]; exact (below_size (by repeat (first | (with_reducible first | exact HB.out | apply below_alloc | apply pw_below_drewN | apply below_drew1) | exact HB.out))) : w.heap.size ≤ gb101)); have n3_ := Aside0.mk ((by rw [hg]; exact (below_size (by repeat (first | (with_reducible first | exact HB.out | apply below_alloc | apply pw_below_drewN | apply below_drew1) | exact HB.out))) : w.heap.size ≤ gb101)); clear HB; have HB := n0_; have BK101 := n1_; have GW101 := n2_; have GE101 := n3_; clear n0_ n1_ n2_ n3_; clear hb hbox hg) | ((with_reducible refine gate_callee (f := 59) rfl ?_); refine goesL_ (some 7) rfl rfl Tryz.func59 (by kernel_rfl) rfl #[.string (⟨#[104, 111, 115, 116]⟩ : ByteArray), .int .i64 a0, .int .i64 a1] rfl (by (try simp only [List.map_toArray, List.map_cons, List.map_nil]); first | done | rfl | (simp only [List.length_drop, List.length_take]; rfl)) ?_; (with_reducible refine (E.Fail.calls (⟨#[104, 111, 115, 116]⟩ : ByteArray) a0 a1 t102 t103 t104 t105 t106 t107 t108 t109 t110 t111 _ ?side1 A3.out).mono ?_); (case side1 => exact StdW.below HS_.out (by repeat (first | (with_reducible first | exact HB.out | apply below_alloc | apply pw_below_drewN | apply below_drew1 | refine below_set ?_ GE101.out) | exact HB.out))); rintro e w5 ⟨rfl, hb⟩; refine ⟨_, rfl, ?_⟩; have n0_ := Aside0.mk (blk_below (g := gb101) (o := .cells #[.int .i64 0, .string (⟨#[]⟩ : ByteArray), .string (⟨#[]⟩ : ByteArray), .string (⟨#[]⟩ : ByteArray), .string (⟨#[]⟩ : ByteArray), .int .i64 0, .int .i64 0, .int .i64 0, .int .i64 0, .int .i64 0] 79 (0, 0)) (by (with_reducible repeat (first | refine blk_drewN ?_ _ | refine blk_drew ?_ | refine blk_alloc ?_ _)); exact BK101.out) hb); have n1_ := Aside0.mk (below_step (by repeat (first | (with_reducible first | exact HB.out | apply below_alloc | apply pw_below_drewN | apply below_drew1 | refine below_set ?_ GE101.out) | exact HB.out)) hb); clear BK101; clear HB; have BK101 := n0_; have HB := n1_; clear n0_ n1_; (try clear hb); (try clear hb2); (try clear hk); (try clear hi); have hcz6_0 : w5.cell? ⟨gb101, 0, none⟩ = some (.int .i64 0) := (blk_cell BK101.out 0).trans rfl; have hcz6_1 : w5.cell? ⟨gb101, 1, none⟩ = some (.string (⟨#[]⟩ : ByteArray)) := (blk_cell BK101.out 1).trans rfl; have hcz6_2 : w5.cell? ⟨gb101, 2, none⟩ = some (.string (⟨#[]⟩ : ByteArray)) := (blk_cell BK101.out 2).trans rfl; have hcz6_3 : w5.cell? ⟨gb101, 3, none⟩ = some (.string (⟨#[]⟩ : ByteArray)) := (blk_cell BK101.out 3).trans rfl; have hcz6_4 : w5.cell? ⟨gb101, 4, none⟩ = some (.string (⟨#[]⟩ : ByteArray)) := (blk_cell BK101.out 4).trans rfl; have hcz6_5 : w5.cell? ⟨gb101, 5, none⟩ = some (.int .i64 0) := (blk_cell BK101.out 5).trans rfl; have hcz6_6 : w5.cell? ⟨gb101, 6, none⟩ = some (.int .i64 0) := (blk_cell BK101.out 6).trans rfl; have hcz6_7 : w5.cell? ⟨gb101, 7, none⟩ = some (.int .i64 0) := (blk_cell BK101.out 7).trans rfl; have hcz6_8 : w5.cell? ⟨gb101, 8, none⟩ = some (.int .i64 0) := (blk_cell BK101.out 8).trans rfl; have hcz6_9 : w5.cell? ⟨gb101, 9, none⟩ = some (.int .i64 0) := (blk_cell BK101.out 9).trans rfl; have hfz6_0 := blk_frozen BK101.out 0; have hfz6_1 := blk_frozen BK101.out 1; have hfz6_2 := blk_frozen BK101.out 2; have hfz6_3 := blk_frozen BK101.out 3; have hfz6_4 := blk_frozen BK101.out 4; have hfz6_5 := blk_frozen BK101.out 5; have hfz6_6 := blk_frozen BK101.out 6; have hfz6_7 := blk_frozen BK101.out 7; have hfz6_8 := blk_frozen BK101.out 8; have hfz6_9 := blk_frozen BK101.out 9))
  refine bodyPost_ret (results_cell_row rfl _ _ gb101 79 #[.int .i64 t102, .string t103, .string t104, .string t105, .string t106, .int .i64 t107, .int .i64 t108, .int .i64 t109, .int .i64 t110, .int .i64 t111] (0, 0) _ rfl (by (with_reducible repeat (first | refine blk_drewN ?_ _ | refine blk_drew ?_ | refine blk_alloc ?_ _)); refine blk_put (cs := #[.int .i64 t102, .string t103, .string t104, .string t105, .string t106, .int .i64 t107, .int .i64 t108, .int .i64 t109, .int .i64 t110, .int .i64 0]) ?_ 9 _ rfl; (with_reducible repeat (first | refine blk_drewN ?_ _ | refine blk_drew ?_ | refine blk_alloc ?_ _)); refine blk_put (cs := #[.int .i64 t102, .string t103, .string t104, .string t105, .string t106, .int .i64 t107, .int .i64 t108, .int .i64 t109, .int .i64 0, .int .i64 0]) ?_ 8 _ rfl; (with_reducible repeat (first | refine blk_drewN ?_ _ | refine blk_drew ?_ | refine blk_alloc ?_ _)); refine blk_put (cs := #[.int .i64 t102, .string t103, .string t104, .string t105, .string t106, .int .i64 t107, .int .i64 t108, .int .i64 0, .int .i64 0, .int .i64 0]) ?_ 7 _ rfl; (with_reducible repeat (first | refine blk_drewN ?_ _ | refine blk_drew ?_ | refine blk_alloc ?_ _)); refine blk_put (cs := #[.int .i64 t102, .string t103, .string t104, .string t105, .string t106, .int .i64 t107, .int .i64 0, .int .i64 0, .int .i64 0, .int .i64 0]) ?_ 6 _ rfl; (with_reducible repeat (first | refine blk_drewN ?_ _ | refine blk_drew ?_ | refine blk_alloc ?_ _)); refine blk_put (cs := #[.int .i64 t102, .string t103, .string t104, .string t105, .string t106, .int .i64 0, .int .i64 0, .int .i64 0, .int .i64 0, .int .i64 0]) ?_ 5 _ rfl; (with_reducible repeat (first | refine blk_drewN ?_ _ | refine blk_drew ?_ | refine blk_alloc ?_ _)); refine blk_put (cs := #[.int .i64 t102, .string t103, .string t104, .string t105, .string (⟨#[]⟩ : ByteArray), .int .i64 0, .int .i64 0, .int .i64 0, .int .i64 0, .int .i64 0]) ?_ 4 _ rfl; (with_reducible repeat (first | refine blk_drewN ?_ _ | refine blk_drew ?_ | refine blk_alloc ?_ _)); refine blk_put (cs := #[.int .i64 t102, .string t103, .string t104, .string (⟨#[]⟩ : ByteArray), .string (⟨#[]⟩ : ByteArray), .int .i64 0, .int .i64 0, .int .i64 0, .int .i64 0, .int .i64 0]) ?_ 3 _ rfl; (with_reducible repeat (first | refine blk_drewN ?_ _ | refine blk_drew ?_ | refine blk_alloc ?_ _)); refine blk_put (cs := #[.int .i64 t102, .string t103, .string (⟨#[]⟩ : ByteArray), .string (⟨#[]⟩ : ByteArray), .string (⟨#[]⟩ : ByteArray), .int .i64 0, .int .i64 0, .int .i64 0, .int .i64 0, .int .i64 0]) ?_ 2 _ rfl; (with_reducible repeat (first | refine blk_drewN ?_ _ | refine blk_drew ?_ | refine blk_alloc ?_ _)); refine blk_put (cs := #[.int .i64 t102, .string (⟨#[]⟩ : ByteArray), .string (⟨#[]⟩ : ByteArray), .string (⟨#[]⟩ : ByteArray), .string (⟨#[]⟩ : ByteArray), .int .i64 0, .int .i64 0, .int .i64 0, .int .i64 0, .int .i64 0]) ?_ 1 _ rfl; (with_reducible repeat (first | refine blk_drewN ?_ _ | refine blk_drew ?_ | refine blk_alloc ?_ _)); refine blk_put (cs := #[.int .i64 0, .string (⟨#[]⟩ : ByteArray), .string (⟨#[]⟩ : ByteArray), .string (⟨#[]⟩ : ByteArray), .string (⟨#[]⟩ : ByteArray), .int .i64 0, .int .i64 0, .int .i64 0, .int .i64 0, .int .i64 0]) ?_ 0 _ rfl; (with_reducible repeat (first | refine blk_drewN ?_ _ | refine blk_drew ?_ | refine blk_alloc ?_ _)); exact BK101.out) Tryz.underlying79 rfl (by kernel_rfl)) rfl ?_
  exact ⟨by first | rfl | (simp [errW_none, errW_some] <;> rfl) | (simp [*, errW_none, errW_some] <;> rfl), by repeat (first | (with_reducible first | exact HB.out | apply below_alloc | apply pw_below_drewN | apply below_drew1 | refine below_set ?_ GE101.out) | exact HB.out)⟩
def sallyportref06_parts.l0 : Nat → ByteArray → List ByteArray → List Int → Int → Option (List ByteArray × List Int)
  | 0, _, _, _, _ => none
  | k + 1, x0, x4, x5, x6 => if x6 < (x0.size : Int) then (if 0 ≤ x6 then (if (bt x0 x6) = 46 then (if x4.length < 8796093022208 then (if x5.length < 17592186044416 then (sallyportref06_parts.l0 k x0 (x4 ++ [(⟨#[]⟩ : ByteArray)]) (x5 ++ [wrap64 (x6 + 1)]) (wrap64 (x6 + 1))) else (none)) else (none)) else (if 0 ≤ (wrap64 ((x4.length : Int) - 1)) then (if (wrap64 ((x4.length : Int) - 1)) < (x4.length : Int) then (if x6 ≤ (wrap64 (x6 + 1)) then (if (wrap64 (x6 + 1)) ≤ (x0.size : Int) then (if (rdOf ByteArray.empty x4 (wrap64 ((x4.length : Int) - 1))).size + (x0.extract (x6 : Int).toNat ((wrap64 (x6 + 1)) : Int).toNat).size ≤ 9223372036854775807 then (sallyportref06_parts.l0 k x0 (x4.set ((wrap64 ((x4.length : Int) - 1)) : Int).toNat ((rdOf ByteArray.empty x4 (wrap64 ((x4.length : Int) - 1))) ++ (x0.extract (x6 : Int).toNat ((wrap64 (x6 + 1)) : Int).toNat))) x5 (wrap64 (x6 + 1))) else (none)) else (none)) else (none)) else (none)) else (none))) else (none)) else (some (x4, x5))
def sallyportref06_parts.f (k : Nat) (a0 : ByteArray) : Option (List ByteArray × List Int) := sallyportref06_parts.l0 k a0 (([(⟨#[]⟩ : ByteArray)] : List ByteArray)) (([0] : List Int)) 0
theorem sallyportref06_parts.mono_l : ∀ k, (∀ y0 y1 y2 y3, LeO (sallyportref06_parts.l0 k y0 y1 y2 y3) (sallyportref06_parts.l0 (k + 1) y0 y1 y2 y3))
  | 0 => fun _ _ _ _ r h => by simp [sallyportref06_parts.l0] at h
  | k + 1 => by
    have ih0 := sallyportref06_parts.mono_l k
    · intro y0 y1 y2 y3
      unfold sallyportref06_parts.l0
      repeat' first
      | (with_reducible exact ih0 _ _ _ _)
      | (with_reducible exact LeO.refl _)
      | (with_reducible exact LeO.none _)
      | (with_reducible refine LeO.ite ?_ ?_)
      | (with_reducible refine LeO.bind ?_ (fun _ => ?_))
      | exact ih0 _ _ _ _
      | exact LeO.none _
      | refine LeO.ite ?_ ?_
      | refine LeO.bind ?_ (fun _ => ?_)
theorem sallyportref06_parts.mono : ∀ a0 k, LeO (sallyportref06_parts.f k a0) (sallyportref06_parts.f (k + 1) a0) := by
  intro a0 k
  have ih0 := sallyportref06_parts.mono_l k
  unfold sallyportref06_parts.f
  repeat' first
      | (with_reducible exact ih0 _ _ _ _)
      | (with_reducible exact LeO.refl _)
      | (with_reducible exact LeO.none _)
      | (with_reducible refine LeO.ite ?_ ?_)
      | (with_reducible refine LeO.bind ?_ (fun _ => ?_))
      | exact ih0 _ _ _ _
      | exact LeO.none _
      | refine LeO.ite ?_ ?_
      | refine LeO.bind ?_ (fun _ => ?_)
def sallyportref06_parts.T8 : Bool × List (List Nat × List Nat) := (true, [([], []), ([], []), ([1], [1]), ([2], [2]), ([0, 3], [0, 3]), ([4], [4]), ([], []), ([], []), ([], []), ([8], [8]), ([6, 7, 9], [6, 7, 9]), ([5, 10], [5, 10]), ([0, 3, 0, 1, 2, 3, 4, 5, 6, 7, 8, 9, 10, 11], [0, 3]), ([12, 11, 0, 1, 2, 3, 4, 5, 6, 7, 8, 9, 10, 11], [11, 12])])
def sallyportref06_parts.B8 : List Nat := [0, 0, 2, 6, 15, 31, 0, 0, 0, 256, 960, 2047, 4095, 8191]
theorem sallyportref06_parts.tab8 : rtab .any (opsOf Tryz.f77 8) = sallyportref06_parts.T8 := by kernel_rfl
theorem sallyportref06_parts.bits8 : waitsOk sallyportref06_parts.T8.2 sallyportref06_parts.B8 = true := by kernel_rfl
set_option maxHeartbeats 8000000 in
set_option maxRecDepth 100000 in
theorem sallyportref06_parts.calls (k : Nat) (a0 : ByteArray) (r1 : List ByteArray) (r2 : List Int) (w : World) (h : sallyportref06_parts.f k a0 = some (r1, r2)) :
    Calls Tryz.prog 77 #[.string a0] w fun e w' => ∃ v0_ v1_ : Value, e = .returned (.tuple #[v0_, v1_]) ∧ Kd.R Kd.string 9 w' w.heap.size (fun _ => True) v0_ r1 ∧ Kd.R (Kd.int .i64) 3 w' w.heap.size (fun _ => True) v1_ r2 ∧ Below w.heap.size w w' := by
  have HB := Aside0.mk (Below.refl w.heap.size w)
  have H : (sallyportref06_parts.l0 k a0 (([(⟨#[]⟩ : ByteArray)] : List ByteArray)) (([0] : List Int)) 0) = some (r1, r2) := h
  clear h
  obtain ⟨y112, hy112⟩ : ∃ y_ : List ByteArray, y_ = (([(⟨#[]⟩ : ByteArray)] : List ByteArray)) := ⟨_, rfl⟩
  replace H : (sallyportref06_parts.l0 k a0 y112 (([0] : List Int)) 0) = some (r1, r2) := by first | (rw [hy112]; with_reducible exact H) | (have H2_ := (Option.bind_some _ _).symm.trans H; rw [hy112]; with_reducible exact H2_) | (have H2_ := (Option.bind_some _ _).symm.trans H; with_reducible exact H2_) | with_reducible exact H | (rw [hy112]; exact H) | exact H
  have Ny112 := Aside0.mk hy112
  clear hy112
  obtain ⟨y115, hy115⟩ : ∃ y_ : List Int, y_ = (([0] : List Int)) := ⟨_, rfl⟩
  replace H : (sallyportref06_parts.l0 k a0 y112 y115 0) = some (r1, r2) := by first | (rw [hy115]; with_reducible exact H) | (have H2_ := (Option.bind_some _ _).symm.trans H; rw [hy115]; with_reducible exact H2_) | (have H2_ := (Option.bind_some _ _).symm.trans H; with_reducible exact H2_) | with_reducible exact H | (rw [hy115]; exact H) | exact H
  have Ny115 := Aside0.mk hy115
  clear hy115
  have H' := Aside0.mk H
  clear H
  go_enter Tryz.func77, Tryz.ntmps77
  go_wp2_with (first | ((with_reducible refine gate_dst (N := 7) rfl ?_); refine Kd.R_lit Kd.string _ 9 ?hg (N := 7) ?hd (xs := ([(⟨#[]⟩ : ByteArray)] : List ByteArray)) (inner := [.string (⟨#[]⟩ : ByteArray)]) (ok := fun _ => True) (okp := fun _ => True) ?hr ?hp (fun _ hk => hk) trivial (Below.refl _ _) (Nat.le_refl _) (by simp) ?_; (case hd => rfl); (case hg => rfl); (case hr => first | (go_simp; done) | (go_simp; rfl)); (case hp => exact (Reps.one (show Kd.M Kd.string _ _ _ (⟨#[]⟩ : ByteArray) [.string (⟨#[]⟩ : ByteArray)] from rfl) (Reps.none _ _))); intro v113 w2 ho3 hb hg_ hnew_; clear hg_ hnew_; (first | rw [← Ny112.out] at ho3 | (simp only [Int.reduceToNat] at ho3; rw [← Ny112.out] at ho3)); have n0_ := Aside0.mk (Kd.R_lower ho3 (below_size (by repeat (first | (with_reducible first | exact HB.out | apply below_alloc | apply pw_below_drewN | apply below_drew1) | exact HB.out)))); have n1_ := Aside0.mk (below_step (by repeat (first | (with_reducible first | exact HB.out | apply below_alloc | apply pw_below_drewN | apply below_drew1) | exact HB.out)) hb); clear HB; have HO114 := n0_; have HB := n1_; clear n0_ n1_; clear hb ho3) | ((with_reducible refine gate_dst (N := 8) rfl ?_); refine Kd.R_lit (Kd.int .i64) _ 3 ?hg (N := 8) ?hd (xs := ([0] : List Int)) (inner := [.int .i64 0]) (ok := fun _ => True) (okp := fun _ => True) ?hr ?hp (fun _ hk => hk) trivial (Below.refl _ _) (Nat.le_refl _) (by simp) ?_; (case hd => rfl); (case hg => rfl); (case hr => first | (go_simp; done) | (go_simp; rfl)); (case hp => exact (Reps.one (show Kd.M (Kd.int .i64) _ _ _ 0 [.int .i64 0] from rfl) (Reps.none _ _))); intro v116 w4 ho5 hb hg_ hnew_; clear hg_ hnew_; (first | rw [← Ny115.out] at ho5 | (simp only [Int.reduceToNat] at ho5; rw [← Ny115.out] at ho5)); have n0_ := Aside0.mk (Kd.R_below (by (with_reducible repeat (first | apply Kd.R_alloc | apply Kd.R_drewN | apply Kd.R_drew)); exact HO114.out) hb); have n1_ := Aside0.mk (Kd.R_lower ho5 (below_size (by repeat (first | (with_reducible first | exact HB.out | apply below_alloc | apply pw_below_drewN | apply below_drew1) | exact HB.out)))); have n2_ := Aside0.mk (below_step (by repeat (first | (with_reducible first | exact HB.out | apply below_alloc | apply pw_below_drewN | apply below_drew1) | exact HB.out)) hb); clear HO114; clear HB; have HO114 := n0_; have HO117 := n1_; have HB := n2_; clear n0_ n1_ n2_; clear hb ho5))
  go_loopg [4, 5, 6] k (fun kq v4 v5 v6 w' => ∃ (x4_1 : List ByteArray) (x5_1 : List Int) (x6_1 : Int), v6 = .int .i64 x6_1 ∧ Aside0 (sallyportref06_parts.l0 kq a0 x4_1 x5_1 x6_1 = some (r1, r2)) ∧ Aside0 (kq ≤ k) ∧ Aside0 (Kd.R Kd.string 9 w' w.heap.size (fun _ => True) v4 x4_1) ∧ Aside0 (Kd.R (Kd.int .i64) 3 w' w.heap.size (fun _ => True) v5 x5_1) ∧ Aside0 (Below w.heap.size w w'))
  case atStart => exact ⟨(y112), (y115), (0), (by first | rfl | (simp; done) | (simp [*]; done)), H', ⟨Nat.le_refl _⟩, ⟨by (with_reducible repeat (first | apply Kd.R_alloc | apply Kd.R_drewN | apply Kd.R_drew)); exact HO114.out⟩, ⟨by (with_reducible repeat (first | apply Kd.R_alloc | apply Kd.R_drewN | apply Kd.R_drew)); exact HO117.out⟩, ⟨by repeat (first | (with_reducible first | exact HB.out | apply below_alloc | apply pw_below_drewN | apply below_drew1) | exact HB.out)⟩⟩
  case round =>
    clear H'
    try clear p2
    obtain ⟨x4_1, x5_1, x6_1, rfl, HA, HK1, HO_4, HO_5, HB⟩ := hrel
    cases gk with
    | zero => exact absurd HA.out (by simp [sallyportref06_parts.l0])
    | succ k1 =>
      have H := HA.out
      clear HA
      simp only [sallyportref06_parts.l0] at H
      by_cases c6 : x6_1 < (a0.size : Int)
      · rw [if_pos c6] at H
        have c6b0 : decide (x6_1 < (a0.size : Int)) = true := decide_eq_true c6
        clear c6
        by_cases c7 : 0 ≤ x6_1
        · rw [if_pos c7] at H
          have c7b0 : decide (0 ≤ x6_1) = true := decide_eq_true c7
          clear c7
          by_cases c9 : (bt a0 x6_1) = 46
          · rw [if_pos c9] at H
            have c9b0 : ((bt a0 x6_1) == 46) = true := beq_iff_eq.mpr c9
            have c9b1 : ((bt a0 x6_1) != 46) = false := bne_eq_false_iff_eq.mpr c9
            clear c9
            by_cases c10 : x4_1.length < 8796093022208
            · rw [if_pos c10] at H
              have LMc10 := Aside0.mk c10
              clear c10
              obtain ⟨y118, hy118⟩ : ∃ y_ : List ByteArray, y_ = (x4_1 ++ [(⟨#[]⟩ : ByteArray)]) := ⟨_, rfl⟩
              replace H : (if x5_1.length < 17592186044416 then (sallyportref06_parts.l0 k1 a0 y118 (x5_1 ++ [wrap64 (x6_1 + 1)]) (wrap64 (x6_1 + 1))) else (none)) = some (r1, r2) := by first | (rw [hy118]; with_reducible exact H) | (have H2_ := (Option.bind_some _ _).symm.trans H; rw [hy118]; with_reducible exact H2_) | (have H2_ := (Option.bind_some _ _).symm.trans H; with_reducible exact H2_) | with_reducible exact H | (rw [hy118]; exact H) | exact H
              have Ny118 := Aside0.mk hy118
              clear hy118
              by_cases c11 : x5_1.length < 17592186044416
              · rw [if_pos c11] at H
                have LMc11 := Aside0.mk c11
                clear c11
                obtain ⟨y121, hy121⟩ : ∃ y_ : List Int, y_ = (x5_1 ++ [wrap64 (x6_1 + 1)]) := ⟨_, rfl⟩
                replace H : (sallyportref06_parts.l0 k1 a0 y118 y121 (wrap64 (x6_1 + 1))) = some (r1, r2) := by first | (rw [hy121]; with_reducible exact H) | (have H2_ := (Option.bind_some _ _).symm.trans H; rw [hy121]; with_reducible exact H2_) | (have H2_ := (Option.bind_some _ _).symm.trans H; with_reducible exact H2_) | with_reducible exact H | (rw [hy121]; exact H) | exact H
                have Ny121 := Aside0.mk hy121
                clear hy121
                have H' := Aside0.mk H
                clear H
                have p8 : 0 ≤ (x6_1 : Int) := of_decide_eq_true (by first | (with_reducible assumption) | assumption)
                have q8 : x6_1 < (a0.size : Int) := of_decide_eq_true (by first | (with_reducible assumption) | assumption)
                have hx8 := bt_at a0 x6_1
                replace p8 := eq_true p8
                replace q8 := eq_true q8
                go_wp2_with (first | ((with_reducible refine gate_builtin (b := .append) (xs := #[.tmp 19, .tmp 20]) rfl ?_); at_builtin; refine Kd.R_append Kd.string (w0 := w) w.heap.size rfl (.tmp 19) (.tmp 20) 66 9 (.string ⟨#[]⟩) 16 rfl Tryz.underlying66 info9 rfl (by decide) (by omega) u4 x4_1 (⟨#[]⟩ : ByteArray) [.string (⟨#[]⟩ : ByteArray)] (fun _ => True) (fun _ => False) rfl rfl ?aP (fun _ hk => hk.elim) ?aF ?aO ?aB ?aS ?aL ?_; (case aP => exact rfl); (case aB => exact (by repeat (first | (with_reducible first | exact HB.out | apply below_alloc | apply pw_below_drewN | apply below_drew1) | exact HB.out))); (case aF => exact (fun _ _ => trivial)); (case aO => exact (by (with_reducible repeat (first | apply Kd.R_alloc | apply Kd.R_drewN | apply Kd.R_drew)); exact HO_4.out)); (case aS => exact (below_size (by repeat (first | (with_reducible first | exact HB.out | apply below_alloc | apply pw_below_drewN | apply below_drew1) | exact HB.out)))); (case aL => have := LMc10.out; omega); intro v119 w12 ho hb hg hat; rw [← Ny118.out] at ho; have n0_ := Aside0.mk (Kd.R_over' (by (with_reducible repeat (first | apply Kd.R_alloc | apply Kd.R_drewN | apply Kd.R_drew)); exact HO_5.out) (Kd.R_typed (by (with_reducible repeat (first | apply Kd.R_alloc | apply Kd.R_drewN | apply Kd.R_drew)); exact HO_4.out)) (by decide) hg); have n1_ := Aside0.mk (hb); have n2_ := Aside0.mk (ho); clear HO_5; clear HB; clear HO_4; have HO_5 := n0_; have HB := n1_; have HO120 := n2_; clear n0_ n1_ n2_; clear ho hb hg hat) | ((with_reducible refine gate_builtin (b := .append) (xs := #[.tmp 22, .tmp 25]) rfl ?_); at_builtin; refine Kd.R_append (Kd.int .i64) (w0 := w) w.heap.size rfl (.tmp 22) (.tmp 25) 114 3 (.int .i64 0) 8 rfl Tryz.underlying114 info3 rfl (by decide) (by omega) u5 x5_1 (wrap64 (x6_1 + 1)) [.int .i64 (wrap64 (x6_1 + 1))] (fun _ => True) (fun _ => False) rfl rfl ?aP (fun _ hk => hk.elim) ?aF ?aO ?aB ?aS ?aL ?_; (case aP => exact rfl); (case aB => exact (by repeat (first | (with_reducible first | exact HB.out | apply below_alloc | apply pw_below_drewN | apply below_drew1) | exact HB.out))); (case aF => exact (fun _ _ => trivial)); (case aO => exact (by (with_reducible repeat (first | apply Kd.R_alloc | apply Kd.R_drewN | apply Kd.R_drew)); exact HO_5.out)); (case aS => exact (below_size (by repeat (first | (with_reducible first | exact HB.out | apply below_alloc | apply pw_below_drewN | apply below_drew1) | exact HB.out)))); (case aL => have := LMc11.out; omega); intro v122 w13 ho hb hg hat; rw [← Ny121.out] at ho; have n0_ := Aside0.mk (Kd.R_over' (by (with_reducible repeat (first | apply Kd.R_alloc | apply Kd.R_drewN | apply Kd.R_drew)); exact HO120.out) (Kd.R_typed (by (with_reducible repeat (first | apply Kd.R_alloc | apply Kd.R_drewN | apply Kd.R_drew)); exact HO_5.out)) (by decide) hg); have n1_ := Aside0.mk (hb); have n2_ := Aside0.mk (ho); clear HO120; clear HB; clear HO_5; have HO120 := n0_; have HB := n1_; have HO123 := n2_; clear n0_ n1_ n2_; clear ho hb hg hat))
                go_roundg k1
                case measure => have := HK1.out; omega
                case rel => exact ⟨(y118), (y121), (wrap64 (x6_1 + 1)), (by first | rfl | (simp; done) | (simp [*]; done)), H', ⟨by have := HK1.out; omega⟩, ⟨by (with_reducible repeat (first | apply Kd.R_alloc | apply Kd.R_drewN | apply Kd.R_drew)); exact HO120.out⟩, ⟨by (with_reducible repeat (first | apply Kd.R_alloc | apply Kd.R_drewN | apply Kd.R_drew)); exact HO123.out⟩, ⟨by repeat (first | (with_reducible first | exact HB.out | apply below_alloc | apply pw_below_drewN | apply below_drew1) | exact HB.out)⟩⟩
              · rw [if_neg c11] at H
                exact absurd H (by simp)
            · rw [if_neg c10] at H
              exact absurd H (by simp)
          · rw [if_neg c9] at H
            have c9b0 : ((bt a0 x6_1) == 46) = false := beq_eq_false_iff_ne.mpr c9
            have c9b1 : ((bt a0 x6_1) != 46) = true := bne_iff_ne.mpr c9
            obtain ⟨ji14, hji14⟩ : ∃ j_ : Int, (wrap64 ((x4_1.length : Int) - 1)) = j_ := ⟨_, rfl⟩
            replace H : (if 0 ≤ (ji14) then (if (ji14) < (x4_1.length : Int) then (if x6_1 ≤ (wrap64 (x6_1 + 1)) then (if (wrap64 (x6_1 + 1)) ≤ (a0.size : Int) then (if (rdOf ByteArray.empty x4_1 (ji14)).size + (a0.extract (x6_1 : Int).toNat ((wrap64 (x6_1 + 1)) : Int).toNat).size ≤ 9223372036854775807 then (sallyportref06_parts.l0 k1 a0 (x4_1.set ((ji14) : Int).toNat ((rdOf ByteArray.empty x4_1 (ji14)) ++ (a0.extract (x6_1 : Int).toNat ((wrap64 (x6_1 + 1)) : Int).toNat))) x5_1 (wrap64 (x6_1 + 1))) else (none)) else (none)) else (none)) else (none)) else (none)) = some (r1, r2) := by first | (rw [hji14] at H; exact H) | (simp only [hji14] at H ⊢; exact H)
            have hji14w : (IntKind.i64.wrap ((x4_1.length : Int) - 1)) = ji14 := (i64_w _).trans hji14
            by_cases c15 : 0 ≤ (ji14)
            · rw [if_pos c15] at H
              have c15b0 : decide (0 ≤ (ji14)) = true := decide_eq_true c15
              clear c15
              by_cases c16 : (ji14) < (x4_1.length : Int)
              · rw [if_pos c16] at H
                have c16b0 : decide ((ji14) < (x4_1.length : Int)) = true := decide_eq_true c16
                clear c16
                have c17b0 := eq_true (of_decide_eq_true (by first | (with_reducible assumption) | assumption) : 0 ≤ x6_1)
                by_cases c18 : x6_1 ≤ (wrap64 (x6_1 + 1))
                · rw [if_pos c18] at H
                  have c18b0 := eq_true c18
                  have c18b1 : decide (x6_1 ≤ (wrap64 (x6_1 + 1))) = true := decide_eq_true c18
                  by_cases c19 : (wrap64 (x6_1 + 1)) ≤ (a0.size : Int)
                  · rw [if_pos c19] at H
                    have c19b0 := eq_true c19
                    have c19b1 : decide ((wrap64 (x6_1 + 1)) ≤ (a0.size : Int)) = true := decide_eq_true c19
                    by_cases c20 : (rdOf ByteArray.empty x4_1 (ji14)).size + (a0.extract (x6_1 : Int).toNat ((wrap64 (x6_1 + 1)) : Int).toNat).size ≤ 9223372036854775807
                    · rw [if_pos c20] at H
                      have c20b0 := eq_true c20
                      have c20b1 : decide ((rdOf ByteArray.empty x4_1 (ji14)).size + (a0.extract (x6_1 : Int).toNat ((wrap64 (x6_1 + 1)) : Int).toNat).size ≤ 9223372036854775807) = true := decide_eq_true c20
                      try have c20b2 : (9223372036854775807 < (rdOf ByteArray.empty x4_1 (ji14)).size + (a0.extract (x6_1 : Int).toNat ((wrap64 (x6_1 + 1)) : Int).toNat).size) = False := eq_false (Nat.not_lt.2 c20)
                      try have c20b3 : (9223372036854775807 < (rdOf ByteArray.empty x4_1 (ji14)).size + (((wrap64 (x6_1 + 1)) : Int).toNat - (x6_1 : Int).toNat)) = False := eq_false (Nat.not_lt.2 (Nat.le_trans (Nat.add_le_add_left (by have h_ := of_decide_eq_true (p := (wrap64 (x6_1 + 1)) ≤ (a0.size : Int)) (by assumption); rw [ByteArray.size_extract]; omega) _) c20))
                      obtain ⟨y125, hy125⟩ : ∃ y_ : List ByteArray, y_ = (x4_1.set ((ji14) : Int).toNat ((rdOf ByteArray.empty x4_1 (ji14)) ++ (a0.extract (x6_1 : Int).toNat ((wrap64 (x6_1 + 1)) : Int).toNat))) := ⟨_, rfl⟩
                      replace H : (sallyportref06_parts.l0 k1 a0 y125 x5_1 (wrap64 (x6_1 + 1))) = some (r1, r2) := by first | (rw [hy125]; with_reducible exact H) | (have H2_ := (Option.bind_some _ _).symm.trans H; rw [hy125]; with_reducible exact H2_) | (have H2_ := (Option.bind_some _ _).symm.trans H; with_reducible exact H2_) | with_reducible exact H | (rw [hy125]; exact H) | exact H
                      have Ny125 := Aside0.mk hy125
                      clear hy125
                      have H' := Aside0.mk H
                      clear H
                      have p8 : 0 ≤ (x6_1 : Int) := of_decide_eq_true (by first | (with_reducible assumption) | assumption)
                      have q8 : x6_1 < (a0.size : Int) := of_decide_eq_true (by first | (with_reducible assumption) | assumption)
                      have hx8 := bt_at a0 x6_1
                      replace p8 := eq_true p8
                      replace q8 := eq_true q8
                      try go_wp2
                      have n0_ := Aside0.mk (Kd.R_drew HO_4.out)
                      have n1_ := Aside0.mk (Kd.R_drew HO_5.out)
                      have n2_ := Aside0.mk (below_drew1 HB.out)
                      clear HO_4
                      clear HO_5
                      clear HB
                      have HO_4 := n0_
                      have HO_5 := n1_
                      have HB := n2_
                      clear n0_ n1_ n2_
                      obtain ⟨Ao23, co23, eo23⟩ := Kd.R_slice HO_4.out
                      (first | subst eo23 | (injection eo23 with f1_ f2_ f3_; have f4_ := f1_.symm; have f5_ := f3_.symm; clear f1_ f2_ f3_; subst f4_; subst f5_))
                      have p124 : 0 ≤ ((ji14) : Int) := of_decide_eq_true (by first | (with_reducible assumption) | assumption)
                      have q124 : (ji14) < (x4_1.length : Int) := of_decide_eq_true (by first | (with_reducible assumption) | assumption)
                      obtain ⟨ad124, e124, hx124_0⟩ := Kd.at_string (Kd.R_reads' HO_4.out).2.2 (ji14) p124 q124
                      cases e124
                      replace p124 := eq_true p124
                      replace q124 := eq_true q124
                      have p21 : 0 ≤ ((ji14) : Int) := of_decide_eq_true (by first | (with_reducible assumption) | assumption)
                      have q21 : ((ji14) : Int) < ((x4_1.length : Int) : Int) := of_decide_eq_true (by first | (with_reducible assumption) | assumption)
                      obtain ⟨go21, co21, eo21, gb21, gl21, cl21, HG21⟩ := Kd.R_form HO_4.out (by omega)
                      (first | cases eo21 | (injection eo21 with ea_ en_ ec_; (first | subst ea_ | (injection ea_ with ea_; subst ea_)); subst ec_; clear en_))
                      have GB21 := Aside0.mk gb21
                      have GG21 := Aside0.mk HG21
                      clear gb21 gl21 HG21
                      (first | simp only [add_plain] at hx124_0 | skip)
                      obtain ⟨hx21_0, hf21_0⟩ := Kd.R_celln (⟨#[]⟩ : ByteArray) HO_4.out ((ji14) : Int) p21 q21
                      replace p21 := eq_true p21
                      replace q21 := eq_true q21
                      have HP24 := Kd.R_putn HO_4.out ((ji14) : Int) ((rdOf ByteArray.empty x4_1 (ji14)) ++ (a0.extract (x6_1 : Int).toNat ((wrap64 (x6_1 + 1)) : Int).toNat))
                      rw [← Ny125.out] at HP24
                      have HQ24 := Aside0.mk HP24
                      clear HP24
                      refine start_ (n := 14) (S := fun w' => w'.cell? ⟨go21, ((ji14)).toNat, none⟩ = some (.string (rdOf ByteArray.empty x4_1 (ji14)))) (ds := [13]) #[false, false, false, false, false, false, false, false, false, false, false, false, false, false] (by kernel_rfl) rfl rfl (hx124_0) (fun hHeld => ?_); refine with_tabW sallyportref06_parts.tab8 sallyportref06_parts.bits8 (fun HT_ HW_ => ?_)
                      generalize wr.drew = w22 at HO_4 HO_5 HB GG21 HQ24 hf21_0 hx124_0 hx21_0 hHeld ⊢
                      refine pure_ (i := 0) (N := some 27) (v := ?_) (a' := ?_) #[true, false, false, false, false, false, false, false, false, false, false, false, false, false] rfl rfl (any_of HT_.out (by kernel_rfl)) (fun _ _ _ h => h) (Or.inl ⟨by rfl, ?_⟩) ?_ ?_
                      rotate_left
                      · intro w'
                        go_simp
                        with_reducible rfl
                      rotate_left
                      · simp only [Act.put, List.setIfInBounds_toArray, List.set_cons_zero, List.set_cons_succ, i64_w, i32_w]
                        rfl
                      refine pure_ (i := 1) (N := some 28) (v := ?_) (a' := ?_) #[true, true, false, false, false, false, false, false, false, false, false, false, false, false] rfl rfl (any_of HT_.out (by kernel_rfl)) (fun _ _ _ h => h) (Or.inl ⟨by rfl, ?_⟩) ?_ ?_
                      rotate_left
                      · intro w'
                        go_simp
                        with_reducible rfl
                      rotate_left
                      · simp only [Act.put, List.setIfInBounds_toArray, List.set_cons_zero, List.set_cons_succ, i64_w, i32_w]
                        rfl
                      refine pure_ (i := 2) (N := some 29) (v := ?_) (a' := ?_) #[true, true, true, false, false, false, false, false, false, false, false, false, false, false] rfl rfl (any_of HT_.out (by kernel_rfl)) (fun _ _ _ h => h) (Or.inl ⟨by rfl, ?_⟩) ?_ ?_
                      rotate_left
                      · intro w'
                        go_simp
                        with_reducible rfl
                      rotate_left
                      · simp only [Act.put, List.setIfInBounds_toArray, List.set_cons_zero, List.set_cons_succ, i64_w, i32_w]
                        rfl
                      refine pure_ (i := 3) (N := some 30) (v := ?_) (a' := ?_) #[true, true, true, true, false, false, false, false, false, false, false, false, false, false] rfl rfl (any_of HT_.out (by kernel_rfl)) (fun _ _ _ h => h) (Or.inl ⟨by rfl, ?_⟩) ?_ ?_
                      rotate_left
                      · intro w'
                        go_simp
                        with_reducible rfl
                      rotate_left
                      · simp only [Act.put, List.setIfInBounds_toArray, List.set_cons_zero, List.set_cons_succ, i64_w, i32_w]
                        rfl
                      refine pure_ (i := 4) (N := some 31) (v := ?_) (a' := ?_) #[true, true, true, true, true, false, false, false, false, false, false, false, false, false] rfl rfl (any_of HT_.out (by kernel_rfl)) (fun _ _ _ h => h) (Or.inl ⟨by rfl, ?_⟩) ?_ ?_
                      rotate_left
                      · intro w'
                        go_simp
                        with_reducible rfl
                      rotate_left
                      · simp only [Act.put, List.setIfInBounds_toArray, List.set_cons_zero, List.set_cons_succ, i64_w, i32_w]
                        rfl
                      refine pure_ (i := 6) (N := some 33) (v := ?_) (a' := ?_) #[true, true, true, true, true, false, true, false, false, false, false, false, false, false] rfl rfl (any_of HT_.out (by kernel_rfl)) (fun _ _ _ h => h) (Or.inl ⟨by rfl, ?_⟩) ?_ ?_
                      rotate_left
                      · intro w'
                        go_simp
                        with_reducible rfl
                      rotate_left
                      · simp only [Act.put, List.setIfInBounds_toArray, List.set_cons_zero, List.set_cons_succ, i64_w, i32_w]
                        rfl
                      refine pure_ (i := 7) (N := some 34) (v := ?_) (a' := ?_) #[true, true, true, true, true, false, true, true, false, false, false, false, false, false] rfl rfl (any_of HT_.out (by kernel_rfl)) (fun _ _ _ h => h) (Or.inl ⟨by rfl, ?_⟩) ?_ ?_
                      rotate_left
                      · intro w'
                        go_simp
                        with_reducible rfl
                      rotate_left
                      · simp only [Act.put, List.setIfInBounds_toArray, List.set_cons_zero, List.set_cons_succ, i64_w, i32_w]
                        rfl
                      refine pure_ (i := 8) (N := some 35) (v := ?_) (a' := ?_) #[true, true, true, true, true, false, true, true, true, false, false, false, false, false] rfl rfl (any_of HT_.out (by kernel_rfl)) (fun _ _ _ h => h) (Or.inl ⟨by rfl, ?_⟩) ?_ ?_
                      rotate_left
                      · intro w'
                        go_simp
                        with_reducible rfl
                      rotate_left
                      · simp only [Act.put, List.setIfInBounds_toArray, List.set_cons_zero, List.set_cons_succ, i64_w, i32_w]
                        rfl
                      refine pure_ (i := 9) (N := some 36) (v := ?_) (a' := ?_) #[true, true, true, true, true, false, true, true, true, true, false, false, false, false] rfl rfl (any_of HT_.out (by kernel_rfl)) (fun _ _ _ h => h) (Or.inl ⟨by rfl, ?_⟩) ?_ ?_
                      rotate_left
                      · intro w'
                        go_simp
                        with_reducible rfl
                      rotate_left
                      · simp only [Act.put, List.setIfInBounds_toArray, List.set_cons_zero, List.set_cons_succ, i64_w, i32_w]
                        rfl
                      refine pure_ (i := 10) (N := some 37) (v := ?_) (a' := ?_) #[true, true, true, true, true, false, true, true, true, true, true, false, false, false] rfl rfl (any_of HT_.out (by kernel_rfl)) (fun _ _ _ h => h) (Or.inl ⟨by rfl, ?_⟩) ?_ ?_
                      rotate_left
                      · intro w'
                        go_simp
                        with_reducible rfl
                      rotate_left
                      · simp only [Act.put, List.setIfInBounds_toArray, List.set_cons_zero, List.set_cons_succ, i64_w, i32_w]
                        rfl
                      refine take_ (i := 5) (N := some 32) (v := ?_) (a' := ?_) #[true, true, true, true, true, true, true, true, true, true, true, false, false, false] rfl rfl (take_ofW HT_.out HW_.out (by kernel_rfl)) (fun _ _ _ h => h) (Or.inl ⟨by rfl, ?_⟩) hHeld ?_ ?_
                      rotate_left
                      · intro w' s0
                        go_simp
                        with_reducible rfl
                      rotate_left
                      · simp only [Act.put, List.setIfInBounds_toArray, List.set_cons_zero, List.set_cons_succ, i64_w, i32_w]
                        rfl
                      refine pure_ (i := 11) (N := some 38) (v := ?_) (a' := ?_) #[true, true, true, true, true, true, true, true, true, true, true, true, false, false] rfl rfl (any_of HT_.out (by kernel_rfl)) (fun _ _ _ h => h) (Or.inl ⟨by rfl, ?_⟩) ?_ ?_
                      rotate_left
                      · intro w'
                        go_simp
                        with_reducible rfl
                      rotate_left
                      · simp only [Act.put, List.setIfInBounds_toArray, List.set_cons_zero, List.set_cons_succ, i64_w, i32_w]
                        rfl
                      refine pure_ (i := 12) (N := some 39) (v := ?_) (a' := ?_) #[true, true, true, true, true, true, true, true, true, true, true, true, true, false] rfl rfl (any_of HT_.out (by kernel_rfl)) (fun _ _ _ h => h) (Or.inl ⟨by rfl, ?_⟩) ?_ ?_
                      rotate_left
                      · intro w'
                        go_simp
                        with_reducible rfl
                      rotate_left
                      · simp only [Act.put, List.setIfInBounds_toArray, List.set_cons_zero, List.set_cons_succ, i64_w, i32_w]
                        rfl
                      refine last_ (i := 13) (N := none) #[true, true, true, true, true, true, true, true, true, true, true, true, true, true] rfl rfl (one_of HT_.out (by kernel_rfl)) (by decide) (fun K hK => ?_)
                      refine skip_ (w1 := ?_) (by rfl) rfl ?_ ?_
                      rotate_left
                      · go_simp
                        rfl
                      refine hK.out _ _ ?_
                      clear hK K
                      refine done_ (done_of HT_.out (by kernel_rfl)) ?_
                      try go_wp2
                      go_roundg k1
                      case measure => have := HK1.out; omega
                      case rel => exact ⟨(y125), (x5_1), (wrap64 (x6_1 + 1)), (by first | rfl | (simp; done) | (simp [*]; done)), H', ⟨by have := HK1.out; omega⟩, ⟨by (with_reducible repeat (first | apply Kd.R_alloc | apply Kd.R_drewN | apply Kd.R_drew)); exact HQ24.out⟩, ⟨by (with_reducible repeat (first | apply Kd.R_alloc | apply Kd.R_drewN | apply Kd.R_drew)); exact Kd.R_mono (Kd.R_far (p := ⟨go21, ((ji14) : Int).toNat, none⟩) (Kd.R_types HO_5.out GG21.out (by decide)) (fun _ hk => hk.2) (.string ((rdOf ByteArray.empty x4_1 (ji14)) ++ (a0.extract (x6_1 : Int).toNat ((wrap64 (x6_1 + 1)) : Int).toNat)))) (fun _ hk => trivial)⟩, ⟨by repeat (first | (with_reducible first | exact HB.out | apply below_alloc | apply pw_below_drewN | apply below_drew1 | refine below_set ?_ GB21.out) | exact HB.out)⟩⟩
                    · rw [if_neg c20] at H
                      exact absurd H (by simp)
                  · rw [if_neg c19] at H
                    exact absurd H (by simp)
                · rw [if_neg c18] at H
                  exact absurd H (by simp)
              · rw [if_neg c16] at H
                exact absurd H (by simp)
            · rw [if_neg c15] at H
              exact absurd H (by simp)
        · rw [if_neg c7] at H
          exact absurd H (by simp)
      · rw [if_neg c6] at H
        have c6b0 : decide (x6_1 < (a0.size : Int)) = false := decide_eq_false c6
        clear c6
        simp only [Option.some.injEq, Prod.mk.injEq] at H
        obtain ⟨rfl, rfl⟩ := H
        go_wp2
        go_ret2
        exact ⟨_, _, by first | rfl | (simp [errW_none, errW_some] <;> rfl) | (simp [*, errW_none, errW_some] <;> rfl), by (with_reducible repeat (first | apply Kd.R_alloc | apply Kd.R_drewN | apply Kd.R_drew)); exact HO_4.out, by (with_reducible repeat (first | apply Kd.R_alloc | apply Kd.R_drewN | apply Kd.R_drew)); exact HO_5.out, by repeat (first | (with_reducible first | exact HB.out | apply below_alloc | apply pw_below_drewN | apply below_drew1) | exact HB.out)⟩
def sallyportref06_digit.f (a0 : Int) : Option (Bool) := if a0 ≥ 48 then (some (decide (a0 ≤ 57))) else (some false)
set_option maxHeartbeats 8000000 in
set_option maxRecDepth 100000 in
theorem sallyportref06_digit.calls (a0 : Int) (r : Bool) (w : World) (h : sallyportref06_digit.f a0 = some r) :
    Calls Tryz.prog 84 #[.int .u8 a0] w fun e w' => e = .returned (.bool r) ∧ Drawn0 w w' := by
  have H : (if a0 ≥ 48 then (some (decide (a0 ≤ 57))) else (some false)) = some r := h
  clear h
  by_cases c2 : a0 ≥ 48
  · rw [if_pos c2] at H
    have c2b0 : decide (48 ≤ a0) = true := decide_eq_true c2
    clear c2
    obtain rfl := Option.some.inj H
    go_enter Tryz.func84, Tryz.ntmps84
    go_wp2
    go_ret
    exact ⟨by first | rfl | (simp; done) | (simp [*]; done), by repeat (first | exact Drawn0.refl _ | apply Drawn0.step)⟩
  · rw [if_neg c2] at H
    have c2b0 : decide (48 ≤ a0) = false := decide_eq_false c2
    clear c2
    obtain rfl := Option.some.inj H
    go_enter Tryz.func84, Tryz.ntmps84
    go_wp2
    go_ret
    exact ⟨by first | rfl | (simp; done) | (simp [*]; done), by repeat (first | exact Drawn0.refl _ | apply Drawn0.step)⟩
mutual
def sallyportref06_label.j0 : Nat → ByteArray → Bool → Option (Bool)
  | 0, _, _ => none
  | k + 1, x0, x23 => if x23 = true then (some false) else (sallyportref06_label.l0 k x0 0)
def sallyportref06_label.l0 : Nat → ByteArray → Int → Option (Bool)
  | 0, _, _ => none
  | k + 1, x0, x3 => if x3 < (x0.size : Int) then (if 0 ≤ x3 then (if (bt x0 x3) = 45 then (sallyportref06_label.l0 k x0 (wrap64 (x3 + 1))) else ((sallyportref06_digit.f (bt x0 x3)).bind fun t126 => (if t126 = true then (sallyportref06_label.l0 k x0 (wrap64 (x3 + 1))) else (if (bt x0 x3) < 97 then (some false) else (if (bt x0 x3) > 122 then (some false) else (sallyportref06_label.l0 k x0 (wrap64 (x3 + 1)))))))) else (none)) else (some true)
end
def sallyportref06_label.f (k : Nat) (a0 : ByteArray) : Option (Bool) := if a0.toList = ([] : List UInt8) then (sallyportref06_label.j0 k a0 true) else (if (a0.size : Int) > 63 then (sallyportref06_label.j0 k a0 true) else (if 0 < (a0.size : Int) then (if (bt a0 0) = 45 then (sallyportref06_label.j0 k a0 true) else (if 0 ≤ (wrap64 ((a0.size : Int) - 1)) then (if (wrap64 ((a0.size : Int) - 1)) < (a0.size : Int) then (sallyportref06_label.j0 k a0 ((bt a0 (wrap64 ((a0.size : Int) - 1))) == 45)) else (none)) else (none))) else (none)))
theorem sallyportref06_label.mono_l : ∀ k, (∀ y0 y1, LeO (sallyportref06_label.j0 k y0 y1) (sallyportref06_label.j0 (k + 1) y0 y1)) ∧ (∀ y0 y1, LeO (sallyportref06_label.l0 k y0 y1) (sallyportref06_label.l0 (k + 1) y0 y1))
  | 0 => ⟨fun _ _ r h => by simp [sallyportref06_label.j0] at h, fun _ _ r h => by simp [sallyportref06_label.l0] at h⟩
  | k + 1 => by
    obtain ⟨ih0, ih1⟩ := sallyportref06_label.mono_l k
    refine ⟨?_, ?_⟩
    · intro y0 y1
      unfold sallyportref06_label.j0
      repeat' first
      | (with_reducible exact ih0 _ _)
      | (with_reducible exact ih1 _ _)
      | (with_reducible exact LeO.refl _)
      | (with_reducible exact LeO.none _)
      | (with_reducible refine LeO.ite ?_ ?_)
      | (with_reducible refine LeO.bind ?_ (fun _ => ?_))
      | exact ih0 _ _
      | exact ih1 _ _
      | exact LeO.none _
      | refine LeO.ite ?_ ?_
      | refine LeO.bind ?_ (fun _ => ?_)
    · intro y0 y1
      unfold sallyportref06_label.l0
      repeat' first
      | (with_reducible exact ih0 _ _)
      | (with_reducible exact ih1 _ _)
      | (with_reducible exact LeO.refl _)
      | (with_reducible exact LeO.none _)
      | (with_reducible refine LeO.ite ?_ ?_)
      | (with_reducible refine LeO.bind ?_ (fun _ => ?_))
      | exact ih0 _ _
      | exact ih1 _ _
      | exact LeO.none _
      | refine LeO.ite ?_ ?_
      | refine LeO.bind ?_ (fun _ => ?_)
theorem sallyportref06_label.mono : ∀ a0 k, LeO (sallyportref06_label.f k a0) (sallyportref06_label.f (k + 1) a0) := by
  intro a0 k
  obtain ⟨ih0, ih1⟩ := sallyportref06_label.mono_l k
  unfold sallyportref06_label.f
  repeat' first
      | (with_reducible exact ih0 _ _)
      | (with_reducible exact ih1 _ _)
      | (with_reducible exact LeO.refl _)
      | (with_reducible exact LeO.none _)
      | (with_reducible refine LeO.ite ?_ ?_)
      | (with_reducible refine LeO.bind ?_ (fun _ => ?_))
      | exact ih0 _ _
      | exact ih1 _ _
      | exact LeO.none _
      | refine LeO.ite ?_ ?_
      | refine LeO.bind ?_ (fun _ => ?_)
set_option maxHeartbeats 8000000 in
set_option maxRecDepth 100000 in
theorem sallyportref06_label.calls (k : Nat) (a0 : ByteArray) (r : Bool) (w : World) (h : sallyportref06_label.f k a0 = some r) :
    Calls Tryz.prog 83 #[.string a0] w fun e w' => e = .returned (.bool r) ∧ Drawn0 w w' := by
  have H : (if a0.toList = ([] : List UInt8) then (sallyportref06_label.j0 k a0 true) else (if (a0.size : Int) > 63 then (sallyportref06_label.j0 k a0 true) else (if 0 < (a0.size : Int) then (if (bt a0 0) = 45 then (sallyportref06_label.j0 k a0 true) else (if 0 ≤ (wrap64 ((a0.size : Int) - 1)) then (if (wrap64 ((a0.size : Int) - 1)) < (a0.size : Int) then (sallyportref06_label.j0 k a0 ((bt a0 (wrap64 ((a0.size : Int) - 1))) == 45)) else (none)) else (none))) else (none)))) = some r := h
  clear h
  have HC2 := Aside0.mk H
  clear H
  go_enter Tryz.func83, Tryz.ntmps83
  go_upto_region 1 with (fail)
  go_cut [23] (fun v23 wc => ∃ (kq : Nat) (x23_1 : Bool), v23 = .bool x23_1 ∧ Aside0 (sallyportref06_label.j0 kq a0 x23_1 = some r) ∧ Aside0 (kq ≤ k) ∧ Drawn0 w wc)
  case first =>
    have H := HC2.out
    clear HC2
    by_cases c3 : a0.toList = ([] : List UInt8)
    · rw [if_pos c3] at H
      have c3b0 : (a0.toList == ([] : List UInt8)) = true := beq_iff_eq.mpr c3
      have c3b1 : (a0.toList != ([] : List UInt8)) = false := bne_eq_false_iff_eq.mpr c3
      clear c3
      (first | rw [c3b0] | (simp only [i64_w, i32_w]; rw [c3b0]) | skip)
      have H' := Aside0.mk H
      clear H
      go_wp2
      go_meet
      case rel => exact ⟨_, (true), (by first | rfl | (simp; done) | (simp [*]; done)), H', ⟨by first | omega | exact Nat.le_refl _⟩, by repeat (first | exact Drawn0.refl _ | apply Drawn0.step)⟩
    · rw [if_neg c3] at H
      have c3b0 : (a0.toList == ([] : List UInt8)) = false := beq_eq_false_iff_ne.mpr c3
      have c3b1 : (a0.toList != ([] : List UInt8)) = true := bne_iff_ne.mpr c3
      (first | rw [c3b0] | (simp only [i64_w, i32_w]; rw [c3b0]) | skip)
      by_cases c4 : (a0.size : Int) > 63
      · rw [if_pos c4] at H
        have c4b0 : decide (63 < (a0.size : Int)) = true := decide_eq_true c4
        have c4b1 : decide (63 < a0.size) = true := decide_eq_true (by omega)
        clear c4
        have H' := Aside0.mk H
        clear H
        go_wp2
        go_meet
        case rel => exact ⟨_, (true), (by first | rfl | (simp; done) | (simp [*]; done)), H', ⟨by first | omega | exact Nat.le_refl _⟩, by repeat (first | exact Drawn0.refl _ | apply Drawn0.step)⟩
      · rw [if_neg c4] at H
        have c4b0 : decide (63 < (a0.size : Int)) = false := decide_eq_false c4
        have c4b1 : decide (63 < a0.size) = false := decide_eq_false (by omega)
        clear c4
        by_cases c5 : 0 < (a0.size : Int)
        · rw [if_pos c5] at H
          have c5b0 : decide (0 < (a0.size : Int)) = true := decide_eq_true c5
          have c5b1 : decide (0 < a0.size) = true := decide_eq_true (by omega)
          clear c5
          by_cases c7 : (bt a0 0) = 45
          · rw [if_pos c7] at H
            have c7b0 : ((bt a0 0) == 45) = true := beq_iff_eq.mpr c7
            have c7b1 : ((bt a0 0) != 45) = false := bne_eq_false_iff_eq.mpr c7
            clear c7
            have H' := Aside0.mk H
            clear H
            have p6 : 0 ≤ (0 : Int) := (by omega)
            have q6 : 0 < a0.size := (by have : (0 : Int) < (a0.size : Int) := of_decide_eq_true (by first | (with_reducible assumption) | assumption); omega)
            have hx6 : ∀ h : 0 < a0.size, ((a0[0]'h).toNat : Int) = bt a0 0 := bt_at a0 0
            clear p6
            have qi6 : (0 < (a0.size : Int)) = True := eq_true (of_decide_eq_true (by first | (with_reducible assumption) | assumption))
            replace q6 := eq_true q6
            go_wp2
            go_meet
            case rel => exact ⟨_, (true), (by first | rfl | (simp; done) | (simp [*]; done)), H', ⟨by first | omega | exact Nat.le_refl _⟩, by repeat (first | exact Drawn0.refl _ | apply Drawn0.step)⟩
          · rw [if_neg c7] at H
            have c7b0 : ((bt a0 0) == 45) = false := beq_eq_false_iff_ne.mpr c7
            have c7b1 : ((bt a0 0) != 45) = true := bne_iff_ne.mpr c7
            obtain ⟨ji8, hji8⟩ : ∃ j_ : Int, (wrap64 ((a0.size : Int) - 1)) = j_ := ⟨_, rfl⟩
            replace H : (if 0 ≤ (ji8) then (if (ji8) < (a0.size : Int) then (sallyportref06_label.j0 k a0 ((bt a0 (ji8)) == 45)) else (none)) else (none)) = some r := by first | (rw [hji8] at H; exact H) | (simp only [hji8] at H ⊢; exact H)
            have hji8w : (IntKind.i64.wrap ((a0.size : Int) - 1)) = ji8 := (i64_w _).trans hji8
            by_cases c9 : 0 ≤ (ji8)
            · rw [if_pos c9] at H
              have c9b0 : decide (0 ≤ (ji8)) = true := decide_eq_true c9
              clear c9
              by_cases c10 : (ji8) < (a0.size : Int)
              · rw [if_pos c10] at H
                have c10b0 : decide ((ji8) < (a0.size : Int)) = true := decide_eq_true c10
                clear c10
                have H' := Aside0.mk H
                clear H
                have p6 : 0 ≤ (0 : Int) := (by omega)
                have q6 : 0 < a0.size := (by have : (0 : Int) < (a0.size : Int) := of_decide_eq_true (by first | (with_reducible assumption) | assumption); omega)
                have hx6 : ∀ h : 0 < a0.size, ((a0[0]'h).toNat : Int) = bt a0 0 := bt_at a0 0
                clear p6
                have qi6 : (0 < (a0.size : Int)) = True := eq_true (of_decide_eq_true (by first | (with_reducible assumption) | assumption))
                replace q6 := eq_true q6
                have p11 : 0 ≤ ((ji8) : Int) := of_decide_eq_true (by first | (with_reducible assumption) | assumption)
                have q11 : (ji8) < (a0.size : Int) := of_decide_eq_true (by first | (with_reducible assumption) | assumption)
                have hx11 := bt_at a0 (ji8)
                replace p11 := eq_true p11
                replace q11 := eq_true q11
                go_wp2
                go_meet
                case rel => exact ⟨_, (((bt a0 (ji8)) == 45)), (by first | rfl | (simp; done) | (simp only [← hji8] <;> (first | rfl | simp)) | (simp [*]; done)), H', ⟨by first | omega | exact Nat.le_refl _⟩, by repeat (first | exact Drawn0.refl _ | apply Drawn0.step)⟩
              · rw [if_neg c10] at H
                exact absurd H (by simp)
            · rw [if_neg c9] at H
              exact absurd H (by simp)
        · rw [if_neg c5] at H
          exact absurd H (by simp)
  case rest =>
    clear HC2
    try clear c1
    try clear p1
    try clear q1
    try clear hx1
    try clear p2
    try clear c3
    try clear c3b0
    try clear c3b1
    try clear c4
    try clear c4b0
    try clear c4b1
    try clear c5
    try clear c5b0
    try clear c5b1
    try clear p6
    try clear q6
    try clear hx6
    try clear qi6
    try clear c7
    try clear c7b0
    try clear c7b1
    try clear c8
    try clear c9
    try clear c9b0
    try clear c10
    try clear c10b0
    try clear p11
    try clear q11
    try clear hx11
    try clear p11
    try clear p6
    try clear q11
    try clear q6
    obtain ⟨kq, x23_1, rfl, HA, HJ1, ⟨mc1, rfl⟩⟩ := hcut
    cases kq with
    | zero => exact absurd HA.out (by simp [sallyportref06_label.j0])
    | succ kj1 =>
      have H := HA.out
      clear HA
      simp only [sallyportref06_label.j0] at H
      by_cases c12 : x23_1 = true
      · subst c12
        have H1 : (some false) = some r := by rw [if_pos rfl] at H; exact H
        clear H
        have H := H1
        clear H1
        obtain rfl := Option.some.inj H
        go_wp2
        go_ret
        exact ⟨by first | rfl | (simp; done) | (simp [*]; done), by repeat (first | exact Drawn0.refl _ | apply Drawn0.step)⟩
      · replace c12 := Bool.eq_false_iff.mpr c12
        subst c12
        have H1 : (sallyportref06_label.l0 kj1 a0 0) = some r := by rw [if_neg (show ¬ (false = true) by decide)] at H; exact H
        clear H
        have H := H1
        clear H1
        have H' := Aside0.mk H
        clear H
        go_wp2
        go_loopg [3] kj1 (fun kq v3 w' => ∃ (x3_2 : Int), v3 = .int .i64 x3_2 ∧ Aside0 (sallyportref06_label.l0 kq a0 x3_2 = some r) ∧ Aside0 (kq ≤ kj1) ∧ Drawn0 w w')
        case atStart => exact ⟨(0), (by first | rfl | (simp; done) | (simp [*]; done)), H', ⟨Nat.le_refl _⟩, by repeat (first | exact Drawn0.refl _ | apply Drawn0.step)⟩
        case round =>
          clear H'
          try clear c1
          try clear p1
          try clear q1
          try clear hx1
          try clear p2
          try clear c3
          try clear c3b0
          try clear c3b1
          try clear c4
          try clear c4b0
          try clear c4b1
          try clear c5
          try clear c5b0
          try clear c5b1
          try clear p6
          try clear q6
          try clear hx6
          try clear qi6
          try clear c7
          try clear c7b0
          try clear c7b1
          try clear c8
          try clear c9
          try clear c9b0
          try clear c10
          try clear c10b0
          try clear p11
          try clear q11
          try clear hx11
          try clear c12
          try clear p1
          try clear p11
          try clear p2
          try clear p6
          try clear q1
          try clear q11
          try clear q6
          obtain ⟨x3_2, rfl, HA, HK2, ⟨m2, rfl⟩⟩ := hrel
          cases gk with
          | zero => exact absurd HA.out (by simp [sallyportref06_label.l0])
          | succ k2 =>
            have H := HA.out
            clear HA
            simp only [sallyportref06_label.l0] at H
            by_cases c13 : x3_2 < (a0.size : Int)
            · rw [if_pos c13] at H
              have c13b0 : decide (x3_2 < (a0.size : Int)) = true := decide_eq_true c13
              clear c13
              by_cases c14 : 0 ≤ x3_2
              · rw [if_pos c14] at H
                have c14b0 : decide (0 ≤ x3_2) = true := decide_eq_true c14
                clear c14
                by_cases c16 : (bt a0 x3_2) = 45
                · rw [if_pos c16] at H
                  have c16b0 : ((bt a0 x3_2) == 45) = true := beq_iff_eq.mpr c16
                  have c16b1 : ((bt a0 x3_2) != 45) = false := bne_eq_false_iff_eq.mpr c16
                  clear c16
                  have H' := Aside0.mk H
                  clear H
                  have p15 : 0 ≤ (x3_2 : Int) := of_decide_eq_true (by first | (with_reducible assumption) | assumption)
                  have q15 : x3_2 < (a0.size : Int) := of_decide_eq_true (by first | (with_reducible assumption) | assumption)
                  have hx15 := bt_at a0 x3_2
                  replace p15 := eq_true p15
                  replace q15 := eq_true q15
                  go_wp2
                  go_roundg k2
                  case measure => have := HJ1.out; have := HK2.out; omega
                  case rel => exact ⟨(wrap64 (x3_2 + 1)), (by first | rfl | (simp; done) | (simp [*]; done)), H', ⟨by have := HJ1.out; have := HK2.out; omega⟩, by repeat (first | exact Drawn0.refl _ | apply Drawn0.step)⟩
                · rw [if_neg c16] at H
                  have c16b0 : ((bt a0 x3_2) == 45) = false := beq_eq_false_iff_ne.mpr c16
                  have c16b1 : ((bt a0 x3_2) != 45) = true := bne_iff_ne.mpr c16
                  replace H := Option.bind_eq_some_iff.mp H
                  obtain ⟨t126, A180, H⟩ := H
                  replace H : (if t126 = true then (sallyportref06_label.l0 k2 a0 (wrap64 (x3_2 + 1))) else (if (bt a0 x3_2) < 97 then (some false) else (if (bt a0 x3_2) > 122 then (some false) else (sallyportref06_label.l0 k2 a0 (wrap64 (x3_2 + 1)))))) = some r := H
                  have A18 := Aside0.mk A180
                  clear A180
                  by_cases c19 : t126 = true
                  · subst c19
                    have H1 : (sallyportref06_label.l0 k2 a0 (wrap64 (x3_2 + 1))) = some r := by rw [if_pos rfl] at H; exact H
                    clear H
                    have H := H1
                    clear H1
                    have H' := Aside0.mk H
                    clear H
                    have p15 : 0 ≤ (x3_2 : Int) := of_decide_eq_true (by first | (with_reducible assumption) | assumption)
                    have q15 : x3_2 < (a0.size : Int) := of_decide_eq_true (by first | (with_reducible assumption) | assumption)
                    have hx15 := bt_at a0 x3_2
                    replace p15 := eq_true p15
                    replace q15 := eq_true q15
                    have p17 : 0 ≤ (x3_2 : Int) := of_decide_eq_true (by first | (with_reducible assumption) | assumption)
                    have q17 : x3_2 < (a0.size : Int) := of_decide_eq_true (by first | (with_reducible assumption) | assumption)
                    have hx17 := bt_at a0 x3_2
                    replace p17 := eq_true p17
                    replace q17 := eq_true q17
                    go_wp2_with (first | (go_at_call 84; (with_reducible refine (sallyportref06_digit.calls (bt a0 x3_2) true _ A18.out).mono ?_); rintro e w' ⟨rfl, ⟨nd, rfl⟩⟩))
                    go_roundg k2
                    case measure => have := HJ1.out; have := HK2.out; omega
                    case rel => exact ⟨(wrap64 (x3_2 + 1)), (by first | rfl | (simp; done) | (simp [*]; done)), H', ⟨by have := HJ1.out; have := HK2.out; omega⟩, by repeat (first | exact Drawn0.refl _ | apply Drawn0.step)⟩
                  · replace c19 := Bool.eq_false_iff.mpr c19
                    subst c19
                    have H1 : (if (bt a0 x3_2) < 97 then (some false) else (if (bt a0 x3_2) > 122 then (some false) else (sallyportref06_label.l0 k2 a0 (wrap64 (x3_2 + 1))))) = some r := by rw [if_neg (show ¬ (false = true) by decide)] at H; exact H
                    clear H
                    have H := H1
                    clear H1
                    by_cases c21 : (bt a0 x3_2) < 97
                    · rw [if_pos c21] at H
                      have c21b0 : decide ((bt a0 x3_2) < 97) = true := decide_eq_true c21
                      clear c21
                      obtain rfl := Option.some.inj H
                      have p15 : 0 ≤ (x3_2 : Int) := of_decide_eq_true (by first | (with_reducible assumption) | assumption)
                      have q15 : x3_2 < (a0.size : Int) := of_decide_eq_true (by first | (with_reducible assumption) | assumption)
                      have hx15 := bt_at a0 x3_2
                      replace p15 := eq_true p15
                      replace q15 := eq_true q15
                      have p17 : 0 ≤ (x3_2 : Int) := of_decide_eq_true (by first | (with_reducible assumption) | assumption)
                      have q17 : x3_2 < (a0.size : Int) := of_decide_eq_true (by first | (with_reducible assumption) | assumption)
                      have hx17 := bt_at a0 x3_2
                      replace p17 := eq_true p17
                      replace q17 := eq_true q17
                      go_wp2_with (first | (go_at_call 84; (with_reducible refine (sallyportref06_digit.calls (bt a0 x3_2) false _ A18.out).mono ?_); rintro e w' ⟨rfl, ⟨nd, rfl⟩⟩; have p20 : 0 ≤ (x3_2 : Int) := of_decide_eq_true (by first | (with_reducible assumption) | assumption); have q20 : x3_2 < (a0.size : Int) := of_decide_eq_true (by first | (with_reducible assumption) | assumption); have hx20 := bt_at a0 x3_2; replace p20 := eq_true p20; replace q20 := eq_true q20))
                      go_ret
                      exact ⟨by first | rfl | (simp; done) | (simp [*]; done), by repeat (first | exact Drawn0.refl _ | apply Drawn0.step)⟩
                    · rw [if_neg c21] at H
                      have c21b0 : decide ((bt a0 x3_2) < 97) = false := decide_eq_false c21
                      clear c21
                      by_cases c23 : (bt a0 x3_2) > 122
                      · rw [if_pos c23] at H
                        have c23b0 : decide (122 < (bt a0 x3_2)) = true := decide_eq_true c23
                        clear c23
                        obtain rfl := Option.some.inj H
                        have p15 : 0 ≤ (x3_2 : Int) := of_decide_eq_true (by first | (with_reducible assumption) | assumption)
                        have q15 : x3_2 < (a0.size : Int) := of_decide_eq_true (by first | (with_reducible assumption) | assumption)
                        have hx15 := bt_at a0 x3_2
                        replace p15 := eq_true p15
                        replace q15 := eq_true q15
                        have p17 : 0 ≤ (x3_2 : Int) := of_decide_eq_true (by first | (with_reducible assumption) | assumption)
                        have q17 : x3_2 < (a0.size : Int) := of_decide_eq_true (by first | (with_reducible assumption) | assumption)
                        have hx17 := bt_at a0 x3_2
                        replace p17 := eq_true p17
                        replace q17 := eq_true q17
                        go_wp2_with (first | (go_at_call 84; (with_reducible refine (sallyportref06_digit.calls (bt a0 x3_2) false _ A18.out).mono ?_); rintro e w' ⟨rfl, ⟨nd, rfl⟩⟩; have p20 : 0 ≤ (x3_2 : Int) := of_decide_eq_true (by first | (with_reducible assumption) | assumption); have q20 : x3_2 < (a0.size : Int) := of_decide_eq_true (by first | (with_reducible assumption) | assumption); have hx20 := bt_at a0 x3_2; replace p20 := eq_true p20; replace q20 := eq_true q20; have p22 : 0 ≤ (x3_2 : Int) := of_decide_eq_true (by first | (with_reducible assumption) | assumption); have q22 : x3_2 < (a0.size : Int) := of_decide_eq_true (by first | (with_reducible assumption) | assumption); have hx22 := bt_at a0 x3_2; replace p22 := eq_true p22; replace q22 := eq_true q22))
                        go_ret
                        exact ⟨by first | rfl | (simp; done) | (simp [*]; done), by repeat (first | exact Drawn0.refl _ | apply Drawn0.step)⟩
                      · rw [if_neg c23] at H
                        have c23b0 : decide (122 < (bt a0 x3_2)) = false := decide_eq_false c23
                        clear c23
                        have H' := Aside0.mk H
                        clear H
                        have p15 : 0 ≤ (x3_2 : Int) := of_decide_eq_true (by first | (with_reducible assumption) | assumption)
                        have q15 : x3_2 < (a0.size : Int) := of_decide_eq_true (by first | (with_reducible assumption) | assumption)
                        have hx15 := bt_at a0 x3_2
                        replace p15 := eq_true p15
                        replace q15 := eq_true q15
                        have p17 : 0 ≤ (x3_2 : Int) := of_decide_eq_true (by first | (with_reducible assumption) | assumption)
                        have q17 : x3_2 < (a0.size : Int) := of_decide_eq_true (by first | (with_reducible assumption) | assumption)
                        have hx17 := bt_at a0 x3_2
                        replace p17 := eq_true p17
                        replace q17 := eq_true q17
                        go_wp2_with (first | (go_at_call 84; (with_reducible refine (sallyportref06_digit.calls (bt a0 x3_2) false _ A18.out).mono ?_); rintro e w' ⟨rfl, ⟨nd, rfl⟩⟩; have p20 : 0 ≤ (x3_2 : Int) := of_decide_eq_true (by first | (with_reducible assumption) | assumption); have q20 : x3_2 < (a0.size : Int) := of_decide_eq_true (by first | (with_reducible assumption) | assumption); have hx20 := bt_at a0 x3_2; replace p20 := eq_true p20; replace q20 := eq_true q20; have p22 : 0 ≤ (x3_2 : Int) := of_decide_eq_true (by first | (with_reducible assumption) | assumption); have q22 : x3_2 < (a0.size : Int) := of_decide_eq_true (by first | (with_reducible assumption) | assumption); have hx22 := bt_at a0 x3_2; replace p22 := eq_true p22; replace q22 := eq_true q22))
                        go_roundg k2
                        case measure => have := HJ1.out; have := HK2.out; omega
                        case rel => exact ⟨(wrap64 (x3_2 + 1)), (by first | rfl | (simp; done) | (simp [*]; done)), H', ⟨by have := HJ1.out; have := HK2.out; omega⟩, by repeat (first | exact Drawn0.refl _ | apply Drawn0.step)⟩
              · rw [if_neg c14] at H
                exact absurd H (by simp)
            · rw [if_neg c13] at H
              have c13b0 : decide (x3_2 < (a0.size : Int)) = false := decide_eq_false c13
              clear c13
              obtain rfl := Option.some.inj H
              go_wp2
              go_ret
              exact ⟨by first | rfl | (simp; done) | (simp [*]; done), by repeat (first | exact Drawn0.refl _ | apply Drawn0.step)⟩
end Go.Proofs.YteondnhokgmakaaGreatDoor.XR


namespace Go.Proofs.YteondnhokgmakaaGreatDoor.E
open Go.RowKit Go.Proofs.YteondnhokgmakaaGreatDoorW.PrintWords Go.Proofs.YteondnhokgmakaaGreatDoorW.PrintLast Go.Proofs.YteondnhokgmakaaGreatDoor.XC Go.Proofs.YteondnhokgmakaaGreatDoor.XR
set_option linter.unusedVariables false
set_option linter.unusedSimpArgs false
theorem bt_get (s : ByteArray) (i : Nat) (h : i < s.data.toList.length) : bt s (i : Int) = ((s.data.toList[i]'h).toNat : Int) := by
  have h' : i < s.size := by rw [Array.length_toList] at h; exact h
  unfold bt
  rw [Int.toNat_natCast, dif_pos h']; rfl
theorem len_size (s : ByteArray) : s.data.toList.length = s.size := Array.length_toList
def digR (c : UInt8) : Bool := decide (48 ≤ c.toNat) && decide (c.toNat ≤ 57)
theorem digit_f (c : UInt8) : sallyportref06_digit.f (c.toNat : Int) = some (digR c) := by
  unfold sallyportref06_digit.f digR
  by_cases h : (c.toNat : Int) ≥ 48
  · rw [if_pos h, decide_eq_true (show 48 ≤ c.toNat by omega), Bool.true_and]
    congr 1
    exact decide_eq_decide.2 (by omega)
  · rw [if_neg h, decide_eq_false (show ¬ 48 ≤ c.toNat by omega), Bool.false_and]
def okr (c : UInt8) : Bool := c.toNat == 45 || digR c || (decide (97 ≤ c.toNat) && decide (c.toNat ≤ 122))
theorem okr_low (c : UInt8) : okr (Lib.lowerB c) = ([2, 3, 4] : List Int).contains (kindZ (c.toNat : Int)) := by
  have h : ∀ n : Fin 256, okr (Lib.lowerB (UInt8.ofNat n.1)) = ([2, 3, 4] : List Int).contains (kindZ ((UInt8.ofNat n.1).toNat : Int)) := by decide +kernel
  have := h ⟨c.toNat, c.toNat_lt⟩
  simpa using this
theorem digR_low (c : UInt8) : digR (Lib.lowerB c) = ([2] : List Int).contains (kindZ (c.toNat : Int)) := by
  have h : ∀ n : Fin 256, digR (Lib.lowerB (UInt8.ofNat n.1)) = ([2] : List Int).contains (kindZ ((UInt8.ofNat n.1).toNat : Int)) := by decide +kernel
  have := h ⟨c.toNat, c.toNat_lt⟩
  simpa using this
theorem dash_low (c : UInt8) : ((Lib.lowerB c).toNat == 45) = (c.toNat == 45) := by
  have h : ∀ n : Fin 256, ((Lib.lowerB (UInt8.ofNat n.1)).toNat == 45) = ((UInt8.ofNat n.1).toNat == 45) := by decide +kernel
  have := h ⟨c.toNat, c.toNat_lt⟩
  simpa using this
theorem dot_low (c : UInt8) : (Lib.lowerB c = 46) ↔ c = 46 := by
  have h : ∀ n : Fin 256, (Lib.lowerB (UInt8.ofNat n.1) = 46) ↔ (UInt8.ofNat n.1) = 46 := by decide +kernel
  have := h ⟨c.toNat, c.toNat_lt⟩
  simpa using this
theorem label_loop (s : ByteArray) (hs : s.size ≤ 281474976710656) : ∀ (m k i : Nat), i + m = s.size → m < k → sallyportref06_label.l0 k s (i : Int) = some ((s.data.toList.drop i).all okr)
  | 0, k + 1, i, hi, hk => by
    unfold sallyportref06_label.l0
    rw [if_neg (by omega), List.drop_of_length_le (by rw [len_size]; omega)]; rfl
  | m + 1, k + 1, i, hi, hk => by
    have hl : i < s.data.toList.length := by rw [len_size]; omega
    have ih := label_loop s hs m k (i + 1) (by omega) (by omega)
    have hw : wrap64 ((i : Int) + 1) = ((i + 1 : Nat) : Int) := by rw [wrap64_id _ (by omega) (by omega)]; omega
    unfold sallyportref06_label.l0
    rw [if_pos (by omega), if_pos (by omega), bt_get s i hl, hw, ih, List.drop_eq_getElem_cons hl, List.all_cons, digit_f, Option.bind_some]
    generalize s.data.toList[i] = c
    unfold okr
    by_cases h1 : (c.toNat : Int) = 45
    · rw [if_pos h1, beq_iff_eq.2 (show c.toNat = 45 by omega)]; simp
    · rw [if_neg h1, beq_eq_false_iff_ne.2 (show c.toNat ≠ 45 by omega), Bool.false_or]
      cases digR c
      · rw [if_neg (by simp), Bool.false_or]
        by_cases h2 : (c.toNat : Int) < 97
        · rw [if_pos h2, decide_eq_false (show ¬ 97 ≤ c.toNat by omega)]; simp
        · rw [if_neg h2, decide_eq_true (show 97 ≤ c.toNat by omega)]
          by_cases h3 : (c.toNat : Int) > 122
          · rw [if_pos h3, decide_eq_false (show ¬ c.toNat ≤ 122 by omega)]; simp
          · rw [if_neg h3, decide_eq_true (show c.toNat ≤ 122 by omega)]; simp
      · rw [if_pos rfl]; simp
def labR (l : List UInt8) : Bool := !l.isEmpty && (decide (l.length ≤ 63) && (l.all okr && (!((l.headD 0).toNat == 45) && !((l.getLastD 0).toNat == 45))))
theorem label_f (s : ByteArray) (hs : s.size ≤ 281474976710656) (k : Nat) (hk : s.size + 1 < k) : sallyportref06_label.f k s = some (labR s.data.toList) := by
  obtain ⟨j, rfl⟩ : ∃ j, k = j + 1 := ⟨k - 1, by omega⟩
  have jt : sallyportref06_label.j0 (j + 1) s true = some false := by simp only [sallyportref06_label.j0, if_true]
  have jf : sallyportref06_label.j0 (j + 1) s false = some (s.data.toList.all okr) := by
    have := label_loop s hs s.size j 0 (by omega) (by omega)
    rw [List.drop_zero] at this
    simp only [sallyportref06_label.j0, Bool.false_eq_true, if_false]
    exact this
  have hl := len_size s
  have htl : s.toList = s.data.toList := ByteArray.toList_eq s
  unfold sallyportref06_label.f labR
  rw [jt, htl]
  by_cases h0 : s.data.toList = []
  · rw [if_pos h0, h0]; rfl
  · rw [if_neg h0]
    have hpos : 0 < s.data.toList.length := List.length_pos_iff.2 h0
    have he : s.data.toList.isEmpty = false := by rw [List.isEmpty_eq_false_iff]; exact h0
    rw [he, Bool.not_false, Bool.true_and]
    by_cases h1 : (s.size : Int) > 63
    · rw [if_pos h1, decide_eq_false (show ¬ s.data.toList.length ≤ 63 by omega)]; rfl
    · rw [if_neg h1, decide_eq_true (show s.data.toList.length ≤ 63 by omega), Bool.true_and, if_pos (by omega)]
      have hb0 : bt s 0 = (s.data.toList[0].toNat : Int) := bt_get s 0 hpos
      have hh : s.data.toList.headD 0 = s.data.toList[0] := by
        rw [List.headD_eq_head?_getD, List.head?_eq_getElem?, List.getElem?_eq_getElem hpos]; rfl
      have hw : wrap64 ((s.size : Int) - 1) = ((s.data.toList.length - 1 : Nat) : Int) := by rw [wrap64_id _ (by omega) (by omega)]; omega
      have hgl : s.data.toList.getLastD 0 = s.data.toList[s.data.toList.length - 1] := by
        rw [List.getLastD_eq_getLast?, List.getLast?_eq_getElem?, List.getElem?_eq_getElem (by omega)]; rfl
      rw [hb0, hw, bt_get s _ (by omega), hh, hgl]
      by_cases h2 : (s.data.toList[0].toNat : Int) = 45
      · rw [if_pos h2, beq_iff_eq.2 (show s.data.toList[0].toNat = 45 by omega)]; simp
      · rw [if_neg h2, if_pos (by omega), if_pos (by omega), beq_eq_false_iff_ne.2 (show s.data.toList[0].toNat ≠ 45 by omega)]
        by_cases h3 : s.data.toList[s.data.toList.length - 1].toNat = 45
        · rw [show ((s.data.toList[s.data.toList.length - 1].toNat : Int) == 45) = true by rw [beq_iff_eq]; omega, jt, beq_iff_eq.2 h3]; simp
        · rw [show ((s.data.toList[s.data.toList.length - 1].toNat : Int) == 45) = false by rw [beq_eq_false_iff_ne]; omega, jf, beq_eq_false_iff_ne.2 h3]; simp
theorem labR_low (l : List UInt8) : labR (l.map Lib.lowerB) = lblOk l := by
  unfold labR lblOk onlyZ
  have h1 : (l.map Lib.lowerB).isEmpty = l.isEmpty := by cases l <;> rfl
  have h2 : ((l.map Lib.lowerB).all okr) = l.all fun c => ([2, 3, 4] : List Int).contains (kindZ (c.toNat : Int)) := by
    rw [List.all_map]
    congr 1
    funext c
    exact okr_low c
  rw [h1, h2, List.length_map]
  cases l with
  | nil => rfl
  | cons a r =>
    have h3 : ((((a :: r).map Lib.lowerB).headD 0).toNat == 45) = (((a :: r).headD 0).toNat == 45) := dash_low a
    have h4 : ((((a :: r).map Lib.lowerB).getLastD 0).toNat == 45) = (((a :: r).getLastD 0).toNat == 45) := by
      rw [List.getLastD_eq_getLast?, List.getLastD_eq_getLast?, List.getLast?_map]
      cases hq : (a :: r).getLast? with
      | none => rfl
      | some x => exact dash_low x
    rw [h3, h4]
end Go.Proofs.YteondnhokgmakaaGreatDoor.E


namespace Go.Proofs.YteondnhokgmakaaGreatDoor.XR
open Go.Proofs.YteondnhokgmakaaGreatDoor.XC Go.Proofs.YteondnhokgmakaaGreatDoor.XM
open Go.RowKit Go.Proofs.YteondnhokgmakaaGreatDoorW.PrintWords Go.Proofs.YteondnhokgmakaaGreatDoorW.PrintLast Go.Proofs.YteondnhokgmakaaGreatDoorW.PrintMore
attribute [local go_sem] max2_int min2_int max_two min_two max_three min_three max_four min_four
set_option linter.unusedVariables false
set_option linter.unusedSimpArgs false
end Go.Proofs.YteondnhokgmakaaGreatDoor.XR


namespace Go.Proofs.YteondnhokgmakaaGreatDoor.XR
open Go.Proofs.YteondnhokgmakaaGreatDoor.XC Go.Proofs.YteondnhokgmakaaGreatDoor.XM
open Go.RowKit Go.Proofs.YteondnhokgmakaaGreatDoorW.PrintWords Go.Proofs.YteondnhokgmakaaGreatDoorW.PrintLast Go.Proofs.YteondnhokgmakaaGreatDoorW.PrintMore
attribute [local go_sem] max2_int min2_int max_two min_two max_three min_three max_four min_four
set_option linter.unusedVariables false
set_option linter.unusedSimpArgs false
attribute [local go_sem high] eqA24
mutual
def sallyportref06_ParseName.l0 : Nat → ByteArray → List ByteArray → List Int → Int → Option (ByteArray × Int × ByteArray × ByteArray × ByteArray × ByteArray × Int × Int × Int × Int × Int)
  | 0, _, _, _, _ => none
  | k + 1, x4, x5, x6, x7 => if x7 < (x5.length : Int) then (if 0 ≤ x7 then ((sallyportref06_label.f k (rdOf ByteArray.empty x5 x7)).bind fun t146 => (if t146 = true then (sallyportref06_ParseName.l0 k x4 x5 x6 (wrap64 (x7 + 1))) else (if x7 < (x6.length : Int) then ((sallyportref06_fault.f (rd x6 x7) 61).bind fun bt148 => (some ((⟨#[]⟩ : ByteArray), bt148.1, bt148.2.1, bt148.2.2.1, bt148.2.2.2.1, bt148.2.2.2.2.1, bt148.2.2.2.2.2.1, bt148.2.2.2.2.2.2.1, bt148.2.2.2.2.2.2.2.1, bt148.2.2.2.2.2.2.2.2.1, bt148.2.2.2.2.2.2.2.2.2))) else (none)))) else (none)) else (if 0 ≤ (wrap64 ((x5.length : Int) - 1)) then (if (wrap64 ((x5.length : Int) - 1)) < (x5.length : Int) then (sallyportref06_ParseName.l1 k x4 x5 x6 (rdOf ByteArray.empty x5 (wrap64 ((x5.length : Int) - 1))) true 0) else (none)) else (none))
def sallyportref06_ParseName.l1 : Nat → ByteArray → List ByteArray → List Int → ByteArray → Bool → Int → Option (ByteArray × Int × ByteArray × ByteArray × ByteArray × ByteArray × Int × Int × Int × Int × Int)
  | 0, _, _, _, _, _, _ => none
  | k + 1, x4, x5, x6, x8, x9, x10 => if x10 < (x8.size : Int) then (if x9 = true then (if 0 ≤ x10 then ((sallyportref06_digit.f (bt x8 x10)).bind fun t159 => (sallyportref06_ParseName.l1 k x4 x5 x6 x8 t159 (wrap64 (x10 + 1)))) else (none)) else (sallyportref06_ParseName.l1 k x4 x5 x6 x8 false (wrap64 (x10 + 1)))) else (if x9 = true then (if 0 ≤ (wrap64 ((x5.length : Int) - 1)) then (if (wrap64 ((x5.length : Int) - 1)) < (x6.length : Int) then ((sallyportref06_fault.f (rd x6 (wrap64 ((x5.length : Int) - 1))) 63).bind fun bt161 => (some ((⟨#[]⟩ : ByteArray), bt161.1, bt161.2.1, bt161.2.2.1, bt161.2.2.2.1, bt161.2.2.2.2.1, bt161.2.2.2.2.2.1, bt161.2.2.2.2.2.2.1, bt161.2.2.2.2.2.2.2.1, bt161.2.2.2.2.2.2.2.2.1, bt161.2.2.2.2.2.2.2.2.2))) else (none)) else (none)) else (some (x4, 0, (⟨#[]⟩ : ByteArray), (⟨#[]⟩ : ByteArray), (⟨#[]⟩ : ByteArray), (⟨#[]⟩ : ByteArray), 0, 0, 0, 0, 0)))
end
def sallyportref06_ParseName.f (k : Nat) (a0 : ByteArray) : Option (ByteArray × Int × ByteArray × ByteArray × ByteArray × ByteArray × Int × Int × Int × Int × Int) := if (a0.size : Int) > 253 then ((sallyportref06_fault.f 253 3).bind fun bt128 => (some ((⟨#[]⟩ : ByteArray), bt128.1, bt128.2.1, bt128.2.2.1, bt128.2.2.2.1, bt128.2.2.2.2.1, bt128.2.2.2.2.2.1, bt128.2.2.2.2.2.2.1, bt128.2.2.2.2.2.2.2.1, bt128.2.2.2.2.2.2.2.2.1, bt128.2.2.2.2.2.2.2.2.2))) else ((E.Lower.f a0).bind fun t138 => ((sallyportref06_parts.f k t138).bind fun bt139 => (sallyportref06_ParseName.l0 k t138 bt139.1 bt139.2 0)))
theorem sallyportref06_ParseName.mono_l : ∀ k, (∀ y0 y1 y2 y3, LeO (sallyportref06_ParseName.l0 k y0 y1 y2 y3) (sallyportref06_ParseName.l0 (k + 1) y0 y1 y2 y3)) ∧ (∀ y0 y1 y2 y3 y4 y5, LeO (sallyportref06_ParseName.l1 k y0 y1 y2 y3 y4 y5) (sallyportref06_ParseName.l1 (k + 1) y0 y1 y2 y3 y4 y5))
  | 0 => ⟨fun _ _ _ _ r h => by simp [sallyportref06_ParseName.l0] at h, fun _ _ _ _ _ _ r h => by simp [sallyportref06_ParseName.l1] at h⟩
  | k + 1 => by
    obtain ⟨ih0, ih1⟩ := sallyportref06_ParseName.mono_l k
    refine ⟨?_, ?_⟩
    · intro y0 y1 y2 y3
      unfold sallyportref06_ParseName.l0
      repeat' first
      | (with_reducible exact ih0 _ _ _ _)
      | (with_reducible exact ih1 _ _ _ _ _ _)
      | (with_reducible exact sallyportref06_label.mono _ _)
      | (with_reducible exact sallyportref06_parts.mono _ _)
      | (with_reducible exact LeO.refl _)
      | (with_reducible exact LeO.none _)
      | (with_reducible refine LeO.ite ?_ ?_)
      | (with_reducible refine LeO.bind ?_ (fun _ => ?_))
      | exact ih0 _ _ _ _
      | exact ih1 _ _ _ _ _ _
      | exact sallyportref06_label.mono _ _
      | exact sallyportref06_parts.mono _ _
      | exact LeO.none _
      | refine LeO.ite ?_ ?_
      | refine LeO.bind ?_ (fun _ => ?_)
    · intro y0 y1 y2 y3 y4 y5
      unfold sallyportref06_ParseName.l1
      repeat' first
      | (with_reducible exact ih0 _ _ _ _)
      | (with_reducible exact ih1 _ _ _ _ _ _)
      | (with_reducible exact sallyportref06_label.mono _ _)
      | (with_reducible exact sallyportref06_parts.mono _ _)
      | (with_reducible exact LeO.refl _)
      | (with_reducible exact LeO.none _)
      | (with_reducible refine LeO.ite ?_ ?_)
      | (with_reducible refine LeO.bind ?_ (fun _ => ?_))
      | exact ih0 _ _ _ _
      | exact ih1 _ _ _ _ _ _
      | exact sallyportref06_label.mono _ _
      | exact sallyportref06_parts.mono _ _
      | exact LeO.none _
      | refine LeO.ite ?_ ?_
      | refine LeO.bind ?_ (fun _ => ?_)
theorem sallyportref06_ParseName.mono : ∀ a0 k, LeO (sallyportref06_ParseName.f k a0) (sallyportref06_ParseName.f (k + 1) a0) := by
  intro a0 k
  obtain ⟨ih0, ih1⟩ := sallyportref06_ParseName.mono_l k
  unfold sallyportref06_ParseName.f
  repeat' first
      | (with_reducible exact ih0 _ _ _ _)
      | (with_reducible exact ih1 _ _ _ _ _ _)
      | (with_reducible exact sallyportref06_label.mono _ _)
      | (with_reducible exact sallyportref06_parts.mono _ _)
      | (with_reducible exact LeO.refl _)
      | (with_reducible exact LeO.none _)
      | (with_reducible refine LeO.ite ?_ ?_)
      | (with_reducible refine LeO.bind ?_ (fun _ => ?_))
      | exact ih0 _ _ _ _
      | exact ih1 _ _ _ _ _ _
      | exact sallyportref06_label.mono _ _
      | exact sallyportref06_parts.mono _ _
      | exact LeO.none _
      | refine LeO.ite ?_ ?_
      | refine LeO.bind ?_ (fun _ => ?_)
set_option maxHeartbeats 8000000 in
set_option maxRecDepth 100000 in
theorem sallyportref06_ParseName.calls (k : Nat) (a0 : ByteArray) (r1 : ByteArray) (r2 : Int) (r3 : ByteArray) (r4 : ByteArray) (r5 : ByteArray) (r6 : ByteArray) (r7 : Int) (r8 : Int) (r9 : Int) (r10 : Int) (r11 : Int) (w : World) (hS_ : StdW w) (h : sallyportref06_ParseName.f k a0 = some (r1, r2, r3, r4, r5, r6, r7, r8, r9, r10, r11)) :
    Calls Tryz.prog 62 #[.string a0] w fun e w' => e = .returned (.tuple #[.string r1, .agg #[.int .i64 r2, .string r3, .string r4, .string r5, .string r6, .int .i64 r7, .int .i64 r8, .int .i64 r9, .int .i64 r10, .int .i64 r11]]) ∧ Below w.heap.size w w' := by
  have hu79 := Tryz.underlying79
  have HS_ := Aside0.mk hS_
  clear hS_
  have HB := Aside0.mk (Below.refl w.heap.size w)
  have H : (if (a0.size : Int) > 253 then ((sallyportref06_fault.f 253 3).bind fun bt128 => (some ((⟨#[]⟩ : ByteArray), bt128.1, bt128.2.1, bt128.2.2.1, bt128.2.2.2.1, bt128.2.2.2.2.1, bt128.2.2.2.2.2.1, bt128.2.2.2.2.2.2.1, bt128.2.2.2.2.2.2.2.1, bt128.2.2.2.2.2.2.2.2.1, bt128.2.2.2.2.2.2.2.2.2))) else ((E.Lower.f a0).bind fun t138 => ((sallyportref06_parts.f k t138).bind fun bt139 => (sallyportref06_ParseName.l0 k t138 bt139.1 bt139.2 0)))) = some (r1, r2, r3, r4, r5, r6, r7, r8, r9, r10, r11) := h
  clear h
  by_cases c2 : (a0.size : Int) > 253
  · rw [if_pos c2] at H
    have c2b0 : decide (253 < (a0.size : Int)) = true := decide_eq_true c2
    have c2b1 : decide (253 < a0.size) = true := decide_eq_true (by omega)
    clear c2
    replace H := Option.bind_eq_some_iff.mp H
    obtain ⟨⟨t128, t129, t130, t131, t132, t133, t134, t135, t136, t137⟩, A30, H⟩ := H
    replace H : (some ((⟨#[]⟩ : ByteArray), t128, t129, t130, t131, t132, t133, t134, t135, t136, t137)) = some (r1, r2, r3, r4, r5, r6, r7, r8, r9, r10, r11) := H
    have A3 := Aside0.mk A30
    clear A30
    simp only [Option.some.injEq, Prod.mk.injEq] at H
    obtain ⟨rfl, rfl, rfl, rfl, rfl, rfl, rfl, rfl, rfl, rfl, rfl⟩ := H
    go_enter Tryz.func62, Tryz.ntmps62
    go_wp2_with (first | ((with_reducible refine gate_dst (N := 3) rfl ?_); refine box_event ?hg (N := 3) ?hd (cs := #[.int .i64 0, .string (⟨#[]⟩ : ByteArray), .string (⟨#[]⟩ : ByteArray), .string (⟨#[]⟩ : ByteArray), .string (⟨#[]⟩ : ByteArray), .int .i64 0, .int .i64 0, .int .i64 0, .int .i64 0, .int .i64 0]) (t := 79) ?hr ?_; (case hd => rfl); (case hg => rfl); (case hr => first | (go_simp; done) | (go_simp; rfl)); intro gb127 hg w4 hbox hb; have n0_ := Aside0.mk (below_step (by repeat (first | (with_reducible first | exact HB.out | apply below_alloc | apply pw_below_drewN | apply below_drew1) | exact HB.out)) hb); have n1_ := Aside0.mk (hbox); have n2_ := Aside0.mk ((by rw [hg]; exact (below_size (by repeat (first | (with_reducible first | exact HB.out | apply below_alloc | apply pw_below_drewN | apply below_drew1) | exact HB.out))) : w.heap.size ≤ gb127)); have n3_ := Aside0.mk ((by rw [hg]; exact (below_size (by repeat (first | (with_reducible first | exact HB.out | apply below_alloc | apply pw_below_drewN | apply below_drew1) | exact HB.out))) : w.heap.size ≤ gb127)); clear HB; have HB := n0_; have BK127 := n1_; have GW127 := n2_; have GE127 := n3_; clear n0_ n1_ n2_ n3_; clear hb hbox hg) | ((with_reducible refine gate_callee (f := 76) rfl ?_); refine goesL_ (some 14) rfl rfl Tryz.func76 (by kernel_rfl) rfl #[.int .i64 253, .int .i64 3] rfl (by (try simp only [List.map_toArray, List.map_cons, List.map_nil]); first | done | rfl | (simp only [List.length_drop, List.length_take]; rfl)) ?_; (with_reducible refine (sallyportref06_fault.calls 253 3 t128 t129 t130 t131 t132 t133 t134 t135 t136 t137 _ ?side1 A3.out).mono ?_); (case side1 => exact StdW.below HS_.out (by repeat (first | (with_reducible first | exact HB.out | apply below_alloc | apply pw_below_drewN | apply below_drew1 | refine below_set ?_ GE127.out) | exact HB.out))); rintro e w5 ⟨rfl, hb⟩; refine ⟨_, rfl, ?_⟩; have n0_ := Aside0.mk (blk_below (g := gb127) (o := .cells #[.int .i64 0, .string (⟨#[]⟩ : ByteArray), .string (⟨#[]⟩ : ByteArray), .string (⟨#[]⟩ : ByteArray), .string (⟨#[]⟩ : ByteArray), .int .i64 0, .int .i64 0, .int .i64 0, .int .i64 0, .int .i64 0] 79 (0, 0)) (by (with_reducible repeat (first | refine blk_drewN ?_ _ | refine blk_drew ?_ | refine blk_alloc ?_ _)); exact BK127.out) hb); have n1_ := Aside0.mk (below_step (by repeat (first | (with_reducible first | exact HB.out | apply below_alloc | apply pw_below_drewN | apply below_drew1 | refine below_set ?_ GE127.out) | exact HB.out)) hb); clear BK127; clear HB; have BK127 := n0_; have HB := n1_; clear n0_ n1_; (try clear hb); (try clear hb2); (try clear hk); (try clear hi); have hcz6_0 : w5.cell? ⟨gb127, 0, none⟩ = some (.int .i64 0) := (blk_cell BK127.out 0).trans rfl; have hcz6_1 : w5.cell? ⟨gb127, 1, none⟩ = some (.string (⟨#[]⟩ : ByteArray)) := (blk_cell BK127.out 1).trans rfl; have hcz6_2 : w5.cell? ⟨gb127, 2, none⟩ = some (.string (⟨#[]⟩ : ByteArray)) := (blk_cell BK127.out 2).trans rfl; have hcz6_3 : w5.cell? ⟨gb127, 3, none⟩ = some (.string (⟨#[]⟩ : ByteArray)) := (blk_cell BK127.out 3).trans rfl; have hcz6_4 : w5.cell? ⟨gb127, 4, none⟩ = some (.string (⟨#[]⟩ : ByteArray)) := (blk_cell BK127.out 4).trans rfl; have hcz6_5 : w5.cell? ⟨gb127, 5, none⟩ = some (.int .i64 0) := (blk_cell BK127.out 5).trans rfl; have hcz6_6 : w5.cell? ⟨gb127, 6, none⟩ = some (.int .i64 0) := (blk_cell BK127.out 6).trans rfl; have hcz6_7 : w5.cell? ⟨gb127, 7, none⟩ = some (.int .i64 0) := (blk_cell BK127.out 7).trans rfl; have hcz6_8 : w5.cell? ⟨gb127, 8, none⟩ = some (.int .i64 0) := (blk_cell BK127.out 8).trans rfl; have hcz6_9 : w5.cell? ⟨gb127, 9, none⟩ = some (.int .i64 0) := (blk_cell BK127.out 9).trans rfl; have hfz6_0 := blk_frozen BK127.out 0; have hfz6_1 := blk_frozen BK127.out 1; have hfz6_2 := blk_frozen BK127.out 2; have hfz6_3 := blk_frozen BK127.out 3; have hfz6_4 := blk_frozen BK127.out 4; have hfz6_5 := blk_frozen BK127.out 5; have hfz6_6 := blk_frozen BK127.out 6; have hfz6_7 := blk_frozen BK127.out 7; have hfz6_8 := blk_frozen BK127.out 8; have hfz6_9 := blk_frozen BK127.out 9))
    refine bodyPost_ret (results_tc rfl _ _ gb127 79 #[.int .i64 t128, .string t129, .string t130, .string t131, .string t132, .int .i64 t133, .int .i64 t134, .int .i64 t135, .int .i64 t136, .int .i64 t137] (0, 0) _ rfl (by (with_reducible repeat (first | refine blk_drewN ?_ _ | refine blk_drew ?_ | refine blk_alloc ?_ _)); refine blk_put (cs := #[.int .i64 t128, .string t129, .string t130, .string t131, .string t132, .int .i64 t133, .int .i64 t134, .int .i64 t135, .int .i64 t136, .int .i64 0]) ?_ 9 _ rfl; (with_reducible repeat (first | refine blk_drewN ?_ _ | refine blk_drew ?_ | refine blk_alloc ?_ _)); refine blk_put (cs := #[.int .i64 t128, .string t129, .string t130, .string t131, .string t132, .int .i64 t133, .int .i64 t134, .int .i64 t135, .int .i64 0, .int .i64 0]) ?_ 8 _ rfl; (with_reducible repeat (first | refine blk_drewN ?_ _ | refine blk_drew ?_ | refine blk_alloc ?_ _)); refine blk_put (cs := #[.int .i64 t128, .string t129, .string t130, .string t131, .string t132, .int .i64 t133, .int .i64 t134, .int .i64 0, .int .i64 0, .int .i64 0]) ?_ 7 _ rfl; (with_reducible repeat (first | refine blk_drewN ?_ _ | refine blk_drew ?_ | refine blk_alloc ?_ _)); refine blk_put (cs := #[.int .i64 t128, .string t129, .string t130, .string t131, .string t132, .int .i64 t133, .int .i64 0, .int .i64 0, .int .i64 0, .int .i64 0]) ?_ 6 _ rfl; (with_reducible repeat (first | refine blk_drewN ?_ _ | refine blk_drew ?_ | refine blk_alloc ?_ _)); refine blk_put (cs := #[.int .i64 t128, .string t129, .string t130, .string t131, .string t132, .int .i64 0, .int .i64 0, .int .i64 0, .int .i64 0, .int .i64 0]) ?_ 5 _ rfl; (with_reducible repeat (first | refine blk_drewN ?_ _ | refine blk_drew ?_ | refine blk_alloc ?_ _)); refine blk_put (cs := #[.int .i64 t128, .string t129, .string t130, .string t131, .string (⟨#[]⟩ : ByteArray), .int .i64 0, .int .i64 0, .int .i64 0, .int .i64 0, .int .i64 0]) ?_ 4 _ rfl; (with_reducible repeat (first | refine blk_drewN ?_ _ | refine blk_drew ?_ | refine blk_alloc ?_ _)); refine blk_put (cs := #[.int .i64 t128, .string t129, .string t130, .string (⟨#[]⟩ : ByteArray), .string (⟨#[]⟩ : ByteArray), .int .i64 0, .int .i64 0, .int .i64 0, .int .i64 0, .int .i64 0]) ?_ 3 _ rfl; (with_reducible repeat (first | refine blk_drewN ?_ _ | refine blk_drew ?_ | refine blk_alloc ?_ _)); refine blk_put (cs := #[.int .i64 t128, .string t129, .string (⟨#[]⟩ : ByteArray), .string (⟨#[]⟩ : ByteArray), .string (⟨#[]⟩ : ByteArray), .int .i64 0, .int .i64 0, .int .i64 0, .int .i64 0, .int .i64 0]) ?_ 2 _ rfl; (with_reducible repeat (first | refine blk_drewN ?_ _ | refine blk_drew ?_ | refine blk_alloc ?_ _)); refine blk_put (cs := #[.int .i64 t128, .string (⟨#[]⟩ : ByteArray), .string (⟨#[]⟩ : ByteArray), .string (⟨#[]⟩ : ByteArray), .string (⟨#[]⟩ : ByteArray), .int .i64 0, .int .i64 0, .int .i64 0, .int .i64 0, .int .i64 0]) ?_ 1 _ rfl; (with_reducible repeat (first | refine blk_drewN ?_ _ | refine blk_drew ?_ | refine blk_alloc ?_ _)); refine blk_put (cs := #[.int .i64 0, .string (⟨#[]⟩ : ByteArray), .string (⟨#[]⟩ : ByteArray), .string (⟨#[]⟩ : ByteArray), .string (⟨#[]⟩ : ByteArray), .int .i64 0, .int .i64 0, .int .i64 0, .int .i64 0, .int .i64 0]) ?_ 0 _ rfl; (with_reducible repeat (first | refine blk_drewN ?_ _ | refine blk_drew ?_ | refine blk_alloc ?_ _)); exact BK127.out) Tryz.underlying79 rfl (by kernel_rfl)) rfl ?_
    exact ⟨by first | rfl | (simp [errW_none, errW_some] <;> rfl) | (simp [*, errW_none, errW_some] <;> rfl), by repeat (first | (with_reducible first | exact HB.out | apply below_alloc | apply pw_below_drewN | apply below_drew1 | refine below_set ?_ GE127.out) | exact HB.out)⟩
  · rw [if_neg c2] at H
    have c2b0 : decide (253 < (a0.size : Int)) = false := decide_eq_false c2
    have c2b1 : decide (253 < a0.size) = false := decide_eq_false (by omega)
    clear c2
    replace H := Option.bind_eq_some_iff.mp H
    obtain ⟨t138, A70, H⟩ := H
    replace H : ((sallyportref06_parts.f k t138).bind fun bt139 => (sallyportref06_ParseName.l0 k t138 bt139.1 bt139.2 0)) = some (r1, r2, r3, r4, r5, r6, r7, r8, r9, r10, r11) := H
    have A7 := Aside0.mk A70
    clear A70
    replace H := Option.bind_eq_some_iff.mp H
    obtain ⟨⟨t139, t140⟩, A80, H⟩ := H
    replace H : (sallyportref06_ParseName.l0 k t138 t139 t140 0) = some (r1, r2, r3, r4, r5, r6, r7, r8, r9, r10, r11) := H
    have A8 := Aside0.mk A80
    clear A80
    have H' := Aside0.mk H
    clear H
    go_enter Tryz.func62, Tryz.ntmps62
    go_wp2_with (first | ((with_reducible refine gate_dst (N := 3) rfl ?_); refine box_event ?hg (N := 3) ?hd (cs := #[.int .i64 0, .string (⟨#[]⟩ : ByteArray), .string (⟨#[]⟩ : ByteArray), .string (⟨#[]⟩ : ByteArray), .string (⟨#[]⟩ : ByteArray), .int .i64 0, .int .i64 0, .int .i64 0, .int .i64 0, .int .i64 0]) (t := 79) ?hr ?_; (case hd => rfl); (case hg => rfl); (case hr => first | (go_simp; done) | (go_simp; rfl)); intro gb127 hg w9 hbox hb; have n0_ := Aside0.mk (below_step (by repeat (first | (with_reducible first | exact HB.out | apply below_alloc | apply pw_below_drewN | apply below_drew1) | exact HB.out)) hb); have n1_ := Aside0.mk (hbox); have n2_ := Aside0.mk ((by rw [hg]; exact (below_size (by repeat (first | (with_reducible first | exact HB.out | apply below_alloc | apply pw_below_drewN | apply below_drew1) | exact HB.out))) : w.heap.size ≤ gb127)); have n3_ := Aside0.mk ((by rw [hg]; exact (below_size (by repeat (first | (with_reducible first | exact HB.out | apply below_alloc | apply pw_below_drewN | apply below_drew1) | exact HB.out))) : w.heap.size ≤ gb127)); clear HB; have HB := n0_; have BK127 := n1_; have GW127 := n2_; have GE127 := n3_; clear n0_ n1_ n2_ n3_; clear hb hbox hg) | ((with_reducible refine gate_callee (f := 37) rfl ?_); refine goesL_ (some 16) rfl rfl Tryz.func37 (by kernel_rfl) rfl #[.string a0] rfl (by (try simp only [List.map_toArray, List.map_cons, List.map_nil]); first | done | rfl | (simp only [List.length_drop, List.length_take]; rfl)) ?_; (with_reducible refine (E.Lower.calls a0 t138 _ ?side1 A7.out).mono ?_); (case side1 => exact StdW.below HS_.out (by repeat (first | (with_reducible first | exact HB.out | apply below_alloc | apply pw_below_drewN | apply below_drew1 | refine below_set ?_ GE127.out) | exact HB.out))); rintro e w10 ⟨rfl, hb⟩; refine ⟨_, rfl, ?_⟩; have n0_ := Aside0.mk (blk_below (g := gb127) (o := .cells #[.int .i64 0, .string (⟨#[]⟩ : ByteArray), .string (⟨#[]⟩ : ByteArray), .string (⟨#[]⟩ : ByteArray), .string (⟨#[]⟩ : ByteArray), .int .i64 0, .int .i64 0, .int .i64 0, .int .i64 0, .int .i64 0] 79 (0, 0)) (by (with_reducible repeat (first | refine blk_drewN ?_ _ | refine blk_drew ?_ | refine blk_alloc ?_ _)); exact BK127.out) hb); have n1_ := Aside0.mk (below_step (by repeat (first | (with_reducible first | exact HB.out | apply below_alloc | apply pw_below_drewN | apply below_drew1 | refine below_set ?_ GE127.out) | exact HB.out)) hb); clear BK127; clear HB; have BK127 := n0_; have HB := n1_; clear n0_ n1_; (try clear hb); (try clear hb2); (try clear hk); (try clear hi)) | ((with_reducible refine gate_callee (f := 77) rfl ?_); refine goesL_ (some 19) rfl rfl Tryz.func77 (by kernel_rfl) rfl #[.string t138] rfl (by (try simp only [List.map_toArray, List.map_cons, List.map_nil]); first | done | rfl | (simp only [List.length_drop, List.length_take]; rfl)) ?_; (with_reducible refine (sallyportref06_parts.calls k t138 t139 t140 _ A8.out).mono ?_); rintro e w11 ⟨v141, v143, rfl, ho0, ho1, hb⟩; refine ⟨_, rfl, ?_⟩; have n0_ := Aside0.mk (Kd.R_lower ho0 (below_size (by repeat (first | (with_reducible first | exact HB.out | apply below_alloc | apply pw_below_drewN | apply below_drew1 | refine below_set ?_ GE127.out) | exact HB.out)))); have n1_ := Aside0.mk (Kd.R_lower ho1 (below_size (by repeat (first | (with_reducible first | exact HB.out | apply below_alloc | apply pw_below_drewN | apply below_drew1 | refine below_set ?_ GE127.out) | exact HB.out)))); have n2_ := Aside0.mk (blk_below (g := gb127) (o := .cells #[.int .i64 0, .string (⟨#[]⟩ : ByteArray), .string (⟨#[]⟩ : ByteArray), .string (⟨#[]⟩ : ByteArray), .string (⟨#[]⟩ : ByteArray), .int .i64 0, .int .i64 0, .int .i64 0, .int .i64 0, .int .i64 0] 79 (0, 0)) (by (with_reducible repeat (first | refine blk_drewN ?_ _ | refine blk_drew ?_ | refine blk_alloc ?_ _)); exact BK127.out) hb); have n3_ := Aside0.mk (below_step (by repeat (first | (with_reducible first | exact HB.out | apply below_alloc | apply pw_below_drewN | apply below_drew1 | refine below_set ?_ GE127.out) | exact HB.out)) hb); clear BK127; clear HB; have HO142 := n0_; have HO144 := n1_; have BK127 := n2_; have HB := n3_; clear n0_ n1_ n2_ n3_; (try clear hb); (try clear hb2); (try clear hk); (try clear hi); (try clear ho0); (try clear ho1)))
    go_loopg [7] k (fun kq v7 w' => ∃ (x7_1 : Int) (x128000_1 : Int) (x128001_1 : ByteArray) (x128002_1 : ByteArray) (x128003_1 : ByteArray) (x128004_1 : ByteArray) (x128005_1 : Int) (x128006_1 : Int) (x128007_1 : Int) (x128008_1 : Int) (x128009_1 : Int), v7 = .int .i64 x7_1 ∧ Aside0 (sallyportref06_ParseName.l0 kq t138 t139 t140 x7_1 = some (r1, r2, r3, r4, r5, r6, r7, r8, r9, r10, r11)) ∧ Aside0 (kq ≤ k) ∧ Aside0 (Kd.R Kd.string 9 w' w.heap.size (fun _ => True) v141 t139) ∧ Aside0 (Kd.R (Kd.int .i64) 3 w' w.heap.size (fun _ => True) v143 t140) ∧ Aside0 (w'.heap[gb127]? = some (.cells #[.int .i64 x128000_1, .string x128001_1, .string x128002_1, .string x128003_1, .string x128004_1, .int .i64 x128005_1, .int .i64 x128006_1, .int .i64 x128007_1, .int .i64 x128008_1, .int .i64 x128009_1] 79 (0, 0))) ∧ Aside0 (Below w.heap.size w w'))
    case atStart => exact ⟨(0), (0), ((⟨#[]⟩ : ByteArray)), ((⟨#[]⟩ : ByteArray)), ((⟨#[]⟩ : ByteArray)), ((⟨#[]⟩ : ByteArray)), (0), (0), (0), (0), (0), (by first | rfl | (simp; done) | (simp [*]; done)), H', ⟨Nat.le_refl _⟩, ⟨by (with_reducible repeat (first | apply Kd.R_alloc | apply Kd.R_drewN | apply Kd.R_drew)); exact HO142.out⟩, ⟨by (with_reducible repeat (first | apply Kd.R_alloc | apply Kd.R_drewN | apply Kd.R_drew)); exact HO144.out⟩, ⟨by (with_reducible repeat (first | refine blk_drewN ?_ _ | refine blk_drew ?_ | refine blk_alloc ?_ _)); exact BK127.out⟩, ⟨by repeat (first | (with_reducible first | exact HB.out | apply below_alloc | apply pw_below_drewN | apply below_drew1 | refine below_set ?_ GE127.out) | exact HB.out)⟩⟩
    case round =>
      clear H'
      try clear c2
      try clear c2b0
      try clear c2b1
      try clear p2
      try clear c3
      try clear c6
      try clear c7
      try clear hcz6_0
      try clear hcz6_1
      try clear hcz6_2
      try clear hcz6_3
      try clear hcz6_4
      try clear hcz6_5
      try clear hcz6_6
      try clear hcz6_7
      try clear hcz6_8
      try clear hcz6_9
      try clear hfz6_0
      try clear hfz6_1
      try clear hfz6_2
      try clear hfz6_3
      try clear hfz6_4
      try clear hfz6_5
      try clear hfz6_6
      try clear hfz6_7
      try clear hfz6_8
      try clear hfz6_9
      obtain ⟨x7_1, x128000_1, x128001_1, x128002_1, x128003_1, x128004_1, x128005_1, x128006_1, x128007_1, x128008_1, x128009_1, rfl, HA, HK1, HO_5, HO_6, BK127, HB⟩ := hrel
      cases gk with
      | zero => exact absurd HA.out (by simp [sallyportref06_ParseName.l0])
      | succ k1 =>
        have H := HA.out
        clear HA
        simp only [sallyportref06_ParseName.l0] at H
        by_cases c12 : x7_1 < (t139.length : Int)
        · rw [if_pos c12] at H
          have c12b0 : decide (x7_1 < (t139.length : Int)) = true := decide_eq_true c12
          clear c12
          by_cases c13 : 0 ≤ x7_1
          · rw [if_pos c13] at H
            have c13b0 : decide (0 ≤ x7_1) = true := decide_eq_true c13
            clear c13
            replace H := Option.bind_eq_some_iff.mp H
            obtain ⟨t146, A140, H⟩ := H
            replace H : (if t146 = true then (sallyportref06_ParseName.l0 k1 t138 t139 t140 (wrap64 (x7_1 + 1))) else (if x7_1 < (t140.length : Int) then ((sallyportref06_fault.f (rd t140 x7_1) 61).bind fun bt148 => (some ((⟨#[]⟩ : ByteArray), bt148.1, bt148.2.1, bt148.2.2.1, bt148.2.2.2.1, bt148.2.2.2.2.1, bt148.2.2.2.2.2.1, bt148.2.2.2.2.2.2.1, bt148.2.2.2.2.2.2.2.1, bt148.2.2.2.2.2.2.2.2.1, bt148.2.2.2.2.2.2.2.2.2))) else (none))) = some (r1, r2, r3, r4, r5, r6, r7, r8, r9, r10, r11) := H
            have A14 := Aside0.mk A140
            clear A140
            by_cases c15 : t146 = true
            · subst c15
              have H1 : (sallyportref06_ParseName.l0 k1 t138 t139 t140 (wrap64 (x7_1 + 1))) = some (r1, r2, r3, r4, r5, r6, r7, r8, r9, r10, r11) := by rw [if_pos rfl] at H; exact H
              clear H
              have H := H1
              clear H1
              have H' := Aside0.mk H
              clear H
              obtain ⟨Ao16, co16, eo16⟩ := Kd.R_slice HO_5.out
              subst eo16
              have p145 : 0 ≤ (x7_1 : Int) := of_decide_eq_true (by first | (with_reducible assumption) | assumption)
              have q145 : x7_1 < (t139.length : Int) := of_decide_eq_true (by first | (with_reducible assumption) | assumption)
              obtain ⟨ad145, e145, hx145_0⟩ := Kd.at_string (Kd.R_reads' HO_5.out).2.2 x7_1 p145 q145
              cases e145
              replace p145 := eq_true p145
              replace q145 := eq_true q145
              go_wp2_with (first | ((with_reducible refine gate_callee (f := 83) rfl ?_); refine goesL_ (some 32) rfl rfl Tryz.func83 (by kernel_rfl) rfl #[.string (rdOf ByteArray.empty t139 x7_1)] rfl (by (try simp only [List.map_toArray, List.map_cons, List.map_nil]); first | done | rfl | (simp only [List.length_drop, List.length_take]; rfl)) ?_; (with_reducible refine (sallyportref06_label.calls k1 (rdOf ByteArray.empty t139 x7_1) true _ A14.out).mono ?_); rintro e w' ⟨rfl, ⟨nd, rfl⟩⟩; refine ⟨_, rfl, ?_⟩))
              go_roundg k1
              case measure => have := HK1.out; omega
              case rel => exact ⟨(wrap64 (x7_1 + 1)), (x128000_1), (x128001_1), (x128002_1), (x128003_1), (x128004_1), (x128005_1), (x128006_1), (x128007_1), (x128008_1), (x128009_1), (by first | rfl | (simp; done) | (simp [*]; done)), H', ⟨by have := HK1.out; omega⟩, ⟨by (with_reducible repeat (first | apply Kd.R_alloc | apply Kd.R_drewN | apply Kd.R_drew)); exact HO_5.out⟩, ⟨by (with_reducible repeat (first | apply Kd.R_alloc | apply Kd.R_drewN | apply Kd.R_drew)); exact HO_6.out⟩, ⟨by (with_reducible repeat (first | refine blk_drewN ?_ _ | refine blk_drew ?_ | refine blk_alloc ?_ _)); exact BK127.out⟩, ⟨by repeat (first | (with_reducible first | exact HB.out | apply below_alloc | apply pw_below_drewN | apply below_drew1 | refine below_set ?_ GE127.out) | exact HB.out)⟩⟩
            · replace c15 := Bool.eq_false_iff.mpr c15
              subst c15
              have H1 : (if x7_1 < (t140.length : Int) then ((sallyportref06_fault.f (rd t140 x7_1) 61).bind fun bt148 => (some ((⟨#[]⟩ : ByteArray), bt148.1, bt148.2.1, bt148.2.2.1, bt148.2.2.2.1, bt148.2.2.2.2.1, bt148.2.2.2.2.2.1, bt148.2.2.2.2.2.2.1, bt148.2.2.2.2.2.2.2.1, bt148.2.2.2.2.2.2.2.2.1, bt148.2.2.2.2.2.2.2.2.2))) else (none)) = some (r1, r2, r3, r4, r5, r6, r7, r8, r9, r10, r11) := by rw [if_neg (show ¬ (false = true) by decide)] at H; exact H
              clear H
              have H := H1
              clear H1
              by_cases c17 : x7_1 < (t140.length : Int)
              · rw [if_pos c17] at H
                have c17b0 : decide (x7_1 < (t140.length : Int)) = true := decide_eq_true c17
                clear c17
                replace H := Option.bind_eq_some_iff.mp H
                obtain ⟨⟨t148, t149, t150, t151, t152, t153, t154, t155, t156, t157⟩, A180, H⟩ := H
                replace H : (some ((⟨#[]⟩ : ByteArray), t148, t149, t150, t151, t152, t153, t154, t155, t156, t157)) = some (r1, r2, r3, r4, r5, r6, r7, r8, r9, r10, r11) := H
                have A18 := Aside0.mk A180
                clear A180
                simp only [Option.some.injEq, Prod.mk.injEq] at H
                obtain ⟨rfl, rfl, rfl, rfl, rfl, rfl, rfl, rfl, rfl, rfl, rfl⟩ := H
                obtain ⟨Ao19, co19, eo19⟩ := Kd.R_slice HO_5.out
                subst eo19
                have p145 : 0 ≤ (x7_1 : Int) := of_decide_eq_true (by first | (with_reducible assumption) | assumption)
                have q145 : x7_1 < (t139.length : Int) := of_decide_eq_true (by first | (with_reducible assumption) | assumption)
                obtain ⟨ad145, e145, hx145_0⟩ := Kd.at_string (Kd.R_reads' HO_5.out).2.2 x7_1 p145 q145
                cases e145
                replace p145 := eq_true p145
                replace q145 := eq_true q145
                go_wp2_with (first | ((with_reducible refine gate_callee (f := 83) rfl ?_); refine goesL_ (some 32) rfl rfl Tryz.func83 (by kernel_rfl) rfl #[.string (rdOf ByteArray.empty t139 x7_1)] rfl (by (try simp only [List.map_toArray, List.map_cons, List.map_nil]); first | done | rfl | (simp only [List.length_drop, List.length_take]; rfl)) ?_; (with_reducible refine (sallyportref06_label.calls k1 (rdOf ByteArray.empty t139 x7_1) false _ A14.out).mono ?_); rintro e w' ⟨rfl, ⟨nd, rfl⟩⟩; refine ⟨_, rfl, ?_⟩; (try (rw [drewN_self wr]; generalize hq_ : World.drewN wr _ = wr; have n0_ : Aside0 (Kd.R Kd.string 9 wr w.heap.size (fun _ => True) (.slice (some ad145) t139.length co19) t139) := ⟨by rw [← hq_]; exact (by (with_reducible repeat (first | apply Kd.R_alloc | apply Kd.R_drewN | apply Kd.R_drew)); exact HO_5.out)⟩; have n1_ : Aside0 (Kd.R (Kd.int .i64) 3 wr w.heap.size (fun _ => True) v143 t140) := ⟨by rw [← hq_]; exact (by (with_reducible repeat (first | apply Kd.R_alloc | apply Kd.R_drewN | apply Kd.R_drew)); exact HO_6.out)⟩; have n2_ : Aside0 (wr.heap[gb127]? = some (.cells #[.int .i64 x128000_1, .string x128001_1, .string x128002_1, .string x128003_1, .string x128004_1, .int .i64 x128005_1, .int .i64 x128006_1, .int .i64 x128007_1, .int .i64 x128008_1, .int .i64 x128009_1] 79 (0, 0))) := ⟨by rw [← hq_]; exact (by (with_reducible repeat (first | refine blk_drewN ?_ _ | refine blk_drew ?_ | refine blk_alloc ?_ _)); exact BK127.out)⟩; have n3_ : Aside0 (Below w.heap.size w wr) := ⟨by rw [← hq_]; exact (by repeat (first | (with_reducible first | exact HB.out | apply below_alloc | apply pw_below_drewN | apply below_drew1 | refine below_set ?_ GE127.out) | exact HB.out))⟩; clear HO_5 HO_6 BK127 HB hq_; have HO_5 := n0_; have HO_6 := n1_; have BK127 := n2_; have HB := n3_; clear n0_ n1_ n2_ n3_)); obtain ⟨Ao20, co20, eo20⟩ := Kd.R_slice HO_6.out; subst eo20; have p147 : 0 ≤ (x7_1 : Int) := of_decide_eq_true (by first | (with_reducible assumption) | assumption); have q147 : x7_1 < (t140.length : Int) := of_decide_eq_true (by first | (with_reducible assumption) | assumption); obtain ⟨ad147, e147, hx147_0⟩ := Kd.at_int (Kd.R_reads' HO_6.out).2.2 x7_1 p147 q147; cases e147; replace p147 := eq_true p147; replace q147 := eq_true q147) | ((with_reducible refine gate_callee (f := 76) rfl ?_); refine goesL_ (some 38) rfl rfl Tryz.func76 (by kernel_rfl) rfl #[.int .i64 (rd t140 x7_1), .int .i64 61] rfl (by (try simp only [List.map_toArray, List.map_cons, List.map_nil]); first | done | rfl | (simp only [List.length_drop, List.length_take]; rfl)) ?_; (with_reducible refine (sallyportref06_fault.calls (rd t140 x7_1) 61 t148 t149 t150 t151 t152 t153 t154 t155 t156 t157 _ ?side1 A18.out).mono ?_); (case side1 => exact StdW.below HS_.out (by repeat (first | (with_reducible first | exact HB.out | apply below_alloc | apply pw_below_drewN | apply below_drew1 | refine below_set ?_ GE127.out) | exact HB.out))); rintro e w21 ⟨rfl, hb⟩; refine ⟨_, rfl, ?_⟩; have n0_ := Aside0.mk (Kd.R_below (by (with_reducible repeat (first | apply Kd.R_alloc | apply Kd.R_drewN | apply Kd.R_drew)); exact HO_5.out) hb); have n1_ := Aside0.mk (Kd.R_below (by (with_reducible repeat (first | apply Kd.R_alloc | apply Kd.R_drewN | apply Kd.R_drew)); exact HO_6.out) hb); have n2_ := Aside0.mk (blk_below (g := gb127) (o := .cells #[.int .i64 x128000_1, .string x128001_1, .string x128002_1, .string x128003_1, .string x128004_1, .int .i64 x128005_1, .int .i64 x128006_1, .int .i64 x128007_1, .int .i64 x128008_1, .int .i64 x128009_1] 79 (0, 0)) (by (with_reducible repeat (first | refine blk_drewN ?_ _ | refine blk_drew ?_ | refine blk_alloc ?_ _)); exact BK127.out) hb); have n3_ := Aside0.mk (below_step (by repeat (first | (with_reducible first | exact HB.out | apply below_alloc | apply pw_below_drewN | apply below_drew1 | refine below_set ?_ GE127.out) | exact HB.out)) hb); clear HO_5; clear HO_6; clear BK127; clear HB; have HO_5 := n0_; have HO_6 := n1_; have BK127 := n2_; have HB := n3_; clear n0_ n1_ n2_ n3_; (try clear hb); (try clear hb2); (try clear hk); (try clear hi); have hcz22_0 : w21.cell? ⟨gb127, 0, none⟩ = some (.int .i64 x128000_1) := (blk_cell BK127.out 0).trans rfl; have hcz22_1 : w21.cell? ⟨gb127, 1, none⟩ = some (.string x128001_1) := (blk_cell BK127.out 1).trans rfl; have hcz22_2 : w21.cell? ⟨gb127, 2, none⟩ = some (.string x128002_1) := (blk_cell BK127.out 2).trans rfl; have hcz22_3 : w21.cell? ⟨gb127, 3, none⟩ = some (.string x128003_1) := (blk_cell BK127.out 3).trans rfl; have hcz22_4 : w21.cell? ⟨gb127, 4, none⟩ = some (.string x128004_1) := (blk_cell BK127.out 4).trans rfl; have hcz22_5 : w21.cell? ⟨gb127, 5, none⟩ = some (.int .i64 x128005_1) := (blk_cell BK127.out 5).trans rfl; have hcz22_6 : w21.cell? ⟨gb127, 6, none⟩ = some (.int .i64 x128006_1) := (blk_cell BK127.out 6).trans rfl; have hcz22_7 : w21.cell? ⟨gb127, 7, none⟩ = some (.int .i64 x128007_1) := (blk_cell BK127.out 7).trans rfl; have hcz22_8 : w21.cell? ⟨gb127, 8, none⟩ = some (.int .i64 x128008_1) := (blk_cell BK127.out 8).trans rfl; have hcz22_9 : w21.cell? ⟨gb127, 9, none⟩ = some (.int .i64 x128009_1) := (blk_cell BK127.out 9).trans rfl; have hfz22_0 := blk_frozen BK127.out 0; have hfz22_1 := blk_frozen BK127.out 1; have hfz22_2 := blk_frozen BK127.out 2; have hfz22_3 := blk_frozen BK127.out 3; have hfz22_4 := blk_frozen BK127.out 4; have hfz22_5 := blk_frozen BK127.out 5; have hfz22_6 := blk_frozen BK127.out 6; have hfz22_7 := blk_frozen BK127.out 7; have hfz22_8 := blk_frozen BK127.out 8; have hfz22_9 := blk_frozen BK127.out 9))
                refine bodyPost_ret (results_tc rfl _ _ gb127 79 #[.int .i64 t148, .string t149, .string t150, .string t151, .string t152, .int .i64 t153, .int .i64 t154, .int .i64 t155, .int .i64 t156, .int .i64 t157] (0, 0) _ rfl (by (with_reducible repeat (first | refine blk_drewN ?_ _ | refine blk_drew ?_ | refine blk_alloc ?_ _)); refine blk_put (cs := #[.int .i64 t148, .string t149, .string t150, .string t151, .string t152, .int .i64 t153, .int .i64 t154, .int .i64 t155, .int .i64 t156, .int .i64 x128009_1]) ?_ 9 _ rfl; (with_reducible repeat (first | refine blk_drewN ?_ _ | refine blk_drew ?_ | refine blk_alloc ?_ _)); refine blk_put (cs := #[.int .i64 t148, .string t149, .string t150, .string t151, .string t152, .int .i64 t153, .int .i64 t154, .int .i64 t155, .int .i64 x128008_1, .int .i64 x128009_1]) ?_ 8 _ rfl; (with_reducible repeat (first | refine blk_drewN ?_ _ | refine blk_drew ?_ | refine blk_alloc ?_ _)); refine blk_put (cs := #[.int .i64 t148, .string t149, .string t150, .string t151, .string t152, .int .i64 t153, .int .i64 t154, .int .i64 x128007_1, .int .i64 x128008_1, .int .i64 x128009_1]) ?_ 7 _ rfl; (with_reducible repeat (first | refine blk_drewN ?_ _ | refine blk_drew ?_ | refine blk_alloc ?_ _)); refine blk_put (cs := #[.int .i64 t148, .string t149, .string t150, .string t151, .string t152, .int .i64 t153, .int .i64 x128006_1, .int .i64 x128007_1, .int .i64 x128008_1, .int .i64 x128009_1]) ?_ 6 _ rfl; (with_reducible repeat (first | refine blk_drewN ?_ _ | refine blk_drew ?_ | refine blk_alloc ?_ _)); refine blk_put (cs := #[.int .i64 t148, .string t149, .string t150, .string t151, .string t152, .int .i64 x128005_1, .int .i64 x128006_1, .int .i64 x128007_1, .int .i64 x128008_1, .int .i64 x128009_1]) ?_ 5 _ rfl; (with_reducible repeat (first | refine blk_drewN ?_ _ | refine blk_drew ?_ | refine blk_alloc ?_ _)); refine blk_put (cs := #[.int .i64 t148, .string t149, .string t150, .string t151, .string x128004_1, .int .i64 x128005_1, .int .i64 x128006_1, .int .i64 x128007_1, .int .i64 x128008_1, .int .i64 x128009_1]) ?_ 4 _ rfl; (with_reducible repeat (first | refine blk_drewN ?_ _ | refine blk_drew ?_ | refine blk_alloc ?_ _)); refine blk_put (cs := #[.int .i64 t148, .string t149, .string t150, .string x128003_1, .string x128004_1, .int .i64 x128005_1, .int .i64 x128006_1, .int .i64 x128007_1, .int .i64 x128008_1, .int .i64 x128009_1]) ?_ 3 _ rfl; (with_reducible repeat (first | refine blk_drewN ?_ _ | refine blk_drew ?_ | refine blk_alloc ?_ _)); refine blk_put (cs := #[.int .i64 t148, .string t149, .string x128002_1, .string x128003_1, .string x128004_1, .int .i64 x128005_1, .int .i64 x128006_1, .int .i64 x128007_1, .int .i64 x128008_1, .int .i64 x128009_1]) ?_ 2 _ rfl; (with_reducible repeat (first | refine blk_drewN ?_ _ | refine blk_drew ?_ | refine blk_alloc ?_ _)); refine blk_put (cs := #[.int .i64 t148, .string x128001_1, .string x128002_1, .string x128003_1, .string x128004_1, .int .i64 x128005_1, .int .i64 x128006_1, .int .i64 x128007_1, .int .i64 x128008_1, .int .i64 x128009_1]) ?_ 1 _ rfl; (with_reducible repeat (first | refine blk_drewN ?_ _ | refine blk_drew ?_ | refine blk_alloc ?_ _)); refine blk_put (cs := #[.int .i64 x128000_1, .string x128001_1, .string x128002_1, .string x128003_1, .string x128004_1, .int .i64 x128005_1, .int .i64 x128006_1, .int .i64 x128007_1, .int .i64 x128008_1, .int .i64 x128009_1]) ?_ 0 _ rfl; (with_reducible repeat (first | refine blk_drewN ?_ _ | refine blk_drew ?_ | refine blk_alloc ?_ _)); exact BK127.out) Tryz.underlying79 rfl (by kernel_rfl)) rfl ?_
                exact ⟨by first | rfl | (simp [errW_none, errW_some] <;> rfl) | (simp [*, errW_none, errW_some] <;> rfl), by repeat (first | (with_reducible first | exact HB.out | apply below_alloc | apply pw_below_drewN | apply below_drew1 | refine below_set ?_ GE127.out) | exact HB.out)⟩
              · rw [if_neg c17] at H
                exact absurd H (by simp)
          · rw [if_neg c13] at H
            exact absurd H (by simp)
        · rw [if_neg c12] at H
          have c12b0 : decide (x7_1 < (t139.length : Int)) = false := decide_eq_false c12
          clear c12
          obtain ⟨ji23, hji23⟩ : ∃ j_ : Int, (wrap64 ((t139.length : Int) - 1)) = j_ := ⟨_, rfl⟩
          replace H : (if 0 ≤ (ji23) then (if (ji23) < (t139.length : Int) then (sallyportref06_ParseName.l1 k1 t138 t139 t140 (rdOf ByteArray.empty t139 (ji23)) true 0) else (none)) else (none)) = some (r1, r2, r3, r4, r5, r6, r7, r8, r9, r10, r11) := by first | (rw [hji23] at H; exact H) | (simp only [hji23] at H ⊢; exact H)
          have hji23w : (IntKind.i64.wrap ((t139.length : Int) - 1)) = ji23 := (i64_w _).trans hji23
          by_cases c24 : 0 ≤ (ji23)
          · rw [if_pos c24] at H
            have c24b0 : decide (0 ≤ (ji23)) = true := decide_eq_true c24
            clear c24
            by_cases c25 : (ji23) < (t139.length : Int)
            · rw [if_pos c25] at H
              have c25b0 : decide ((ji23) < (t139.length : Int)) = true := decide_eq_true c25
              clear c25
              have H' := Aside0.mk H
              clear H
              obtain ⟨Ao26, co26, eo26⟩ := Kd.R_slice HO_5.out
              subst eo26
              have p158 : 0 ≤ ((ji23) : Int) := of_decide_eq_true (by first | (with_reducible assumption) | assumption)
              have q158 : (ji23) < (t139.length : Int) := of_decide_eq_true (by first | (with_reducible assumption) | assumption)
              obtain ⟨ad158, e158, hx158_0⟩ := Kd.at_string (Kd.R_reads' HO_5.out).2.2 (ji23) p158 q158
              cases e158
              replace p158 := eq_true p158
              replace q158 := eq_true q158
              go_wp2
              go_loopg [9, 10] k1 (fun kq v9 v10 w' => ∃ (x9_2 : Bool) (x10_2 : Int), v9 = .bool x9_2 ∧ v10 = .int .i64 x10_2 ∧ Aside0 (sallyportref06_ParseName.l1 kq t138 t139 t140 (rdOf ByteArray.empty t139 (ji23)) x9_2 x10_2 = some (r1, r2, r3, r4, r5, r6, r7, r8, r9, r10, r11)) ∧ Aside0 (kq ≤ k1) ∧ Aside0 (Kd.R Kd.string 9 w' w.heap.size (fun _ => True) (.slice (some ad158) t139.length co26) t139) ∧ Aside0 (Kd.R (Kd.int .i64) 3 w' w.heap.size (fun _ => True) v143 t140) ∧ Aside0 (w'.heap[gb127]? = some (.cells #[.int .i64 x128000_1, .string x128001_1, .string x128002_1, .string x128003_1, .string x128004_1, .int .i64 x128005_1, .int .i64 x128006_1, .int .i64 x128007_1, .int .i64 x128008_1, .int .i64 x128009_1] 79 (0, 0))) ∧ Aside0 (Below w.heap.size w w'))
              case atStart => exact ⟨(true), (0), (by first | rfl | (simp; done) | (simp [*]; done)), (by first | rfl | (simp; done) | (simp [*]; done)), H', ⟨Nat.le_refl _⟩, ⟨by (with_reducible repeat (first | apply Kd.R_alloc | apply Kd.R_drewN | apply Kd.R_drew)); exact HO_5.out⟩, ⟨by (with_reducible repeat (first | apply Kd.R_alloc | apply Kd.R_drewN | apply Kd.R_drew)); exact HO_6.out⟩, ⟨by (with_reducible repeat (first | refine blk_drewN ?_ _ | refine blk_drew ?_ | refine blk_alloc ?_ _)); exact BK127.out⟩, ⟨by repeat (first | (with_reducible first | exact HB.out | apply below_alloc | apply pw_below_drewN | apply below_drew1 | refine below_set ?_ GE127.out) | exact HB.out)⟩⟩
              case round =>
                clear H'
                try clear c1
                try clear p1
                try clear q1
                try clear hx1
                try clear c2
                try clear c2b0
                try clear c2b1
                try clear p2
                try clear c3
                try clear c6
                try clear p6
                try clear c7
                try clear c8
                try clear c12
                try clear c12b0
                try clear c13
                try clear c13b0
                try clear p14
                try clear q14
                try clear hx14
                try clear c15
                try clear p15
                try clear q15
                try clear hx15
                try clear c17
                try clear c17b0
                try clear c24
                try clear c24b0
                try clear c25
                try clear c25b0
                try clear hcz22_0
                try clear hcz22_1
                try clear hcz22_2
                try clear hcz22_3
                try clear hcz22_4
                try clear hcz22_5
                try clear hcz22_6
                try clear hcz22_7
                try clear hcz22_8
                try clear hcz22_9
                try clear hcz6_0
                try clear hcz6_1
                try clear hcz6_2
                try clear hcz6_3
                try clear hcz6_4
                try clear hcz6_5
                try clear hcz6_6
                try clear hcz6_7
                try clear hcz6_8
                try clear hcz6_9
                try clear hfz22_0
                try clear hfz22_1
                try clear hfz22_2
                try clear hfz22_3
                try clear hfz22_4
                try clear hfz22_5
                try clear hfz22_6
                try clear hfz22_7
                try clear hfz22_8
                try clear hfz22_9
                try clear hfz6_0
                try clear hfz6_1
                try clear hfz6_2
                try clear hfz6_3
                try clear hfz6_4
                try clear hfz6_5
                try clear hfz6_6
                try clear hfz6_7
                try clear hfz6_8
                try clear hfz6_9
                try clear hx145_0
                try clear hx147_0
                try clear hx158_0
                try clear p145
                try clear p147
                try clear p158
                try clear p2
                try clear q145
                try clear q147
                try clear q158
                obtain ⟨x9_2, x10_2, rfl, rfl, HA, HK2, HO_5, HO_6, BK127, HB⟩ := hrel
                cases gk with
                | zero => exact absurd HA.out (by simp [sallyportref06_ParseName.l1])
                | succ k2 =>
                  have H := HA.out
                  clear HA
                  simp only [sallyportref06_ParseName.l1] at H
                  by_cases c27 : x10_2 < ((rdOf ByteArray.empty t139 (ji23)).size : Int)
                  · rw [if_pos c27] at H
                    have c27b0 : decide (x10_2 < ((rdOf ByteArray.empty t139 (ji23)).size : Int)) = true := decide_eq_true c27
                    clear c27
                    by_cases c28 : x9_2 = true
                    · subst c28
                      have H1 : (if 0 ≤ x10_2 then ((sallyportref06_digit.f (bt (rdOf ByteArray.empty t139 (ji23)) x10_2)).bind fun t159 => (sallyportref06_ParseName.l1 k2 t138 t139 t140 (rdOf ByteArray.empty t139 (ji23)) t159 (wrap64 (x10_2 + 1)))) else (none)) = some (r1, r2, r3, r4, r5, r6, r7, r8, r9, r10, r11) := by rw [if_pos rfl] at H; exact H
                      clear H
                      have H := H1
                      clear H1
                      by_cases c29 : 0 ≤ x10_2
                      · rw [if_pos c29] at H
                        have c29b0 : decide (0 ≤ x10_2) = true := decide_eq_true c29
                        clear c29
                        replace H := Option.bind_eq_some_iff.mp H
                        obtain ⟨t159, A310, H⟩ := H
                        replace H : (sallyportref06_ParseName.l1 k2 t138 t139 t140 (rdOf ByteArray.empty t139 (ji23)) t159 (wrap64 (x10_2 + 1))) = some (r1, r2, r3, r4, r5, r6, r7, r8, r9, r10, r11) := H
                        have A31 := Aside0.mk A310
                        clear A310
                        have H' := Aside0.mk H
                        clear H
                        have p30 : 0 ≤ (x10_2 : Int) := of_decide_eq_true (by first | (with_reducible assumption) | assumption)
                        have q30 : x10_2 < ((rdOf ByteArray.empty t139 (ji23)).size : Int) := of_decide_eq_true (by first | (with_reducible assumption) | assumption)
                        have hx30 := bt_at (rdOf ByteArray.empty t139 (ji23)) x10_2
                        replace p30 := eq_true p30
                        replace q30 := eq_true q30
                        go_wp2_with (first | (go_at_call 84; (with_reducible refine (sallyportref06_digit.calls (bt (rdOf ByteArray.empty t139 (ji23)) x10_2) t159 _ A31.out).mono ?_); rintro e w' ⟨rfl, ⟨nd, rfl⟩⟩))
                        go_roundg k2
                        case measure => have := HK1.out; have := HK2.out; omega
                        case rel => exact ⟨(t159), (wrap64 (x10_2 + 1)), (by first | rfl | (simp; done) | (simp [*]; done)), (by first | rfl | (simp; done) | (simp [*]; done)), H', ⟨by have := HK1.out; have := HK2.out; omega⟩, ⟨by (with_reducible repeat (first | apply Kd.R_alloc | apply Kd.R_drewN | apply Kd.R_drew)); exact HO_5.out⟩, ⟨by (with_reducible repeat (first | apply Kd.R_alloc | apply Kd.R_drewN | apply Kd.R_drew)); exact HO_6.out⟩, ⟨by (with_reducible repeat (first | refine blk_drewN ?_ _ | refine blk_drew ?_ | refine blk_alloc ?_ _)); exact BK127.out⟩, ⟨by repeat (first | (with_reducible first | exact HB.out | apply below_alloc | apply pw_below_drewN | apply below_drew1 | refine below_set ?_ GE127.out) | exact HB.out)⟩⟩
                      · rw [if_neg c29] at H
                        exact absurd H (by simp)
                    · replace c28 := Bool.eq_false_iff.mpr c28
                      subst c28
                      have H1 : (sallyportref06_ParseName.l1 k2 t138 t139 t140 (rdOf ByteArray.empty t139 (ji23)) false (wrap64 (x10_2 + 1))) = some (r1, r2, r3, r4, r5, r6, r7, r8, r9, r10, r11) := by rw [if_neg (show ¬ (false = true) by decide)] at H; exact H
                      clear H
                      have H := H1
                      clear H1
                      have H' := Aside0.mk H
                      clear H
                      go_wp2
                      go_roundg k2
                      case measure => have := HK1.out; have := HK2.out; omega
                      case rel => exact ⟨(false), (wrap64 (x10_2 + 1)), (by first | rfl | (simp; done) | (simp [*]; done)), (by first | rfl | (simp; done) | (simp [*]; done)), H', ⟨by have := HK1.out; have := HK2.out; omega⟩, ⟨by (with_reducible repeat (first | apply Kd.R_alloc | apply Kd.R_drewN | apply Kd.R_drew)); exact HO_5.out⟩, ⟨by (with_reducible repeat (first | apply Kd.R_alloc | apply Kd.R_drewN | apply Kd.R_drew)); exact HO_6.out⟩, ⟨by (with_reducible repeat (first | refine blk_drewN ?_ _ | refine blk_drew ?_ | refine blk_alloc ?_ _)); exact BK127.out⟩, ⟨by repeat (first | (with_reducible first | exact HB.out | apply below_alloc | apply pw_below_drewN | apply below_drew1 | refine below_set ?_ GE127.out) | exact HB.out)⟩⟩
                  · rw [if_neg c27] at H
                    have c27b0 : decide (x10_2 < ((rdOf ByteArray.empty t139 (ji23)).size : Int)) = false := decide_eq_false c27
                    clear c27
                    by_cases c32 : x9_2 = true
                    · subst c32
                      have H1 : (if 0 ≤ (wrap64 ((t139.length : Int) - 1)) then (if (wrap64 ((t139.length : Int) - 1)) < (t140.length : Int) then ((sallyportref06_fault.f (rd t140 (wrap64 ((t139.length : Int) - 1))) 63).bind fun bt161 => (some ((⟨#[]⟩ : ByteArray), bt161.1, bt161.2.1, bt161.2.2.1, bt161.2.2.2.1, bt161.2.2.2.2.1, bt161.2.2.2.2.2.1, bt161.2.2.2.2.2.2.1, bt161.2.2.2.2.2.2.2.1, bt161.2.2.2.2.2.2.2.2.1, bt161.2.2.2.2.2.2.2.2.2))) else (none)) else (none)) = some (r1, r2, r3, r4, r5, r6, r7, r8, r9, r10, r11) := by rw [if_pos rfl] at H; exact H
                      clear H
                      have H := H1
                      clear H1
                      obtain ⟨ji33, hji33⟩ : ∃ j_ : Int, (wrap64 ((t139.length : Int) - 1)) = j_ := ⟨_, rfl⟩
                      replace H : (if 0 ≤ (ji33) then (if (ji33) < (t140.length : Int) then ((sallyportref06_fault.f (rd t140 (ji33)) 63).bind fun bt161 => (some ((⟨#[]⟩ : ByteArray), bt161.1, bt161.2.1, bt161.2.2.1, bt161.2.2.2.1, bt161.2.2.2.2.1, bt161.2.2.2.2.2.1, bt161.2.2.2.2.2.2.1, bt161.2.2.2.2.2.2.2.1, bt161.2.2.2.2.2.2.2.2.1, bt161.2.2.2.2.2.2.2.2.2))) else (none)) else (none)) = some (r1, r2, r3, r4, r5, r6, r7, r8, r9, r10, r11) := by first | (rw [hji33] at H; exact H) | (simp only [hji33] at H ⊢; exact H)
                      have hji33w : (IntKind.i64.wrap ((t139.length : Int) - 1)) = ji33 := (i64_w _).trans hji33
                      (try clear hji23w)
                      by_cases c34 : 0 ≤ (ji33)
                      · rw [if_pos c34] at H
                        have c34b0 : decide (0 ≤ (ji33)) = true := decide_eq_true c34
                        clear c34
                        by_cases c35 : (ji33) < (t140.length : Int)
                        · rw [if_pos c35] at H
                          have c35b0 : decide ((ji33) < (t140.length : Int)) = true := decide_eq_true c35
                          clear c35
                          replace H := Option.bind_eq_some_iff.mp H
                          obtain ⟨⟨t161, t162, t163, t164, t165, t166, t167, t168, t169, t170⟩, A360, H⟩ := H
                          replace H : (some ((⟨#[]⟩ : ByteArray), t161, t162, t163, t164, t165, t166, t167, t168, t169, t170)) = some (r1, r2, r3, r4, r5, r6, r7, r8, r9, r10, r11) := H
                          have A36 := Aside0.mk A360
                          clear A360
                          simp only [Option.some.injEq, Prod.mk.injEq] at H
                          obtain ⟨rfl, rfl, rfl, rfl, rfl, rfl, rfl, rfl, rfl, rfl, rfl⟩ := H
                          obtain ⟨Ao37, co37, eo37⟩ := Kd.R_slice HO_6.out
                          subst eo37
                          have p160 : 0 ≤ ((ji33) : Int) := of_decide_eq_true (by first | (with_reducible assumption) | assumption)
                          have q160 : (ji33) < (t140.length : Int) := of_decide_eq_true (by first | (with_reducible assumption) | assumption)
                          obtain ⟨ad160, e160, hx160_0⟩ := Kd.at_int (Kd.R_reads' HO_6.out).2.2 (ji33) p160 q160
                          cases e160
                          replace p160 := eq_true p160
                          replace q160 := eq_true q160
                          go_wp2_with (first | ((with_reducible refine gate_callee (f := 76) rfl ?_); refine goesL_ (some 65) rfl rfl Tryz.func76 (by kernel_rfl) rfl #[.int .i64 (rd t140 (ji33)), .int .i64 63] rfl (by (try simp only [List.map_toArray, List.map_cons, List.map_nil]); first | done | (simp only [hji33]; rfl) | rfl | (simp only [List.length_drop, List.length_take]; rfl)) ?_; (with_reducible refine (sallyportref06_fault.calls (rd t140 (ji33)) 63 t161 t162 t163 t164 t165 t166 t167 t168 t169 t170 _ ?side1 A36.out).mono ?_); (case side1 => exact StdW.below HS_.out (by repeat (first | (with_reducible first | exact HB.out | apply below_alloc | apply pw_below_drewN | apply below_drew1 | refine below_set ?_ GE127.out) | exact HB.out))); rintro e w38 ⟨rfl, hb⟩; refine ⟨_, rfl, ?_⟩; have n0_ := Aside0.mk (Kd.R_below (by (with_reducible repeat (first | apply Kd.R_alloc | apply Kd.R_drewN | apply Kd.R_drew)); exact HO_5.out) hb); have n1_ := Aside0.mk (Kd.R_below (by (with_reducible repeat (first | apply Kd.R_alloc | apply Kd.R_drewN | apply Kd.R_drew)); exact HO_6.out) hb); have n2_ := Aside0.mk (blk_below (g := gb127) (o := .cells #[.int .i64 x128000_1, .string x128001_1, .string x128002_1, .string x128003_1, .string x128004_1, .int .i64 x128005_1, .int .i64 x128006_1, .int .i64 x128007_1, .int .i64 x128008_1, .int .i64 x128009_1] 79 (0, 0)) (by (with_reducible repeat (first | refine blk_drewN ?_ _ | refine blk_drew ?_ | refine blk_alloc ?_ _)); exact BK127.out) hb); have n3_ := Aside0.mk (below_step (by repeat (first | (with_reducible first | exact HB.out | apply below_alloc | apply pw_below_drewN | apply below_drew1 | refine below_set ?_ GE127.out) | exact HB.out)) hb); clear HO_5; clear HO_6; clear BK127; clear HB; have HO_5 := n0_; have HO_6 := n1_; have BK127 := n2_; have HB := n3_; clear n0_ n1_ n2_ n3_; (try clear hb); (try clear hb2); (try clear hk); (try clear hi); have hcz39_0 : w38.cell? ⟨gb127, 0, none⟩ = some (.int .i64 x128000_1) := (blk_cell BK127.out 0).trans rfl; have hcz39_1 : w38.cell? ⟨gb127, 1, none⟩ = some (.string x128001_1) := (blk_cell BK127.out 1).trans rfl; have hcz39_2 : w38.cell? ⟨gb127, 2, none⟩ = some (.string x128002_1) := (blk_cell BK127.out 2).trans rfl; have hcz39_3 : w38.cell? ⟨gb127, 3, none⟩ = some (.string x128003_1) := (blk_cell BK127.out 3).trans rfl; have hcz39_4 : w38.cell? ⟨gb127, 4, none⟩ = some (.string x128004_1) := (blk_cell BK127.out 4).trans rfl; have hcz39_5 : w38.cell? ⟨gb127, 5, none⟩ = some (.int .i64 x128005_1) := (blk_cell BK127.out 5).trans rfl; have hcz39_6 : w38.cell? ⟨gb127, 6, none⟩ = some (.int .i64 x128006_1) := (blk_cell BK127.out 6).trans rfl; have hcz39_7 : w38.cell? ⟨gb127, 7, none⟩ = some (.int .i64 x128007_1) := (blk_cell BK127.out 7).trans rfl; have hcz39_8 : w38.cell? ⟨gb127, 8, none⟩ = some (.int .i64 x128008_1) := (blk_cell BK127.out 8).trans rfl; have hcz39_9 : w38.cell? ⟨gb127, 9, none⟩ = some (.int .i64 x128009_1) := (blk_cell BK127.out 9).trans rfl; have hfz39_0 := blk_frozen BK127.out 0; have hfz39_1 := blk_frozen BK127.out 1; have hfz39_2 := blk_frozen BK127.out 2; have hfz39_3 := blk_frozen BK127.out 3; have hfz39_4 := blk_frozen BK127.out 4; have hfz39_5 := blk_frozen BK127.out 5; have hfz39_6 := blk_frozen BK127.out 6; have hfz39_7 := blk_frozen BK127.out 7; have hfz39_8 := blk_frozen BK127.out 8; have hfz39_9 := blk_frozen BK127.out 9))
                          refine bodyPost_ret (results_tc rfl _ _ gb127 79 #[.int .i64 t161, .string t162, .string t163, .string t164, .string t165, .int .i64 t166, .int .i64 t167, .int .i64 t168, .int .i64 t169, .int .i64 t170] (0, 0) _ rfl (by (with_reducible repeat (first | refine blk_drewN ?_ _ | refine blk_drew ?_ | refine blk_alloc ?_ _)); refine blk_put (cs := #[.int .i64 t161, .string t162, .string t163, .string t164, .string t165, .int .i64 t166, .int .i64 t167, .int .i64 t168, .int .i64 t169, .int .i64 x128009_1]) ?_ 9 _ rfl; (with_reducible repeat (first | refine blk_drewN ?_ _ | refine blk_drew ?_ | refine blk_alloc ?_ _)); refine blk_put (cs := #[.int .i64 t161, .string t162, .string t163, .string t164, .string t165, .int .i64 t166, .int .i64 t167, .int .i64 t168, .int .i64 x128008_1, .int .i64 x128009_1]) ?_ 8 _ rfl; (with_reducible repeat (first | refine blk_drewN ?_ _ | refine blk_drew ?_ | refine blk_alloc ?_ _)); refine blk_put (cs := #[.int .i64 t161, .string t162, .string t163, .string t164, .string t165, .int .i64 t166, .int .i64 t167, .int .i64 x128007_1, .int .i64 x128008_1, .int .i64 x128009_1]) ?_ 7 _ rfl; (with_reducible repeat (first | refine blk_drewN ?_ _ | refine blk_drew ?_ | refine blk_alloc ?_ _)); refine blk_put (cs := #[.int .i64 t161, .string t162, .string t163, .string t164, .string t165, .int .i64 t166, .int .i64 x128006_1, .int .i64 x128007_1, .int .i64 x128008_1, .int .i64 x128009_1]) ?_ 6 _ rfl; (with_reducible repeat (first | refine blk_drewN ?_ _ | refine blk_drew ?_ | refine blk_alloc ?_ _)); refine blk_put (cs := #[.int .i64 t161, .string t162, .string t163, .string t164, .string t165, .int .i64 x128005_1, .int .i64 x128006_1, .int .i64 x128007_1, .int .i64 x128008_1, .int .i64 x128009_1]) ?_ 5 _ rfl; (with_reducible repeat (first | refine blk_drewN ?_ _ | refine blk_drew ?_ | refine blk_alloc ?_ _)); refine blk_put (cs := #[.int .i64 t161, .string t162, .string t163, .string t164, .string x128004_1, .int .i64 x128005_1, .int .i64 x128006_1, .int .i64 x128007_1, .int .i64 x128008_1, .int .i64 x128009_1]) ?_ 4 _ rfl; (with_reducible repeat (first | refine blk_drewN ?_ _ | refine blk_drew ?_ | refine blk_alloc ?_ _)); refine blk_put (cs := #[.int .i64 t161, .string t162, .string t163, .string x128003_1, .string x128004_1, .int .i64 x128005_1, .int .i64 x128006_1, .int .i64 x128007_1, .int .i64 x128008_1, .int .i64 x128009_1]) ?_ 3 _ rfl; (with_reducible repeat (first | refine blk_drewN ?_ _ | refine blk_drew ?_ | refine blk_alloc ?_ _)); refine blk_put (cs := #[.int .i64 t161, .string t162, .string x128002_1, .string x128003_1, .string x128004_1, .int .i64 x128005_1, .int .i64 x128006_1, .int .i64 x128007_1, .int .i64 x128008_1, .int .i64 x128009_1]) ?_ 2 _ rfl; (with_reducible repeat (first | refine blk_drewN ?_ _ | refine blk_drew ?_ | refine blk_alloc ?_ _)); refine blk_put (cs := #[.int .i64 t161, .string x128001_1, .string x128002_1, .string x128003_1, .string x128004_1, .int .i64 x128005_1, .int .i64 x128006_1, .int .i64 x128007_1, .int .i64 x128008_1, .int .i64 x128009_1]) ?_ 1 _ rfl; (with_reducible repeat (first | refine blk_drewN ?_ _ | refine blk_drew ?_ | refine blk_alloc ?_ _)); refine blk_put (cs := #[.int .i64 x128000_1, .string x128001_1, .string x128002_1, .string x128003_1, .string x128004_1, .int .i64 x128005_1, .int .i64 x128006_1, .int .i64 x128007_1, .int .i64 x128008_1, .int .i64 x128009_1]) ?_ 0 _ rfl; (with_reducible repeat (first | refine blk_drewN ?_ _ | refine blk_drew ?_ | refine blk_alloc ?_ _)); exact BK127.out) Tryz.underlying79 rfl (by kernel_rfl)) rfl ?_
                          exact ⟨by first | rfl | (simp [errW_none, errW_some] <;> rfl) | (simp only [← hji23, ← hji33]; first | rfl | (simp [errW_none, errW_some] <;> rfl)) | (simp [*, errW_none, errW_some] <;> rfl), by repeat (first | (with_reducible first | exact HB.out | apply below_alloc | apply pw_below_drewN | apply below_drew1 | refine below_set ?_ GE127.out) | exact HB.out)⟩
                        · rw [if_neg c35] at H
                          exact absurd H (by simp)
                      · rw [if_neg c34] at H
                        exact absurd H (by simp)
                    · replace c32 := Bool.eq_false_iff.mpr c32
                      subst c32
                      have H1 : (some (t138, 0, (⟨#[]⟩ : ByteArray), (⟨#[]⟩ : ByteArray), (⟨#[]⟩ : ByteArray), (⟨#[]⟩ : ByteArray), 0, 0, 0, 0, 0)) = some (r1, r2, r3, r4, r5, r6, r7, r8, r9, r10, r11) := by rw [if_neg (show ¬ (false = true) by decide)] at H; exact H
                      clear H
                      have H := H1
                      clear H1
                      simp only [Option.some.injEq, Prod.mk.injEq] at H
                      obtain ⟨rfl, rfl, rfl, rfl, rfl, rfl, rfl, rfl, rfl, rfl, rfl⟩ := H
                      have hcz40_0 : wr.cell? ⟨gb127, 0, none⟩ = some (.int .i64 x128000_1) := (blk_cell BK127.out 0).trans rfl
                      have hcz40_1 : wr.cell? ⟨gb127, 1, none⟩ = some (.string x128001_1) := (blk_cell BK127.out 1).trans rfl
                      have hcz40_2 : wr.cell? ⟨gb127, 2, none⟩ = some (.string x128002_1) := (blk_cell BK127.out 2).trans rfl
                      have hcz40_3 : wr.cell? ⟨gb127, 3, none⟩ = some (.string x128003_1) := (blk_cell BK127.out 3).trans rfl
                      have hcz40_4 : wr.cell? ⟨gb127, 4, none⟩ = some (.string x128004_1) := (blk_cell BK127.out 4).trans rfl
                      have hcz40_5 : wr.cell? ⟨gb127, 5, none⟩ = some (.int .i64 x128005_1) := (blk_cell BK127.out 5).trans rfl
                      have hcz40_6 : wr.cell? ⟨gb127, 6, none⟩ = some (.int .i64 x128006_1) := (blk_cell BK127.out 6).trans rfl
                      have hcz40_7 : wr.cell? ⟨gb127, 7, none⟩ = some (.int .i64 x128007_1) := (blk_cell BK127.out 7).trans rfl
                      have hcz40_8 : wr.cell? ⟨gb127, 8, none⟩ = some (.int .i64 x128008_1) := (blk_cell BK127.out 8).trans rfl
                      have hcz40_9 : wr.cell? ⟨gb127, 9, none⟩ = some (.int .i64 x128009_1) := (blk_cell BK127.out 9).trans rfl
                      have hfz40_0 := blk_frozen BK127.out 0
                      have hfz40_1 := blk_frozen BK127.out 1
                      have hfz40_2 := blk_frozen BK127.out 2
                      have hfz40_3 := blk_frozen BK127.out 3
                      have hfz40_4 := blk_frozen BK127.out 4
                      have hfz40_5 := blk_frozen BK127.out 5
                      have hfz40_6 := blk_frozen BK127.out 6
                      have hfz40_7 := blk_frozen BK127.out 7
                      have hfz40_8 := blk_frozen BK127.out 8
                      have hfz40_9 := blk_frozen BK127.out 9
                      go_wp2
                      refine bodyPost_ret (results_tc rfl _ _ gb127 79 #[.int .i64 0, .string (⟨#[]⟩ : ByteArray), .string (⟨#[]⟩ : ByteArray), .string (⟨#[]⟩ : ByteArray), .string (⟨#[]⟩ : ByteArray), .int .i64 0, .int .i64 0, .int .i64 0, .int .i64 0, .int .i64 0] (0, 0) _ rfl (by (with_reducible repeat (first | refine blk_drewN ?_ _ | refine blk_drew ?_ | refine blk_alloc ?_ _)); refine blk_put (cs := #[.int .i64 0, .string (⟨#[]⟩ : ByteArray), .string (⟨#[]⟩ : ByteArray), .string (⟨#[]⟩ : ByteArray), .string (⟨#[]⟩ : ByteArray), .int .i64 0, .int .i64 0, .int .i64 0, .int .i64 0, .int .i64 x128009_1]) ?_ 9 _ rfl; (with_reducible repeat (first | refine blk_drewN ?_ _ | refine blk_drew ?_ | refine blk_alloc ?_ _)); refine blk_put (cs := #[.int .i64 0, .string (⟨#[]⟩ : ByteArray), .string (⟨#[]⟩ : ByteArray), .string (⟨#[]⟩ : ByteArray), .string (⟨#[]⟩ : ByteArray), .int .i64 0, .int .i64 0, .int .i64 0, .int .i64 x128008_1, .int .i64 x128009_1]) ?_ 8 _ rfl; (with_reducible repeat (first | refine blk_drewN ?_ _ | refine blk_drew ?_ | refine blk_alloc ?_ _)); refine blk_put (cs := #[.int .i64 0, .string (⟨#[]⟩ : ByteArray), .string (⟨#[]⟩ : ByteArray), .string (⟨#[]⟩ : ByteArray), .string (⟨#[]⟩ : ByteArray), .int .i64 0, .int .i64 0, .int .i64 x128007_1, .int .i64 x128008_1, .int .i64 x128009_1]) ?_ 7 _ rfl; (with_reducible repeat (first | refine blk_drewN ?_ _ | refine blk_drew ?_ | refine blk_alloc ?_ _)); refine blk_put (cs := #[.int .i64 0, .string (⟨#[]⟩ : ByteArray), .string (⟨#[]⟩ : ByteArray), .string (⟨#[]⟩ : ByteArray), .string (⟨#[]⟩ : ByteArray), .int .i64 0, .int .i64 x128006_1, .int .i64 x128007_1, .int .i64 x128008_1, .int .i64 x128009_1]) ?_ 6 _ rfl; (with_reducible repeat (first | refine blk_drewN ?_ _ | refine blk_drew ?_ | refine blk_alloc ?_ _)); refine blk_put (cs := #[.int .i64 0, .string (⟨#[]⟩ : ByteArray), .string (⟨#[]⟩ : ByteArray), .string (⟨#[]⟩ : ByteArray), .string (⟨#[]⟩ : ByteArray), .int .i64 x128005_1, .int .i64 x128006_1, .int .i64 x128007_1, .int .i64 x128008_1, .int .i64 x128009_1]) ?_ 5 _ rfl; (with_reducible repeat (first | refine blk_drewN ?_ _ | refine blk_drew ?_ | refine blk_alloc ?_ _)); refine blk_put (cs := #[.int .i64 0, .string (⟨#[]⟩ : ByteArray), .string (⟨#[]⟩ : ByteArray), .string (⟨#[]⟩ : ByteArray), .string x128004_1, .int .i64 x128005_1, .int .i64 x128006_1, .int .i64 x128007_1, .int .i64 x128008_1, .int .i64 x128009_1]) ?_ 4 _ rfl; (with_reducible repeat (first | refine blk_drewN ?_ _ | refine blk_drew ?_ | refine blk_alloc ?_ _)); refine blk_put (cs := #[.int .i64 0, .string (⟨#[]⟩ : ByteArray), .string (⟨#[]⟩ : ByteArray), .string x128003_1, .string x128004_1, .int .i64 x128005_1, .int .i64 x128006_1, .int .i64 x128007_1, .int .i64 x128008_1, .int .i64 x128009_1]) ?_ 3 _ rfl; (with_reducible repeat (first | refine blk_drewN ?_ _ | refine blk_drew ?_ | refine blk_alloc ?_ _)); refine blk_put (cs := #[.int .i64 0, .string (⟨#[]⟩ : ByteArray), .string x128002_1, .string x128003_1, .string x128004_1, .int .i64 x128005_1, .int .i64 x128006_1, .int .i64 x128007_1, .int .i64 x128008_1, .int .i64 x128009_1]) ?_ 2 _ rfl; (with_reducible repeat (first | refine blk_drewN ?_ _ | refine blk_drew ?_ | refine blk_alloc ?_ _)); refine blk_put (cs := #[.int .i64 0, .string x128001_1, .string x128002_1, .string x128003_1, .string x128004_1, .int .i64 x128005_1, .int .i64 x128006_1, .int .i64 x128007_1, .int .i64 x128008_1, .int .i64 x128009_1]) ?_ 1 _ rfl; (with_reducible repeat (first | refine blk_drewN ?_ _ | refine blk_drew ?_ | refine blk_alloc ?_ _)); refine blk_put (cs := #[.int .i64 x128000_1, .string x128001_1, .string x128002_1, .string x128003_1, .string x128004_1, .int .i64 x128005_1, .int .i64 x128006_1, .int .i64 x128007_1, .int .i64 x128008_1, .int .i64 x128009_1]) ?_ 0 _ rfl; (with_reducible repeat (first | refine blk_drewN ?_ _ | refine blk_drew ?_ | refine blk_alloc ?_ _)); exact BK127.out) Tryz.underlying79 rfl (by kernel_rfl)) rfl ?_
                      exact ⟨by first | rfl | (simp [errW_none, errW_some] <;> rfl) | (simp only [← hji23]; first | rfl | (simp [errW_none, errW_some] <;> rfl)) | (simp [*, errW_none, errW_some] <;> rfl), by repeat (first | (with_reducible first | exact HB.out | apply below_alloc | apply pw_below_drewN | apply below_drew1 | refine below_set ?_ GE127.out) | exact HB.out)⟩
            · rw [if_neg c25] at H
              exact absurd H (by simp)
          · rw [if_neg c24] at H
            exact absurd H (by simp)
def sallyportref06_Check.f (k : Nat) (a0_0 : Int) (a0_1 : Int) (a0_2 : Int) (a0_3 : Int) (a0_4 : ByteArray) : Option (Bool) := if a0_4.toList = ([] : List UInt8) then (some true) else ((sallyportref06_ParseName.f k a0_4).bind fun bt172 => (if bt172.2.1 = 0 then (if bt172.1.toList = a0_4.toList then (some (a0_0 == 0 && (a0_1 == 0 && (a0_2 == 0 && (a0_3 == 0))))) else (some false)) else (some false)))
theorem sallyportref06_Check.mono : ∀ a0 a1 a2 a3 a4 k, LeO (sallyportref06_Check.f k a0 a1 a2 a3 a4) (sallyportref06_Check.f (k + 1) a0 a1 a2 a3 a4) := by
  intro a0 a1 a2 a3 a4 k
  unfold sallyportref06_Check.f
  repeat' first
      | (with_reducible exact sallyportref06_ParseName.mono _ _)
      | (with_reducible exact LeO.refl _)
      | (with_reducible exact LeO.none _)
      | (with_reducible refine LeO.ite ?_ ?_)
      | (with_reducible refine LeO.bind ?_ (fun _ => ?_))
      | exact sallyportref06_ParseName.mono _ _
      | exact LeO.none _
      | refine LeO.ite ?_ ?_
      | refine LeO.bind ?_ (fun _ => ?_)
set_option maxHeartbeats 8000000 in
set_option maxRecDepth 100000 in
theorem sallyportref06_Check.calls (k : Nat) (a0_0 : Int) (a0_1 : Int) (a0_2 : Int) (a0_3 : Int) (a0_4 : ByteArray) (r : Bool) (w : World) (hS_ : StdW w) (h : sallyportref06_Check.f k a0_0 a0_1 a0_2 a0_3 a0_4 = some r) :
    Calls Tryz.prog 31 #[.agg #[.int .u8 a0_0, .int .u8 a0_1, .int .u8 a0_2, .int .u8 a0_3, .string a0_4]] w fun e w' => e = .returned (.bool r) ∧ Below w.heap.size w w' := by
  have hu26 := Tryz.underlying26
  have hu79 := Tryz.underlying79
  have hu24 := Tryz.underlying24
  have HS_ := Aside0.mk hS_
  clear hS_
  have HB := Aside0.mk (Below.refl w.heap.size w)
  have H : (if a0_4.toList = ([] : List UInt8) then (some true) else ((sallyportref06_ParseName.f k a0_4).bind fun bt172 => (if bt172.2.1 = 0 then (if bt172.1.toList = a0_4.toList then (some (a0_0 == 0 && (a0_1 == 0 && (a0_2 == 0 && (a0_3 == 0))))) else (some false)) else (some false)))) = some r := h
  clear h
  by_cases c2 : a0_4.toList = ([] : List UInt8)
  · rw [if_pos c2] at H
    have c2b0 : (a0_4.toList == ([] : List UInt8)) = true := beq_iff_eq.mpr c2
    have c2b1 : (a0_4.toList != ([] : List UInt8)) = false := bne_eq_false_iff_eq.mpr c2
    clear c2
    obtain rfl := Option.some.inj H
    go_enter Tryz.func31, Tryz.ntmps31
    go_wp2_with (first | ((with_reducible refine gate_dst (N := 1) rfl ?_); refine box_event ?hg (N := 1) ?hd (cs := #[.int .u8 a0_0, .int .u8 a0_1, .int .u8 a0_2, .int .u8 a0_3, .string a0_4]) (t := 26) ?hr ?_; (case hd => rfl); (case hg => rfl); (case hr => first | (go_simp; done) | (go_simp; rfl)); intro gb171 hg w3 hbox hb; have n0_ := Aside0.mk (below_step (by repeat (first | (with_reducible first | exact HB.out | apply below_alloc | apply pw_below_drewN | apply below_drew1) | exact HB.out)) hb); have n1_ := Aside0.mk (hbox); have n2_ := Aside0.mk ((by rw [hg]; exact (below_size (by repeat (first | (with_reducible first | exact HB.out | apply below_alloc | apply pw_below_drewN | apply below_drew1) | exact HB.out))) : w.heap.size ≤ gb171)); have n3_ := Aside0.mk ((by rw [hg]; exact (below_size (by repeat (first | (with_reducible first | exact HB.out | apply below_alloc | apply pw_below_drewN | apply below_drew1) | exact HB.out))) : w.heap.size ≤ gb171)); clear HB; have HB := n0_; have BK171 := n1_; have GW171 := n2_; have GE171 := n3_; clear n0_ n1_ n2_ n3_; clear hb hbox hg; have hcz4_0 : w3.cell? ⟨gb171, 0, none⟩ = some (.int .u8 a0_0) := (blk_cell BK171.out 0).trans rfl; have hcz4_1 : w3.cell? ⟨gb171, 1, none⟩ = some (.int .u8 a0_1) := (blk_cell BK171.out 1).trans rfl; have hcz4_2 : w3.cell? ⟨gb171, 2, none⟩ = some (.int .u8 a0_2) := (blk_cell BK171.out 2).trans rfl; have hcz4_3 : w3.cell? ⟨gb171, 3, none⟩ = some (.int .u8 a0_3) := (blk_cell BK171.out 3).trans rfl; have hcz4_4 : w3.cell? ⟨gb171, 4, none⟩ = some (.string a0_4) := (blk_cell BK171.out 4).trans rfl; have hfz4_0 := blk_frozen BK171.out 0; have hfz4_1 := blk_frozen BK171.out 1; have hfz4_2 := blk_frozen BK171.out 2; have hfz4_3 := blk_frozen BK171.out 3; have hfz4_4 := blk_frozen BK171.out 4))
    go_ret
    exact ⟨by first | rfl | (simp [errW_none, errW_some] <;> rfl) | (simp [*, errW_none, errW_some] <;> rfl), by repeat (first | (with_reducible first | exact HB.out | apply below_alloc | apply pw_below_drewN | apply below_drew1 | refine below_set ?_ GE171.out) | exact HB.out)⟩
  · rw [if_neg c2] at H
    have c2b0 : (a0_4.toList == ([] : List UInt8)) = false := beq_eq_false_iff_ne.mpr c2
    have c2b1 : (a0_4.toList != ([] : List UInt8)) = true := bne_iff_ne.mpr c2
    replace H := Option.bind_eq_some_iff.mp H
    obtain ⟨⟨t172, t173, t174, t175, t176, t177, t178, t179, t180, t181, t182⟩, A50, H⟩ := H
    replace H : (if t173 = 0 then (if t172.toList = a0_4.toList then (some (a0_0 == 0 && (a0_1 == 0 && (a0_2 == 0 && (a0_3 == 0))))) else (some false)) else (some false)) = some r := H
    have A5 := Aside0.mk A50
    clear A50
    by_cases c6 : t173 = 0
    · rw [if_pos c6] at H
      have c6b0 : (t173 == 0) = true := beq_iff_eq.mpr c6
      have c6b1 : (t173 != 0) = false := bne_eq_false_iff_eq.mpr c6
      clear c6
      by_cases c7 : t172.toList = a0_4.toList
      · rw [if_pos c7] at H
        have c7b0 : (t172.toList == a0_4.toList) = true := beq_iff_eq.mpr c7
        have c7b1 : (t172.toList != a0_4.toList) = false := bne_eq_false_iff_eq.mpr c7
        clear c7
        obtain rfl := Option.some.inj H
        go_enter Tryz.func31, Tryz.ntmps31
        go_wp2_with (first | ((with_reducible refine gate_dst (N := 1) rfl ?_); refine box_event ?hg (N := 1) ?hd (cs := #[.int .u8 a0_0, .int .u8 a0_1, .int .u8 a0_2, .int .u8 a0_3, .string a0_4]) (t := 26) ?hr ?_; (case hd => rfl); (case hg => rfl); (case hr => first | (go_simp; done) | (go_simp; rfl)); intro gb171 hg w8 hbox hb; have n0_ := Aside0.mk (below_step (by repeat (first | (with_reducible first | exact HB.out | apply below_alloc | apply pw_below_drewN | apply below_drew1) | exact HB.out)) hb); have n1_ := Aside0.mk (hbox); have n2_ := Aside0.mk ((by rw [hg]; exact (below_size (by repeat (first | (with_reducible first | exact HB.out | apply below_alloc | apply pw_below_drewN | apply below_drew1) | exact HB.out))) : w.heap.size ≤ gb171)); have n3_ := Aside0.mk ((by rw [hg]; exact (below_size (by repeat (first | (with_reducible first | exact HB.out | apply below_alloc | apply pw_below_drewN | apply below_drew1) | exact HB.out))) : w.heap.size ≤ gb171)); clear HB; have HB := n0_; have BK171 := n1_; have GW171 := n2_; have GE171 := n3_; clear n0_ n1_ n2_ n3_; clear hb hbox hg; have hcz9_0 : w8.cell? ⟨gb171, 0, none⟩ = some (.int .u8 a0_0) := (blk_cell BK171.out 0).trans rfl; have hcz9_1 : w8.cell? ⟨gb171, 1, none⟩ = some (.int .u8 a0_1) := (blk_cell BK171.out 1).trans rfl; have hcz9_2 : w8.cell? ⟨gb171, 2, none⟩ = some (.int .u8 a0_2) := (blk_cell BK171.out 2).trans rfl; have hcz9_3 : w8.cell? ⟨gb171, 3, none⟩ = some (.int .u8 a0_3) := (blk_cell BK171.out 3).trans rfl; have hcz9_4 : w8.cell? ⟨gb171, 4, none⟩ = some (.string a0_4) := (blk_cell BK171.out 4).trans rfl; have hfz9_0 := blk_frozen BK171.out 0; have hfz9_1 := blk_frozen BK171.out 1; have hfz9_2 := blk_frozen BK171.out 2; have hfz9_3 := blk_frozen BK171.out 3; have hfz9_4 := blk_frozen BK171.out 4) | ((with_reducible refine gate_callee (f := 62) rfl ?_); refine goesL_ (some 11) rfl rfl Tryz.func62 (by kernel_rfl) rfl #[.string a0_4] rfl (by (try simp only [List.map_toArray, List.map_cons, List.map_nil]); first | done | rfl | (simp only [List.length_drop, List.length_take]; rfl)) ?_; (with_reducible refine (sallyportref06_ParseName.calls k a0_4 t172 t173 t174 t175 t176 t177 t178 t179 t180 t181 t182 _ ?side1 A5.out).mono ?_); (case side1 => exact StdW.below HS_.out (by repeat (first | (with_reducible first | exact HB.out | apply below_alloc | apply pw_below_drewN | apply below_drew1 | refine below_set ?_ GE171.out) | exact HB.out))); rintro e w10 ⟨rfl, hb⟩; refine ⟨_, rfl, ?_⟩; have n0_ := Aside0.mk (blk_below (g := gb171) (o := .cells #[.int .u8 a0_0, .int .u8 a0_1, .int .u8 a0_2, .int .u8 a0_3, .string a0_4] 26 (0, 0)) (by (with_reducible repeat (first | refine blk_drewN ?_ _ | refine blk_drew ?_ | refine blk_alloc ?_ _)); exact BK171.out) hb); have n1_ := Aside0.mk (below_step (by repeat (first | (with_reducible first | exact HB.out | apply below_alloc | apply pw_below_drewN | apply below_drew1 | refine below_set ?_ GE171.out) | exact HB.out)) hb); clear BK171; clear HB; have BK171 := n0_; have HB := n1_; clear n0_ n1_; (try clear hb); (try clear hb2); (try clear hk); (try clear hi)) | ((with_reducible refine gate_dst (N := 4) rfl ?_); refine box_event ?hg (N := 4) ?hd (cs := #[.int .i64 0, .string (⟨#[]⟩ : ByteArray), .string (⟨#[]⟩ : ByteArray), .string (⟨#[]⟩ : ByteArray), .string (⟨#[]⟩ : ByteArray), .int .i64 0, .int .i64 0, .int .i64 0, .int .i64 0, .int .i64 0]) (t := 79) ?hr ?_; (case hd => rfl); (case hg => rfl); (case hr => first | (go_simp; done) | (go_simp; rfl)); intro gb183 hg w11 hbox hb; have n0_ := Aside0.mk (blk_below (g := gb171) (o := .cells #[.int .u8 a0_0, .int .u8 a0_1, .int .u8 a0_2, .int .u8 a0_3, .string a0_4] 26 (0, 0)) (by (with_reducible repeat (first | refine blk_drewN ?_ _ | refine blk_drew ?_ | refine blk_alloc ?_ _)); exact BK171.out) hb); have n1_ := Aside0.mk (below_step (by repeat (first | (with_reducible first | exact HB.out | apply below_alloc | apply pw_below_drewN | apply below_drew1 | refine below_set ?_ GE171.out) | exact HB.out)) hb); have n2_ := Aside0.mk (hbox); have n3_ := Aside0.mk ((by rw [hg]; exact (below_size (by repeat (first | (with_reducible first | exact HB.out | apply below_alloc | apply pw_below_drewN | apply below_drew1 | refine below_set ?_ GE171.out) | exact HB.out))) : w.heap.size ≤ gb183)); have n4_ := Aside0.mk ((by rw [hg]; exact (below_size (by repeat (first | (with_reducible first | exact HB.out | apply below_alloc | apply pw_below_drewN | apply below_drew1 | refine below_set ?_ GE171.out) | exact HB.out))) : w.heap.size ≤ gb183)); have n5_ := Aside0.mk ((by rw [hg]; exact Nat.ne_of_lt (blk_lt (g := gb171) (o := .cells #[.int .u8 a0_0, .int .u8 a0_1, .int .u8 a0_2, .int .u8 a0_3, .string a0_4] 26 (0, 0)) (by (with_reducible repeat (first | refine blk_drewN ?_ _ | refine blk_drew ?_ | refine blk_alloc ?_ _)); exact BK171.out)) : gb171 ≠ gb183)); have n6_ := Aside0.mk ((by rw [hg]; exact Nat.ne_of_gt (blk_lt (g := gb171) (o := .cells #[.int .u8 a0_0, .int .u8 a0_1, .int .u8 a0_2, .int .u8 a0_3, .string a0_4] 26 (0, 0)) (by (with_reducible repeat (first | refine blk_drewN ?_ _ | refine blk_drew ?_ | refine blk_alloc ?_ _)); exact BK171.out)) : gb183 ≠ gb171)); clear BK171; clear HB; have BK171 := n0_; have HB := n1_; have BK183 := n2_; have GW183 := n3_; have GE183 := n4_; have NB171_183 := n5_; have NB183_171 := n6_; clear n0_ n1_ n2_ n3_ n4_ n5_ n6_; clear hb hbox hg; have hnb12 := NB183_171.out; have hnc12 := NB171_183.out; have hcz13_0 : w11.cell? ⟨gb183, 0, none⟩ = some (.int .i64 0) := (blk_cell BK183.out 0).trans rfl; have hcz13_1 : w11.cell? ⟨gb183, 1, none⟩ = some (.string (⟨#[]⟩ : ByteArray)) := (blk_cell BK183.out 1).trans rfl; have hcz13_2 : w11.cell? ⟨gb183, 2, none⟩ = some (.string (⟨#[]⟩ : ByteArray)) := (blk_cell BK183.out 2).trans rfl; have hcz13_3 : w11.cell? ⟨gb183, 3, none⟩ = some (.string (⟨#[]⟩ : ByteArray)) := (blk_cell BK183.out 3).trans rfl; have hcz13_4 : w11.cell? ⟨gb183, 4, none⟩ = some (.string (⟨#[]⟩ : ByteArray)) := (blk_cell BK183.out 4).trans rfl; have hcz13_5 : w11.cell? ⟨gb183, 5, none⟩ = some (.int .i64 0) := (blk_cell BK183.out 5).trans rfl; have hcz13_6 : w11.cell? ⟨gb183, 6, none⟩ = some (.int .i64 0) := (blk_cell BK183.out 6).trans rfl; have hcz13_7 : w11.cell? ⟨gb183, 7, none⟩ = some (.int .i64 0) := (blk_cell BK183.out 7).trans rfl; have hcz13_8 : w11.cell? ⟨gb183, 8, none⟩ = some (.int .i64 0) := (blk_cell BK183.out 8).trans rfl; have hcz13_9 : w11.cell? ⟨gb183, 9, none⟩ = some (.int .i64 0) := (blk_cell BK183.out 9).trans rfl; have hfz13_0 := blk_frozen BK183.out 0; have hfz13_1 := blk_frozen BK183.out 1; have hfz13_2 := blk_frozen BK183.out 2; have hfz13_3 := blk_frozen BK183.out 3; have hfz13_4 := blk_frozen BK183.out 4; have hfz13_5 := blk_frozen BK183.out 5; have hfz13_6 := blk_frozen BK183.out 6; have hfz13_7 := blk_frozen BK183.out 7; have hfz13_8 := blk_frozen BK183.out 8; have hfz13_9 := blk_frozen BK183.out 9; have hcz14_0 : w11.cell? ⟨gb171, 0, none⟩ = some (.int .u8 a0_0) := (blk_cell BK171.out 0).trans rfl; have hcz14_1 : w11.cell? ⟨gb171, 1, none⟩ = some (.int .u8 a0_1) := (blk_cell BK171.out 1).trans rfl; have hcz14_2 : w11.cell? ⟨gb171, 2, none⟩ = some (.int .u8 a0_2) := (blk_cell BK171.out 2).trans rfl; have hcz14_3 : w11.cell? ⟨gb171, 3, none⟩ = some (.int .u8 a0_3) := (blk_cell BK171.out 3).trans rfl; have hcz14_4 : w11.cell? ⟨gb171, 4, none⟩ = some (.string a0_4) := (blk_cell BK171.out 4).trans rfl; have hfz14_0 := blk_frozen BK171.out 0; have hfz14_1 := blk_frozen BK171.out 1; have hfz14_2 := blk_frozen BK171.out 2; have hfz14_3 := blk_frozen BK171.out 3; have hfz14_4 := blk_frozen BK171.out 4))
        go_ret
        exact ⟨by first | rfl | (simp [errW_none, errW_some] <;> rfl) | (simp [*, errW_none, errW_some] <;> rfl), by repeat (first | (with_reducible first | exact HB.out | apply below_alloc | apply pw_below_drewN | apply below_drew1 | refine below_set ?_ GE171.out | refine below_set ?_ GE183.out) | exact HB.out)⟩
      · rw [if_neg c7] at H
        have c7b0 : (t172.toList == a0_4.toList) = false := beq_eq_false_iff_ne.mpr c7
        have c7b1 : (t172.toList != a0_4.toList) = true := bne_iff_ne.mpr c7
        obtain rfl := Option.some.inj H
        go_enter Tryz.func31, Tryz.ntmps31
        go_wp2_with (first | ((with_reducible refine gate_dst (N := 1) rfl ?_); refine box_event ?hg (N := 1) ?hd (cs := #[.int .u8 a0_0, .int .u8 a0_1, .int .u8 a0_2, .int .u8 a0_3, .string a0_4]) (t := 26) ?hr ?_; (case hd => rfl); (case hg => rfl); (case hr => first | (go_simp; done) | (go_simp; rfl)); intro gb171 hg w15 hbox hb; have n0_ := Aside0.mk (below_step (by repeat (first | (with_reducible first | exact HB.out | apply below_alloc | apply pw_below_drewN | apply below_drew1) | exact HB.out)) hb); have n1_ := Aside0.mk (hbox); have n2_ := Aside0.mk ((by rw [hg]; exact (below_size (by repeat (first | (with_reducible first | exact HB.out | apply below_alloc | apply pw_below_drewN | apply below_drew1) | exact HB.out))) : w.heap.size ≤ gb171)); have n3_ := Aside0.mk ((by rw [hg]; exact (below_size (by repeat (first | (with_reducible first | exact HB.out | apply below_alloc | apply pw_below_drewN | apply below_drew1) | exact HB.out))) : w.heap.size ≤ gb171)); clear HB; have HB := n0_; have BK171 := n1_; have GW171 := n2_; have GE171 := n3_; clear n0_ n1_ n2_ n3_; clear hb hbox hg; have hcz16_0 : w15.cell? ⟨gb171, 0, none⟩ = some (.int .u8 a0_0) := (blk_cell BK171.out 0).trans rfl; have hcz16_1 : w15.cell? ⟨gb171, 1, none⟩ = some (.int .u8 a0_1) := (blk_cell BK171.out 1).trans rfl; have hcz16_2 : w15.cell? ⟨gb171, 2, none⟩ = some (.int .u8 a0_2) := (blk_cell BK171.out 2).trans rfl; have hcz16_3 : w15.cell? ⟨gb171, 3, none⟩ = some (.int .u8 a0_3) := (blk_cell BK171.out 3).trans rfl; have hcz16_4 : w15.cell? ⟨gb171, 4, none⟩ = some (.string a0_4) := (blk_cell BK171.out 4).trans rfl; have hfz16_0 := blk_frozen BK171.out 0; have hfz16_1 := blk_frozen BK171.out 1; have hfz16_2 := blk_frozen BK171.out 2; have hfz16_3 := blk_frozen BK171.out 3; have hfz16_4 := blk_frozen BK171.out 4) | ((with_reducible refine gate_callee (f := 62) rfl ?_); refine goesL_ (some 11) rfl rfl Tryz.func62 (by kernel_rfl) rfl #[.string a0_4] rfl (by (try simp only [List.map_toArray, List.map_cons, List.map_nil]); first | done | rfl | (simp only [List.length_drop, List.length_take]; rfl)) ?_; (with_reducible refine (sallyportref06_ParseName.calls k a0_4 t172 t173 t174 t175 t176 t177 t178 t179 t180 t181 t182 _ ?side1 A5.out).mono ?_); (case side1 => exact StdW.below HS_.out (by repeat (first | (with_reducible first | exact HB.out | apply below_alloc | apply pw_below_drewN | apply below_drew1 | refine below_set ?_ GE171.out) | exact HB.out))); rintro e w17 ⟨rfl, hb⟩; refine ⟨_, rfl, ?_⟩; have n0_ := Aside0.mk (blk_below (g := gb171) (o := .cells #[.int .u8 a0_0, .int .u8 a0_1, .int .u8 a0_2, .int .u8 a0_3, .string a0_4] 26 (0, 0)) (by (with_reducible repeat (first | refine blk_drewN ?_ _ | refine blk_drew ?_ | refine blk_alloc ?_ _)); exact BK171.out) hb); have n1_ := Aside0.mk (below_step (by repeat (first | (with_reducible first | exact HB.out | apply below_alloc | apply pw_below_drewN | apply below_drew1 | refine below_set ?_ GE171.out) | exact HB.out)) hb); clear BK171; clear HB; have BK171 := n0_; have HB := n1_; clear n0_ n1_; (try clear hb); (try clear hb2); (try clear hk); (try clear hi)) | ((with_reducible refine gate_dst (N := 4) rfl ?_); refine box_event ?hg (N := 4) ?hd (cs := #[.int .i64 0, .string (⟨#[]⟩ : ByteArray), .string (⟨#[]⟩ : ByteArray), .string (⟨#[]⟩ : ByteArray), .string (⟨#[]⟩ : ByteArray), .int .i64 0, .int .i64 0, .int .i64 0, .int .i64 0, .int .i64 0]) (t := 79) ?hr ?_; (case hd => rfl); (case hg => rfl); (case hr => first | (go_simp; done) | (go_simp; rfl)); intro gb183 hg w18 hbox hb; have n0_ := Aside0.mk (blk_below (g := gb171) (o := .cells #[.int .u8 a0_0, .int .u8 a0_1, .int .u8 a0_2, .int .u8 a0_3, .string a0_4] 26 (0, 0)) (by (with_reducible repeat (first | refine blk_drewN ?_ _ | refine blk_drew ?_ | refine blk_alloc ?_ _)); exact BK171.out) hb); have n1_ := Aside0.mk (below_step (by repeat (first | (with_reducible first | exact HB.out | apply below_alloc | apply pw_below_drewN | apply below_drew1 | refine below_set ?_ GE171.out) | exact HB.out)) hb); have n2_ := Aside0.mk (hbox); have n3_ := Aside0.mk ((by rw [hg]; exact (below_size (by repeat (first | (with_reducible first | exact HB.out | apply below_alloc | apply pw_below_drewN | apply below_drew1 | refine below_set ?_ GE171.out) | exact HB.out))) : w.heap.size ≤ gb183)); have n4_ := Aside0.mk ((by rw [hg]; exact (below_size (by repeat (first | (with_reducible first | exact HB.out | apply below_alloc | apply pw_below_drewN | apply below_drew1 | refine below_set ?_ GE171.out) | exact HB.out))) : w.heap.size ≤ gb183)); have n5_ := Aside0.mk ((by rw [hg]; exact Nat.ne_of_lt (blk_lt (g := gb171) (o := .cells #[.int .u8 a0_0, .int .u8 a0_1, .int .u8 a0_2, .int .u8 a0_3, .string a0_4] 26 (0, 0)) (by (with_reducible repeat (first | refine blk_drewN ?_ _ | refine blk_drew ?_ | refine blk_alloc ?_ _)); exact BK171.out)) : gb171 ≠ gb183)); have n6_ := Aside0.mk ((by rw [hg]; exact Nat.ne_of_gt (blk_lt (g := gb171) (o := .cells #[.int .u8 a0_0, .int .u8 a0_1, .int .u8 a0_2, .int .u8 a0_3, .string a0_4] 26 (0, 0)) (by (with_reducible repeat (first | refine blk_drewN ?_ _ | refine blk_drew ?_ | refine blk_alloc ?_ _)); exact BK171.out)) : gb183 ≠ gb171)); clear BK171; clear HB; have BK171 := n0_; have HB := n1_; have BK183 := n2_; have GW183 := n3_; have GE183 := n4_; have NB171_183 := n5_; have NB183_171 := n6_; clear n0_ n1_ n2_ n3_ n4_ n5_ n6_; clear hb hbox hg; have hnb19 := NB183_171.out; have hnc19 := NB171_183.out; have hcz20_0 : w18.cell? ⟨gb183, 0, none⟩ = some (.int .i64 0) := (blk_cell BK183.out 0).trans rfl; have hcz20_1 : w18.cell? ⟨gb183, 1, none⟩ = some (.string (⟨#[]⟩ : ByteArray)) := (blk_cell BK183.out 1).trans rfl; have hcz20_2 : w18.cell? ⟨gb183, 2, none⟩ = some (.string (⟨#[]⟩ : ByteArray)) := (blk_cell BK183.out 2).trans rfl; have hcz20_3 : w18.cell? ⟨gb183, 3, none⟩ = some (.string (⟨#[]⟩ : ByteArray)) := (blk_cell BK183.out 3).trans rfl; have hcz20_4 : w18.cell? ⟨gb183, 4, none⟩ = some (.string (⟨#[]⟩ : ByteArray)) := (blk_cell BK183.out 4).trans rfl; have hcz20_5 : w18.cell? ⟨gb183, 5, none⟩ = some (.int .i64 0) := (blk_cell BK183.out 5).trans rfl; have hcz20_6 : w18.cell? ⟨gb183, 6, none⟩ = some (.int .i64 0) := (blk_cell BK183.out 6).trans rfl; have hcz20_7 : w18.cell? ⟨gb183, 7, none⟩ = some (.int .i64 0) := (blk_cell BK183.out 7).trans rfl; have hcz20_8 : w18.cell? ⟨gb183, 8, none⟩ = some (.int .i64 0) := (blk_cell BK183.out 8).trans rfl; have hcz20_9 : w18.cell? ⟨gb183, 9, none⟩ = some (.int .i64 0) := (blk_cell BK183.out 9).trans rfl; have hfz20_0 := blk_frozen BK183.out 0; have hfz20_1 := blk_frozen BK183.out 1; have hfz20_2 := blk_frozen BK183.out 2; have hfz20_3 := blk_frozen BK183.out 3; have hfz20_4 := blk_frozen BK183.out 4; have hfz20_5 := blk_frozen BK183.out 5; have hfz20_6 := blk_frozen BK183.out 6; have hfz20_7 := blk_frozen BK183.out 7; have hfz20_8 := blk_frozen BK183.out 8; have hfz20_9 := blk_frozen BK183.out 9; have hcz21_0 : w18.cell? ⟨gb171, 0, none⟩ = some (.int .u8 a0_0) := (blk_cell BK171.out 0).trans rfl; have hcz21_1 : w18.cell? ⟨gb171, 1, none⟩ = some (.int .u8 a0_1) := (blk_cell BK171.out 1).trans rfl; have hcz21_2 : w18.cell? ⟨gb171, 2, none⟩ = some (.int .u8 a0_2) := (blk_cell BK171.out 2).trans rfl; have hcz21_3 : w18.cell? ⟨gb171, 3, none⟩ = some (.int .u8 a0_3) := (blk_cell BK171.out 3).trans rfl; have hcz21_4 : w18.cell? ⟨gb171, 4, none⟩ = some (.string a0_4) := (blk_cell BK171.out 4).trans rfl; have hfz21_0 := blk_frozen BK171.out 0; have hfz21_1 := blk_frozen BK171.out 1; have hfz21_2 := blk_frozen BK171.out 2; have hfz21_3 := blk_frozen BK171.out 3; have hfz21_4 := blk_frozen BK171.out 4))
        go_ret
        exact ⟨by first | rfl | (simp [errW_none, errW_some] <;> rfl) | (simp [*, errW_none, errW_some] <;> rfl), by repeat (first | (with_reducible first | exact HB.out | apply below_alloc | apply pw_below_drewN | apply below_drew1 | refine below_set ?_ GE171.out | refine below_set ?_ GE183.out) | exact HB.out)⟩
    · rw [if_neg c6] at H
      have c6b0 : (t173 == 0) = false := beq_eq_false_iff_ne.mpr c6
      have c6b1 : (t173 != 0) = true := bne_iff_ne.mpr c6
      obtain rfl := Option.some.inj H
      go_enter Tryz.func31, Tryz.ntmps31
      go_wp2_with (first | ((with_reducible refine gate_dst (N := 1) rfl ?_); refine box_event ?hg (N := 1) ?hd (cs := #[.int .u8 a0_0, .int .u8 a0_1, .int .u8 a0_2, .int .u8 a0_3, .string a0_4]) (t := 26) ?hr ?_; (case hd => rfl); (case hg => rfl); (case hr => first | (go_simp; done) | (go_simp; rfl)); intro gb171 hg w22 hbox hb; have n0_ := Aside0.mk (below_step (by repeat (first | (with_reducible first | exact HB.out | apply below_alloc | apply pw_below_drewN | apply below_drew1) | exact HB.out)) hb); have n1_ := Aside0.mk (hbox); have n2_ := Aside0.mk ((by rw [hg]; exact (below_size (by repeat (first | (with_reducible first | exact HB.out | apply below_alloc | apply pw_below_drewN | apply below_drew1) | exact HB.out))) : w.heap.size ≤ gb171)); have n3_ := Aside0.mk ((by rw [hg]; exact (below_size (by repeat (first | (with_reducible first | exact HB.out | apply below_alloc | apply pw_below_drewN | apply below_drew1) | exact HB.out))) : w.heap.size ≤ gb171)); clear HB; have HB := n0_; have BK171 := n1_; have GW171 := n2_; have GE171 := n3_; clear n0_ n1_ n2_ n3_; clear hb hbox hg; have hcz23_0 : w22.cell? ⟨gb171, 0, none⟩ = some (.int .u8 a0_0) := (blk_cell BK171.out 0).trans rfl; have hcz23_1 : w22.cell? ⟨gb171, 1, none⟩ = some (.int .u8 a0_1) := (blk_cell BK171.out 1).trans rfl; have hcz23_2 : w22.cell? ⟨gb171, 2, none⟩ = some (.int .u8 a0_2) := (blk_cell BK171.out 2).trans rfl; have hcz23_3 : w22.cell? ⟨gb171, 3, none⟩ = some (.int .u8 a0_3) := (blk_cell BK171.out 3).trans rfl; have hcz23_4 : w22.cell? ⟨gb171, 4, none⟩ = some (.string a0_4) := (blk_cell BK171.out 4).trans rfl; have hfz23_0 := blk_frozen BK171.out 0; have hfz23_1 := blk_frozen BK171.out 1; have hfz23_2 := blk_frozen BK171.out 2; have hfz23_3 := blk_frozen BK171.out 3; have hfz23_4 := blk_frozen BK171.out 4) | ((with_reducible refine gate_callee (f := 62) rfl ?_); refine goesL_ (some 11) rfl rfl Tryz.func62 (by kernel_rfl) rfl #[.string a0_4] rfl (by (try simp only [List.map_toArray, List.map_cons, List.map_nil]); first | done | rfl | (simp only [List.length_drop, List.length_take]; rfl)) ?_; (with_reducible refine (sallyportref06_ParseName.calls k a0_4 t172 t173 t174 t175 t176 t177 t178 t179 t180 t181 t182 _ ?side1 A5.out).mono ?_); (case side1 => exact StdW.below HS_.out (by repeat (first | (with_reducible first | exact HB.out | apply below_alloc | apply pw_below_drewN | apply below_drew1 | refine below_set ?_ GE171.out) | exact HB.out))); rintro e w24 ⟨rfl, hb⟩; refine ⟨_, rfl, ?_⟩; have n0_ := Aside0.mk (blk_below (g := gb171) (o := .cells #[.int .u8 a0_0, .int .u8 a0_1, .int .u8 a0_2, .int .u8 a0_3, .string a0_4] 26 (0, 0)) (by (with_reducible repeat (first | refine blk_drewN ?_ _ | refine blk_drew ?_ | refine blk_alloc ?_ _)); exact BK171.out) hb); have n1_ := Aside0.mk (below_step (by repeat (first | (with_reducible first | exact HB.out | apply below_alloc | apply pw_below_drewN | apply below_drew1 | refine below_set ?_ GE171.out) | exact HB.out)) hb); clear BK171; clear HB; have BK171 := n0_; have HB := n1_; clear n0_ n1_; (try clear hb); (try clear hb2); (try clear hk); (try clear hi)) | ((with_reducible refine gate_dst (N := 4) rfl ?_); refine box_event ?hg (N := 4) ?hd (cs := #[.int .i64 0, .string (⟨#[]⟩ : ByteArray), .string (⟨#[]⟩ : ByteArray), .string (⟨#[]⟩ : ByteArray), .string (⟨#[]⟩ : ByteArray), .int .i64 0, .int .i64 0, .int .i64 0, .int .i64 0, .int .i64 0]) (t := 79) ?hr ?_; (case hd => rfl); (case hg => rfl); (case hr => first | (go_simp; done) | (go_simp; rfl)); intro gb183 hg w25 hbox hb; have n0_ := Aside0.mk (blk_below (g := gb171) (o := .cells #[.int .u8 a0_0, .int .u8 a0_1, .int .u8 a0_2, .int .u8 a0_3, .string a0_4] 26 (0, 0)) (by (with_reducible repeat (first | refine blk_drewN ?_ _ | refine blk_drew ?_ | refine blk_alloc ?_ _)); exact BK171.out) hb); have n1_ := Aside0.mk (below_step (by repeat (first | (with_reducible first | exact HB.out | apply below_alloc | apply pw_below_drewN | apply below_drew1 | refine below_set ?_ GE171.out) | exact HB.out)) hb); have n2_ := Aside0.mk (hbox); have n3_ := Aside0.mk ((by rw [hg]; exact (below_size (by repeat (first | (with_reducible first | exact HB.out | apply below_alloc | apply pw_below_drewN | apply below_drew1 | refine below_set ?_ GE171.out) | exact HB.out))) : w.heap.size ≤ gb183)); have n4_ := Aside0.mk ((by rw [hg]; exact (below_size (by repeat (first | (with_reducible first | exact HB.out | apply below_alloc | apply pw_below_drewN | apply below_drew1 | refine below_set ?_ GE171.out) | exact HB.out))) : w.heap.size ≤ gb183)); have n5_ := Aside0.mk ((by rw [hg]; exact Nat.ne_of_lt (blk_lt (g := gb171) (o := .cells #[.int .u8 a0_0, .int .u8 a0_1, .int .u8 a0_2, .int .u8 a0_3, .string a0_4] 26 (0, 0)) (by (with_reducible repeat (first | refine blk_drewN ?_ _ | refine blk_drew ?_ | refine blk_alloc ?_ _)); exact BK171.out)) : gb171 ≠ gb183)); have n6_ := Aside0.mk ((by rw [hg]; exact Nat.ne_of_gt (blk_lt (g := gb171) (o := .cells #[.int .u8 a0_0, .int .u8 a0_1, .int .u8 a0_2, .int .u8 a0_3, .string a0_4] 26 (0, 0)) (by (with_reducible repeat (first | refine blk_drewN ?_ _ | refine blk_drew ?_ | refine blk_alloc ?_ _)); exact BK171.out)) : gb183 ≠ gb171)); clear BK171; clear HB; have BK171 := n0_; have HB := n1_; have BK183 := n2_; have GW183 := n3_; have GE183 := n4_; have NB171_183 := n5_; have NB183_171 := n6_; clear n0_ n1_ n2_ n3_ n4_ n5_ n6_; clear hb hbox hg; have hnb26 := NB183_171.out; have hnc26 := NB171_183.out; have hcz27_0 : w25.cell? ⟨gb183, 0, none⟩ = some (.int .i64 0) := (blk_cell BK183.out 0).trans rfl; have hcz27_1 : w25.cell? ⟨gb183, 1, none⟩ = some (.string (⟨#[]⟩ : ByteArray)) := (blk_cell BK183.out 1).trans rfl; have hcz27_2 : w25.cell? ⟨gb183, 2, none⟩ = some (.string (⟨#[]⟩ : ByteArray)) := (blk_cell BK183.out 2).trans rfl; have hcz27_3 : w25.cell? ⟨gb183, 3, none⟩ = some (.string (⟨#[]⟩ : ByteArray)) := (blk_cell BK183.out 3).trans rfl; have hcz27_4 : w25.cell? ⟨gb183, 4, none⟩ = some (.string (⟨#[]⟩ : ByteArray)) := (blk_cell BK183.out 4).trans rfl; have hcz27_5 : w25.cell? ⟨gb183, 5, none⟩ = some (.int .i64 0) := (blk_cell BK183.out 5).trans rfl; have hcz27_6 : w25.cell? ⟨gb183, 6, none⟩ = some (.int .i64 0) := (blk_cell BK183.out 6).trans rfl; have hcz27_7 : w25.cell? ⟨gb183, 7, none⟩ = some (.int .i64 0) := (blk_cell BK183.out 7).trans rfl; have hcz27_8 : w25.cell? ⟨gb183, 8, none⟩ = some (.int .i64 0) := (blk_cell BK183.out 8).trans rfl; have hcz27_9 : w25.cell? ⟨gb183, 9, none⟩ = some (.int .i64 0) := (blk_cell BK183.out 9).trans rfl; have hfz27_0 := blk_frozen BK183.out 0; have hfz27_1 := blk_frozen BK183.out 1; have hfz27_2 := blk_frozen BK183.out 2; have hfz27_3 := blk_frozen BK183.out 3; have hfz27_4 := blk_frozen BK183.out 4; have hfz27_5 := blk_frozen BK183.out 5; have hfz27_6 := blk_frozen BK183.out 6; have hfz27_7 := blk_frozen BK183.out 7; have hfz27_8 := blk_frozen BK183.out 8; have hfz27_9 := blk_frozen BK183.out 9))
      go_ret
      exact ⟨by first | rfl | (simp [errW_none, errW_some] <;> rfl) | (simp [*, errW_none, errW_some] <;> rfl), by repeat (first | (with_reducible first | exact HB.out | apply below_alloc | apply pw_below_drewN | apply below_drew1 | refine below_set ?_ GE171.out | refine below_set ?_ GE183.out) | exact HB.out)⟩
end Go.Proofs.YteondnhokgmakaaGreatDoor.XR


namespace Go.Proofs.YteondnhokgmakaaGreatDoor.XR
open Go.Proofs.YteondnhokgmakaaGreatDoor.XC Go.Proofs.YteondnhokgmakaaGreatDoor.XM
open Go.RowKit Go.Proofs.YteondnhokgmakaaGreatDoorW.PrintWords Go.Proofs.YteondnhokgmakaaGreatDoorW.PrintLast Go.Proofs.YteondnhokgmakaaGreatDoorW.PrintMore
attribute [local go_sem] max2_int min2_int max_two min_two max_three min_three max_four min_four
set_option linter.unusedVariables false
set_option linter.unusedSimpArgs false
end Go.Proofs.YteondnhokgmakaaGreatDoor.XR


namespace Go.Proofs.YteondnhokgmakaaGreatDoor.E
open Go.RowKit Go.Proofs.YteondnhokgmakaaGreatDoorW.PrintWords Go.Proofs.YteondnhokgmakaaGreatDoorW.PrintLast Go.Proofs.YteondnhokgmakaaGreatDoor.XC Go.Proofs.YteondnhokgmakaaGreatDoor.XR
set_option linter.unusedVariables false
set_option linter.unusedSimpArgs false
def cutR : List UInt8 → ByteArray → List ByteArray
  | [], last => [last]
  | c :: l, last => if c = 46 then last :: cutR l ⟨#[]⟩ else cutR l (last ++ ⟨#[c]⟩)
def starts : Nat → List UInt8 → List Int
  | _, [] => []
  | i, c :: l => if c = 46 then ((i + 1 : Nat) : Int) :: starts (i + 1) l else starts (i + 1) l
theorem data_append (a b : ByteArray) : (a ++ b).data.toList = a.data.toList ++ b.data.toList := by simp [ByteArray.append_eq, ByteArray.data_append]
theorem cutOn_at (c x : UInt8) (l : List UInt8) : Pt.cutOn c (x :: l) = if x = c then [] :: Pt.cutOn c l else match Pt.cutOn c l with
    | [] => [[x]]
    | p :: r => (x :: p) :: r := by rw [Pt.cutOn]; rfl
theorem cutR_map : ∀ (l : List UInt8) (last : ByteArray), (cutR l last).map (·.data.toList) = match Pt.cutOn 46 l with | [] => [last.data.toList] | p :: r => (last.data.toList ++ p) :: r
  | [], last => by simp [cutR, Pt.cutOn]
  | c :: l, last => by
    unfold cutR
    obtain ⟨p, r, e⟩ := Pt.cutOn_cons 46 l
    by_cases h : c = 46
    · rw [if_pos h, List.map_cons, cutR_map l ⟨#[]⟩, cutOn_at, if_pos h, e]; simp
    · rw [if_neg h, cutR_map l _, cutOn_at, if_neg h, e]
      simp only [data_append, List.append_assoc]; rfl
theorem cutR_zero (l : List UInt8) : (cutR l ⟨#[]⟩).map (·.data.toList) = Pt.cutOn 46 l := by
  rw [cutR_map]
  obtain ⟨p, r, e⟩ := Pt.cutOn_cons 46 l
  rw [e]; rfl
theorem starts_len : ∀ (l : List UInt8) (last : ByteArray) (i : Nat), (starts i l).length + 1 = (cutR l last).length
  | [], last, i => rfl
  | c :: l, last, i => by
    unfold starts cutR
    split
    · rw [List.length_cons, List.length_cons, starts_len l ⟨#[]⟩ (i + 1)]
    · exact starts_len l _ (i + 1)
theorem extract_one (s : ByteArray) (i : Nat) (h : i < s.data.toList.length) : s.extract i (i + 1) = ⟨#[s.data.toList[i]'h]⟩ := by
  apply ByteArray.ext
  rw [ByteArray.data_extract]
  apply Array.ext'
  rw [Array.toList_extract]
  simp only [List.extract_eq_take_drop, show i + 1 - i = 1 by omega]
  rw [List.drop_eq_getElem_cons h]; rfl
theorem parts_loop (s : ByteArray) (hs : s.size ≤ 253) : ∀ (m k i : Nat) (pre : List ByteArray) (last : ByteArray) (at_ : List Int), i + m = s.size → m < k → pre.length ≤ i → at_.length ≤ i + 1 → last.size ≤ i →
    sallyportref06_parts.l0 k s (pre ++ [last]) at_ (i : Int) = some (pre ++ cutR (s.data.toList.drop i) last, at_ ++ starts i (s.data.toList.drop i))
  | 0, k + 1, i, pre, last, at_, hi, hk, hp, ha, hl => by
    unfold sallyportref06_parts.l0
    rw [if_neg (by omega), List.drop_of_length_le (by rw [len_size]; omega)]
    simp [cutR, starts]
  | m + 1, k + 1, i, pre, last, at_, hi, hk, hp, ha, hl => by
    have hlt : i < s.data.toList.length := by rw [len_size]; omega
    have hw : wrap64 ((i : Int) + 1) = ((i + 1 : Nat) : Int) := by rw [wrap64_id _ (by omega) (by omega)]; omega
    have hx := extract_one s i hlt
    unfold sallyportref06_parts.l0
    rw [if_pos (by omega), if_pos (by omega), bt_get s i hlt, hw, List.drop_eq_getElem_cons hlt]
    simp only [Int.toNat_natCast]
    rw [hx]
    generalize s.data.toList[i] = c
    unfold cutR starts
    by_cases h : c = 46
    · subst h
      rw [if_pos (by decide), if_pos rfl, if_pos rfl, if_pos (by rw [List.length_append, List.length_singleton]; omega), if_pos (by omega), parts_loop s hs m k (i + 1) (pre ++ [last]) ⟨#[]⟩ (at_ ++ [((i + 1 : Nat) : Int)]) (by omega) (by omega) (by rw [List.length_append, List.length_singleton]; omega) (by rw [List.length_append, List.length_singleton]; omega) (by show 0 ≤ _; omega)]
      simp
    · have hc : ¬ (c.toNat : Int) = 46 := fun e => h (UInt8.toNat_inj.1 (show c.toNat = (46 : UInt8).toNat by show c.toNat = 46; omega))
      have hn : wrap64 (((pre ++ [last]).length : Int) - 1) = (pre.length : Int) := by rw [List.length_append, List.length_singleton, wrap64_id _ (by omega) (by omega)]; omega
      have hrd : rdOf ByteArray.empty (pre ++ [last]) (pre.length : Int) = last := by
        unfold rdOf; rw [Int.toNat_natCast, List.getD_eq_getElem?_getD, List.getElem?_append_right (Nat.le_refl _)]; simp
      have hset : (pre ++ [last]).set pre.length (last ++ ⟨#[c]⟩) = pre ++ [last ++ ⟨#[c]⟩] := by
        rw [List.set_append_right _ _ (Nat.le_refl _)]; simp
      have hsz : (last ++ (⟨#[c]⟩ : ByteArray)).size = last.size + 1 := by rw [ByteArray.size_append]; rfl
      rw [if_neg hc, if_neg h, if_neg h, hn, if_pos (by omega), if_pos (by rw [List.length_append, List.length_singleton]; omega), if_pos (by omega), if_pos (by omega), hrd, if_pos (by show last.size + 1 ≤ _; omega)]
      rw [Int.toNat_natCast, hset, parts_loop s hs m k (i + 1) pre (last ++ ⟨#[c]⟩) at_ (by omega) (by omega) (by omega) (by omega) (by rw [hsz]; omega)]
theorem parts_f (s : ByteArray) (hs : s.size ≤ 253) (k : Nat) (hk : s.size < k) : sallyportref06_parts.f k s = some (cutR s.data.toList ⟨#[]⟩, 0 :: starts 0 s.data.toList) := by
  unfold sallyportref06_parts.f
  have := parts_loop s hs s.size k 0 [] ⟨#[]⟩ [0] (by omega) hk (by simp) (by simp) (by show 0 ≤ 0; omega)
  rw [List.drop_zero] at this
  exact this
theorem fault_f (a c : Int) : ∃ r, sallyportref06_fault.f a c = some r ∧ r.1 = 1 := ⟨_, rfl, rfl⟩
def digs (p : ByteArray) : Bool := p.data.toList.all digR
theorem pn_l1 (low : ByteArray) (L : List ByteArray) (at_ : List Int) (last : ByteArray) (h0 : 0 < L.length) (h1 : L.length ≤ 1000) (hA : at_.length = L.length) (hs : last.size ≤ 253) : ∀ (m k i : Nat) (b : Bool), i + m = last.size → m < k →
    ∃ r, sallyportref06_ParseName.l1 k low L at_ last b (i : Int) = some r ∧ (if (b && (last.data.toList.drop i).all digR) = true then r.2.1 = 1 else r.1 = low ∧ r.2.1 = 0)
  | 0, k + 1, i, b, hi, hk => by
    unfold sallyportref06_ParseName.l1
    have hw : wrap64 ((L.length : Int) - 1) = (L.length : Int) - 1 := wrap64_id _ (by omega) (by omega)
    rw [if_neg (by omega), List.drop_of_length_le (by rw [len_size]; omega), hw]
    cases b
    · rw [if_neg (by simp)]
      exact ⟨_, rfl, by simp⟩
    · rw [if_pos rfl, if_pos (by omega), if_pos (by omega)]
      obtain ⟨r, hr, h⟩ := fault_f (rd at_ ((L.length : Int) - 1)) 63
      rw [hr, Option.bind_some]
      exact ⟨_, rfl, by simpa using h⟩
  | m + 1, k + 1, i, b, hi, hk => by
    have hlt : i < last.data.toList.length := by rw [len_size]; omega
    have hw : wrap64 ((i : Int) + 1) = ((i + 1 : Nat) : Int) := by rw [wrap64_id _ (by omega) (by omega)]; omega
    unfold sallyportref06_ParseName.l1
    rw [if_pos (by omega), hw]
    cases b
    · rw [if_neg (by simp)]
      have := pn_l1 low L at_ last h0 h1 hA hs m k (i + 1) false (by omega) (by omega)
      simpa using this
    · rw [if_pos rfl, if_pos (by omega), bt_get last i hlt, digit_f, Option.bind_some, List.drop_eq_getElem_cons hlt, List.all_cons]
      generalize last.data.toList[i] = c
      have := pn_l1 low L at_ last h0 h1 hA hs m k (i + 1) (digR c) (by omega) (by omega)
      simpa using this
theorem rdOf_at (l : List ByteArray) (k : Nat) (hk : k < l.length) : rdOf ByteArray.empty l (k : Int) = l[k] := by
  unfold rdOf
  rw [Int.toNat_natCast, List.getD_eq_getElem?_getD, List.getElem?_eq_getElem hk]; rfl
theorem pn_l0 (low : ByteArray) (L : List ByteArray) (at_ : List Int) (h0 : 0 < L.length) (h1 : L.length ≤ 1000) (hA : at_.length = L.length) (hs : ∀ p ∈ L, p.size ≤ 253) : ∀ (m k j : Nat), j + m = L.length → m + 300 < k →
    ∃ r, sallyportref06_ParseName.l0 k low L at_ (j : Int) = some r ∧ (if ((L.drop j).all (fun p => labR p.data.toList) && !digs (L.getLastD ⟨#[]⟩)) = true then r.1 = low ∧ r.2.1 = 0 else r.2.1 = 1)
  | 0, k + 1, j, hj, hk => by
    unfold sallyportref06_ParseName.l0
    have hw : wrap64 ((L.length : Int) - 1) = ((L.length - 1 : Nat) : Int) := by rw [wrap64_id _ (by omega) (by omega)]; omega
    rw [if_neg (by omega), List.drop_of_length_le (by omega), hw, if_pos (by omega), if_pos (by omega), rdOf_at L _ (by omega)]
    have hl : L.getLastD ⟨#[]⟩ = L[L.length - 1] := by
      rw [List.getLastD_eq_getLast?, List.getLast?_eq_getElem?, List.getElem?_eq_getElem (by omega)]; rfl
    rw [hl]
    obtain ⟨r, hr, h⟩ := pn_l1 low L at_ L[L.length - 1] h0 h1 hA (hs _ (List.getElem_mem _)) L[L.length - 1].size k 0 true (by omega) (by have := hs _ (List.getElem_mem (show L.length - 1 < L.length by omega)); omega)
    refine ⟨r, hr, ?_⟩
    rw [List.drop_zero, Bool.true_and] at h
    unfold digs
    cases hd : L[L.length - 1].data.toList.all digR
    · rw [hd] at h; simpa using h
    · rw [hd] at h; simpa using h
  | m + 1, k + 1, j, hj, hk => by
    have hlt : j < L.length := by omega
    have hw : wrap64 ((j : Int) + 1) = ((j + 1 : Nat) : Int) := by rw [wrap64_id _ (by omega) (by omega)]; omega
    have hp := hs _ (List.getElem_mem hlt)
    unfold sallyportref06_ParseName.l0
    rw [if_pos (by omega), if_pos (by omega), rdOf_at L j hlt, List.drop_eq_getElem_cons hlt, List.all_cons, label_f _ (by omega) k (by omega), Option.bind_some, hw]
    cases hb : labR L[j].data.toList
    · rw [if_neg (by simp), if_pos (by omega)]
      obtain ⟨r, hr, h⟩ := fault_f (rd at_ (j : Int)) 61
      rw [hr, Option.bind_some]
      exact ⟨_, rfl, by simpa using h⟩
    · rw [if_pos rfl, Bool.true_and]
      exact pn_l0 low L at_ h0 h1 hA hs m k (j + 1) (by omega) (by omega)
theorem cutOn_low : ∀ l : List UInt8, Pt.cutOn 46 (l.map Lib.lowerB) = (Pt.cutOn 46 l).map (List.map Lib.lowerB)
  | [] => rfl
  | c :: l => by
    have ih := cutOn_low l
    obtain ⟨p, r, e⟩ := Pt.cutOn_cons 46 l
    rw [List.map_cons, cutOn_at, cutOn_at]
    by_cases h : c = 46
    · rw [if_pos h, if_pos ((dot_low c).2 h), ih]; rfl
    · rw [if_neg h, if_neg (fun h2 => h ((dot_low c).1 h2)), ih, e]; rfl
theorem getLastD_map {α β : Type} (f : α → β) (l : List α) (d : α) (d' : β) (h : l ≠ []) : (l.map f).getLastD d' = f (l.getLastD d) := by
  rw [List.getLastD_eq_getLast?, List.getLastD_eq_getLast?, List.getLast?_map]
  cases hq : l.getLast? with
  | none => exact absurd (List.getLast?_eq_none_iff.1 hq) h
  | some x => rfl
theorem low_size (s : ByteArray) : (⟨(Lib.toLowerA s.data.toList).toArray⟩ : ByteArray).size = s.size := by
  show (Lib.toLowerA s.data.toList).toArray.size = _
  rw [List.size_toArray, Lib.toLowerA, List.length_map, Array.length_toList]; rfl
theorem refCheck_f (a b c d : Int) (n : ByteArray) (hn : n.size ≤ 281474976710656) : sallyportref06_Check.f 1000 a b c d n = some (checkB a b c d n) := by
  unfold sallyportref06_Check.f checkB
  have htl : n.toList = n.data.toList := ByteArray.toList_eq n
  by_cases h0 : n.size = 0
  · have : n.toList = [] := by rw [htl]; exact List.eq_nil_of_length_eq_zero (by rw [len_size]; exact h0)
    rw [if_pos this, if_pos h0]
  · have hne : ¬ n.toList = [] := fun e => h0 (by rw [← len_size, ← htl, e]; rfl)
    rw [if_neg hne, if_neg h0]
    unfold sallyportref06_ParseName.f pnRes
    by_cases h253 : 253 < n.size
    · obtain ⟨r, hr, h⟩ := fault_f 253 3
      rw [if_pos (by omega), if_pos h253, hr, Option.bind_some, Option.bind_some]
      dsimp only
      rw [h, if_neg (by decide)]
    · rw [if_neg (by omega), if_neg h253]
      have hlow : E.Lower.f n = some ⟨(Lib.toLowerA n.data.toList).toArray⟩ := by unfold E.Lower.f; rw [if_pos hn]
      rw [hlow, Option.bind_some]
      have hls := low_size n
      have hll : (⟨(Lib.toLowerA n.data.toList).toArray⟩ : ByteArray).data.toList = n.data.toList.map Lib.lowerB := by show (Lib.toLowerA _).toArray.toList = _; rw [Lib.toLowerA]
      generalize hL : (⟨(Lib.toLowerA n.data.toList).toArray⟩ : ByteArray) = low at hls hll
      rw [parts_f low (by omega) 1000 (by omega), Option.bind_some]
      dsimp only
      have hmap := cutR_zero low.data.toList
      have hlen := starts_len low.data.toList ⟨#[]⟩ 0
      generalize cutR low.data.toList ⟨#[]⟩ = L at hmap hlen
      rw [hll, cutOn_low, ← parts_data] at hmap
      have hLlen : L.length = (parts n).length := by have := congrArg List.length hmap; simpa using this
      have hpl := parts_le n
      have hpp := parts_pos n
      have hsz : ∀ p ∈ L, p.size ≤ 253 := fun p hp => by
        have h1 : p.data.toList ∈ L.map (·.data.toList) := List.mem_map_of_mem hp
        rw [hmap] at h1
        obtain ⟨q, hq, e⟩ := List.mem_map.1 h1
        obtain ⟨q2, hq2, rfl⟩ := List.mem_map.1 hq
        have h2 := size_mem _ q2 hq2
        rw [sumAt_parts] at h2
        have h3 := congrArg List.length e
        rw [List.length_map, len_size, len_size] at h3
        omega
      obtain ⟨r, hr, h⟩ := pn_l0 low L (0 :: starts 0 low.data.toList) (by omega) (by omega) (by rw [List.length_cons]; omega) hsz L.length 1000 0 (by omega) (by omega)
      have hr' : sallyportref06_ParseName.l0 1000 low L (0 :: starts 0 low.data.toList) 0 = some r := hr
      rw [hr', Option.bind_some]
      rw [List.drop_zero] at h
      have hall : L.all (fun p => labR p.data.toList) = (parts n).all (fun p => lblOk p.data.toList) := by
        have e1 : L.all (fun p => labR p.data.toList) = (L.map (·.data.toList)).all labR := by rw [List.all_map]; rfl
        rw [e1, hmap, List.map_map, List.all_map]
        congr 1
        funext p
        exact labR_low _
      have hlast : digs (L.getLastD ⟨#[]⟩) = onlyZ [2] ((parts n).getLastD ⟨#[]⟩).data.toList := by
        have hLn : L ≠ [] := fun e => by rw [e] at hLlen; simp at hLlen; omega
        have hPn : parts n ≠ [] := fun e => by rw [e] at hpp; simp at hpp
        have e1 := getLastD_map (·.data.toList) L ⟨#[]⟩ [] hLn
        have e2 := getLastD_map (fun p : ByteArray => p.data.toList.map Lib.lowerB) (parts n) ⟨#[]⟩ [] hPn
        have e3 : (L.map (·.data.toList)) = (parts n).map (fun p : ByteArray => p.data.toList.map Lib.lowerB) := by rw [hmap, List.map_map]; rfl
        rw [e3, e2] at e1
        unfold digs onlyZ
        rw [← e1, List.all_map]
        congr 1
        funext x
        exact digR_low x
      rw [hall, hlast] at h
      cases hbad : badAt 0 (parts n) with
      | some x =>
        have : (parts n).all (fun p => lblOk p.data.toList) = false := by
          cases hq : (parts n).all (fun p => lblOk p.data.toList)
          · rfl
          · have := (badAt_none (parts n) 0).2 (fun p hp => List.all_eq_true.1 hq p hp)
            rw [this] at hbad; cases hbad
        rw [this, Bool.false_and, if_neg (by simp)] at h
        rw [h, if_neg (by decide)]
      | none =>
        have : (parts n).all (fun p => lblOk p.data.toList) = true := List.all_eq_true.2 (fun p hp => (badAt_none (parts n) 0).1 hbad p hp)
        rw [this, Bool.true_and] at h
        dsimp only
        cases ho : onlyZ [2] ((parts n).getLastD ⟨#[]⟩).data.toList
        · rw [ho] at h
          rw [if_pos (by rfl)] at h
          rw [h.1, h.2, if_pos rfl, if_neg Bool.false_ne_true]
          by_cases e : low.toList = n.toList
          · rw [if_pos e]
            show _ = some (low.toList == n.toList && _)
            rw [beq_iff_eq.2 e, Bool.true_and]
          · rw [if_neg e]
            show _ = some (low.toList == n.toList && _)
            rw [beq_eq_false_iff_ne.2 e, Bool.false_and]
        · rw [ho] at h
          rw [if_neg (by simp)] at h
          rw [h, if_neg (by decide), if_pos rfl]
def refCheck.f (a b c d : Int) (n : ByteArray) : Option Bool := if n.size ≤ 281474976710656 then some (checkB a b c d n) else none
theorem refCheck.calls (a b c d : Int) (n : ByteArray) (r : Bool) (w : World) (hS_ : StdW w) (h : refCheck.f a b c d n = some r) :
    Calls Tryz.prog 31 #[.agg #[.int .u8 a, .int .u8 b, .int .u8 c, .int .u8 d, .string n]] w fun e w' => e = .returned (.bool r) ∧ Below w.heap.size w w' := by
  unfold refCheck.f at h
  split at h
  · rename_i hc
    rw [← refCheck_f a b c d n hc] at h
    exact sallyportref06_Check.calls 1000 a b c d n r w hS_ h
  · cases h
end Go.Proofs.YteondnhokgmakaaGreatDoor.E


namespace Go.Proofs.YteondnhokgmakaaGreatDoor.E
open Go.RowKit Go.Proofs.YteondnhokgmakaaGreatDoorW.PrintWords Go.Proofs.YteondnhokgmakaaGreatDoorW.PrintLast Go.Proofs.YteondnhokgmakaaGreatDoor.XC
set_option linter.unusedVariables false
set_option linter.unusedSimpArgs false
def DestT : Type := Int × Int × Int × Int × ByteArray × Int
def pdRes (s : ByteArray) : Option DestT :=
  if 259 < s.size then none else if Lib.lastIndexByte s 58 < 0 then none else
    match hpRes (s.extract 0 (Lib.lastIndexByte s 58).toNat) with
    | .inl _ => none
    | .inr (l, n) => match ppoRes (s.extract ((Lib.lastIndexByte s 58).toNat + 1) s.size) with
      | none => none
      | some p => some (l.getD 0 0, l.getD 1 0, l.getD 2 0, l.getD 3 0, n, p)
theorem data_bang (s : ByteArray) (j : Nat) : s.data[j]! = s.data.toList.getD j 0 := by
  rw [Array.getElem!_eq_getD, Array.getD_eq_getD_getElem?, List.getD_eq_getElem?_getD, Array.getElem?_toList]; rfl
theorem getD_mid (h t : List UInt8) (c : UInt8) : (h ++ c :: t).getD h.length 0 = c := by
  rw [List.getD_eq_getElem?_getD, List.getElem?_append_right (Nat.le_refl _)]; simp
theorem getD_rest (h t : List UInt8) (c : UInt8) (j : Nat) (h1 : h.length < j) (h2 : j < (h ++ c :: t).length) : (h ++ c :: t).getD j 0 ∈ t := by
  obtain ⟨m, rfl⟩ : ∃ m, j = h.length + 1 + m := ⟨j - h.length - 1, by omega⟩
  rw [List.length_append, List.length_cons] at h2
  have hm : m < t.length := by omega
  rw [List.getD_eq_getElem?_getD, List.getElem?_append_right (by omega), show h.length + 1 + m - h.length = m + 1 by omega, List.getElem?_cons_succ, List.getElem?_eq_getElem hm]
  exact List.getElem_mem hm
theorem last_split (s : ByteArray) (h t : List UInt8) (hl : s.data.toList = h ++ 58 :: t) (hn : (58 : UInt8) ∉ t) : Lib.lastIndexByte s 58 = (h.length : Int) := by
  have hz : s.size = h.length + 1 + t.length := by rw [Lib.size_eq, hl, List.length_append, List.length_cons]; omega
  have hmid : ((s.data[h.length]!).toNat : Int) = 58 := by rw [data_bang, hl, getD_mid]; rfl
  rcases Lib.lastIndexByte_spec s 58 with ⟨_, h2⟩ | ⟨i, hi, e, hc, h2⟩
  · exact absurd hmid (h2 h.length (by omega))
  · rw [e]
    rcases Nat.lt_trichotomy i h.length with hlt | heq | hgt
    · exact absurd hmid (h2 h.length hlt (by omega))
    · rw [heq]
    · exfalso
      rw [data_bang, hl] at hc
      have hm := getD_rest h t 58 i hgt (by rw [List.length_append, List.length_cons]; omega)
      have : (h ++ 58 :: t).getD i 0 = 58 := UInt8.toNat_inj.1 (by show _ = 58; omega)
      rw [this] at hm
      exact hn hm
theorem last_of (s : ByteArray) (h0 : 0 ≤ Lib.lastIndexByte s 58) : ∃ h t : List UInt8, s.data.toList = h ++ 58 :: t ∧ (58 : UInt8) ∉ t := by
  rcases Lib.lastIndexByte_spec s 58 with ⟨e, _⟩ | ⟨i, hi, e, hc, h2⟩
  · rw [e] at h0; exact absurd h0 (by decide)
  · have hl : i < s.data.toList.length := by rw [← Lib.size_eq]; exact hi
    have h58 : s.data.toList[i] = 58 := by
      rw [data_bang, List.getD_eq_getElem?_getD, List.getElem?_eq_getElem hl, Option.getD_some] at hc
      exact UInt8.toNat_inj.1 (by show _ = 58; omega)
    refine ⟨s.data.toList.take i, s.data.toList.drop (i + 1), ?_, ?_⟩
    · rw [← h58, ← List.drop_eq_getElem_cons hl, List.take_append_drop]
    · intro hm
      obtain ⟨j, hj, ej⟩ := List.mem_iff_getElem.1 hm
      rw [List.getElem_drop] at ej
      rw [List.length_drop] at hj
      have := h2 (i + 1 + j) (by omega) (by rw [Lib.size_eq]; omega)
      apply this
      rw [data_bang, List.getD_eq_getElem?_getD, List.getElem?_eq_getElem (by omega), Option.getD_some, ej]; rfl
theorem extract_head (s : ByteArray) (h t : List UInt8) (hl : s.data.toList = h ++ t) : s.extract 0 h.length = ⟨h.toArray⟩ := by
  apply data_inj
  rw [ByteArray.data_extract, Array.toList_extract, hl]
  simp [List.extract]
theorem extract_tail (s : ByteArray) (h t : List UInt8) (hl : s.data.toList = h ++ 58 :: t) : s.extract (h.length + 1) s.size = ⟨t.toArray⟩ := by
  have hz : s.size = h.length + 1 + t.length := by rw [Lib.size_eq, hl, List.length_append, List.length_cons]; omega
  apply data_inj
  rw [ByteArray.data_extract, Array.toList_extract, hl, hz]
  have e : h ++ 58 :: t = (h ++ [58]) ++ t := by simp
  rw [e]
  simp only [List.extract]
  rw [show h.length + 1 = (h ++ [58]).length by simp, List.drop_left, Nat.add_sub_cancel_left, List.take_length]
theorem pdRes_at (s : ByteArray) (h t : List UInt8) (hl : s.data.toList = h ++ 58 :: t) (hn : (58 : UInt8) ∉ t) (hz : s.size ≤ 259) :
    pdRes s = match hpRes ⟨h.toArray⟩ with
      | .inl _ => none
      | .inr (l, n) => match ppoRes ⟨t.toArray⟩ with
        | none => none
        | some p => some (l.getD 0 0, l.getD 1 0, l.getD 2 0, l.getD 3 0, n, p) := by
  unfold pdRes
  rw [if_neg (by omega), last_split s h t hl hn, if_neg (by omega), Int.toNat_natCast, extract_head s h (58 :: t) hl, extract_tail s h t hl]
theorem itoa_noc (n : Int) (h : 0 ≤ n) : (58 : UInt8) ∉ Lib.itoa n := fun hm => by
  have := (itoa_digs n h 58 hm).2
  revert this; decide
theorem ppo_itoa (po : Int) (h1 : 1 ≤ po) (h2 : po ≤ 65535) : ppoRes ⟨(Lib.itoa po).toArray⟩ = some po := by
  have hp := numP_itoa po (by omega) (by omega)
  have hn := num_itoa po 65535 (by omega) h2 (by omega)
  unfold ppoRes
  have e : (⟨(Lib.itoa po).toArray⟩ : ByteArray).data.toList = Lib.itoa po := rfl
  rw [e, hp.2, if_pos ⟨hn, by omega⟩]
theorem ppo_back (t : List UInt8) (po : Int) (h : ppoRes ⟨t.toArray⟩ = some po) : t = Lib.itoa po ∧ 1 ≤ po ∧ po ≤ 65535 := by
  unfold ppoRes at h
  split at h
  · rename_i hc
    have e : (⟨t.toArray⟩ : ByteArray).data.toList = t := rfl
    rw [e] at hc h
    obtain ⟨b1, b2, b3⟩ := num_back _ _ hc.1
    cases h
    exact ⟨b1.symm, by have := hc.2; omega, b3⟩
  · cases h
def dp (c : UInt8) : Bool := ([2, 1] : List Int).contains (kindZ (c.toNat : Int))
theorem dp_low (c : UInt8) (h : dp c = true) : Lib.lowerB c = c := by
  have hh : ∀ n : Fin 256, dp (UInt8.ofNat n.1) = true → Lib.lowerB (UInt8.ofNat n.1) = UInt8.ofNat n.1 := by decide +kernel
  have := hh ⟨c.toNat, c.toNat_lt⟩
  simp only [UInt8.ofNat_toNat] at this
  exact this h
theorem low_low (c : UInt8) : Lib.lowerB (Lib.lowerB c) = Lib.lowerB c := by
  have hh : ∀ n : Fin 256, Lib.lowerB (Lib.lowerB (UInt8.ofNat n.1)) = Lib.lowerB (UInt8.ofNat n.1) := by decide +kernel
  have := hh ⟨c.toNat, c.toNat_lt⟩
  simp only [UInt8.ofNat_toNat] at this
  exact this
theorem kind_low (ks : List Int) (hk : ks = [2, 3, 4] ∨ ks = [2] ∨ ks = [2, 1]) (c : UInt8) : ks.contains (kindZ ((Lib.lowerB c).toNat : Int)) = ks.contains (kindZ (c.toNat : Int)) := by
  have hh : ∀ n : Fin 256, kindZ ((Lib.lowerB (UInt8.ofNat n.1)).toNat : Int) = kindZ ((UInt8.ofNat n.1).toNat : Int) := by decide +kernel
  have := hh ⟨c.toNat, c.toNat_lt⟩
  simp only [UInt8.ofNat_toNat] at this
  rw [this]
theorem only_low (ks : List Int) (hk : ks = [2, 3, 4] ∨ ks = [2] ∨ ks = [2, 1]) (l : List UInt8) : onlyZ ks (l.map Lib.lowerB) = onlyZ ks l := by
  unfold onlyZ
  rw [List.all_map]
  congr 1
  funext c
  exact kind_low ks hk c
theorem dp_dig (c : UInt8) (h : 48 ≤ c.toNat ∧ c.toNat ≤ 57) : dp c = true := by
  have hh : ∀ n : Fin 256, 48 ≤ n.1 ∧ n.1 ≤ 57 → dp (UInt8.ofNat n.1) = true := by decide +kernel
  have := hh ⟨c.toNat, c.toNat_lt⟩ h
  simp only [UInt8.ofNat_toNat] at this
  exact this
theorem itoa_dp (n : Int) (h : 0 ≤ n) : (Lib.itoa n).all dp = true := List.all_eq_true.2 fun c hc => dp_dig c (itoa_digs n h c hc)
theorem addr_dp (a b c d : Int) (ha : 0 ≤ a) (hb : 0 ≤ b) (hc : 0 ≤ c) (hd : 0 ≤ d) : (addrS a b c d).data.toList.all dp = true := by
  rw [addrS_list]
  simp only [List.all_append, List.all_cons, itoa_dp _ ha, itoa_dp _ hb, itoa_dp _ hc, itoa_dp _ hd, Bool.true_and, Bool.and_true]
  decide
theorem dp_map (l : List UInt8) (h : l.all dp = true) : l.map Lib.lowerB = l := by
  rw [List.all_eq_true] at h
  exact (List.map_congr_left fun c hc => dp_low c (h c hc)).trans (List.map_id _)
theorem hp_addr (a b c d : Int) (ha : 0 ≤ a ∧ a ≤ 255) (hb : 0 ≤ b ∧ b ≤ 255) (hc : 0 ≤ c ∧ c ≤ 255) (hd : 0 ≤ d ∧ d ≤ 255) : hpRes (addrS a b c d) = .inr ([a, b, c, d], ⟨#[]⟩) := by
  have hz := addrS_size a b c d ha.1 ha.2 hb.1 hb.2 hc.1 hc.2 hd.1 hd.2
  have h0 : (addrS a b c d).size ≠ 0 := by
    rw [Lib.size_eq, addrS_list]
    simp only [List.length_append, List.length_cons]
    omega
  unfold hpRes
  rw [if_neg (by omega), if_neg h0, if_pos (show onlyZ [2, 1] _ = true from addr_dp a b c d ha.1 hb.1 hc.1 hd.1), paRes_addrS a b c d ha.1 ha.2 hb.1 hb.2 hc.1 hc.2 hd.1 hd.2]
theorem pn_parts (n t : ByteArray) (h : pnRes n = .inr t) : n.size ≤ 253 ∧ (∀ p ∈ parts n, lblOk p.data.toList = true) ∧ onlyZ [2] ((parts n).getLastD ⟨#[]⟩).data.toList = false ∧ t = ⟨(Lib.toLowerA n.data.toList).toArray⟩ := by
  unfold pnRes at h
  split at h
  · cases h
  · rename_i hl
    split at h
    · cases h
    · rename_i hb
      split at h
      · cases h
      · rename_i ho
        exact ⟨by omega, (badAt_none _ _).1 hb, by simpa using ho, (Sum.inr.inj h).symm⟩
theorem pn_mk (n : ByteArray) (h1 : n.size ≤ 253) (h2 : ∀ p ∈ parts n, lblOk p.data.toList = true) (h3 : onlyZ [2] ((parts n).getLastD ⟨#[]⟩).data.toList = false) : pnRes n = .inr ⟨(Lib.toLowerA n.data.toList).toArray⟩ := by
  unfold pnRes
  rw [if_neg (by omega), (badAt_none _ 0).2 h2, h3]
  rfl
theorem getLastD_mem (l : List ByteArray) (h : 0 < l.length) : l.getLastD ⟨#[]⟩ ∈ l := by
  cases l with
  | nil => simp at h
  | cons x r => rw [List.getLastD_eq_getLast?, List.getLast?_eq_some_getLast (List.cons_ne_nil _ _)]; exact List.getLast_mem _
theorem dp_two (c : UInt8) (h : ([2, 1] : List Int).contains (kindZ (c.toNat : Int)) = true) (hne : c ≠ 46) : ([2] : List Int).contains (kindZ (c.toNat : Int)) = true := by
  have hh : ∀ n : Fin 256, ([2, 1] : List Int).contains (kindZ ((UInt8.ofNat n.1).toNat : Int)) = true → UInt8.ofNat n.1 ≠ 46 → ([2] : List Int).contains (kindZ ((UInt8.ofNat n.1).toNat : Int)) = true := by decide +kernel
  have := hh ⟨c.toNat, c.toNat_lt⟩
  simp only [UInt8.ofNat_toNat] at this
  exact this h hne
theorem mem_join (b : UInt8) : ∀ (L : List (List UInt8)) (p : List UInt8), p ∈ L → ∀ c ∈ p, c ∈ [b].intercalate L
  | [], p, h, c, _ => by cases h
  | [x], p, h, c, hc => by
    obtain rfl := List.mem_singleton.1 h
    simpa [List.intercalate] using hc
  | x :: y :: r, p, h, c, hc => by
    have e : [b].intercalate (x :: y :: r) = x ++ b :: [b].intercalate (y :: r) := by simp [List.intercalate, List.intersperse]
    rw [e, List.mem_append, List.mem_cons]
    rcases List.mem_cons.1 h with rfl | h
    · exact .inl hc
    · exact .inr (.inr (mem_join b (y :: r) p h c hc))
theorem pn_not_dp (n t : ByteArray) (h : pnRes n = .inr t) : onlyZ [2, 1] n.data.toList = false := by
  obtain ⟨h1, h2, h3, h4⟩ := pn_parts n t h
  cases ho : onlyZ [2, 1] n.data.toList
  · rfl
  · exfalso
    have hm := getLastD_mem (parts n) (parts_pos n)
    have hp := h2 _ hm
    have hmd : ((parts n).getLastD ⟨#[]⟩).data.toList ∈ Pt.cutOn 46 n.data.toList := by rw [← parts_data]; exact List.mem_map.2 ⟨_, hm, rfl⟩
    have hno := Pt.cutOn_not_mem 46 _ _ hmd
    have hj := Pt.join_cutOn 46 n.data.toList
    have hall : onlyZ [2] ((parts n).getLastD ⟨#[]⟩).data.toList = true := by
      unfold onlyZ at ho ⊢
      rw [List.all_eq_true] at ho ⊢
      intro c hc
      have hcn : c ∈ n.data.toList := by
        rw [← hj]
        exact mem_join 46 _ _ hmd c hc
      have := ho c hcn
      have hne : c ≠ 46 := fun e => hno (e ▸ hc)
      exact dp_two c this hne
    rw [hall] at h3
    cases h3
theorem lbl_low (l : List UInt8) : lblOk (l.map Lib.lowerB) = lblOk l := by
  unfold lblOk
  have h1 : (l.map Lib.lowerB).isEmpty = l.isEmpty := by cases l <;> rfl
  rw [h1, List.length_map, only_low _ (.inl rfl)]
  cases l with
  | nil => rfl
  | cons a r =>
    have h3 : ((((a :: r).map Lib.lowerB).headD 0).toNat == 45) = (((a :: r).headD 0).toNat == 45) := dash_low a
    have h4 : ((((a :: r).map Lib.lowerB).getLastD 0).toNat == 45) = (((a :: r).getLastD 0).toNat == 45) := by
      rw [List.getLastD_eq_getLast?, List.getLastD_eq_getLast?, List.getLast?_map, List.getLast?_eq_some_getLast (List.cons_ne_nil _ _)]
      exact dash_low _
    rw [h3, h4]
theorem pn_low (n : ByteArray) (t : ByteArray) (h : pnRes n = .inr t) : pnRes t = .inr t := by
  obtain ⟨h1, h2, h3, h4⟩ := pn_parts n t h
  have hd : t.data.toList = n.data.toList.map Lib.lowerB := by rw [h4]; rfl
  have hpd : (parts t).map (·.data.toList) = (parts n).map (fun p => p.data.toList.map Lib.lowerB) := by
    rw [parts_data, hd, cutOn_low, ← parts_data, List.map_map]; rfl
  have hz : t.size = n.size := by rw [Lib.size_eq, hd, List.length_map, ← Lib.size_eq]
  have hlast : ((parts t).getLastD ⟨#[]⟩).data.toList = ((parts n).getLastD ⟨#[]⟩).data.toList.map Lib.lowerB := by
    have e1 := getLastD_map (fun p : ByteArray => p.data.toList) (parts t) ⟨#[]⟩ [] (fun e => by have := parts_pos t; rw [e] at this; simp at this)
    have e2 := getLastD_map (fun p : ByteArray => p.data.toList.map Lib.lowerB) (parts n) ⟨#[]⟩ [] (fun e => by have := parts_pos n; rw [e] at this; simp at this)
    rw [← e1, hpd, e2]
  have key := pn_mk t (by omega) (fun p hp => by
    have : p.data.toList ∈ (parts t).map (·.data.toList) := List.mem_map.2 ⟨p, hp, rfl⟩
    rw [hpd] at this
    obtain ⟨q, hq, e⟩ := List.mem_map.1 this
    rw [← e, lbl_low]
    exact h2 q hq) (by rw [hlast, only_low _ (.inr (.inl rfl))]; exact h3)
  rw [key]
  congr 1
  apply data_inj
  show Lib.toLowerA t.data.toList = t.data.toList
  unfold Lib.toLowerA
  rw [hd, List.map_map]
  exact List.map_congr_left fun c _ => low_low c
theorem hp_name (n : ByteArray) (h0 : n.size ≠ 0) (h : pnRes n = .inr n) : hpRes n = .inr ([0, 0, 0, 0], n) := by
  have h1 := (pn_parts n n h).1
  unfold hpRes
  rw [if_neg (by omega), if_neg h0, pn_not_dp n n h, h]
  rfl
def okB4 (a b c d : Int) : Prop := (0 ≤ a ∧ a ≤ 255) ∧ (0 ≤ b ∧ b ≤ 255) ∧ (0 ≤ c ∧ c ≤ 255) ∧ (0 ≤ d ∧ d ≤ 255)
theorem pd_told (a b c d : Int) (n : ByteArray) (po : Int) (hb : okB4 a b c d) (hne : (printDestB a b c d n po).size ≠ 0) : pdRes (printDestB a b c d n po) = some (a, b, c, d, n, po) ∧ (printDestB a b c d n po).size ≤ 259 := by
  unfold printDestB at hne ⊢
  split at hne
  · exact absurd rfl hne
  rename_i hc
  rw [if_neg hc]
  have h1 : (printB a b c d n).size ≠ 0 := fun e => hc (.inl e)
  have h2 : 1 ≤ po := by omega
  have h3 : po ≤ 65535 := by omega
  have hil : (Lib.itoa po).length ≤ 5 := by
    unfold Lib.itoa
    rw [if_neg (by omega), Lib.decDigits_length]
    exact Num.nDigits_le 5 _ (by omega) (by decide)
  have key : ∀ (x : ByteArray) (l : List Int), x.size ≤ 253 → hpRes x = .inr (l, n) → l = [a, b, c, d] → pdRes (x ++ ⟨#[58]⟩ ++ it po) = some (a, b, c, d, n, po) ∧ (x ++ ⟨#[58]⟩ ++ it po).size ≤ 259 := by
    rintro x l hx hr rfl
    have hl : (x ++ (⟨#[58]⟩ : ByteArray) ++ it po).data.toList = x.data.toList ++ 58 :: Lib.itoa po := by
      rw [data_append, data_append, List.append_assoc]; rfl
    have hz : (x ++ (⟨#[58]⟩ : ByteArray) ++ it po).size ≤ 259 := by
      rw [Lib.size_eq, hl, List.length_append, List.length_cons, ← Lib.size_eq]; omega
    refine ⟨?_, hz⟩
    rw [pdRes_at _ _ _ hl (itoa_noc po (by omega)) hz]
    have e : (⟨x.data.toList.toArray⟩ : ByteArray) = x := rfl
    rw [e, hr]
    simp only []
    rw [ppo_itoa po h2 h3]
    rfl
  unfold printB at h1 ⊢
  split at h1
  · rename_i hck
    rw [if_pos hck]
    split at h1
    · rename_i h0
      rw [if_pos h0]
      have en : n = ⟨#[]⟩ := data_inj (List.eq_nil_of_length_eq_zero (by rw [← Lib.size_eq]; exact h0))
      have hz := addrS_size a b c d hb.1.1 hb.1.2 hb.2.1.1 hb.2.1.2 hb.2.2.1.1 hb.2.2.1.2 hb.2.2.2.1 hb.2.2.2.2
      refine key _ [a, b, c, d] (by omega) ?_ rfl
      rw [en]
      exact hp_addr a b c d hb.1 hb.2.1 hb.2.2.1 hb.2.2.2
    · rename_i h0
      rw [if_neg h0]
      unfold checkB at hck
      rw [if_neg h0] at hck
      split at hck
      · rename_i t hr
        simp only [Bool.and_eq_true, beq_iff_eq] at hck
        obtain ⟨e1, z1, z2, z3, z4⟩ := hck
        have et : t = n := data_inj (by rw [← ByteArray.toList_eq, ← ByteArray.toList_eq]; exact e1)
        subst et z1 z2 z3 z4
        exact key _ _ (pn_parts _ _ hr).1 (hp_name _ h0 hr) rfl
      · cases hck
  · exact absurd rfl h1
theorem pd_back (s : ByteArray) (a b c d : Int) (n : ByteArray) (po : Int) (h : pdRes s = some (a, b, c, d, n, po)) :
    okB4 a b c d ∧ n.size ≤ 253 ∧ printDestB a b c d n po = ⟨(Lib.toLowerA s.data.toList).toArray⟩ ∧ (printDestB a b c d n po).size ≠ 0 := by
  have hz : s.size ≤ 259 := by
    unfold pdRes at h
    split at h
    · cases h
    · omega
  have h0 : 0 ≤ Lib.lastIndexByte s 58 := by
    unfold pdRes at h
    rw [if_neg (by omega)] at h
    split at h
    · cases h
    · omega
  obtain ⟨hd, t, hl, hn⟩ := last_of s h0
  rw [pdRes_at s hd t hl hn hz] at h
  split at h
  · cases h
  rename_i l m hr
  split at h
  · cases h
  rename_i p hp
  obtain ⟨ht, hp1, hp2⟩ := ppo_back t p hp
  have h := Option.some.inj h
  have hfin : ∀ x : ByteArray, okB4 a b c d → n.size ≤ 253 → printB a b c d n = x → x.size ≠ 0 → x.data.toList = hd.map Lib.lowerB → 1 ≤ po → po ≤ 65535 → t = Lib.itoa po →
      okB4 a b c d ∧ n.size ≤ 253 ∧ printDestB a b c d n po = ⟨(Lib.toLowerA s.data.toList).toArray⟩ ∧ (printDestB a b c d n po).size ≠ 0 := by
    intro x q1 q2 q3 q4 q5 q6 q7 q8
    have e : printDestB a b c d n po = x ++ ⟨#[58]⟩ ++ it po := by
      unfold printDestB
      rw [q3, if_neg (by omega)]
    have ed : (x ++ (⟨#[58]⟩ : ByteArray) ++ it po).data.toList = hd.map Lib.lowerB ++ 58 :: Lib.itoa po := by
      rw [data_append, data_append, List.append_assoc, q5]; rfl
    rw [e]
    refine ⟨q1, q2, data_inj ?_, ?_⟩
    · rw [ed]
      show _ = Lib.toLowerA s.data.toList
      unfold Lib.toLowerA
      rw [hl, List.map_append, List.map_cons, q8, dp_map _ (itoa_dp po (by omega))]
      rfl
    · rw [Lib.size_eq, ed, List.length_append, List.length_cons]; omega
  have hh : hpRes ⟨hd.toArray⟩ = .inr (l, m) := hr
  unfold hpRes at hh
  split at hh
  · cases hh
  rename_i hs1
  split at hh
  · cases hh
  rename_i hs2
  split at hh
  · rename_i ho
    split at hh
    · cases hh
    rename_i l' hpa
    cases hh
    obtain ⟨x, y, z, w, rfl, hs, bx, by_, bz, bw⟩ := paRes_back _ _ hpa
    cases h
    have hsd : hd = (addrS x y z w).data.toList := by rw [← hs]
    refine hfin (addrS x y z w) ⟨bx, by_, bz, bw⟩ (by decide) ?_ ?_ ?_ hp1 hp2 ht
    · unfold printB checkB
      rfl
    · rw [← hs]; exact hs2
    · rw [hsd, dp_map _ (addr_dp x y z w bx.1 by_.1 bz.1 bw.1)]
  · rename_i ho
    split at hh
    · cases hh
    rename_i m' hpn
    cases hh
    cases h
    have hlow := pn_low _ _ hpn
    obtain ⟨g1, g2, g3, g4⟩ := pn_parts _ _ hpn
    have hnd : n.data.toList = hd.map Lib.lowerB := by rw [g4]; rfl
    have hnz : n.size ≠ 0 := by
      rw [Lib.size_eq, hnd, List.length_map]
      exact hs2
    have hn253 : n.size ≤ 253 := by
      rw [Lib.size_eq, hnd, List.length_map]
      exact g1
    have z8 : (0 : Int) ≤ 0 ∧ (0 : Int) ≤ 255 := by decide
    refine hfin n ⟨z8, z8, z8, z8⟩ hn253 ?_ hnz hnd hp1 hp2 ht
    unfold printB checkB
    rw [if_neg hnz, hlow]
    simp [hnz]
end Go.Proofs.YteondnhokgmakaaGreatDoor.E


namespace Go.Proofs.YteondnhokgmakaaGreatDoor.E
open Go.RowKit Go.Extern.Stop Go.Stop Go.Extern
set_option linter.unusedVariables false
set_option linter.unusedSimpArgs false
theorem As.valueOf27 (t : Addr) (w : World) : (ReflectliteValue.unpack (.iface 104 (.pointer (some t)))).run Tryz.prog w
    = .ok (.agg #[.pointer (some ⟨10, 104, none⟩), .pointer (some ⟨w.heap.size, 0, none⟩), .int .u64 150]) (w.alloc (.cells #[.pointer (some t)] 104)) := by kernel_rfl
theorem As.type27 (a : Addr) (w : World) : (ReflectliteValue.methodAny (ReflectliteValue.valueError "reflectlite.Value.Type" 0) (fun t _ _ _ => ReflectliteType.toType t) #[.agg #[.pointer (some ⟨10, 104, none⟩), .pointer (some a), .int .u64 150]]).run Tryz.prog w
    = .ok (.iface 148 (.agg #[.pointer (some ⟨10, 104, none⟩)])) w := by kernel_rfl
theorem As.methodKind (h : Value) (w : World) : (Go.method 343 148 (.agg #[h]) "Kind").run Tryz.prog w = .ok (162, h) w := by kernel_rfl
theorem As.kind27 (w : World) : ((ReflectliteType.abiMethod fun t => (fun a : Nat => Value.int IntKind.u8 (a : Int)) <$> Rtype.kind t) #[.pointer (some ⟨10, 104, none⟩)]).run Tryz.prog w = .ok (.int .u8 22) w := by kernel_rfl
theorem As.kind25 (w : World) : ((ReflectliteType.abiMethod fun t => (fun a : Nat => Value.int IntKind.u8 (a : Int)) <$> Rtype.kind t) #[.pointer (some ⟨10, 102, none⟩)]).run Tryz.prog w = .ok (.int .u8 22) w := by kernel_rfl
theorem rlm (z : Sem Value) (f : TypeId → Addr → Nat → Nat → Sem Value) (v : Value) :
    ReflectliteValue.method z f #[v] = (do match ← ReflectliteValue.parts v with | none => z | some (t, a, fl) => f t a fl (fl % 32)) := rfl
theorem As.parts27 (a : Addr) (w : World) : (ReflectliteValue.parts (.agg #[.pointer (some ⟨10, 104, none⟩), .pointer (some a), .int .u64 150])).run Tryz.prog w = .ok (some (104, a, 150)) w := by kernel_rfl
theorem As.isNil27 (a p : Addr) (W : World) (ha : W.cell? a = some (.pointer (some p))) :
    (ReflectliteValue.method (ReflectliteValue.valueError "reflectlite.Value.IsNil" 0) ReflectliteValue.isNil #[.agg #[.pointer (some ⟨10, 104, none⟩), .pointer (some a), .int .u64 150]]).run Tryz.prog W = .ok (.bool false) W := by
  rw [rlm]
  simp only [Sem.run_bind, As.parts27, Result.andThen]
  simp [ReflectliteValue.isNil, loadVar, isAgg, underlying, Tryz.underlying104, ha, Result.andThen]
theorem As.methodElem (h : Value) (w : World) : (Go.method 343 148 (.agg #[h]) "Elem").run Tryz.prog w = .ok (175, .agg #[h]) w := by kernel_rfl
theorem As.methodImplements (h : Value) (w : World) : (Go.method 343 148 (.agg #[h]) "Implements").run Tryz.prog w = .ok (176, .agg #[h]) w := by kernel_rfl
theorem As.methodAssignableTo (h : Value) (w : World) : (Go.method 343 148 (.agg #[h]) "AssignableTo").run Tryz.prog w = .ok (173, .agg #[h]) w := by kernel_rfl
theorem As.elem27 (w : World) : (ReflectliteType.method ReflectliteType.elem #[.agg #[.pointer (some ⟨10, 104, none⟩)]]).run Tryz.prog w = .ok (.iface 148 (.agg #[.pointer (some ⟨10, 102, none⟩)])) w := by kernel_rfl
theorem As.implements25 (w : World) : (ReflectliteType.relation "Implements" ReflectliteType.implements_ #[.agg #[.pointer (some ⟨10, 102, none⟩)], .iface 148 (.agg #[.pointer (some ⟨10, 56, none⟩)])]).run Tryz.prog w = .ok (.bool true) w := by kernel_rfl
theorem As.typeOf25 (v : Value) (w : World) : (ReflectliteType.typeOf #[.iface 102 v]).run Tryz.prog w = .ok (.iface 148 (.agg #[.pointer (some ⟨10, 102, none⟩)])) w := by kernel_rfl
theorem As.assignable25 (w : World) : (ReflectliteType.relation "AssignableTo" ReflectliteType.assignableTo #[.agg #[.pointer (some ⟨10, 102, none⟩)], .iface 148 (.agg #[.pointer (some ⟨10, 102, none⟩)])]).run Tryz.prog w = .ok (.bool true) w := by kernel_rfl
theorem As.valueOf25 (e : Addr) (w : World) : (ReflectliteValue.unpack (.iface 102 (.pointer (some e)))).run Tryz.prog w
    = .ok (.agg #[.pointer (some ⟨10, 102, none⟩), .pointer (some ⟨w.heap.size, 0, none⟩), .int .u64 150]) (w.alloc (.cells #[.pointer (some e)] 102)) := by kernel_rfl
theorem As.elemOf27 (w : World) : (Rtype.elem? 104).run Tryz.prog w = .ok (some 102) w := by kernel_rfl
theorem As.mk25 (p : Addr) (w : World) : (ReflectliteValue.mk 102 p ReflectliteValue.flagAddr).run Tryz.prog w = .ok (.agg #[.pointer (some ⟨10, 102, none⟩), .pointer (some p), .int .u64 406]) w := by kernel_rfl
theorem As.elemV27 (a p : Addr) (W : World) (ha : W.cell? a = some (.pointer (some p))) :
    (ReflectliteValue.method (ReflectliteValue.valueError "reflectlite.Value.Elem" 0) ReflectliteValue.elem #[.agg #[.pointer (some ⟨10, 104, none⟩), .pointer (some a), .int .u64 150]]).run Tryz.prog W
      = .ok (.agg #[.pointer (some ⟨10, 102, none⟩), .pointer (some p), .int .u64 406]) W := by
  rw [rlm]
  simp only [Sem.run_bind, As.parts27, Result.andThen]
  simp [ReflectliteValue.elem, loadVar, isAgg, underlying, Tryz.underlying104, ha, Result.andThen, As.elemOf27, As.mk25]
theorem rls (v x : Value) : ReflectliteValue.set #[v, x] = (do
    let (some (dst, a, fl), some (src, b, _)) := (← ReflectliteValue.parts v, ← ReflectliteValue.parts x)
      | unsupported (.noEntry "extern/(internal/reflectlite.Value).Set.zeroValue")
    if fl / ReflectliteValue.flagAddr % 2 == 0 then unsupported (.noEntry "extern/(internal/reflectlite.Value).Set.unaddressable")
    let val ← loadVar src b
    if ← Rtype.directlyAssignable dst src then storeVar dst a val
    else if ← Rtype.implements dst src then
      if (← Rtype.kind src) == 20 then
        match val with
        | .nilIface => unsupported (.noEntry "extern/reflectlite: a nil value of one interface type handed on as a value of another")
        | _ => storeVar dst a val
      else storeVar dst a (.iface src val)
    else panicString ("reflectlite.Set: value of type " ++ (← Rtype.spelt src) ++ " is not assignable to type " ++ (← Rtype.spelt dst))
    pure (.tuple #[])) := rfl
theorem As.parts25a (a : Addr) (w : World) : (ReflectliteValue.parts (.agg #[.pointer (some ⟨10, 102, none⟩), .pointer (some a), .int .u64 406])).run Tryz.prog w = .ok (some (102, a, 406)) w := by kernel_rfl
theorem As.parts25 (a : Addr) (w : World) : (ReflectliteValue.parts (.agg #[.pointer (some ⟨10, 102, none⟩), .pointer (some a), .int .u64 150])).run Tryz.prog w = .ok (some (102, a, 150)) w := by kernel_rfl
theorem As.direct25 (w : World) : (Rtype.directlyAssignable 102 102).run Tryz.prog w = .ok true w := by kernel_rfl
theorem As.set25 (ta b e : Addr) (old : Value) (W : World) (hb : W.cell? b = some (.pointer (some e))) (ht : W.cell? ta = some old) (hf : W.frozen? ta = false) :
    (ReflectliteValue.set #[.agg #[.pointer (some ⟨10, 102, none⟩), .pointer (some ta), .int .u64 406], .agg #[.pointer (some ⟨10, 102, none⟩), .pointer (some b), .int .u64 150]]).run Tryz.prog W
      = .ok (.tuple #[]) (W.setCell ta (.pointer (some e))) := by
  rw [rls]
  simp only [Sem.run_bind, As.parts25a, As.parts25, Result.andThen]
  simp [ReflectliteValue.flagAddr, loadVar, isAgg, underlying, Tryz.underlying102, hb, Result.andThen, As.direct25, storeVar, Value.cells, storeCells, Addr.add]
  rw [run_store Tryz.prog W ta _ _ (by rfl)]
  simp [ht, hf]
set_option maxHeartbeats 4000000 in
theorem as_hit (e t : Addr) (old : Value) (w : World) (hg : w.cell? ⟨0, 0, none⟩ = some (.iface 148 (.agg #[.pointer (some ⟨10, 56, none⟩)]))) (ht0 : w.cell? t = some old) (hf0 : w.frozen? t = false) :
    Calls Tryz.prog 66 #[.iface 102 (.pointer (some e)), .iface 104 (.pointer (some t))] w fun ev w' => ev = .returned (.bool true) ∧ w' = ((((w.alloc (.cells #[.pointer (some t)] 104)).alloc (.cells #[.pointer (some ⟨10, 104, none⟩), .pointer (some ⟨w.heap.size, 0, none⟩), .int .u64 150] 127)).alloc (.cells #[.pointer (some ⟨10, 104, none⟩), .pointer (some ⟨w.heap.size, 0, none⟩), .int .u64 150] 127)).alloc (.cells #[.pointer (some e)] 102)).setCell t (.pointer (some e)) := by
  have h6 := @run_callFunc_extern Tryz.prog 86 _ (fun args => ReflectliteValue.unpack (args.getD 0 (.tuple #[]))) Tryz.func86 (by kernel_rfl) (by kernel_rfl) (by kernel_rfl) (by kernel_rfl)
  have h7 := @run_callFunc_extern Tryz.prog 87 _ (ReflectliteValue.methodAny (ReflectliteValue.valueError "reflectlite.Value.Type" 0) (fun t _ _ _ => ReflectliteType.toType t)) Tryz.func87 (by kernel_rfl) (by kernel_rfl) (by kernel_rfl) (by kernel_rfl)
  have h8 := @run_callFunc_extern Tryz.prog 88 _ (ReflectliteValue.method (ReflectliteValue.valueError "reflectlite.Value.IsNil" 0) ReflectliteValue.isNil) Tryz.func88 (by kernel_rfl) (by kernel_rfl) (by kernel_rfl) (by kernel_rfl)
  have h27 := @run_callFunc_extern Tryz.prog 162 _ (ReflectliteType.abiMethod fun t => do pure (.int .u8 (← Rtype.kind t))) Tryz.func162 (by kernel_rfl) (by kernel_rfl) (by kernel_rfl) (by kernel_rfl)
  have h37 := @run_callFunc_extern Tryz.prog 175 _ (ReflectliteType.method ReflectliteType.elem) Tryz.func175 (by kernel_rfl) (by kernel_rfl) (by kernel_rfl) (by kernel_rfl)
  have h38 := @run_callFunc_extern Tryz.prog 176 _ (ReflectliteType.relation "Implements" ReflectliteType.implements_) Tryz.func176 (by kernel_rfl) (by kernel_rfl) (by kernel_rfl) (by kernel_rfl)
  have h10 := @run_callFunc_extern Tryz.prog 103 _ ReflectliteType.typeOf Tryz.func103 (by kernel_rfl) (by kernel_rfl) (by kernel_rfl) (by kernel_rfl)
  have h35 := @run_callFunc_extern Tryz.prog 173 _ (ReflectliteType.relation "AssignableTo" ReflectliteType.assignableTo) Tryz.func173 (by kernel_rfl) (by kernel_rfl) (by kernel_rfl) (by kernel_rfl)
  have h11 := @run_callFunc_extern Tryz.prog 104 _ (ReflectliteValue.method (ReflectliteValue.valueError "reflectlite.Value.Elem" 0) ReflectliteValue.elem) Tryz.func104 (by kernel_rfl) (by kernel_rfl) (by kernel_rfl) (by kernel_rfl)
  have h12 := @run_callFunc_extern Tryz.prog 105 _ ReflectliteValue.set Tryz.func105 (by kernel_rfl) (by kernel_rfl) (by kernel_rfl) (by kernel_rfl)
  have tO := As.typeOf25
  have mA := As.methodAssignableTo
  have a25 := As.assignable25
  have v25 := As.valueOf25
  have f6 := As.valueOf27
  have f7 := As.type27
  have mK := As.methodKind
  have mE := As.methodElem
  have mI := As.methodImplements
  have k27 := As.kind27
  have k25 := As.kind25
  have e27 := As.elem27
  have i25 := As.implements25
  have n8 := As.isNil27 ⟨w.heap.size, 0, none⟩ t ((w.alloc (.cells #[.pointer (some t)] 104)).alloc (.cells #[.pointer (some ⟨10, 104, none⟩), .pointer (some ⟨w.heap.size, 0, none⟩), .int .u64 150] 127)) (by simp)
  have hlt : 0 < w.heap.size := World.block_lt_of_cell? _ _ hg
  have hg2 : ((w.alloc (.cells #[.pointer (some t)] 104)).alloc (.cells #[.pointer (some ⟨10, 104, none⟩), .pointer (some ⟨w.heap.size, 0, none⟩), .int .u64 150] 127)).cell? ⟨0, 0, none⟩ = some (.iface 148 (.agg #[.pointer (some ⟨10, 56, none⟩)])) := by
    rw [World.cell?_alloc_lt _ _ ⟨0, 0, none⟩ (by simp), World.cell?_alloc_lt _ _ ⟨0, 0, none⟩ hlt]; exact hg
  have htl : t.block < w.heap.size := by
    rcases Nat.lt_or_ge t.block w.heap.size with h | h
    · exact h
    · simp [World.cell?, Array.getElem?_eq_none h] at ht0
  have el := As.elemV27 ⟨w.heap.size, 0, none⟩ t (((w.alloc (.cells #[.pointer (some t)] 104)).alloc (.cells #[.pointer (some ⟨10, 104, none⟩), .pointer (some ⟨w.heap.size, 0, none⟩), .int .u64 150] 127)).alloc (.cells #[.pointer (some ⟨10, 104, none⟩), .pointer (some ⟨w.heap.size, 0, none⟩), .int .u64 150] 127)) (by rw [World.cell?_alloc_lt _ _ ⟨w.heap.size, 0, none⟩ (by simp; omega)]; simp)
  have st := As.set25 t ⟨w.heap.size + 1 + 1 + 1, 0, none⟩ e old ((((w.alloc (.cells #[.pointer (some t)] 104)).alloc (.cells #[.pointer (some ⟨10, 104, none⟩), .pointer (some ⟨w.heap.size, 0, none⟩), .int .u64 150] 127)).alloc (.cells #[.pointer (some ⟨10, 104, none⟩), .pointer (some ⟨w.heap.size, 0, none⟩), .int .u64 150] 127)).alloc (.cells #[.pointer (some e)] 102))
    (by rw [World.cell?_alloc_at _ _ _ _ (by simp)]; rfl)
    (by rw [World.cell?_alloc_lt _ _ t (by simp; omega), World.cell?_alloc_lt _ _ t (by simp; omega), World.cell?_alloc_lt _ _ t (by simp; omega), World.cell?_alloc_lt _ _ t htl]; exact ht0)
    (by rw [World.frozen?_alloc_old _ _ t (by simp; omega), World.frozen?_alloc_old _ _ t (by simp; omega), World.frozen?_alloc_old _ _ t (by simp; omega), World.frozen?_alloc_old _ _ t (Nat.ne_of_lt htl)]; exact hf0)
  go_enter Tryz.func66, Tryz.ntmps66
  go_wp2
  refine wp_loop_rounds 1 ?_
  rw [rounds_succ]
  go_wp2
  go_ret
  exact ⟨rfl, rfl⟩
def EtW (w : World) : Prop := w.cell? ⟨0, 0, none⟩ = some (.iface 148 (.agg #[.pointer (some ⟨10, 56, none⟩)]))
theorem EtW.below {w w' : World} (h : EtW w) (hb : Below w.heap.size w w') : EtW w' := (hb.cell (World.block_lt_of_cell? _ _ h)).trans h
theorem as_fault (b t : Nat) (w : World) (hg : EtW w) (ht : w.cell? ⟨t, 0, none⟩ = some (.pointer none)) (hf : w.frozen? ⟨t, 0, none⟩ = false) :
    Calls Tryz.prog 66 #[.iface 102 (.pointer (some ⟨b, 0, none⟩)), .iface 104 (.pointer (some ⟨t, 0, none⟩))] w fun e w' => e = .returned (.bool true) ∧ w'.cell? ⟨t, 0, none⟩ = some (.pointer (some ⟨b, 0, none⟩)) ∧ Below t w w' := by
  refine (as_hit ⟨b, 0, none⟩ ⟨t, 0, none⟩ (.pointer none) w hg ht hf).mono ?_
  rintro e w' ⟨rfl, rfl⟩
  have hl : t < w.heap.size := World.block_lt_of_cell? _ _ ht
  refine ⟨rfl, ?_, ?_⟩
  · refine World.cell?_setCell_same _ _ _ (u := .pointer none) ?_
    rw [World.cell?_alloc_lt _ _ _ (by simp; omega), World.cell?_alloc_lt _ _ _ (by simp; omega), World.cell?_alloc_lt _ _ _ (by simp; omega), World.cell?_alloc_lt _ _ _ hl]; exact ht
  · refine Below.setCell (p := ⟨t, 0, none⟩) ?_ (show t ≤ t from Nat.le_refl _) _
    exact ((((Below.refl _ _).alloc (Nat.le_of_lt hl) _).alloc (by simp; omega) _).alloc (by simp; omega) _).alloc (by simp; omega) _
theorem as_none (t : Value) (w : World) : Calls Tryz.prog 66 #[.nilIface, t] w fun e w' => e = .returned (.bool false) ∧ w = w' := by
  go_enter Tryz.func66, Tryz.ntmps66
  go_wp2
  go_ret
  exact ⟨rfl, rfl⟩
end Go.Proofs.YteondnhokgmakaaGreatDoor.E


namespace Go.Proofs.YteondnhokgmakaaGreatDoor.E
open Go.RowKit Go.Proofs.YteondnhokgmakaaGreatDoorW.PrintWords Go.Proofs.YteondnhokgmakaaGreatDoorW.PrintLast
set_option linter.unusedVariables false
set_option linter.unusedSimpArgs false
def dC (a b c d : Int) (n : ByteArray) (po : Int) : Array Value := #[.int .u8 a, .int .u8 b, .int .u8 c, .int .u8 d, .string n, .int .i64 po]
theorem Blk.dids {w : World} {R : Nat} {T : TypeId} (h : Blk w R (dC 0 0 0 0 ⟨#[]⟩ 0) T) :
    w.cell? ⟨R, 0, none⟩ = some (.int .u8 0) ∧ w.cell? ⟨R, 1, none⟩ = some (.int .u8 0) ∧ w.cell? ⟨R, 2, none⟩ = some (.int .u8 0) ∧ w.cell? ⟨R, 3, none⟩ = some (.int .u8 0) ∧ w.cell? ⟨R, 4, none⟩ = some (.string ⟨#[]⟩) ∧ w.cell? ⟨R, 5, none⟩ = some (.int .i64 0) ∧
    w.frozen? ⟨R, 0, none⟩ = false ∧ w.frozen? ⟨R, 1, none⟩ = false ∧ w.frozen? ⟨R, 2, none⟩ = false ∧ w.frozen? ⟨R, 3, none⟩ = false ∧ w.frozen? ⟨R, 4, none⟩ = false ∧ w.frozen? ⟨R, 5, none⟩ = false ∧
    w.setCell ⟨R, 0, none⟩ (.int .u8 0) = w ∧ w.setCell ⟨R, 1, none⟩ (.int .u8 0) = w ∧ w.setCell ⟨R, 2, none⟩ (.int .u8 0) = w ∧ w.setCell ⟨R, 3, none⟩ (.int .u8 0) = w ∧ w.setCell ⟨R, 4, none⟩ (.string ⟨#[]⟩) = w ∧ w.setCell ⟨R, 5, none⟩ (.int .i64 0) = w :=
  ⟨h.cell 0 _ rfl, h.cell 1 _ rfl, h.cell 2 _ rfl, h.cell 3 _ rfl, h.cell 4 _ rfl, h.cell 5 _ rfl, h.free 0, h.free 1, h.free 2, h.free 3, h.free 4, h.free 5,
    setCell_id _ _ _ _ (h.cell 0 _ rfl), setCell_id _ _ _ _ (h.cell 1 _ rfl), setCell_id _ _ _ _ (h.cell 2 _ rfl), setCell_id _ _ _ _ (h.cell 3 _ rfl), setCell_id _ _ _ _ (h.cell 4 _ rfl), setCell_id _ _ _ _ (h.cell 5 _ rfl)⟩
theorem Blk.dix {w : World} {R : Nat} {T : TypeId} {a b c d : Int} {n : ByteArray} {po : Int} (h : Blk w R (dC a b c d n po) T) :
    w.cell? ⟨R, 0, none⟩ = some (.int .u8 a) ∧ w.cell? ⟨R, 1, none⟩ = some (.int .u8 b) ∧ w.cell? ⟨R, 2, none⟩ = some (.int .u8 c) ∧ w.cell? ⟨R, 3, none⟩ = some (.int .u8 d) ∧ w.cell? ⟨R, 4, none⟩ = some (.string n) ∧ w.cell? ⟨R, 5, none⟩ = some (.int .i64 po) ∧
    w.frozen? ⟨R, 0, none⟩ = false ∧ w.frozen? ⟨R, 1, none⟩ = false ∧ w.frozen? ⟨R, 2, none⟩ = false ∧ w.frozen? ⟨R, 3, none⟩ = false ∧ w.frozen? ⟨R, 4, none⟩ = false ∧ w.frozen? ⟨R, 5, none⟩ = false :=
  ⟨h.cell 0 _ rfl, h.cell 1 _ rfl, h.cell 2 _ rfl, h.cell 3 _ rfl, h.cell 4 _ rfl, h.cell 5 _ rfl, h.free 0, h.free 1, h.free 2, h.free 3, h.free 4, h.free 5⟩
theorem as_none' (t : Value) (w : World) : Calls Tryz.prog 66 #[.nilIface, t] w fun e w' => e = .returned (.bool false) ∧ Below w.heap.size w w' :=
  (as_none t w).mono (fun e w' ⟨h, hw⟩ => ⟨h, hw ▸ Below.refl _ _⟩)
def zDest : Value := .agg #[.int .u8 0, .int .u8 0, .int .u8 0, .int .u8 0, .string ⟨#[]⟩, .int .i64 0]
set_option maxRecDepth 100000 in
set_option maxHeartbeats 4000000 in
theorem pdest_long (s : ByteArray) (hs : 259 < s.size) (hs2 : s.size ≤ 281474976710656) (w : World) :
    Calls Tryz.prog 36 #[.string s] w fun e w' => ∃ v, e = .returned (.tuple #[zDest, v]) ∧ ErrIs w' v [(hostS, 259)] 3 ∧ Below w.heap.size w w' := by
  have HE : ∀ W, ErrIs W (.iface 30 (.int .i64 3)) [] 3 := fun W => rfl
  have HW := Lib.hid (fun W => wrong_any 259 _ [] 3 W (HE W))
  clear HE
  unfold zDest
  have hs1 : (259 : Int) < (s.size : Int) := by omega
  go_enter Tryz.func36, Tryz.ntmps36
  go_wp2_with (first | (go_at_call 63; refine (HW.out _).mono ?_; rintro e w1 ⟨v, rfl, he, hb⟩; obtain ⟨c0, c1, c2, c3, c4, c5, f0, f1, f2, f3, f4, f5, s0, s1, s2, s3, s4, s5⟩ := ((Blk.new w (dC 0 0 0 0 ⟨#[]⟩ 0) 28).below hb).dids))
  refine bodyPost_ret (v := .tuple #[.agg #[.int .u8 0, .int .u8 0, .int .u8 0, .int .u8 0, .string ⟨#[]⟩, .int .i64 0], v]) (by simp [results, Tryz.results36, go_sem, c0, c1, c2, c3, c4, c5]) rfl ⟨v, rfl, ?_, ?_⟩
  · exact he
  · exact below_then (below_alloc (Below.refl _ _) _) (below_alloc (Below.refl _ _) _).size hb
set_option maxRecDepth 100000 in
set_option maxHeartbeats 4000000 in
theorem pdest_none (s : ByteArray) (hs : s.size ≤ 259) (i : Int) (hi : i < 0) (HL : ∀ W, StdW W → Calls Tryz.prog 64 #[.string s, .int .u8 58] W fun e w' => e = .returned (.int .i64 i) ∧ Below W.heap.size W w') (w : World) (hS : StdW w) :
    Calls Tryz.prog 36 #[.string s] w fun e w' => ∃ v, e = .returned (.tuple #[zDest, v]) ∧ ErrIs w' v [(hostS, (s.size : Int))] 62 ∧ Below w.heap.size w w' := by
  have HE : ∀ W, ErrIs W (.iface 30 (.int .i64 62)) [] 62 := fun W => rfl
  have HW := Lib.hid (fun W => wrong_any (s.size : Int) _ [] 62 W (HE W))
  have HL' := Lib.hid HL
  have HS := Lib.hid hS
  clear HE HL hS
  unfold zDest
  have hs1 : (s.size : Int) ≤ 259 := by omega
  go_enter Tryz.func36, Tryz.ntmps36
  go_wp2_with (first | (go_at_call 64; refine (HL'.out _ (StdW.below HS.out (below_alloc (Below.refl _ _) _))).mono ?_; rintro e w2 ⟨rfl, hb2⟩; have HB2 : Hid (Below w.heap.size w w2) := Lib.hid (below_then (below_alloc (Below.refl _ _) _) (below_alloc (Below.refl _ _) _).size hb2); have HZ2 := Lib.hid ((Blk.new w (dC 0 0 0 0 ⟨#[]⟩ 0) 28).below hb2); clear hb2) | (go_at_call 63; refine (HW.out _).mono ?_; rintro e w1 ⟨v, rfl, he, hb⟩; obtain ⟨c0, c1, c2, c3, c4, c5, f0, f1, f2, f3, f4, f5, s0, s1, s2, s3, s4, s5⟩ := (HZ2.out.below hb).dids))
  refine bodyPost_ret (v := .tuple #[.agg #[.int .u8 0, .int .u8 0, .int .u8 0, .int .u8 0, .string ⟨#[]⟩, .int .i64 0], v]) (by simp [results, Tryz.results36, go_sem, c0, c1, c2, c3, c4, c5]) rfl ⟨v, rfl, ?_, ?_⟩
  · exact he
  · exact below_then HB2.out HB2.out.size hb
set_option maxRecDepth 100000 in
set_option maxHeartbeats 4000000 in
theorem pdest_host (s : ByteArray) (hs : s.size ≤ 259) (i : Nat) (hi : i < s.size) (ch : List (ByteArray × Int)) (co : Int) (HL : ∀ W, StdW W → Calls Tryz.prog 64 #[.string s, .int .u8 58] W fun e w' => e = .returned (.int .i64 i) ∧ Below W.heap.size W w')
    (HP : ∀ W, StdW W → Calls Tryz.prog 57 #[.string (s.extract 0 i)] W fun e w' => ∃ v, e = .returned (.tuple #[.agg #[.int .u8 0, .int .u8 0, .int .u8 0, .int .u8 0, .string ⟨#[]⟩], v]) ∧ ErrIs w' v ch co ∧ Below W.heap.size W w') (w : World) (hS : StdW w) :
    Calls Tryz.prog 36 #[.string s] w fun e w' => ∃ v, e = .returned (.tuple #[zDest, v]) ∧ ErrIs w' v ch co ∧ Below w.heap.size w w' := by
  have HL' := Lib.hid HL
  have HP' := Lib.hid HP
  have HS := Lib.hid hS
  clear HL HP hS
  unfold zDest
  have hs1 : (s.size : Int) ≤ 259 := by omega
  have hi0 : (0 : Int) ≤ (i : Int) := Int.natCast_nonneg _
  have hi1 : (i : Int) ≤ (s.size : Int) := by omega
  go_enter Tryz.func36, Tryz.ntmps36
  go_wp2_with (first | (go_at_call 64; refine (HL'.out _ (StdW.below HS.out (below_alloc (Below.refl _ _) _))).mono ?_; rintro e w2 ⟨rfl, hb2⟩; have HB2 : Hid (Below w.heap.size w w2) := Lib.hid (below_then (below_alloc (Below.refl _ _) _) (below_alloc (Below.refl _ _) _).size hb2); have HZ2 := Lib.hid ((Blk.new w (dC 0 0 0 0 ⟨#[]⟩ 0) 28).below hb2); clear hb2) | (go_at_call 57; refine (HP'.out _ (StdW.below HS.out HB2.out)).mono ?_; rintro e w1 ⟨v, rfl, he, hb⟩; obtain ⟨tv, xv, rfl⟩ := he.iface; have HER := Lib.hid he; clear he; have hz := HZ2.out.below hb; obtain ⟨c0, c1, c2, c3, c4, c5, f0, f1, f2, f3, f4, f5, s0, s1, s2, s3, s4, s5⟩ := hz.dids; obtain ⟨d0, d1, d2, d3, d4, d5, g0, g1, g2, g3, g4, g5, t0, t1, t2, t3, t4, t5⟩ := (hz.old (.cells #[.int .u8 0, .int .u8 0, .int .u8 0, .int .u8 0, .string ⟨#[]⟩] 26)).dids; clear hz))
  refine bodyPost_ret (v := .tuple #[.agg #[.int .u8 0, .int .u8 0, .int .u8 0, .int .u8 0, .string ⟨#[]⟩, .int .i64 0], .iface tv xv]) (by simp [results, Tryz.results36, go_sem, c0, c1, c2, c3, c4, c5, d0, d1, d2, d3, d4, d5]) rfl ⟨_, rfl, ?_, ?_⟩
  · exact ErrIs.below (below_alloc (Below.refl _ _) _) HER.out
  · exact below_alloc (below_then HB2.out HB2.out.size hb) _
set_option maxRecDepth 100000 in
set_option maxHeartbeats 8000000 in
theorem pdest_port (s : ByteArray) (hs : s.size ≤ 259) (i : Nat) (hi : i < s.size) (a b c d : Int) (n : ByteArray) (co : Int) (HL : ∀ W, StdW W → Calls Tryz.prog 64 #[.string s, .int .u8 58] W fun e w' => e = .returned (.int .i64 i) ∧ Below W.heap.size W w')
    (HP : ∀ W, StdW W → Calls Tryz.prog 57 #[.string (s.extract 0 i)] W fun e w' => e = .returned (.tuple #[.agg #[.int .u8 a, .int .u8 b, .int .u8 c, .int .u8 d, .string n], .nilIface]) ∧ Below W.heap.size W w')
    (HQ : ∀ W, StdW W → Calls Tryz.prog 65 #[.string (s.extract (i + 1) s.size)] W fun e w' => ∃ v, e = .returned (.tuple #[.int .i64 0, v]) ∧ ErrIs w' v [(hostS, 0)] co ∧ Below W.heap.size W w') (w : World) (hS : StdW w) (hG : EtW w) :
    Calls Tryz.prog 36 #[.string s] w fun e w' => ∃ v, e = .returned (.tuple #[zDest, v]) ∧ ErrIs w' v [(hostS, (i : Int) + 1), (hostS, 0)] co ∧ Below w.heap.size w w' := by
  have HL' := Lib.hid HL
  have HP' := Lib.hid HP
  have HQ' := Lib.hid HQ
  have HS := Lib.hid hS
  have HG := Lib.hid hG
  have HW := Lib.hid (fun W v r c h => wrong_any ((i : Int) + 1) v r c W h)
  clear HL HP HQ hS hG
  unfold zDest
  have hs1 : (s.size : Int) ≤ 259 := by omega
  have hi0 : (0 : Int) ≤ (i : Int) := Int.natCast_nonneg _
  have hi1 : (i : Int) + 1 ≤ (s.size : Int) := by omega
  have hi2 : (i : Int) ≤ (s.size : Int) := by omega
  go_enter Tryz.func36, Tryz.ntmps36
  go_wp2_with (first | (go_at_call 64; refine (HL'.out _ (StdW.below HS.out (below_alloc (Below.refl _ _) _))).mono ?_; rintro e w2 ⟨rfl, hb2⟩; have HB2 : Hid (Below w.heap.size w w2) := Lib.hid (below_then (below_alloc (Below.refl _ _) _) (below_alloc (Below.refl _ _) _).size hb2); have HZ2 := Lib.hid ((Blk.new w (dC 0 0 0 0 ⟨#[]⟩ 0) 28).below hb2); clear hb2) | (go_at_call 57; refine (HP'.out _ (StdW.below HS.out HB2.out)).mono ?_; rintro e w3 ⟨rfl, hb3⟩; have HB3 : Hid (Below w.heap.size w (w3.alloc (.cells #[.int .u8 a, .int .u8 b, .int .u8 c, .int .u8 d, .string n] 26))) := Lib.hid (below_alloc (below_then HB2.out HB2.out.size hb3) _); have HZ3 := Lib.hid ((HZ2.out.below hb3).old (.cells #[.int .u8 a, .int .u8 b, .int .u8 c, .int .u8 d, .string n] 26)); have HH3 := Lib.hid (Blk.new w3 (hC a b c d n) 26); clear hb3) | (go_at_call 65; refine (HQ'.out _ (StdW.below HS.out HB3.out)).mono ?_; rintro e w4 ⟨v, rfl, he, hb4⟩; have HB4 : Hid (Below w.heap.size w w4) := Lib.hid (below_then HB3.out HB3.out.size hb4); have HZ4 := Lib.hid (HZ3.out.below hb4); obtain ⟨eb, eu, rfl, -⟩ := id he; have HER := Lib.hid he; clear he hb4) | (go_at_call 66; refine (as_fault eb w4.heap.size _ (EtW.below HG.out (below_alloc HB4.out _)) (by simp) (by simp)).mono ?_; rintro e w5 ⟨rfl, hc5, hb5⟩; have HB45 : Hid (Below w4.heap.size w4 w5) := Lib.hid ((below_alloc (Below.refl _ _) _).trans hb5); clear hb5) | (go_at_call 63; refine (HW.out _ _ _ _ (ErrIs.below HB45.out HER.out)).mono ?_; rintro e w6 ⟨v6, rfl, he6, hb6⟩; obtain ⟨c0, c1, c2, c3, c4, c5, f0, f1, f2, f3, f4, f5, s0, s1, s2, s3, s4, s5⟩ := ((HZ4.out.below HB45.out).below hb6).dids))
  refine bodyPost_ret (v := .tuple #[.agg #[.int .u8 0, .int .u8 0, .int .u8 0, .int .u8 0, .string ⟨#[]⟩, .int .i64 0], v6]) (by simp [results, Tryz.results36, go_sem, c0, c1, c2, c3, c4, c5]) rfl ⟨v6, rfl, ?_, ?_⟩
  · exact he6
  · exact below_then (below_then HB4.out HB4.out.size HB45.out) (below_then HB4.out HB4.out.size HB45.out).size hb6
set_option maxRecDepth 100000 in
set_option maxHeartbeats 8000000 in
theorem pdest_ok (s : ByteArray) (hs : s.size ≤ 259) (i : Nat) (hi : i < s.size) (a b c d : Int) (n : ByteArray) (po : Int) (HL : ∀ W, StdW W → Calls Tryz.prog 64 #[.string s, .int .u8 58] W fun e w' => e = .returned (.int .i64 i) ∧ Below W.heap.size W w')
    (HP : ∀ W, StdW W → Calls Tryz.prog 57 #[.string (s.extract 0 i)] W fun e w' => e = .returned (.tuple #[.agg #[.int .u8 a, .int .u8 b, .int .u8 c, .int .u8 d, .string n], .nilIface]) ∧ Below W.heap.size W w')
    (HQ : ∀ W, StdW W → Calls Tryz.prog 65 #[.string (s.extract (i + 1) s.size)] W fun e w' => e = .returned (.tuple #[.int .i64 po, .nilIface]) ∧ Below W.heap.size W w') (w : World) (hS : StdW w) :
    Calls Tryz.prog 36 #[.string s] w fun e w' => e = .returned (.tuple #[.agg (dC a b c d n po), .nilIface]) ∧ Below w.heap.size w w' := by
  have HL' := Lib.hid HL
  have HP' := Lib.hid HP
  have HQ' := Lib.hid HQ
  have HS := Lib.hid hS
  clear HL HP HQ hS
  unfold dC
  have hs1 : (s.size : Int) ≤ 259 := by omega
  have hi0 : (0 : Int) ≤ (i : Int) := Int.natCast_nonneg _
  have hi1 : (i : Int) + 1 ≤ (s.size : Int) := by omega
  have hi2 : (i : Int) ≤ (s.size : Int) := by omega
  go_enter Tryz.func36, Tryz.ntmps36
  go_wp2_with (first | (go_at_call 64; refine (HL'.out _ (StdW.below HS.out (below_alloc (Below.refl _ _) _))).mono ?_; rintro e w2 ⟨rfl, hb2⟩; have HB2 : Hid (Below w.heap.size w w2) := Lib.hid (below_then (below_alloc (Below.refl _ _) _) (below_alloc (Below.refl _ _) _).size hb2); have HZ2 := Lib.hid ((Blk.new w (dC 0 0 0 0 ⟨#[]⟩ 0) 28).below hb2); clear hb2) | (go_at_call 57; refine (HP'.out _ (StdW.below HS.out HB2.out)).mono ?_; rintro e w3 ⟨rfl, hb3⟩; have HB3 : Hid (Below w.heap.size w (w3.alloc (.cells #[.int .u8 a, .int .u8 b, .int .u8 c, .int .u8 d, .string n] 26))) := Lib.hid (below_alloc (below_then HB2.out HB2.out.size hb3) _); have HZ3 := Lib.hid ((HZ2.out.below hb3).old (.cells #[.int .u8 a, .int .u8 b, .int .u8 c, .int .u8 d, .string n] 26)); have HH3 := Lib.hid (Blk.new w3 (hC a b c d n) 26); clear hb3) | (go_at_call 65; refine (HQ'.out _ (StdW.below HS.out HB3.out)).mono ?_; rintro e w4 ⟨rfl, hb4⟩; have HB4 : Hid (Below w.heap.size w w4) := Lib.hid (below_then HB3.out HB3.out.size hb4); have HZ4 := Lib.hid (HZ3.out.below hb4); have HH4 := Lib.hid (HH3.out.below hb4); clear hb4) | (go_at_call 66; refine (as_none' _ _).mono ?_; rintro e w5 ⟨rfl, hb5⟩; have HB5 : Hid (Below w.heap.size w w5) := Lib.hid (below_then (below_alloc HB4.out _) (below_alloc HB4.out _).size hb5); have HZ5 := Lib.hid ((HZ4.out.old (.cells #[.pointer none] 102)).below hb5); have HH5 := Lib.hid ((HH4.out.old (.cells #[.pointer none] 102)).below hb5); have hlt := HZ5.out.lt; obtain ⟨h0, h1, h2, h3, h4, -⟩ := HH5.out.five; obtain ⟨c0, c1, c2, c3, c4, c5, f0, f1, f2, f3, f4, f5⟩ := HZ5.out.dix; clear hb5))
  obtain ⟨e0, e1, e2, e3, e4, e5, -⟩ := (show Blk _ _ (dC a b c d n po) _ from ((((((HZ5.out.set 0 (.int .u8 a)).set 1 (.int .u8 b)).set 2 (.int .u8 c)).set 3 (.int .u8 d)).set 4 (.string n)).set 5 (.int .i64 po))).dix
  refine bodyPost_ret (v := .tuple #[.agg #[.int .u8 a, .int .u8 b, .int .u8 c, .int .u8 d, .string n, .int .i64 po], .nilIface]) (by simp [results, Tryz.results36, go_sem, e0, e1, e2, e3, e4, e5]) rfl ⟨rfl, ?_⟩
  repeat (refine Below.setCell ?_ (by first | exact Nat.le_refl _ | exact Nat.le_of_lt hlt) _)
  exact HB5.out
end Go.Proofs.YteondnhokgmakaaGreatDoor.E


namespace Go.Proofs.YteondnhokgmakaaGreatDoor.E
open Go.RowKit Go.Proofs.YteondnhokgmakaaGreatDoorW.PrintWords Go.Proofs.YteondnhokgmakaaGreatDoorW.PrintLast
set_option linter.unusedVariables false
set_option linter.unusedSimpArgs false
def bad (k : Int) (l0 l1 : ByteArray) (a0 a1 c : Int) : Array Value := #[.int .i64 k, .string l0, .string l1, .string ⟨#[]⟩, .string ⟨#[]⟩, .int .i64 a0, .int .i64 a1, .int .i64 0, .int .i64 0, .int .i64 c]
set_option maxRecDepth 100000 in
set_option maxHeartbeats 8000000 in
theorem of_one (v : Value) (l : ByteArray) (a c : Int) (w : World) (h : ErrIs w v [(l, a)] c) :
    Calls Tryz.prog 81 #[v] w fun e w' => e = .returned (.tuple #[.agg (bad 1 l ⟨#[]⟩ a 0 c), .bool true]) ∧ Below w.heap.size w w' := by
  obtain ⟨b, u, rfl, h0, h1, h2, hu⟩ := h
  obtain rfl : u = .iface 30 (.int .i64 c) := hu
  have hbl : b < w.heap.size := World.block_lt_of_cell? _ _ h0
  have ta0 : ∀ (x : Value) (W : World), (Instr.typeAssert (.iface 102 x) 56 30 true).run Tryz.prog W = .ok (.tuple #[.int .i64 0, .bool false]) W := fun x W => by kernel_rfl
  have ta1 : ∀ (x : Value) (W : World), (Instr.typeAssert (.iface 102 x) 56 102 true).run Tryz.prog W = .ok (.tuple #[x, .bool true]) W := fun x W => by kernel_rfl
  have ta2 : ∀ (x : Value) (W : World), (Instr.typeAssert (.iface 30 x) 56 30 true).run Tryz.prog W = .ok (.tuple #[x, .bool true]) W := fun x W => by kernel_rfl
  go_enter Tryz.func81, Tryz.ntmps81
  go_wp2
  refine wp_loop_rounds 2 ?_
  rw [rounds_succ]
  go_wp2
  go_region
  go_wp2
  rw [rounds_succ]
  go_wp2
  go_region
  go_wp2
  unfold bad
  refine bodyPost_ret (v := .tuple #[.agg #[.int .i64 1, .string l, .string ⟨#[]⟩, .string ⟨#[]⟩, .string ⟨#[]⟩, .int .i64 a, .int .i64 0, .int .i64 0, .int .i64 0, .int .i64 c], .bool true]) (by simp [results, Tryz.results81, go_sem]) rfl ⟨rfl, ?_⟩
  repeat (first | exact Below.refl _ _ | apply below_drew1 | apply below_alloc)
set_option maxRecDepth 100000 in
set_option maxHeartbeats 8000000 in
theorem of_two (v : Value) (l l' : ByteArray) (a a' c : Int) (w : World) (h : ErrIs w v [(l, a), (l', a')] c) :
    Calls Tryz.prog 81 #[v] w fun e w' => e = .returned (.tuple #[.agg (bad 2 l l' a a' c), .bool true]) ∧ Below w.heap.size w w' := by
  obtain ⟨b, u, rfl, h0, h1, h2, hu⟩ := h
  obtain ⟨b', u', rfl, h0', h1', h2', hu'⟩ := hu
  obtain rfl : u' = .iface 30 (.int .i64 c) := hu'
  have hbl : b < w.heap.size := World.block_lt_of_cell? _ _ h0
  have hbl' : b' < w.heap.size := World.block_lt_of_cell? _ _ h0'
  have ta0 : ∀ (x : Value) (W : World), (Instr.typeAssert (.iface 102 x) 56 30 true).run Tryz.prog W = .ok (.tuple #[.int .i64 0, .bool false]) W := fun x W => by kernel_rfl
  have ta1 : ∀ (x : Value) (W : World), (Instr.typeAssert (.iface 102 x) 56 102 true).run Tryz.prog W = .ok (.tuple #[x, .bool true]) W := fun x W => by kernel_rfl
  have ta2 : ∀ (x : Value) (W : World), (Instr.typeAssert (.iface 30 x) 56 30 true).run Tryz.prog W = .ok (.tuple #[x, .bool true]) W := fun x W => by kernel_rfl
  go_enter Tryz.func81, Tryz.ntmps81
  go_wp2
  refine wp_loop_rounds 3 ?_
  rw [rounds_succ]
  go_wp2
  go_region
  go_wp2
  rw [rounds_succ]
  go_wp2
  go_region
  go_wp2
  rw [rounds_succ]
  go_wp2
  go_region
  go_wp2
  unfold bad
  refine bodyPost_ret (v := .tuple #[.agg #[.int .i64 2, .string l, .string l', .string ⟨#[]⟩, .string ⟨#[]⟩, .int .i64 a, .int .i64 a', .int .i64 0, .int .i64 0, .int .i64 c], .bool true]) (by simp [results, Tryz.results81, go_sem]) rfl ⟨rfl, ?_⟩
  repeat (first | exact Below.refl _ _ | apply below_drew1 | apply below_alloc)
set_option maxRecDepth 100000 in
set_option maxHeartbeats 8000000 in
theorem wrap_one (l l' : ByteArray) (a a' c : Int) (w : World) :
    Calls Tryz.prog 60 #[.string l, .int .i64 a, .agg (bad 1 l' ⟨#[]⟩ a' 0 c)] w fun e w' => e = .returned (.agg (bad 2 l l' a a' c)) ∧ Below w.heap.size w w' := by
  unfold bad
  go_enter Tryz.func60, Tryz.ntmps60
  go_wp2
  refine wp_loop_rounds 2 ?_
  rw [rounds_succ]
  go_wp2
  go_region
  go_wp2
  rw [rounds_succ]
  go_wp2
  refine bodyPost_ret (v := .agg #[.int .i64 2, .string l, .string l', .string ⟨#[]⟩, .string ⟨#[]⟩, .int .i64 a, .int .i64 a', .int .i64 0, .int .i64 0, .int .i64 c]) (by simp [results, Tryz.results60, go_sem]) rfl ⟨rfl, ?_⟩
  repeat (first | exact Below.refl _ _ | apply below_drew1 | apply below_alloc)
set_option maxRecDepth 100000 in
set_option maxHeartbeats 8000000 in
theorem is_same (v : Value) (k : Int) (l0 l1 : ByteArray) (a0 a1 c : Int)
    (H1 : ∀ W : World, (Op.equalIn 9999 76 (.agg #[.string l0, .string l1, .string ⟨#[]⟩, .string ⟨#[]⟩]) (.agg #[.string l0, .string l1, .string ⟨#[]⟩, .string ⟨#[]⟩])).run Tryz.prog W = .ok true W)
    (H2 : ∀ W : World, (Op.equalIn 9999 77 (.agg #[.int .i64 a0, .int .i64 a1, .int .i64 0, .int .i64 0]) (.agg #[.int .i64 a0, .int .i64 a1, .int .i64 0, .int .i64 0])).run Tryz.prog W = .ok true W) (w : World)
    (HO : ∀ W, Below w.heap.size w W → Calls Tryz.prog 81 #[v] W fun e w' => e = .returned (.tuple #[.agg (bad k l0 l1 a0 a1 c), .bool true]) ∧ Below W.heap.size W w') :
    Calls Tryz.prog 58 #[v, .agg (bad k l0 l1 a0 a1 c)] w fun e w' => e = .returned (.bool true) ∧ Below w.heap.size w w' := by
  have XO := Lib.hid HO
  clear HO
  unfold bad at *
  go_enter Tryz.func58, Tryz.ntmps58
  go_wp2_with (go_at_call 81; refine (XO.out _ (below_alloc (Below.refl _ _) _)).mono ?_; rintro e w1 ⟨rfl, hb⟩; have c0 := boxCell hb 0 (.int .i64 k) rfl; have c1 := boxCell hb 1 (.string l0) rfl; have c2 := boxCell hb 2 (.string l1) rfl; have c3 := boxCell hb 3 (.string ⟨#[]⟩) rfl; have c4 := boxCell hb 4 (.string ⟨#[]⟩) rfl; have c5 := boxCell hb 5 (.int .i64 a0) rfl; have c6 := boxCell hb 6 (.int .i64 a1) rfl; have c7 := boxCell hb 7 (.int .i64 0) rfl; have c8 := boxCell hb 8 (.int .i64 0) rfl; have c9 := boxCell hb 9 (.int .i64 c) rfl; have hlt : w.heap.size < w1.heap.size := (by have := hb.size; simp at this; omega); have HB := Lib.hid (below_then (below_alloc (Below.refl w.heap.size w) _) (below_alloc (Below.refl w.heap.size w) _).size hb); clear hb)
  go_ret
  exact ⟨rfl, below_alloc HB.out _⟩
end Go.Proofs.YteondnhokgmakaaGreatDoor.E


namespace Go.Proofs.YteondnhokgmakaaGreatDoor.E
open Go.RowKit Go.Proofs.YteondnhokgmakaaGreatDoorW.PrintWords Go.Proofs.YteondnhokgmakaaGreatDoorW.PrintLast Go.Proofs.YteondnhokgmakaaGreatDoor.XC
set_option linter.unusedVariables false
set_option linter.unusedSimpArgs false
def exT1 : ByteArray := ⟨#[69, 120, 97, 109, 112, 108, 101, 46, 67, 79, 77]⟩
def exT2 : ByteArray := ⟨#[49, 48, 46, 48, 46, 48, 46, 50, 53, 54]⟩
def exT3 : ByteArray := ⟨#[97, 46, 98, 58, 48]⟩
def exN1 : ByteArray := ⟨#[101, 120, 97, 109, 112, 108, 101, 46, 99, 111, 109]⟩
theorem hp1 : hpRes exT1 = .inr ([0, 0, 0, 0], exN1) := by kernel_rfl
theorem hp2 : hpRes exT2 = .inl (7, 60) := by kernel_rfl
theorem hp3 : hpRes (exT3.extract 0 3) = .inr ([0, 0, 0, 0], ⟨#[97, 46, 98]⟩) := by kernel_rfl
theorem po3 : ppoRes (exT3.extract 4 5) = none := by kernel_rfl
theorem co3 : Lib.lastIndexByte exT3 58 = 3 := by kernel_rfl
theorem in3 : host_In.f 10 1 0 0 10 0 0 0 8 = some true := by kernel_rfl
theorem un3 : host_Under.f ⟨#[97, 98]⟩ ⟨#[98]⟩ = some false := by kernel_rfl
theorem w_parse1 (w : World) (hS : StdW w) : Calls Tryz.prog 57 #[.string exT1] w fun e w' => e = .returned (.tuple #[.agg #[.int .u8 0, .int .u8 0, .int .u8 0, .int .u8 0, .string exN1], .nilIface]) ∧ Below w.heap.size w w' := by
  have h := hparse_any exT1 (by decide) w hS
  rw [hp1] at h
  exact h.mono (fun e w' ⟨hb, he⟩ => ⟨he, hb⟩)
theorem w_parse2 (w : World) (hS : StdW w) : Calls Tryz.prog 57 #[.string exT2] w fun e w' => ∃ v, e = .returned (.tuple #[.agg #[.int .u8 0, .int .u8 0, .int .u8 0, .int .u8 0, .string ⟨#[]⟩], v]) ∧ ErrIs w' v [(hostS, 7)] 60 ∧ Below w.heap.size w w' := by
  have h := hparse_any exT2 (by decide) w hS
  rw [hp2] at h
  exact h.mono (fun e w' ⟨hb, v, he, hi⟩ => ⟨v, he, hi, hb⟩)
theorem lastIx (s : ByteArray) (hs : s.size ≤ 281474976710656) (W : World) : Calls Tryz.prog 64 #[.string s, .int .u8 58] W fun e w' => e = .returned (.int .i64 (Lib.lastIndexByte s 58)) ∧ Below W.heap.size W w' :=
  (Tryz.strings_LastIndexByte s 58 (by omega) W).mono (fun e w' ⟨he, hw⟩ => ⟨he, hw ▸ Below.refl _ _⟩)
theorem w_dest3 (w : World) (hS : StdW w) (hG : EtW w) : Calls Tryz.prog 36 #[.string exT3] w fun e w' => ∃ v, e = .returned (.tuple #[zDest, v]) ∧ ErrIs w' v [(hostS, 4), (hostS, 0)] 62 ∧ Below w.heap.size w w' := by
  refine pdest_port exT3 (by decide) 3 (by decide) 0 0 0 0 ⟨#[97, 46, 98]⟩ 62 (fun W _ => ?_) (fun W h => ?_) (fun W h => ?_) w hS hG
  · have := lastIx exT3 (by decide) W
    rw [co3] at this
    exact this
  · have h := hparse_any (exT3.extract 0 3) (by decide) W h
    rw [hp3] at h
    exact h.mono (fun e w' ⟨hb, he⟩ => ⟨he, hb⟩)
  · have h := hport_any (exT3.extract 4 5) (by decide) W h
    rw [po3] at h
    exact h.mono (fun e w' ⟨hb, v, he, hi⟩ => ⟨v, he, hi, hb⟩)
theorem bad_w1 (w : World) : Calls Tryz.prog 59 #[.string hostS, .int .i64 7, .int .i64 60] w fun e w' => e = .returned (.agg (bad 1 hostS ⟨#[]⟩ 7 0 60)) ∧ Below w.heap.size w w' := fail_any hostS 7 60 w
theorem bad_w2 (w : World) : Calls Tryz.prog 59 #[.string hostS, .int .i64 0, .int .i64 62] w fun e w' => e = .returned (.agg (bad 1 hostS ⟨#[]⟩ 0 0 62)) ∧ Below w.heap.size w w' := fail_any hostS 0 62 w
theorem is_w1 (v : Value) (w0 w : World) (h : ErrIs w0 v [(hostS, 7)] 60) (hb : Below w0.heap.size w0 w) : Calls Tryz.prog 58 #[v, .agg (bad 1 hostS ⟨#[]⟩ 7 0 60)] w fun e w' => e = .returned (.bool true) ∧ Below w.heap.size w w' :=
  is_same v 1 hostS ⟨#[]⟩ 7 0 60 (fun W => by kernel_rfl) (fun W => by kernel_rfl) w (fun W hW => of_one v hostS 7 60 W (ErrIs.below hW (ErrIs.below hb h)))
theorem is_w2 (v : Value) (w0 w : World) (h : ErrIs w0 v [(hostS, 4), (hostS, 0)] 62) (hb : Below w0.heap.size w0 w) : Calls Tryz.prog 58 #[v, .agg (bad 2 hostS hostS 4 0 62)] w fun e w' => e = .returned (.bool true) ∧ Below w.heap.size w w' :=
  is_same v 2 hostS hostS 4 0 62 (fun W => by kernel_rfl) (fun W => by kernel_rfl) w (fun W hW => of_two v hostS hostS 4 0 62 W (ErrIs.below hW (ErrIs.below hb h)))
set_option maxRecDepth 100000 in
set_option maxHeartbeats 8000000 in
theorem works06_any (w : World) (hS : StdW w) (hG : EtW w) : Calls Tryz.prog 29 #[] w fun e w' => e = .returned (.bool true) ∧ Below w.heap.size w w' := by
  have HS := Lib.hid hS
  have HG := Lib.hid hG
  have P1 := Lib.hid w_parse1
  have P2 := Lib.hid w_parse2
  have P3 := Lib.hid w_dest3
  have B1 := Lib.hid bad_w1
  have B2 := Lib.hid bad_w2
  have W1 := Lib.hid (fun W => wrap_one hostS hostS 4 0 62 W)
  have I1 := Lib.hid is_w1
  have I2 := Lib.hid is_w2
  have IN := Lib.hid (fun W => host_In.calls 10 1 0 0 10 0 0 0 8 true W in3)
  have UN := Lib.hid (fun W => host_Under.calls ⟨#[97, 98]⟩ ⟨#[98]⟩ false W un3)
  clear hS hG
  unfold bad hostS exT1 exT2 exT3 exN1 zDest at *
  go_enter Tryz.func29, Tryz.ntmps29
  go_wp2_with (go_at_call 57; (with_reducible refine (P1.out _ HS.out).mono ?_); rintro e w1 ⟨rfl, hb1⟩; have HB1 : Hid (Below w.heap.size w (w1.alloc (.cells #[.int .u8 0, .int .u8 0, .int .u8 0, .int .u8 0, .string ⟨#[101, 120, 97, 109, 112, 108, 101, 46, 99, 111, 109]⟩] 26))) := Lib.hid (below_alloc hb1 _); have HT1 := Lib.hid (Blk.new w1 (hC 0 0 0 0 ⟨#[101, 120, 97, 109, 112, 108, 101, 46, 99, 111, 109]⟩) 26); clear hb1)
  go_wp2_with (go_at_call 57; (with_reducible refine (P2.out _ (StdW.below HS.out HB1.out)).mono ?_); rintro e w2 ⟨v2, rfl, he2, hb2⟩; have HB2 : Hid (Below w.heap.size w w2) := Lib.hid (below_then HB1.out HB1.out.size hb2); have HE2 := Lib.hid he2; have HT2 := Lib.hid ((HT1.out.below hb2).old (.cells #[.int .u8 0, .int .u8 0, .int .u8 0, .int .u8 0, .string ⟨#[]⟩] 26)); clear hb2 he2)
  go_wp2_with (go_at_call 36; (with_reducible refine (P3.out _ (StdW.below HS.out (below_alloc HB2.out _)) (EtW.below HG.out (below_alloc HB2.out _))).mono ?_); rintro e w3 ⟨v3, rfl, he3, hb3⟩; have HB3 : Hid (Below w.heap.size w w3) := Lib.hid (below_then (below_alloc HB2.out _) (below_alloc HB2.out _).size hb3); have HE3 := Lib.hid he3; have HB23 : Hid (Below w2.heap.size w2 w3) := Lib.hid (below_then (below_alloc (Below.refl _ _) _) (below_alloc (Below.refl _ _) _).size hb3); have HT3 := HT2.out.below hb3; have hlt := HT3.lt; obtain ⟨c0, c1, c2, c3, c4, -⟩ := HT3.five; clear hb3 he3 HT3)
  go_wp2_with (go_at_call 59; (with_reducible refine (B1.out _).mono ?_); rintro e w4 ⟨rfl, hb4⟩; have HB4 : Hid (Below w.heap.size w w4) := Lib.hid (below_then (below_alloc HB3.out _) (below_alloc HB3.out _).size hb4); have HB34 : Hid (Below w3.heap.size w3 w4) := Lib.hid (below_then (below_alloc (Below.refl _ _) _) (below_alloc (Below.refl _ _) _).size hb4); clear hb4)
  go_wp2_with (go_at_call 58; (with_reducible refine (I1.out _ _ _ HE2.out (below_then HB23.out HB23.out.size HB34.out)).mono ?_); rintro e w5 ⟨rfl, hb5⟩; have HB5 : Hid (Below w.heap.size w w5) := Lib.hid (below_then HB4.out HB4.out.size hb5); have HB35 : Hid (Below w3.heap.size w3 w5) := Lib.hid (below_then HB34.out HB34.out.size hb5); clear hb5)
  go_wp2_with (go_at_call 59; (with_reducible refine (B2.out _).mono ?_); rintro e w6 ⟨rfl, hb6⟩; have HB6 : Hid (Below w.heap.size w w6) := Lib.hid (below_then HB5.out HB5.out.size hb6); have HB36 : Hid (Below w3.heap.size w3 w6) := Lib.hid (below_then HB35.out HB35.out.size hb6); clear hb6)
  go_wp2_with (go_at_call 60; (with_reducible refine (W1.out _).mono ?_); rintro e w7 ⟨rfl, hb7⟩; have HB7 : Hid (Below w.heap.size w w7) := Lib.hid (below_then HB6.out HB6.out.size hb7); have HB37 : Hid (Below w3.heap.size w3 w7) := Lib.hid (below_then HB36.out HB36.out.size hb7); clear hb7)
  go_wp2_with (go_at_call 58; (with_reducible refine (I2.out _ _ _ HE3.out HB37.out).mono ?_); rintro e w8 ⟨rfl, hb8⟩; have HB8 : Hid (Below w.heap.size w w8) := Lib.hid (below_then HB7.out HB7.out.size hb8); clear hb8)
  go_wp2_with (go_at_call 25; (with_reducible refine (IN.out _).mono ?_); rintro e w9 ⟨rfl, hb9⟩; have HB9 : Hid (Below w.heap.size w w9) := Lib.hid (below_then HB8.out HB8.out.size hb9); clear hb9)
  go_wp2_with (go_at_call 27; (with_reducible refine (UN.out _).mono ?_); rintro e w10 ⟨rfl, hb10⟩; have HB10 : Hid (Below w.heap.size w w10) := Lib.hid (below_then HB9.out HB9.out.size hb10.below); clear hb10)
  go_ret
  exact ⟨rfl, HB10.out⟩
end Go.Proofs.YteondnhokgmakaaGreatDoor.E


namespace Go.Proofs.YteondnhokgmakaaGreatDoor.Bt
open Go
def w4 (a b c d : Nat) : Nat := a * 16777216 + b * 65536 + c * 256 + d
def pk (a b c d n : Nat) : Nat := if n < 8 then a else if n < 16 then b else if n < 24 then c else d
theorem w4_lt {a b c d : Nat} (ha : a < 256) (hb : b < 256) (hc : c < 256) (hd : d < 256) : w4 a b c d < 4294967296 := by unfold w4; omega
theorem tb_add (x y m k i : Nat) (hm : m = 2 ^ k) (hy : y < m) : (x * m + y).testBit i = if i < k then y.testBit i else x.testBit (i - k) := by
  subst hm
  rw [Nat.mul_comm, Nat.testBit_two_pow_mul_add _ hy]
theorem w4_bit {a b c d : Nat} (_ : a < 256) (hb : b < 256) (hc : c < 256) (hd : d < 256) (n : Nat) (hn : n < 32) :
    (w4 a b c d).testBit (31 - n) = (pk a b c d n).testBit (7 - n % 8) := by
  unfold w4
  rw [Nat.add_assoc, Nat.add_assoc, tb_add _ _ _ 24 _ (by decide) (by omega)]
  unfold pk
  by_cases h1 : n < 8
  · rw [if_neg (by omega), if_pos h1]; congr 1; omega
  · rw [if_pos (by omega), if_neg h1, tb_add _ _ _ 16 _ (by decide) (by omega)]
    by_cases h2 : n < 16
    · rw [if_neg (by omega), if_pos h2]; congr 1; omega
    · rw [if_pos (by omega), if_neg h2, tb_add _ _ _ 8 _ (by decide) (by omega)]
      by_cases h3 : n < 24
      · rw [if_neg (by omega), if_pos h3]; congr 1; omega
      · rw [if_pos (by omega), if_neg h3]; congr 1; omega
theorem mod_zero (w k : Nat) : w % 2 ^ k = 0 ↔ ∀ i, i < k → w.testBit i = false := by
  constructor
  · intro h i hi
    have := Nat.testBit_mod_two_pow w k i
    rw [h, Nat.zero_testBit] at this
    simp [hi] at this
    exact this
  · intro h
    apply Nat.eq_of_testBit_eq
    intro i
    rw [Nat.testBit_mod_two_pow, Nat.zero_testBit]
    by_cases hi : i < k
    · rw [h i hi, Bool.and_false]
    · simp [hi]
theorem div_eq (w v k : Nat) (hw : w < 4294967296) (hv : v < 4294967296) : w / 2 ^ k = v / 2 ^ k ↔ ∀ i, k ≤ i → i < 32 → w.testBit i = v.testBit i := by
  constructor
  · intro h i hi _
    have h1 := Nat.testBit_div_two_pow (n := k) w (i - k)
    have h2 := Nat.testBit_div_two_pow (n := k) v (i - k)
    rw [h, h2] at h1
    rw [show i - k + k = i by omega] at h1
    exact h1.symm
  · intro h
    apply Nat.eq_of_testBit_eq
    intro i
    rw [Nat.testBit_div_two_pow, Nat.testBit_div_two_pow]
    by_cases h32 : i + k < 32
    · exact h (i + k) (by omega) h32
    · have e1 : w.testBit (i + k) = false := Nat.testBit_lt_two_pow (Nat.lt_of_lt_of_le (show w < 2 ^ 32 from hw) (Nat.pow_le_pow_right (by decide) (by omega)))
      have e2 : v.testBit (i + k) = false := Nat.testBit_lt_two_pow (Nat.lt_of_lt_of_le (show v < 2 ^ 32 from hv) (Nat.pow_le_pow_right (by decide) (by omega)))
      rw [e1, e2]
theorem xor_div (w v k : Nat) (hw : w < 4294967296) (hv : v < 4294967296) : (w ^^^ v) / 2 ^ k = 0 ↔ w / 2 ^ k = v / 2 ^ k := by
  rw [div_eq w v k hw hv]
  have h0 : (w ^^^ v) / 2 ^ k = 0 ↔ (w ^^^ v) / 2 ^ k = 0 / 2 ^ k := by rw [Nat.zero_div]
  have hx : w ^^^ v < 4294967296 := Nat.xor_lt_two_pow (n := 32) hw hv
  rw [h0, div_eq _ _ _ hx (by decide)]
  constructor
  · intro h i h1 h2
    have := h i h1 h2
    rw [Nat.testBit_xor, Nat.zero_testBit] at this
    simpa using this
  · intro h i h1 h2
    rw [Nat.testBit_xor, Nat.zero_testBit, h i h1 h2]; simp
theorem bit_of (x : Nat) (n : Nat) : (((x : Int) / 2 ^ (7 - (n : Int) % 8).toNat).tmod 2) = if x.testBit (7 - n % 8) then 1 else 0 := by
  have e : (7 - (n : Int) % 8).toNat = 7 - n % 8 := by omega
  rw [e]
  have : ((x : Int) / 2 ^ (7 - n % 8)) = ((x / 2 ^ (7 - n % 8) : Nat) : Int) := by simp
  rw [this, Int.tmod_eq_emod_of_nonneg (Int.natCast_nonneg _), Nat.testBit_eq_decide_div_mod_eq]
  generalize x / 2 ^ (7 - n % 8) = y
  by_cases h : y % 2 = 1
  · simp [h]; omega
  · simp [h]; omega
theorem word_or (a b c d : Nat) (ha : a < 256) (hb : b < 256) (hc : c < 256) (hd : d < 256) :
    bits .or .u32 (bits .or .u32 (bits .or .u32 ((a : Int) * 16777216) ((b : Int) * 65536)) ((c : Int) * 256)) (d : Int) = (w4 a b c d : Nat) := by
  have hk : ∀ n : Int, 0 ≤ n → n < 2 ^ 32 → IntKind.u32.wrap n = n := fun n h0 h1 => by rw [IntKind.wrap_u32]; omega
  have e1 := bits_join .u32 32 (by decide) hk 24 ((a : Int) * 16777216) ((b : Int) * 65536) (by omega) (by omega) (by omega) (by omega) (by omega) (by omega)
  have e2 := bits_join .u32 32 (by decide) hk 16 ((a : Int) * 16777216 + (b : Int) * 65536) ((c : Int) * 256) (by omega) (by omega) (by omega) (by omega) (by omega) (by omega)
  have e3 := bits_join .u32 32 (by decide) hk 8 ((a : Int) * 16777216 + (b : Int) * 65536 + (c : Int) * 256) (d : Int) (by omega) (by omega) (by omega) (by omega) (by omega) (by omega)
  rw [e1, e2, e3]; unfold w4; omega
theorem bits_xor_u32_nat (a b : Nat) (ha : a < 4294967296) (hb : b < 4294967296) : bits .xor .u32 (a : Int) (b : Int) = ((a ^^^ b : Nat) : Int) := by
  have ha' : a % 2 ^ 32 = a := Nat.mod_eq_of_lt ha
  have hb' : b % 2 ^ 32 = b := Nat.mod_eq_of_lt hb
  have hx : a ^^^ b < 2 ^ 32 := Nat.xor_lt_two_pow (n := 32) ha hb
  simp only [bits, BitVec.ofInt_natCast, BitVec.toNat_xor, BitVec.toNat_ofNat]
  rw [show IntKind.u32.bits = 32 from rfl, ha', hb', IntKind.wrap_u32]
  omega
theorem same_bits {a b c d e f g h : Nat} (ha : a < 256) (hb : b < 256) (hc : c < 256) (hd : d < 256) (he : e < 256) (hf : f < 256) (hg : g < 256) (hh : h < 256) (n : Nat) (hn : n ≤ 32) :
    w4 a b c d / 2 ^ (32 - n) = w4 e f g h / 2 ^ (32 - n) ↔ ∀ i, i < n → (pk a b c d i).testBit (7 - i % 8) = (pk e f g h i).testBit (7 - i % 8) := by
  rw [div_eq _ _ _ (w4_lt ha hb hc hd) (w4_lt he hf hg hh)]
  constructor
  · intro H i hi
    rw [← w4_bit ha hb hc hd i (by omega), ← w4_bit he hf hg hh i (by omega)]
    exact H _ (by omega) (by omega)
  · intro H i h1 h2
    have := H (31 - i) (by omega)
    rw [← w4_bit ha hb hc hd _ (by omega), ← w4_bit he hf hg hh _ (by omega), show 31 - (31 - i) = i by omega] at this
    exact this
theorem tail_bits {a b c d : Nat} (ha : a < 256) (hb : b < 256) (hc : c < 256) (hd : d < 256) (n : Nat) (hn : n ≤ 32) :
    w4 a b c d % 2 ^ (32 - n) = 0 ↔ ∀ i, n ≤ i → i < 32 → (pk a b c d i).testBit (7 - i % 8) = false := by
  rw [mod_zero]
  constructor
  · intro H i h1 h2
    rw [← w4_bit ha hb hc hd i (by omega)]
    exact H _ (by omega)
  · intro H i hi
    have := H (31 - i) (by omega) (by omega)
    rw [← w4_bit ha hb hc hd _ (by omega), show 31 - (31 - i) = i by omega] at this
    exact this
theorem shl_zero (w n : Nat) (hn : n ≤ 32) : (w * 2 ^ n) % 4294967296 = 0 ↔ w % 2 ^ (32 - n) = 0 := by
  have e : (4294967296 : Nat) = 2 ^ (32 - n) * 2 ^ n := by rw [← Nat.pow_add, show 32 - n + n = 32 by omega]
  rw [e, Nat.mul_mod_mul_right]
  have := Nat.two_pow_pos n
  constructor
  · intro h
    rcases Nat.mul_eq_zero.1 h with h | h
    · exact h
    · omega
  · intro h; rw [h, Nat.zero_mul]
end Go.Proofs.YteondnhokgmakaaGreatDoor.Bt
