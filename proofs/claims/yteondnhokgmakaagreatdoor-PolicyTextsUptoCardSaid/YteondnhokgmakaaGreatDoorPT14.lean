/- What the cards of this seat rest on: the walks and plain laws, part 14. -/
import Derived.Test.YteondnhokgmakaaGreatDoorPT13
import Derived.Test.YteondnhokgmakaaGreatDoorPT12


namespace Go.Proofs.YteondnhokgmakaaGreatDoor.XT
open Go.Proofs.YteondnhokgmakaaGreatDoor.XC Go.Proofs.YteondnhokgmakaaGreatDoor.XM Go.Proofs.YteondnhokgmakaaGreatDoor.XG Go.Proofs.YteondnhokgmakaaGreatDoor.XV
open Go.RowKit Go.Proofs.YteondnhokgmakaaGreatDoorW.PrintWords Go.Proofs.YteondnhokgmakaaGreatDoorW.PrintLast Go.Proofs.YteondnhokgmakaaGreatDoorW.PrintMore
attribute [local go_sem] max2_int min2_int max_two min_two max_three min_three max_four min_four
set_option linter.unusedVariables false
set_option linter.unusedSimpArgs false
mutual
def sallyportref12_Parse.j0 : Nat → List ByteArray → Bool → Option (Bool × Int × Int × Int × Int × Int × ByteArray × Int × Int × Int)
 | 0, _, _ => none
 | k + 1, x4, x37 => if x37 = true then (some (false, 0, 0, 0, 0, 0, (⟨#[]⟩ : ByteArray), 0, 0, 120)) else (if 0 < (x4.length : Int) then (if 2 < (x4.length : Int) then ((sallyportref12_words.f k (rdOf ByteArray.empty x4 2) 45).bind fun t138 => (if 0 < (t138.length : Int) then ((XV.sallyportbase_Whole.f k (rdOf ByteArray.empty t138 0) 5).bind fun bt142 => (if (t138.length : Int) = 2 then (if 1 < (t138.length : Int) then ((XV.sallyportbase_Whole.f k (rdOf ByteArray.empty t138 1) 5).bind fun bt145 => (if bt142.2 = true then (if bt145.2 = true then (sallyportref12_Parse.j1 k x4 t138 (bt145.1 != bt142.1) ((rdOf ByteArray.empty x4 0).toList == ([97, 108, 108, 111, 119] : List UInt8)) 0 0 0 0 0 (⟨#[]⟩ : ByteArray) bt142.1 bt145.1) else (sallyportref12_Parse.j1 k x4 t138 false ((rdOf ByteArray.empty x4 0).toList == ([97, 108, 108, 111, 119] : List UInt8)) 0 0 0 0 0 (⟨#[]⟩ : ByteArray) bt142.1 bt145.1)) else (sallyportref12_Parse.j1 k x4 t138 false ((rdOf ByteArray.empty x4 0).toList == ([97, 108, 108, 111, 119] : List UInt8)) 0 0 0 0 0 (⟨#[]⟩ : ByteArray) bt142.1 bt145.1))) else (none)) else (sallyportref12_Parse.j1 k x4 t138 bt142.2 ((rdOf ByteArray.empty x4 0).toList == ([97, 108, 108, 111, 119] : List UInt8)) 0 0 0 0 0 (⟨#[]⟩ : ByteArray) bt142.1 bt142.1))) else (none))) else (none)) else (none))
def sallyportref12_Parse.j1 : Nat → List ByteArray → List ByteArray → Bool → Bool → Int → Int → Int → Int → Int → ByteArray → Int → Int → Option (Bool × Int × Int × Int × Int × Int × ByteArray × Int × Int × Int)
 | 0, _, _, _, _, _, _, _, _, _, _, _, _ => none
 | k + 1, x4, x6, x8, x137000, x137001, x137002, x137003, x137004, x137005, x137006, x137007, x137008 => if x8 = true then (sallyportref12_Parse.j2 k x4 (decide ((x6.length : Int) > 2)) x137000 x137001 x137002 x137003 x137004 x137005 x137006 x137007 x137008) else (sallyportref12_Parse.j2 k x4 true x137000 x137001 x137002 x137003 x137004 x137005 x137006 x137007 x137008)
def sallyportref12_Parse.j2 : Nat → List ByteArray → Bool → Bool → Int → Int → Int → Int → Int → ByteArray → Int → Int → Option (Bool × Int × Int × Int × Int × Int × ByteArray × Int × Int × Int)
 | 0, _, _, _, _, _, _, _, _, _, _, _ => none
 | k + 1, x4, x86, x137000, x137001, x137002, x137003, x137004, x137005, x137006, x137007, x137008 => if x86 = true then (some (false, 0, 0, 0, 0, 0, (⟨#[]⟩ : ByteArray), 0, 0, 120)) else (if 1 < (x4.length : Int) then ((sallyportref12_words.f k (rdOf ByteArray.empty x4 1) 47).bind fun t148 => (if (t148.length : Int) = 2 then (if 0 < (t148.length : Int) then ((E.refPA.f (rdOf ByteArray.empty t148 0)).bind fun bt152 => (if 1 < (t148.length : Int) then ((XV.sallyportbase_Whole.f k (rdOf ByteArray.empty t148 1) 2).bind fun bt169 => (if bt152.2.2.2.2.1 > 0 then (sallyportref12_Parse.j3 k bt169.1 true x137000 x137001 x137002 x137003 x137004 x137005 x137006 x137007 x137008 bt152.1 bt152.2.1 bt152.2.2.1 bt152.2.2.2.1) else (sallyportref12_Parse.j3 k bt169.1 (!bt169.2) x137000 x137001 x137002 x137003 x137004 x137005 x137006 x137007 x137008 bt152.1 bt152.2.1 bt152.2.2.1 bt152.2.2.2.1))) else (none))) else (none)) else (if (rdOf ByteArray.empty x4 1).toList = ([] : List UInt8) then (some (false, 0, 0, 0, 0, 0, (⟨#[]⟩ : ByteArray), 0, 0, 120)) else ((E.refRule.f x137000 x137001 x137002 x137003 x137004 x137005 (rdOf ByteArray.empty x4 1) x137007 x137008).bind fun t174 => (if t174 = true then (some (x137000, x137001, x137002, x137003, x137004, x137005, rdOf ByteArray.empty x4 1, x137007, x137008, 0)) else (some (false, 0, 0, 0, 0, 0, (⟨#[]⟩ : ByteArray), 0, 0, 120))))))) else (none))
def sallyportref12_Parse.j3 : Nat → Int → Bool → Bool → Int → Int → Int → Int → Int → ByteArray → Int → Int → Int → Int → Int → Int → Option (Bool × Int × Int × Int × Int × Int × ByteArray × Int × Int × Int)
 | 0, _, _, _, _, _, _, _, _, _, _, _, _, _, _, _ => none
 | k + 1, x14, x115, x137000, x137001, x137002, x137003, x137004, x137005, x137006, x137007, x137008, x167000, x167001, x167002, x167003 => if x115 = true then (some (false, 0, 0, 0, 0, 0, (⟨#[]⟩ : ByteArray), 0, 0, 120)) else ((E.refRule.f x137000 x167000 x167001 x167002 x167003 x14 x137006 x137007 x137008).bind fun t171 => (if t171 = true then (some (x137000, x167000, x167001, x167002, x167003, x14, x137006, x137007, x137008, 0)) else (some (false, 0, 0, 0, 0, 0, (⟨#[]⟩ : ByteArray), 0, 0, 120))))
end
def sallyportref12_Parse.f (k : Nat) (a0 : ByteArray) : Option (Bool × Int × Int × Int × Int × Int × ByteArray × Int × Int × Int) := (sallyportref12_words.f k a0 32).bind fun t130 => (if (a0.size : Int) > 285 then (sallyportref12_Parse.j0 k t130 true) else (if (t130.length : Int) = 3 then (if 0 < (t130.length : Int) then (if (rdOf ByteArray.empty t130 0).toList = ([97, 108, 108, 111, 119] : List UInt8) then (sallyportref12_Parse.j0 k t130 false) else (sallyportref12_Parse.j0 k t130 ((rdOf ByteArray.empty t130 0).toList != ([100, 101, 110, 121] : List UInt8)))) else (none)) else (sallyportref12_Parse.j0 k t130 true)))
theorem sallyportref12_Parse.mono_l : ∀ k, (∀ y0 y1, LeO (sallyportref12_Parse.j0 k y0 y1) (sallyportref12_Parse.j0 (k + 1) y0 y1)) ∧ (∀ y0 y1 y2 y3 y4 y5 y6 y7 y8 y9 y10 y11, LeO (sallyportref12_Parse.j1 k y0 y1 y2 y3 y4 y5 y6 y7 y8 y9 y10 y11) (sallyportref12_Parse.j1 (k + 1) y0 y1 y2 y3 y4 y5 y6 y7 y8 y9 y10 y11)) ∧ (∀ y0 y1 y2 y3 y4 y5 y6 y7 y8 y9 y10, LeO (sallyportref12_Parse.j2 k y0 y1 y2 y3 y4 y5 y6 y7 y8 y9 y10) (sallyportref12_Parse.j2 (k + 1) y0 y1 y2 y3 y4 y5 y6 y7 y8 y9 y10)) ∧ (∀ y0 y1 y2 y3 y4 y5 y6 y7 y8 y9 y10 y11 y12 y13 y14, LeO (sallyportref12_Parse.j3 k y0 y1 y2 y3 y4 y5 y6 y7 y8 y9 y10 y11 y12 y13 y14) (sallyportref12_Parse.j3 (k + 1) y0 y1 y2 y3 y4 y5 y6 y7 y8 y9 y10 y11 y12 y13 y14))
 | 0 => ⟨fun _ _ r h => by simp [sallyportref12_Parse.j0] at h, fun _ _ _ _ _ _ _ _ _ _ _ _ r h => by simp [sallyportref12_Parse.j1] at h, fun _ _ _ _ _ _ _ _ _ _ _ r h => by simp [sallyportref12_Parse.j2] at h, fun _ _ _ _ _ _ _ _ _ _ _ _ _ _ _ r h => by simp [sallyportref12_Parse.j3] at h⟩
 | k + 1 => by
  obtain ⟨ih0, ih1, ih2, ih3⟩ := sallyportref12_Parse.mono_l k
  refine ⟨?_, ?_, ?_, ?_⟩
  ·intro y0 y1
   unfold sallyportref12_Parse.j0
   repeat' first
   | (with_reducible exact ih0 _ _)
   | (with_reducible exact ih1 _ _ _ _ _ _ _ _ _ _ _ _)
   | (with_reducible exact ih2 _ _ _ _ _ _ _ _ _ _ _)
   | (with_reducible exact ih3 _ _ _ _ _ _ _ _ _ _ _ _ _ _ _)
   | (with_reducible exact XV.sallyportbase_Whole.mono _ _ _)
   | (with_reducible exact sallyportref12_words.mono _ _ _)
   | (with_reducible exact LeO.refl _)
   | (with_reducible exact LeO.none _)
   | (with_reducible refine LeO.ite ?_ ?_)
   | (with_reducible refine LeO.bind ?_ (fun _ => ?_))
   | exact ih0 _ _
   | exact ih1 _ _ _ _ _ _ _ _ _ _ _ _
   | exact ih2 _ _ _ _ _ _ _ _ _ _ _
   | exact ih3 _ _ _ _ _ _ _ _ _ _ _ _ _ _ _
   | exact XV.sallyportbase_Whole.mono _ _ _
   | exact sallyportref12_words.mono _ _ _
   | exact LeO.none _
   | refine LeO.ite ?_ ?_
   | refine LeO.bind ?_ (fun _ => ?_)
  ·intro y0 y1 y2 y3 y4 y5 y6 y7 y8 y9 y10 y11
   unfold sallyportref12_Parse.j1
   repeat' first
   | (with_reducible exact ih0 _ _)
   | (with_reducible exact ih1 _ _ _ _ _ _ _ _ _ _ _ _)
   | (with_reducible exact ih2 _ _ _ _ _ _ _ _ _ _ _)
   | (with_reducible exact ih3 _ _ _ _ _ _ _ _ _ _ _ _ _ _ _)
   | (with_reducible exact XV.sallyportbase_Whole.mono _ _ _)
   | (with_reducible exact sallyportref12_words.mono _ _ _)
   | (with_reducible exact LeO.refl _)
   | (with_reducible exact LeO.none _)
   | (with_reducible refine LeO.ite ?_ ?_)
   | (with_reducible refine LeO.bind ?_ (fun _ => ?_))
   | exact ih0 _ _
   | exact ih1 _ _ _ _ _ _ _ _ _ _ _ _
   | exact ih2 _ _ _ _ _ _ _ _ _ _ _
   | exact ih3 _ _ _ _ _ _ _ _ _ _ _ _ _ _ _
   | exact XV.sallyportbase_Whole.mono _ _ _
   | exact sallyportref12_words.mono _ _ _
   | exact LeO.none _
   | refine LeO.ite ?_ ?_
   | refine LeO.bind ?_ (fun _ => ?_)
  ·intro y0 y1 y2 y3 y4 y5 y6 y7 y8 y9 y10
   unfold sallyportref12_Parse.j2
   repeat' first
   | (with_reducible exact ih0 _ _)
   | (with_reducible exact ih1 _ _ _ _ _ _ _ _ _ _ _ _)
   | (with_reducible exact ih2 _ _ _ _ _ _ _ _ _ _ _)
   | (with_reducible exact ih3 _ _ _ _ _ _ _ _ _ _ _ _ _ _ _)
   | (with_reducible exact XV.sallyportbase_Whole.mono _ _ _)
   | (with_reducible exact sallyportref12_words.mono _ _ _)
   | (with_reducible exact LeO.refl _)
   | (with_reducible exact LeO.none _)
   | (with_reducible refine LeO.ite ?_ ?_)
   | (with_reducible refine LeO.bind ?_ (fun _ => ?_))
   | exact ih0 _ _
   | exact ih1 _ _ _ _ _ _ _ _ _ _ _ _
   | exact ih2 _ _ _ _ _ _ _ _ _ _ _
   | exact ih3 _ _ _ _ _ _ _ _ _ _ _ _ _ _ _
   | exact XV.sallyportbase_Whole.mono _ _ _
   | exact sallyportref12_words.mono _ _ _
   | exact LeO.none _
   | refine LeO.ite ?_ ?_
   | refine LeO.bind ?_ (fun _ => ?_)
  ·intro y0 y1 y2 y3 y4 y5 y6 y7 y8 y9 y10 y11 y12 y13 y14
   unfold sallyportref12_Parse.j3
   repeat' first
   | (with_reducible exact ih0 _ _)
   | (with_reducible exact ih1 _ _ _ _ _ _ _ _ _ _ _ _)
   | (with_reducible exact ih2 _ _ _ _ _ _ _ _ _ _ _)
   | (with_reducible exact ih3 _ _ _ _ _ _ _ _ _ _ _ _ _ _ _)
   | (with_reducible exact XV.sallyportbase_Whole.mono _ _ _)
   | (with_reducible exact sallyportref12_words.mono _ _ _)
   | (with_reducible exact LeO.refl _)
   | (with_reducible exact LeO.none _)
   | (with_reducible refine LeO.ite ?_ ?_)
   | (with_reducible refine LeO.bind ?_ (fun _ => ?_))
   | exact ih0 _ _
   | exact ih1 _ _ _ _ _ _ _ _ _ _ _ _
   | exact ih2 _ _ _ _ _ _ _ _ _ _ _
   | exact ih3 _ _ _ _ _ _ _ _ _ _ _ _ _ _ _
   | exact XV.sallyportbase_Whole.mono _ _ _
   | exact sallyportref12_words.mono _ _ _
   | exact LeO.none _
   | refine LeO.ite ?_ ?_
   | refine LeO.bind ?_ (fun _ => ?_)
theorem sallyportref12_Parse.mono : ∀ a0 k, LeO (sallyportref12_Parse.f k a0) (sallyportref12_Parse.f (k + 1) a0) := by
 intro a0 k
 obtain ⟨ih0, ih1, ih2, ih3⟩ := sallyportref12_Parse.mono_l k
 unfold sallyportref12_Parse.f
 repeat' first
   | (with_reducible exact ih0 _ _)
   | (with_reducible exact ih1 _ _ _ _ _ _ _ _ _ _ _ _)
   | (with_reducible exact ih2 _ _ _ _ _ _ _ _ _ _ _)
   | (with_reducible exact ih3 _ _ _ _ _ _ _ _ _ _ _ _ _ _ _)
   | (with_reducible exact XV.sallyportbase_Whole.mono _ _ _)
   | (with_reducible exact sallyportref12_words.mono _ _ _)
   | (with_reducible exact LeO.refl _)
   | (with_reducible exact LeO.none _)
   | (with_reducible refine LeO.ite ?_ ?_)
   | (with_reducible refine LeO.bind ?_ (fun _ => ?_))
   | exact ih0 _ _
   | exact ih1 _ _ _ _ _ _ _ _ _ _ _ _
   | exact ih2 _ _ _ _ _ _ _ _ _ _ _
   | exact ih3 _ _ _ _ _ _ _ _ _ _ _ _ _ _ _
   | exact XV.sallyportbase_Whole.mono _ _ _
   | exact sallyportref12_words.mono _ _ _
   | exact LeO.none _
   | refine LeO.ite ?_ ?_
   | refine LeO.bind ?_ (fun _ => ?_)
set_option maxHeartbeats 8000000 in
set_option maxRecDepth 100000 in
theorem sallyportref12_Parse.calls (k : Nat) (a0 : ByteArray) (r1 : Bool) (r2 : Int) (r3 : Int) (r4 : Int) (r5 : Int) (r6 : Int) (r7 : ByteArray) (r8 : Int) (r9 : Int) (r10 : Int) (w : World) (hS_ : StdW w) (h : sallyportref12_Parse.f k a0 = some (r1, r2, r3, r4, r5, r6, r7, r8, r9, r10)) :
  Calls Tryz.prog 22 #[.string a0] w fun e w' => e = .returned (.tuple #[.agg #[.bool r1, .int .u8 r2, .int .u8 r3, .int .u8 r4, .int .u8 r5, .int .i64 r6, .string r7, .int .i64 r8, .int .i64 r9], .int .i64 r10]) ∧ Below w.heap.size w w' := by
 have hu37 := Tryz.underlying37
 have hu24 := Tryz.underlying24
 have hu79 := Tryz.underlying79
 have HS_ := Aside0.mk hS_
 clear hS_
 have HB := Aside0.mk (Below.refl w.heap.size w)
 have H : ((sallyportref12_words.f k a0 32).bind fun t130 => (if (a0.size : Int) > 285 then (sallyportref12_Parse.j0 k t130 true) else (if (t130.length : Int) = 3 then (if 0 < (t130.length : Int) then (if (rdOf ByteArray.empty t130 0).toList = ([97, 108, 108, 111, 119] : List UInt8) then (sallyportref12_Parse.j0 k t130 false) else (sallyportref12_Parse.j0 k t130 ((rdOf ByteArray.empty t130 0).toList != ([100, 101, 110, 121] : List UInt8)))) else (none)) else (sallyportref12_Parse.j0 k t130 true)))) = some (r1, r2, r3, r4, r5, r6, r7, r8, r9, r10) := h
 clear h
 replace H := Option.bind_eq_some_iff.mp H
 obtain ⟨t130, A20, H⟩ := H
 replace H : (if (a0.size : Int) > 285 then (sallyportref12_Parse.j0 k t130 true) else (if (t130.length : Int) = 3 then (if 0 < (t130.length : Int) then (if (rdOf ByteArray.empty t130 0).toList = ([97, 108, 108, 111, 119] : List UInt8) then (sallyportref12_Parse.j0 k t130 false) else (sallyportref12_Parse.j0 k t130 ((rdOf ByteArray.empty t130 0).toList != ([100, 101, 110, 121] : List UInt8)))) else (none)) else (sallyportref12_Parse.j0 k t130 true))) = some (r1, r2, r3, r4, r5, r6, r7, r8, r9, r10) := H
 have A2 := Aside0.mk A20
 clear A20
 have HC3 := Aside0.mk H
 clear H
 go_enter Tryz.func22, Tryz.ntmps22
 go_upto_region 2 with (first | ((with_reducible refine gate_dst (N := 2) rfl ?_); (try (refine gate_guard (by rfl) ?_; dsimp only)); refine box_event ?hg (N := 2) ?hd (cs := #[.bool false, .int .u8 0, .int .u8 0, .int .u8 0, .int .u8 0, .int .i64 0, .string (⟨#[]⟩ : ByteArray), .int .i64 0, .int .i64 0]) (t := 37) ?hr ?_; (case hd => rfl); (case hg => rfl); (case hr => first | (go_simp; done) | (go_simp; rfl)); intro gb129 hg w4 hbox hb; have n0_ := Aside0.mk (below_step (by repeat (first | (with_reducible first | exact HB.out | apply below_alloc | apply pw_below_drewN | apply below_drew1) | exact HB.out)) hb); have n1_ := Aside0.mk (hbox); have n2_ := Aside0.mk ((by rw [hg]; exact (below_size (by repeat (first | (with_reducible first | exact HB.out | apply below_alloc | apply pw_below_drewN | apply below_drew1) | exact HB.out))) : w.heap.size ≤ gb129)); have n3_ := Aside0.mk ((by rw [hg]; exact (below_size (by repeat (first | (with_reducible first | exact HB.out | apply below_alloc | apply pw_below_drewN | apply below_drew1) | exact HB.out))) : w.heap.size ≤ gb129)); clear HB; have HB := n0_; have BK129 := n1_; have GW129 := n2_; have GE129 := n3_; clear n0_ n1_ n2_ n3_; clear hb hbox hg) | ((with_reducible refine gate_callee (f := 49) rfl ?_); refine goesL_ (some 17) rfl rfl Tryz.func49 (by kernel_rfl) rfl #[.string a0, .int .u8 32] rfl (by (try simp only [List.map_toArray, List.map_cons, List.map_nil]); first | done | rfl | (simp only [List.length_drop, List.length_take]; rfl)) ?_; (with_reducible refine (sallyportref12_words.calls k a0 32 t130 _ A2.out).mono ?_); rintro e w5 ⟨v131, rfl, ho0, hb⟩; refine ⟨_, rfl, ?_⟩; have n0_ := Aside0.mk (Kd.R_lower ho0 (below_size (by repeat (first | (with_reducible first | exact HB.out | apply below_alloc | apply pw_below_drewN | apply below_drew1 | refine below_set ?_ GE129.out) | exact HB.out)))); have n1_ := Aside0.mk (blk_below (g := gb129) (o := .cells #[.bool false, .int .u8 0, .int .u8 0, .int .u8 0, .int .u8 0, .int .i64 0, .string (⟨#[]⟩ : ByteArray), .int .i64 0, .int .i64 0] 37 (0, 0)) (by (with_reducible repeat (first | refine blk_drewN ?_ _ | refine blk_drew ?_ | refine blk_alloc ?_ _)); exact BK129.out) hb); have n2_ := Aside0.mk (below_step (by repeat (first | (with_reducible first | exact HB.out | apply below_alloc | apply pw_below_drewN | apply below_drew1 | refine below_set ?_ GE129.out) | exact HB.out)) hb); clear BK129; clear HB; have HO132 := n0_; have BK129 := n1_; have HB := n2_; clear n0_ n1_ n2_; (try clear hb); (try clear hb2); (try clear hk); (try clear hi); (try clear ho0)))
 (try simp only [Act.put, List.setIfInBounds_toArray, List.set_cons_zero, List.set_cons_succ])
 go_cut [37] (fun v37 wc => ∃ (kq : Nat) (x37_2 : Bool), v37 = .bool x37_2 ∧ Aside0 (sallyportref12_Parse.j0 kq t130 x37_2 = some (r1, r2, r3, r4, r5, r6, r7, r8, r9, r10)) ∧ Aside0 (kq ≤ k) ∧ Aside0 (Kd.R Kd.string 9 wc w.heap.size (fun _ => True) v131 t130) ∧ Aside0 (wc.heap[gb129]? = some (.cells #[.bool false, .int .u8 0, .int .u8 0, .int .u8 0, .int .u8 0, .int .i64 0, .string (⟨#[]⟩ : ByteArray), .int .i64 0, .int .i64 0] 37 (0, 0))) ∧ Aside0 (Below w.heap.size w wc))
 case first =>
  have H := HC3.out
  clear HC3
  by_cases c6 : (a0.size : Int) > 285
  ·rw [if_pos c6] at H
   have c6b0 : decide (285 < (a0.size : Int)) = true := decide_eq_true c6
   have c6b1 : decide (285 < a0.size) = true := decide_eq_true (by omega)
   clear c6
   (first | rw [c6b0] | (simp only [i64_w, i32_w]; rw [c6b0]) | skip)
   have H' := Aside0.mk H
   clear H
   go_wp2
   go_meet
   case rel => exact ⟨_, (true), (by first | rfl | (simp; done) | (simp [*]; done)), H', ⟨by first | omega | exact Nat.le_refl _⟩, ⟨by (with_reducible repeat (first | apply Kd.R_alloc | apply Kd.R_drewN | apply Kd.R_drew)); exact HO132.out⟩, ⟨by (with_reducible repeat (first | refine blk_drewN ?_ _ | refine blk_drew ?_ | refine blk_alloc ?_ _)); exact BK129.out⟩, ⟨by repeat (first | (with_reducible first | exact HB.out | apply below_alloc | apply pw_below_drewN | apply below_drew1 | refine below_set ?_ GE129.out) | exact HB.out)⟩⟩
  ·rw [if_neg c6] at H
   have c6b0 : decide (285 < (a0.size : Int)) = false := decide_eq_false c6
   have c6b1 : decide (285 < a0.size) = false := decide_eq_false (by omega)
   clear c6
   (first | rw [c6b0] | (simp only [i64_w, i32_w]; rw [c6b0]) | skip)
   by_cases c7 : (t130.length : Int) = 3
   ·rw [if_pos c7] at H
    have c7b0 : ((t130.length : Int) == 3) = true := beq_iff_eq.mpr c7
    have c7b1 : ((t130.length : Int) != 3) = false := bne_eq_false_iff_eq.mpr c7
    clear c7
    by_cases c8 : 0 < (t130.length : Int)
    ·rw [if_pos c8] at H
     have c8b0 : decide (0 < (t130.length : Int)) = true := decide_eq_true c8
     have c8b1 : decide (0 < t130.length) = true := decide_eq_true (by omega)
     clear c8
     by_cases c9 : (rdOf ByteArray.empty t130 0).toList = ([97, 108, 108, 111, 119] : List UInt8)
     ·rw [if_pos c9] at H
      have c9b0 : ((rdOf ByteArray.empty t130 0).toList == ([97, 108, 108, 111, 119] : List UInt8)) = true := beq_iff_eq.mpr c9
      have c9b1 : ((rdOf ByteArray.empty t130 0).toList != ([97, 108, 108, 111, 119] : List UInt8)) = false := bne_eq_false_iff_eq.mpr c9
      clear c9
      have H' := Aside0.mk H
      clear H
      obtain ⟨Ao10, co10, eo10⟩ := Kd.R_slice HO132.out
      subst eo10
      have p133 : 0 ≤ (0 : Int) := (by omega)
      have q133 : 0 < (t130.length : Int) := of_decide_eq_true (by first | (with_reducible assumption) | assumption)
      obtain ⟨ad133, e133, hx133_0⟩ := Kd.at_string (Kd.R_reads' HO132.out).2.2 0 p133 q133
      cases e133
      have qi133 : (0 < t130.length) = True := eq_true (by omega)
      (try rw [show ((0 : Int)).toNat = 0 from rfl] at hx133_0)
      (try rw [Addr.add_zero'] at hx133_0)
      replace p133 := eq_true p133
      replace q133 := eq_true q133
      go_wp2
      go_meet
      case rel => exact ⟨_, (false), (by first | rfl | (simp; done) | (simp [*]; done)), H', ⟨by first | omega | exact Nat.le_refl _⟩, ⟨by (with_reducible repeat (first | apply Kd.R_alloc | apply Kd.R_drewN | apply Kd.R_drew)); exact HO132.out⟩, ⟨by (with_reducible repeat (first | refine blk_drewN ?_ _ | refine blk_drew ?_ | refine blk_alloc ?_ _)); exact BK129.out⟩, ⟨by repeat (first | (with_reducible first | exact HB.out | apply below_alloc | apply pw_below_drewN | apply below_drew1 | refine below_set ?_ GE129.out) | exact HB.out)⟩⟩
     ·rw [if_neg c9] at H
      have c9b0 : ((rdOf ByteArray.empty t130 0).toList == ([97, 108, 108, 111, 119] : List UInt8)) = false := beq_eq_false_iff_ne.mpr c9
      have c9b1 : ((rdOf ByteArray.empty t130 0).toList != ([97, 108, 108, 111, 119] : List UInt8)) = true := bne_iff_ne.mpr c9
      have H' := Aside0.mk H
      clear H
      obtain ⟨Ao11, co11, eo11⟩ := Kd.R_slice HO132.out
      subst eo11
      have p133 : 0 ≤ (0 : Int) := (by omega)
      have q133 : 0 < (t130.length : Int) := of_decide_eq_true (by first | (with_reducible assumption) | assumption)
      obtain ⟨ad133, e133, hx133_0⟩ := Kd.at_string (Kd.R_reads' HO132.out).2.2 0 p133 q133
      cases e133
      have qi133 : (0 < t130.length) = True := eq_true (by omega)
      (try rw [show ((0 : Int)).toNat = 0 from rfl] at hx133_0)
      (try rw [Addr.add_zero'] at hx133_0)
      replace p133 := eq_true p133
      replace q133 := eq_true q133
      have p134 : 0 ≤ (0 : Int) := (by omega)
      have q134 : 0 < (t130.length : Int) := of_decide_eq_true (by first | (with_reducible assumption) | assumption)
      obtain ⟨ad134, e134, hx134_0⟩ := Kd.at_string (Kd.R_reads' HO132.out).2.2 0 p134 q134
      obtain rfl : ad133 = ad134 := (by injection e134)
      have qi134 : (0 < t130.length) = True := eq_true (by omega)
      (try rw [show ((0 : Int)).toNat = 0 from rfl] at hx134_0)
      (try rw [Addr.add_zero'] at hx134_0)
      replace p134 := eq_true p134
      replace q134 := eq_true q134
      go_wp2
      go_meet
      case rel => exact ⟨_, (((rdOf ByteArray.empty t130 0).toList != ([100, 101, 110, 121] : List UInt8))), (by first | rfl | (simp; done) | (simp [*]; done)), H', ⟨by first | omega | exact Nat.le_refl _⟩, ⟨by (with_reducible repeat (first | apply Kd.R_alloc | apply Kd.R_drewN | apply Kd.R_drew)); exact HO132.out⟩, ⟨by (with_reducible repeat (first | refine blk_drewN ?_ _ | refine blk_drew ?_ | refine blk_alloc ?_ _)); exact BK129.out⟩, ⟨by repeat (first | (with_reducible first | exact HB.out | apply below_alloc | apply pw_below_drewN | apply below_drew1 | refine below_set ?_ GE129.out) | exact HB.out)⟩⟩
    ·rw [if_neg c8] at H
     exact absurd H (by simp)
   ·rw [if_neg c7] at H
    have c7b0 : ((t130.length : Int) == 3) = false := beq_eq_false_iff_ne.mpr c7
    have c7b1 : ((t130.length : Int) != 3) = true := bne_iff_ne.mpr c7
    have H' := Aside0.mk H
    clear H
    obtain ⟨Ao12, co12, eo12⟩ := Kd.R_slice HO132.out
    subst eo12
    go_wp2
    go_meet
    case rel => exact ⟨_, (true), (by first | rfl | (simp; done) | (simp [*]; done)), H', ⟨by first | omega | exact Nat.le_refl _⟩, ⟨by (with_reducible repeat (first | apply Kd.R_alloc | apply Kd.R_drewN | apply Kd.R_drew)); exact HO132.out⟩, ⟨by (with_reducible repeat (first | refine blk_drewN ?_ _ | refine blk_drew ?_ | refine blk_alloc ?_ _)); exact BK129.out⟩, ⟨by repeat (first | (with_reducible first | exact HB.out | apply below_alloc | apply pw_below_drewN | apply below_drew1 | refine below_set ?_ GE129.out) | exact HB.out)⟩⟩
 case rest =>
  clear HC3
  try clear p1
  try clear q1
  try clear hx1
  try clear qi1
  try clear c2
  try clear p2
  try clear c4
  try clear c6
  try clear c6b0
  try clear c6b1
  try clear c7
  try clear c7b0
  try clear c7b1
  try clear c8
  try clear c8b0
  try clear c8b1
  try clear c9
  try clear c9b0
  try clear c9b1
  try clear hx133_0
  try clear hx134_0
  try clear p133
  try clear p134
  try clear q133
  try clear q134
  obtain ⟨kq, x37_2, rfl, HA, HJ2, HO_4, BK129, HB⟩ := hcut
  cases kq with
  | zero => exact absurd HA.out (by simp [sallyportref12_Parse.j0])
  | succ kj2 =>
   have H := HA.out
   clear HA
   simp only [sallyportref12_Parse.j0] at H
   by_cases c13 : x37_2 = true
   ·subst c13
    have H1 : (some (false, 0, 0, 0, 0, 0, (⟨#[]⟩ : ByteArray), 0, 0, 120)) = some (r1, r2, r3, r4, r5, r6, r7, r8, r9, r10) := by rw [if_pos rfl] at H; exact H
    clear H
    have H := H1
    clear H1
    simp only [Option.some.injEq, Prod.mk.injEq] at H
    obtain ⟨rfl, rfl, rfl, rfl, rfl, rfl, rfl, rfl, rfl, rfl⟩ := H
    have hcz14_0 : wc.cell? ⟨gb129, 0, none⟩ = some (.bool false) := (blk_cell BK129.out 0).trans rfl
    have hcz14_1 : wc.cell? ⟨gb129, 1, none⟩ = some (.int .u8 0) := (blk_cell BK129.out 1).trans rfl
    have hcz14_2 : wc.cell? ⟨gb129, 2, none⟩ = some (.int .u8 0) := (blk_cell BK129.out 2).trans rfl
    have hcz14_3 : wc.cell? ⟨gb129, 3, none⟩ = some (.int .u8 0) := (blk_cell BK129.out 3).trans rfl
    have hcz14_4 : wc.cell? ⟨gb129, 4, none⟩ = some (.int .u8 0) := (blk_cell BK129.out 4).trans rfl
    have hcz14_5 : wc.cell? ⟨gb129, 5, none⟩ = some (.int .i64 0) := (blk_cell BK129.out 5).trans rfl
    have hcz14_6 : wc.cell? ⟨gb129, 6, none⟩ = some (.string (⟨#[]⟩ : ByteArray)) := (blk_cell BK129.out 6).trans rfl
    have hcz14_7 : wc.cell? ⟨gb129, 7, none⟩ = some (.int .i64 0) := (blk_cell BK129.out 7).trans rfl
    have hcz14_8 : wc.cell? ⟨gb129, 8, none⟩ = some (.int .i64 0) := (blk_cell BK129.out 8).trans rfl
    have hfz14_0 := blk_frozen BK129.out 0
    have hfz14_1 := blk_frozen BK129.out 1
    have hfz14_2 := blk_frozen BK129.out 2
    have hfz14_3 := blk_frozen BK129.out 3
    have hfz14_4 := blk_frozen BK129.out 4
    have hfz14_5 := blk_frozen BK129.out 5
    have hfz14_6 := blk_frozen BK129.out 6
    have hfz14_7 := blk_frozen BK129.out 7
    have hfz14_8 := blk_frozen BK129.out 8
    go_wp2
    refine bodyPost_ret (results_ct rfl _ _ gb129 37 #[.bool false, .int .u8 0, .int .u8 0, .int .u8 0, .int .u8 0, .int .i64 0, .string (⟨#[]⟩ : ByteArray), .int .i64 0, .int .i64 0] (0, 0) _ rfl (by (with_reducible repeat (first | refine blk_drewN ?_ _ | refine blk_drew ?_ | refine blk_alloc ?_ _)); refine blk_put (cs := #[.bool false, .int .u8 0, .int .u8 0, .int .u8 0, .int .u8 0, .int .i64 0, .string (⟨#[]⟩ : ByteArray), .int .i64 0, .int .i64 0]) ?_ 8 _ rfl; (with_reducible repeat (first | refine blk_drewN ?_ _ | refine blk_drew ?_ | refine blk_alloc ?_ _)); refine blk_put (cs := #[.bool false, .int .u8 0, .int .u8 0, .int .u8 0, .int .u8 0, .int .i64 0, .string (⟨#[]⟩ : ByteArray), .int .i64 0, .int .i64 0]) ?_ 7 _ rfl; (with_reducible repeat (first | refine blk_drewN ?_ _ | refine blk_drew ?_ | refine blk_alloc ?_ _)); refine blk_put (cs := #[.bool false, .int .u8 0, .int .u8 0, .int .u8 0, .int .u8 0, .int .i64 0, .string (⟨#[]⟩ : ByteArray), .int .i64 0, .int .i64 0]) ?_ 6 _ rfl; (with_reducible repeat (first | refine blk_drewN ?_ _ | refine blk_drew ?_ | refine blk_alloc ?_ _)); refine blk_put (cs := #[.bool false, .int .u8 0, .int .u8 0, .int .u8 0, .int .u8 0, .int .i64 0, .string (⟨#[]⟩ : ByteArray), .int .i64 0, .int .i64 0]) ?_ 5 _ rfl; (with_reducible repeat (first | refine blk_drewN ?_ _ | refine blk_drew ?_ | refine blk_alloc ?_ _)); refine blk_put (cs := #[.bool false, .int .u8 0, .int .u8 0, .int .u8 0, .int .u8 0, .int .i64 0, .string (⟨#[]⟩ : ByteArray), .int .i64 0, .int .i64 0]) ?_ 4 _ rfl; (with_reducible repeat (first | refine blk_drewN ?_ _ | refine blk_drew ?_ | refine blk_alloc ?_ _)); refine blk_put (cs := #[.bool false, .int .u8 0, .int .u8 0, .int .u8 0, .int .u8 0, .int .i64 0, .string (⟨#[]⟩ : ByteArray), .int .i64 0, .int .i64 0]) ?_ 3 _ rfl; (with_reducible repeat (first | refine blk_drewN ?_ _ | refine blk_drew ?_ | refine blk_alloc ?_ _)); refine blk_put (cs := #[.bool false, .int .u8 0, .int .u8 0, .int .u8 0, .int .u8 0, .int .i64 0, .string (⟨#[]⟩ : ByteArray), .int .i64 0, .int .i64 0]) ?_ 2 _ rfl; (with_reducible repeat (first | refine blk_drewN ?_ _ | refine blk_drew ?_ | refine blk_alloc ?_ _)); refine blk_put (cs := #[.bool false, .int .u8 0, .int .u8 0, .int .u8 0, .int .u8 0, .int .i64 0, .string (⟨#[]⟩ : ByteArray), .int .i64 0, .int .i64 0]) ?_ 1 _ rfl; (with_reducible repeat (first | refine blk_drewN ?_ _ | refine blk_drew ?_ | refine blk_alloc ?_ _)); refine blk_put (cs := #[.bool false, .int .u8 0, .int .u8 0, .int .u8 0, .int .u8 0, .int .i64 0, .string (⟨#[]⟩ : ByteArray), .int .i64 0, .int .i64 0]) ?_ 0 _ rfl; (with_reducible repeat (first | refine blk_drewN ?_ _ | refine blk_drew ?_ | refine blk_alloc ?_ _)); exact BK129.out) Tryz.underlying37 rfl (by kernel_rfl)) rfl ?_
    exact ⟨by first | rfl | (simp [errW_none, errW_some] <;> rfl) | (simp [*, errW_none, errW_some] <;> rfl), by repeat (first | (with_reducible first | exact HB.out | apply below_alloc | apply pw_below_drewN | apply below_drew1 | refine below_set ?_ GE129.out) | exact HB.out)⟩
   ·replace c13 := Bool.eq_false_iff.mpr c13
    subst c13
    have H1 : (if 0 < (t130.length : Int) then (if 2 < (t130.length : Int) then ((sallyportref12_words.f kj2 (rdOf ByteArray.empty t130 2) 45).bind fun t138 => (if 0 < (t138.length : Int) then ((XV.sallyportbase_Whole.f kj2 (rdOf ByteArray.empty t138 0) 5).bind fun bt142 => (if (t138.length : Int) = 2 then (if 1 < (t138.length : Int) then ((XV.sallyportbase_Whole.f kj2 (rdOf ByteArray.empty t138 1) 5).bind fun bt145 => (if bt142.2 = true then (if bt145.2 = true then (sallyportref12_Parse.j1 kj2 t130 t138 (bt145.1 != bt142.1) ((rdOf ByteArray.empty t130 0).toList == ([97, 108, 108, 111, 119] : List UInt8)) 0 0 0 0 0 (⟨#[]⟩ : ByteArray) bt142.1 bt145.1) else (sallyportref12_Parse.j1 kj2 t130 t138 false ((rdOf ByteArray.empty t130 0).toList == ([97, 108, 108, 111, 119] : List UInt8)) 0 0 0 0 0 (⟨#[]⟩ : ByteArray) bt142.1 bt145.1)) else (sallyportref12_Parse.j1 kj2 t130 t138 false ((rdOf ByteArray.empty t130 0).toList == ([97, 108, 108, 111, 119] : List UInt8)) 0 0 0 0 0 (⟨#[]⟩ : ByteArray) bt142.1 bt145.1))) else (none)) else (sallyportref12_Parse.j1 kj2 t130 t138 bt142.2 ((rdOf ByteArray.empty t130 0).toList == ([97, 108, 108, 111, 119] : List UInt8)) 0 0 0 0 0 (⟨#[]⟩ : ByteArray) bt142.1 bt142.1))) else (none))) else (none)) else (none)) = some (r1, r2, r3, r4, r5, r6, r7, r8, r9, r10) := by rw [if_neg (show ¬ (false = true) by decide)] at H; exact H
    clear H
    have H := H1
    clear H1
    by_cases c15 : 0 < (t130.length : Int)
    ·rw [if_pos c15] at H
     have c15b0 : decide (0 < (t130.length : Int)) = true := decide_eq_true c15
     have c15b1 : decide (0 < t130.length) = true := decide_eq_true (by omega)
     clear c15
     by_cases c16 : 2 < (t130.length : Int)
     ·rw [if_pos c16] at H
      have c16b0 : decide (2 < (t130.length : Int)) = true := decide_eq_true c16
      have c16b1 : decide (2 < t130.length) = true := decide_eq_true (by omega)
      clear c16
      replace H := Option.bind_eq_some_iff.mp H
      obtain ⟨t138, A170, H⟩ := H
      replace H : (if 0 < (t138.length : Int) then ((XV.sallyportbase_Whole.f kj2 (rdOf ByteArray.empty t138 0) 5).bind fun bt142 => (if (t138.length : Int) = 2 then (if 1 < (t138.length : Int) then ((XV.sallyportbase_Whole.f kj2 (rdOf ByteArray.empty t138 1) 5).bind fun bt145 => (if bt142.2 = true then (if bt145.2 = true then (sallyportref12_Parse.j1 kj2 t130 t138 (bt145.1 != bt142.1) ((rdOf ByteArray.empty t130 0).toList == ([97, 108, 108, 111, 119] : List UInt8)) 0 0 0 0 0 (⟨#[]⟩ : ByteArray) bt142.1 bt145.1) else (sallyportref12_Parse.j1 kj2 t130 t138 false ((rdOf ByteArray.empty t130 0).toList == ([97, 108, 108, 111, 119] : List UInt8)) 0 0 0 0 0 (⟨#[]⟩ : ByteArray) bt142.1 bt145.1)) else (sallyportref12_Parse.j1 kj2 t130 t138 false ((rdOf ByteArray.empty t130 0).toList == ([97, 108, 108, 111, 119] : List UInt8)) 0 0 0 0 0 (⟨#[]⟩ : ByteArray) bt142.1 bt145.1))) else (none)) else (sallyportref12_Parse.j1 kj2 t130 t138 bt142.2 ((rdOf ByteArray.empty t130 0).toList == ([97, 108, 108, 111, 119] : List UInt8)) 0 0 0 0 0 (⟨#[]⟩ : ByteArray) bt142.1 bt142.1))) else (none)) = some (r1, r2, r3, r4, r5, r6, r7, r8, r9, r10) := H
      have A17 := Aside0.mk A170
      clear A170
      by_cases c18 : 0 < (t138.length : Int)
      ·rw [if_pos c18] at H
       have c18b0 : decide (0 < (t138.length : Int)) = true := decide_eq_true c18
       have c18b1 : decide (0 < t138.length) = true := decide_eq_true (by omega)
       clear c18
       replace H := Option.bind_eq_some_iff.mp H
       obtain ⟨⟨t142, t143⟩, A190, H⟩ := H
       replace H : (if (t138.length : Int) = 2 then (if 1 < (t138.length : Int) then ((XV.sallyportbase_Whole.f kj2 (rdOf ByteArray.empty t138 1) 5).bind fun bt145 => (if t143 = true then (if bt145.2 = true then (sallyportref12_Parse.j1 kj2 t130 t138 (bt145.1 != t142) ((rdOf ByteArray.empty t130 0).toList == ([97, 108, 108, 111, 119] : List UInt8)) 0 0 0 0 0 (⟨#[]⟩ : ByteArray) t142 bt145.1) else (sallyportref12_Parse.j1 kj2 t130 t138 false ((rdOf ByteArray.empty t130 0).toList == ([97, 108, 108, 111, 119] : List UInt8)) 0 0 0 0 0 (⟨#[]⟩ : ByteArray) t142 bt145.1)) else (sallyportref12_Parse.j1 kj2 t130 t138 false ((rdOf ByteArray.empty t130 0).toList == ([97, 108, 108, 111, 119] : List UInt8)) 0 0 0 0 0 (⟨#[]⟩ : ByteArray) t142 bt145.1))) else (none)) else (sallyportref12_Parse.j1 kj2 t130 t138 t143 ((rdOf ByteArray.empty t130 0).toList == ([97, 108, 108, 111, 119] : List UInt8)) 0 0 0 0 0 (⟨#[]⟩ : ByteArray) t142 t142)) = some (r1, r2, r3, r4, r5, r6, r7, r8, r9, r10) := H
       have A19 := Aside0.mk A190
       clear A190
       have HC20 := Aside0.mk H
       clear H
       obtain ⟨Ao21, co21, eo21⟩ := Kd.R_slice HO_4.out
       subst eo21
       have p135 : 0 ≤ (0 : Int) := (by omega)
       have q135 : 0 < (t130.length : Int) := of_decide_eq_true (by first | (with_reducible assumption) | assumption)
       obtain ⟨ad135, e135, hx135_0⟩ := Kd.at_string (Kd.R_reads' HO_4.out).2.2 0 p135 q135
       cases e135
       have qi135 : (0 < t130.length) = True := eq_true (by omega)
       (try rw [show ((0 : Int)).toNat = 0 from rfl] at hx135_0)
       (try rw [Addr.add_zero'] at hx135_0)
       replace p135 := eq_true p135
       replace q135 := eq_true q135
       go_upto_if 61 with (first | ((with_reducible refine gate_dst (N := 5) rfl ?_); (try (refine gate_guard (by rfl) ?_; dsimp only)); refine box_event ?hg (N := 5) ?hd (cs := #[.bool false, .int .u8 0, .int .u8 0, .int .u8 0, .int .u8 0, .int .i64 0, .string (⟨#[]⟩ : ByteArray), .int .i64 0, .int .i64 0]) (t := 37) ?hr ?_; (case hd => rfl); (case hg => rfl); (case hr => first | (go_simp; done) | (go_simp; rfl)); intro gb136 hg w22 hbox hb; have n0_ := Aside0.mk (Kd.R_below (by (with_reducible repeat (first | apply Kd.R_alloc | apply Kd.R_drewN | apply Kd.R_drew)); exact HO_4.out) hb); have n1_ := Aside0.mk (blk_below (g := gb129) (o := .cells #[.bool false, .int .u8 0, .int .u8 0, .int .u8 0, .int .u8 0, .int .i64 0, .string (⟨#[]⟩ : ByteArray), .int .i64 0, .int .i64 0] 37 (0, 0)) (by (with_reducible repeat (first | refine blk_drewN ?_ _ | refine blk_drew ?_ | refine blk_alloc ?_ _)); exact BK129.out) hb); have n2_ := Aside0.mk (below_step (by repeat (first | (with_reducible first | exact HB.out | apply below_alloc | apply pw_below_drewN | apply below_drew1 | refine below_set ?_ GE129.out) | exact HB.out)) hb); have n3_ := Aside0.mk (hbox); have n4_ := Aside0.mk ((by rw [hg]; exact (below_size (by repeat (first | (with_reducible first | exact HB.out | apply below_alloc | apply pw_below_drewN | apply below_drew1 | refine below_set ?_ GE129.out) | exact HB.out))) : w.heap.size ≤ gb136)); have n5_ := Aside0.mk ((by rw [hg]; exact (below_size (by repeat (first | (with_reducible first | exact HB.out | apply below_alloc | apply pw_below_drewN | apply below_drew1 | refine below_set ?_ GE129.out) | exact HB.out))) : w.heap.size ≤ gb136)); have n6_ := Aside0.mk ((by rw [hg]; exact Nat.ne_of_lt (blk_lt (g := gb129) (o := .cells #[.bool false, .int .u8 0, .int .u8 0, .int .u8 0, .int .u8 0, .int .i64 0, .string (⟨#[]⟩ : ByteArray), .int .i64 0, .int .i64 0] 37 (0, 0)) (by (with_reducible repeat (first | refine blk_drewN ?_ _ | refine blk_drew ?_ | refine blk_alloc ?_ _)); exact BK129.out)) : gb129 ≠ gb136)); have n7_ := Aside0.mk ((by rw [hg]; exact Nat.ne_of_gt (blk_lt (g := gb129) (o := .cells #[.bool false, .int .u8 0, .int .u8 0, .int .u8 0, .int .u8 0, .int .i64 0, .string (⟨#[]⟩ : ByteArray), .int .i64 0, .int .i64 0] 37 (0, 0)) (by (with_reducible repeat (first | refine blk_drewN ?_ _ | refine blk_drew ?_ | refine blk_alloc ?_ _)); exact BK129.out)) : gb136 ≠ gb129)); clear HO_4; clear BK129; clear HB; have HO_4 := n0_; have BK129 := n1_; have HB := n2_; have BK136 := n3_; have GW136 := n4_; have GE136 := n5_; have NB129_136 := n6_; have NB136_129 := n7_; clear n0_ n1_ n2_ n3_ n4_ n5_ n6_ n7_; clear hb hbox hg; have hnb23 := NB136_129.out; have hnc23 := NB129_136.out; have hcz24_0 : w22.cell? ⟨gb136, 0, none⟩ = some (.bool false) := (blk_cell BK136.out 0).trans rfl; have hcz24_1 : w22.cell? ⟨gb136, 1, none⟩ = some (.int .u8 0) := (blk_cell BK136.out 1).trans rfl; have hcz24_2 : w22.cell? ⟨gb136, 2, none⟩ = some (.int .u8 0) := (blk_cell BK136.out 2).trans rfl; have hcz24_3 : w22.cell? ⟨gb136, 3, none⟩ = some (.int .u8 0) := (blk_cell BK136.out 3).trans rfl; have hcz24_4 : w22.cell? ⟨gb136, 4, none⟩ = some (.int .u8 0) := (blk_cell BK136.out 4).trans rfl; have hcz24_5 : w22.cell? ⟨gb136, 5, none⟩ = some (.int .i64 0) := (blk_cell BK136.out 5).trans rfl; have hcz24_6 : w22.cell? ⟨gb136, 6, none⟩ = some (.string (⟨#[]⟩ : ByteArray)) := (blk_cell BK136.out 6).trans rfl; have hcz24_7 : w22.cell? ⟨gb136, 7, none⟩ = some (.int .i64 0) := (blk_cell BK136.out 7).trans rfl; have hcz24_8 : w22.cell? ⟨gb136, 8, none⟩ = some (.int .i64 0) := (blk_cell BK136.out 8).trans rfl; have hfz24_0 := blk_frozen BK136.out 0; have hfz24_1 := blk_frozen BK136.out 1; have hfz24_2 := blk_frozen BK136.out 2; have hfz24_3 := blk_frozen BK136.out 3; have hfz24_4 := blk_frozen BK136.out 4; have hfz24_5 := blk_frozen BK136.out 5; have hfz24_6 := blk_frozen BK136.out 6; have hfz24_7 := blk_frozen BK136.out 7; have hfz24_8 := blk_frozen BK136.out 8; have p137 : 0 ≤ (2 : Int) := (by omega); have q137 : 2 < (t130.length : Int) := of_decide_eq_true (by first | (with_reducible assumption) | assumption); obtain ⟨ad137, e137, hx137_0⟩ := Kd.at_string (Kd.R_reads' HO_4.out).2.2 2 p137 q137; obtain rfl : ad135 = ad137 := (by injection e137); (try simp only [show (2 : Int).toNat = 2 from rfl, Nat.reduceMul, Nat.reduceEqDiff, Go.Addr.add, ↓reduceIte] at hx137_0); have qi137 : (2 < t130.length) = True := eq_true (by omega); (try rw [show ((2 : Int)).toNat = 2 from rfl] at hx137_0); have hn137_0 : ad135.block ≠ gb136 := Kd.own_blk (Kd.R_ne HO_4.out BK136.out (by decide)); have hn137_1 : ad135.block ≠ gb136 := Kd.own_blk (Kd.R_ne HO_4.out BK136.out (by decide)); have hn137_2 : ad135.block ≠ gb136 := Kd.own_blk (Kd.R_ne HO_4.out BK136.out (by decide)); have hn137_3 : ad135.block ≠ gb136 := Kd.own_blk (Kd.R_ne HO_4.out BK136.out (by decide)); have hn137_4 : ad135.block ≠ gb136 := Kd.own_blk (Kd.R_ne HO_4.out BK136.out (by decide)); have hn137_5 : ad135.block ≠ gb136 := Kd.own_blk (Kd.R_ne HO_4.out BK136.out (by decide)); have hn137_6 : ad135.block ≠ gb136 := Kd.own_blk (Kd.R_ne HO_4.out BK136.out (by decide)); have hn137_7 : ad135.block ≠ gb136 := Kd.own_blk (Kd.R_ne HO_4.out BK136.out (by decide)); have hn137_8 : ad135.block ≠ gb136 := Kd.own_blk (Kd.R_ne HO_4.out BK136.out (by decide)); replace hx137_0 := (cell_far (p := ⟨gb136, 0, none⟩) (by first | (rw [add_block]; exact hn137_0) | (show (Addr.add _ _).block ≠ _; rw [add_block]; exact hn137_0) | exact hn137_0) (.bool ((rdOf ByteArray.empty t130 0).toList == ([97, 108, 108, 111, 119] : List UInt8)))).trans hx137_0; replace hx137_0 := (cell_far (p := ⟨gb136, 1, none⟩) (by first | (rw [add_block]; exact hn137_1) | (show (Addr.add _ _).block ≠ _; rw [add_block]; exact hn137_1) | exact hn137_1) (.int .u8 0)).trans hx137_0; replace hx137_0 := (cell_far (p := ⟨gb136, 2, none⟩) (by first | (rw [add_block]; exact hn137_2) | (show (Addr.add _ _).block ≠ _; rw [add_block]; exact hn137_2) | exact hn137_2) (.int .u8 0)).trans hx137_0; replace hx137_0 := (cell_far (p := ⟨gb136, 3, none⟩) (by first | (rw [add_block]; exact hn137_3) | (show (Addr.add _ _).block ≠ _; rw [add_block]; exact hn137_3) | exact hn137_3) (.int .u8 0)).trans hx137_0; replace hx137_0 := (cell_far (p := ⟨gb136, 4, none⟩) (by first | (rw [add_block]; exact hn137_4) | (show (Addr.add _ _).block ≠ _; rw [add_block]; exact hn137_4) | exact hn137_4) (.int .u8 0)).trans hx137_0; replace hx137_0 := (cell_far (p := ⟨gb136, 5, none⟩) (by first | (rw [add_block]; exact hn137_5) | (show (Addr.add _ _).block ≠ _; rw [add_block]; exact hn137_5) | exact hn137_5) (.int .i64 0)).trans hx137_0; replace hx137_0 := (cell_far (p := ⟨gb136, 6, none⟩) (by first | (rw [add_block]; exact hn137_6) | (show (Addr.add _ _).block ≠ _; rw [add_block]; exact hn137_6) | exact hn137_6) (.string (⟨#[]⟩ : ByteArray))).trans hx137_0; replace hx137_0 := (cell_far (p := ⟨gb136, 7, none⟩) (by first | (rw [add_block]; exact hn137_7) | (show (Addr.add _ _).block ≠ _; rw [add_block]; exact hn137_7) | exact hn137_7) (.int .i64 0)).trans hx137_0; replace hx137_0 := (cell_far (p := ⟨gb136, 8, none⟩) (by first | (rw [add_block]; exact hn137_8) | (show (Addr.add _ _).block ≠ _; rw [add_block]; exact hn137_8) | exact hn137_8) (.int .i64 0)).trans hx137_0; clear hn137_0; clear hn137_1; clear hn137_2; clear hn137_3; clear hn137_4; clear hn137_5; clear hn137_6; clear hn137_7; clear hn137_8; replace p137 := eq_true p137; replace q137 := eq_true q137) | ((with_reducible refine gate_callee (f := 49) rfl ?_); refine goesL_ (some 47) rfl rfl Tryz.func49 (by kernel_rfl) rfl #[.string (rdOf ByteArray.empty t130 2), .int .u8 45] rfl (by (try simp only [List.map_toArray, List.map_cons, List.map_nil]); first | done | rfl | (simp only [List.length_drop, List.length_take]; rfl)) ?_; (with_reducible refine (sallyportref12_words.calls kj2 (rdOf ByteArray.empty t130 2) 45 t138 _ A17.out).mono ?_); rintro e w25 ⟨v139, rfl, ho0, hb⟩; refine ⟨_, rfl, ?_⟩; have n0_ := Aside0.mk (Kd.R_elder' (by (with_reducible repeat (first | apply Kd.R_alloc | apply Kd.R_drewN | apply Kd.R_drew)); exact (Kd.R_mono (Kd.R_far (p := ⟨gb136, 8, none⟩) (Kd.R_far (p := ⟨gb136, 7, none⟩) (Kd.R_far (p := ⟨gb136, 6, none⟩) (Kd.R_far (p := ⟨gb136, 5, none⟩) (Kd.R_far (p := ⟨gb136, 4, none⟩) (Kd.R_far (p := ⟨gb136, 3, none⟩) (Kd.R_far (p := ⟨gb136, 2, none⟩) (Kd.R_far (p := ⟨gb136, 1, none⟩) (Kd.R_far (p := ⟨gb136, 0, none⟩) (Kd.R_types HO_4.out BK136.out (by decide)) (fun _ hk => hk.2) (.bool ((rdOf ByteArray.empty t130 0).toList == ([97, 108, 108, 111, 119] : List UInt8)))) (fun _ hk => hk.2) (.int .u8 0)) (fun _ hk => hk.2) (.int .u8 0)) (fun _ hk => hk.2) (.int .u8 0)) (fun _ hk => hk.2) (.int .u8 0)) (fun _ hk => hk.2) (.int .i64 0)) (fun _ hk => hk.2) (.string (⟨#[]⟩ : ByteArray))) (fun _ hk => hk.2) (.int .i64 0)) (fun _ hk => hk.2) (.int .i64 0)) (fun _ h_ => h_.1))) (Kd.R_base ho0) hb); have n1_ := Aside0.mk (Kd.R_lower (Kd.R_new' ho0 (Kd.R_lt (by (with_reducible repeat (first | apply Kd.R_alloc | apply Kd.R_drewN | apply Kd.R_drew)); exact (Kd.R_mono (Kd.R_far (p := ⟨gb136, 8, none⟩) (Kd.R_far (p := ⟨gb136, 7, none⟩) (Kd.R_far (p := ⟨gb136, 6, none⟩) (Kd.R_far (p := ⟨gb136, 5, none⟩) (Kd.R_far (p := ⟨gb136, 4, none⟩) (Kd.R_far (p := ⟨gb136, 3, none⟩) (Kd.R_far (p := ⟨gb136, 2, none⟩) (Kd.R_far (p := ⟨gb136, 1, none⟩) (Kd.R_far (p := ⟨gb136, 0, none⟩) (Kd.R_types HO_4.out BK136.out (by decide)) (fun _ hk => hk.2) (.bool ((rdOf ByteArray.empty t130 0).toList == ([97, 108, 108, 111, 119] : List UInt8)))) (fun _ hk => hk.2) (.int .u8 0)) (fun _ hk => hk.2) (.int .u8 0)) (fun _ hk => hk.2) (.int .u8 0)) (fun _ hk => hk.2) (.int .u8 0)) (fun _ hk => hk.2) (.int .i64 0)) (fun _ hk => hk.2) (.string (⟨#[]⟩ : ByteArray))) (fun _ hk => hk.2) (.int .i64 0)) (fun _ hk => hk.2) (.int .i64 0)) (fun _ h_ => h_.1))))) (below_size (by repeat (first | (with_reducible first | exact HB.out | apply below_alloc | apply pw_below_drewN | apply below_drew1 | refine below_set ?_ GE129.out | refine below_set ?_ GE136.out) | exact HB.out)))); have n2_ := Aside0.mk (blk_below (g := gb129) (o := .cells #[.bool false, .int .u8 0, .int .u8 0, .int .u8 0, .int .u8 0, .int .i64 0, .string (⟨#[]⟩ : ByteArray), .int .i64 0, .int .i64 0] 37 (0, 0)) (by (with_reducible repeat (first | refine blk_drewN ?_ _ | refine blk_drew ?_ | refine blk_alloc ?_ _)); refine blk_far ?_ NB129_136.out _; (with_reducible repeat (first | refine blk_drewN ?_ _ | refine blk_drew ?_ | refine blk_alloc ?_ _)); refine blk_far ?_ NB129_136.out _; (with_reducible repeat (first | refine blk_drewN ?_ _ | refine blk_drew ?_ | refine blk_alloc ?_ _)); refine blk_far ?_ NB129_136.out _; (with_reducible repeat (first | refine blk_drewN ?_ _ | refine blk_drew ?_ | refine blk_alloc ?_ _)); refine blk_far ?_ NB129_136.out _; (with_reducible repeat (first | refine blk_drewN ?_ _ | refine blk_drew ?_ | refine blk_alloc ?_ _)); refine blk_far ?_ NB129_136.out _; (with_reducible repeat (first | refine blk_drewN ?_ _ | refine blk_drew ?_ | refine blk_alloc ?_ _)); refine blk_far ?_ NB129_136.out _; (with_reducible repeat (first | refine blk_drewN ?_ _ | refine blk_drew ?_ | refine blk_alloc ?_ _)); refine blk_far ?_ NB129_136.out _; (with_reducible repeat (first | refine blk_drewN ?_ _ | refine blk_drew ?_ | refine blk_alloc ?_ _)); refine blk_far ?_ NB129_136.out _; (with_reducible repeat (first | refine blk_drewN ?_ _ | refine blk_drew ?_ | refine blk_alloc ?_ _)); refine blk_far ?_ NB129_136.out _; (with_reducible repeat (first | refine blk_drewN ?_ _ | refine blk_drew ?_ | refine blk_alloc ?_ _)); exact BK129.out) hb); have n3_ := Aside0.mk (blk_below (g := gb136) (o := .cells #[.bool ((rdOf ByteArray.empty t130 0).toList == ([97, 108, 108, 111, 119] : List UInt8)), .int .u8 0, .int .u8 0, .int .u8 0, .int .u8 0, .int .i64 0, .string (⟨#[]⟩ : ByteArray), .int .i64 0, .int .i64 0] 37 (0, 0)) (by (with_reducible repeat (first | refine blk_drewN ?_ _ | refine blk_drew ?_ | refine blk_alloc ?_ _)); refine blk_put (cs := #[.bool ((rdOf ByteArray.empty t130 0).toList == ([97, 108, 108, 111, 119] : List UInt8)), .int .u8 0, .int .u8 0, .int .u8 0, .int .u8 0, .int .i64 0, .string (⟨#[]⟩ : ByteArray), .int .i64 0, .int .i64 0]) ?_ 8 _ rfl; (with_reducible repeat (first | refine blk_drewN ?_ _ | refine blk_drew ?_ | refine blk_alloc ?_ _)); refine blk_put (cs := #[.bool ((rdOf ByteArray.empty t130 0).toList == ([97, 108, 108, 111, 119] : List UInt8)), .int .u8 0, .int .u8 0, .int .u8 0, .int .u8 0, .int .i64 0, .string (⟨#[]⟩ : ByteArray), .int .i64 0, .int .i64 0]) ?_ 7 _ rfl; (with_reducible repeat (first | refine blk_drewN ?_ _ | refine blk_drew ?_ | refine blk_alloc ?_ _)); refine blk_put (cs := #[.bool ((rdOf ByteArray.empty t130 0).toList == ([97, 108, 108, 111, 119] : List UInt8)), .int .u8 0, .int .u8 0, .int .u8 0, .int .u8 0, .int .i64 0, .string (⟨#[]⟩ : ByteArray), .int .i64 0, .int .i64 0]) ?_ 6 _ rfl; (with_reducible repeat (first | refine blk_drewN ?_ _ | refine blk_drew ?_ | refine blk_alloc ?_ _)); refine blk_put (cs := #[.bool ((rdOf ByteArray.empty t130 0).toList == ([97, 108, 108, 111, 119] : List UInt8)), .int .u8 0, .int .u8 0, .int .u8 0, .int .u8 0, .int .i64 0, .string (⟨#[]⟩ : ByteArray), .int .i64 0, .int .i64 0]) ?_ 5 _ rfl; (with_reducible repeat (first | refine blk_drewN ?_ _ | refine blk_drew ?_ | refine blk_alloc ?_ _)); refine blk_put (cs := #[.bool ((rdOf ByteArray.empty t130 0).toList == ([97, 108, 108, 111, 119] : List UInt8)), .int .u8 0, .int .u8 0, .int .u8 0, .int .u8 0, .int .i64 0, .string (⟨#[]⟩ : ByteArray), .int .i64 0, .int .i64 0]) ?_ 4 _ rfl; (with_reducible repeat (first | refine blk_drewN ?_ _ | refine blk_drew ?_ | refine blk_alloc ?_ _)); refine blk_put (cs := #[.bool ((rdOf ByteArray.empty t130 0).toList == ([97, 108, 108, 111, 119] : List UInt8)), .int .u8 0, .int .u8 0, .int .u8 0, .int .u8 0, .int .i64 0, .string (⟨#[]⟩ : ByteArray), .int .i64 0, .int .i64 0]) ?_ 3 _ rfl; (with_reducible repeat (first | refine blk_drewN ?_ _ | refine blk_drew ?_ | refine blk_alloc ?_ _)); refine blk_put (cs := #[.bool ((rdOf ByteArray.empty t130 0).toList == ([97, 108, 108, 111, 119] : List UInt8)), .int .u8 0, .int .u8 0, .int .u8 0, .int .u8 0, .int .i64 0, .string (⟨#[]⟩ : ByteArray), .int .i64 0, .int .i64 0]) ?_ 2 _ rfl; (with_reducible repeat (first | refine blk_drewN ?_ _ | refine blk_drew ?_ | refine blk_alloc ?_ _)); refine blk_put (cs := #[.bool ((rdOf ByteArray.empty t130 0).toList == ([97, 108, 108, 111, 119] : List UInt8)), .int .u8 0, .int .u8 0, .int .u8 0, .int .u8 0, .int .i64 0, .string (⟨#[]⟩ : ByteArray), .int .i64 0, .int .i64 0]) ?_ 1 _ rfl; (with_reducible repeat (first | refine blk_drewN ?_ _ | refine blk_drew ?_ | refine blk_alloc ?_ _)); refine blk_put (cs := #[.bool false, .int .u8 0, .int .u8 0, .int .u8 0, .int .u8 0, .int .i64 0, .string (⟨#[]⟩ : ByteArray), .int .i64 0, .int .i64 0]) ?_ 0 _ rfl; (with_reducible repeat (first | refine blk_drewN ?_ _ | refine blk_drew ?_ | refine blk_alloc ?_ _)); exact BK136.out) hb); have n4_ := Aside0.mk (below_step (by repeat (first | (with_reducible first | exact HB.out | apply below_alloc | apply pw_below_drewN | apply below_drew1 | refine below_set ?_ GE129.out | refine below_set ?_ GE136.out) | exact HB.out)) hb); clear HO_4; clear BK129; clear BK136; clear HB; have HO_4 := n0_; have HO140 := n1_; have BK129 := n2_; have BK136 := n3_; have HB := n4_; clear n0_ n1_ n2_ n3_ n4_; (try clear hb); (try clear hb2); (try clear hk); (try clear hi); (try clear ho0); obtain ⟨Ao26, co26, eo26⟩ := Kd.R_slice HO140.out; subst eo26; have p141 : 0 ≤ (0 : Int) := (by omega); have q141 : 0 < (t138.length : Int) := of_decide_eq_true (by first | (with_reducible assumption) | assumption); obtain ⟨ad141, e141, hx141_0⟩ := Kd.at_string (Kd.R_reads' HO140.out).2.2 0 p141 q141; cases e141; have qi141 : (0 < t138.length) = True := eq_true (by omega); (try rw [show ((0 : Int)).toNat = 0 from rfl] at hx141_0); (try rw [Addr.add_zero'] at hx141_0); replace p141 := eq_true p141; replace q141 := eq_true q141) | ((with_reducible refine gate_callee (f := 50) rfl ?_); refine goesL_ (some 52) rfl rfl Tryz.func50 (by kernel_rfl) rfl #[.string (rdOf ByteArray.empty t138 0), .int .i64 5] rfl (by (try simp only [List.map_toArray, List.map_cons, List.map_nil]); first | done | rfl | (simp only [List.length_drop, List.length_take]; rfl)) ?_; (with_reducible refine (XV.sallyportbase_Whole.calls kj2 (rdOf ByteArray.empty t138 0) 5 t142 t143 _ A19.out).mono ?_); rintro e w' ⟨rfl, ⟨nd, rfl⟩⟩; refine ⟨_, rfl, ?_⟩; (try (rw [drewN_self w25]; generalize hq_ : World.drewN w25 _ = w25; have n0_ : Aside0 (Kd.R Kd.string 9 w25 w.heap.size (fun k_ => some k_ ≠ (.slice (some ad135) t130.length co21 : Value).ownBlock) (.slice (some ad141) t138.length co26) t138) := ⟨by rw [← hq_]; exact (by (with_reducible repeat (first | apply Kd.R_alloc | apply Kd.R_drewN | apply Kd.R_drew)); exact Kd.R_mono HO140.out (fun _ hk => hk.2))⟩; have n1_ : Aside0 (Kd.R Kd.string 9 w25 w.heap.size (fun k_ => some k_ ≠ (.slice (some ad141) t138.length co26 : Value).ownBlock) (.slice (some ad135) t130.length co21) t130) := ⟨by rw [← hq_]; exact (by (with_reducible repeat (first | apply Kd.R_alloc | apply Kd.R_drewN | apply Kd.R_drew)); exact Kd.R_mono HO_4.out (fun _ hk => hk.2))⟩; have n2_ : Aside0 (w25.heap[gb129]? = some (.cells #[.bool false, .int .u8 0, .int .u8 0, .int .u8 0, .int .u8 0, .int .i64 0, .string (⟨#[]⟩ : ByteArray), .int .i64 0, .int .i64 0] 37 (0, 0))) := ⟨by rw [← hq_]; exact (by (with_reducible repeat (first | refine blk_drewN ?_ _ | refine blk_drew ?_ | refine blk_alloc ?_ _)); exact BK129.out)⟩; have n3_ : Aside0 (w25.heap[gb136]? = some (.cells #[.bool ((rdOf ByteArray.empty t130 0).toList == ([97, 108, 108, 111, 119] : List UInt8)), .int .u8 0, .int .u8 0, .int .u8 0, .int .u8 0, .int .i64 0, .string (⟨#[]⟩ : ByteArray), .int .i64 0, .int .i64 0] 37 (0, 0))) := ⟨by rw [← hq_]; exact (by (with_reducible repeat (first | refine blk_drewN ?_ _ | refine blk_drew ?_ | refine blk_alloc ?_ _)); exact BK136.out)⟩; have n4_ : Aside0 (Below w.heap.size w w25) := ⟨by rw [← hq_]; exact (by repeat (first | (with_reducible first | exact HB.out | apply below_alloc | apply pw_below_drewN | apply below_drew1 | refine below_set ?_ GE129.out | refine below_set ?_ GE136.out) | exact HB.out))⟩; clear HO140 HO_4 BK129 BK136 HB hq_; have HO140 := n0_; have HO_4 := n1_; have BK129 := n2_; have BK136 := n3_; have HB := n4_; clear n0_ n1_ n2_ n3_ n4_)); have hcz27_0 : w25.cell? ⟨gb136, 0, none⟩ = some (.bool ((rdOf ByteArray.empty t130 0).toList == ([97, 108, 108, 111, 119] : List UInt8))) := (blk_cell BK136.out 0).trans rfl; have hcz27_1 : w25.cell? ⟨gb136, 1, none⟩ = some (.int .u8 0) := (blk_cell BK136.out 1).trans rfl; have hcz27_2 : w25.cell? ⟨gb136, 2, none⟩ = some (.int .u8 0) := (blk_cell BK136.out 2).trans rfl; have hcz27_3 : w25.cell? ⟨gb136, 3, none⟩ = some (.int .u8 0) := (blk_cell BK136.out 3).trans rfl; have hcz27_4 : w25.cell? ⟨gb136, 4, none⟩ = some (.int .u8 0) := (blk_cell BK136.out 4).trans rfl; have hcz27_5 : w25.cell? ⟨gb136, 5, none⟩ = some (.int .i64 0) := (blk_cell BK136.out 5).trans rfl; have hcz27_6 : w25.cell? ⟨gb136, 6, none⟩ = some (.string (⟨#[]⟩ : ByteArray)) := (blk_cell BK136.out 6).trans rfl; have hcz27_7 : w25.cell? ⟨gb136, 7, none⟩ = some (.int .i64 0) := (blk_cell BK136.out 7).trans rfl; have hcz27_8 : w25.cell? ⟨gb136, 8, none⟩ = some (.int .i64 0) := (blk_cell BK136.out 8).trans rfl; have hfz27_0 := blk_frozen BK136.out 0; have hfz27_1 := blk_frozen BK136.out 1; have hfz27_2 := blk_frozen BK136.out 2; have hfz27_3 := blk_frozen BK136.out 3; have hfz27_4 := blk_frozen BK136.out 4; have hfz27_5 := blk_frozen BK136.out 5; have hfz27_6 := blk_frozen BK136.out 6; have hfz27_7 := blk_frozen BK136.out 7; have hfz27_8 := blk_frozen BK136.out 8))
       (try simp only [Act.put, List.setIfInBounds_toArray, List.set_cons_zero, List.set_cons_succ])
       go_cut [8] (fun v8 wc => ∃ (kq : Nat) (x8_19 : Bool) (x137008_19 : Int), v8 = .bool x8_19 ∧ Aside0 (sallyportref12_Parse.j1 kq t130 t138 x8_19 ((rdOf ByteArray.empty t130 0).toList == ([97, 108, 108, 111, 119] : List UInt8)) 0 0 0 0 0 (⟨#[]⟩ : ByteArray) t142 x137008_19 = some (r1, r2, r3, r4, r5, r6, r7, r8, r9, r10)) ∧ Aside0 (kq ≤ kj2) ∧ Aside0 (Kd.R Kd.string 9 wc w.heap.size (fun k_ => some k_ ≠ ((.slice (some ad141) t138.length co26) : Value).ownBlock) (.slice (some ad135) t130.length co21) t130) ∧ Aside0 (Kd.R Kd.string 9 wc w.heap.size (fun k_ => some k_ ≠ ((.slice (some ad135) t130.length co21) : Value).ownBlock) (.slice (some ad141) t138.length co26) t138) ∧ Aside0 (wc.heap[gb129]? = some (.cells #[.bool false, .int .u8 0, .int .u8 0, .int .u8 0, .int .u8 0, .int .i64 0, .string (⟨#[]⟩ : ByteArray), .int .i64 0, .int .i64 0] 37 (0, 0))) ∧ Aside0 (wc.heap[gb136]? = some (.cells #[.bool ((rdOf ByteArray.empty t130 0).toList == ([97, 108, 108, 111, 119] : List UInt8)), .int .u8 0, .int .u8 0, .int .u8 0, .int .u8 0, .int .i64 0, .string (⟨#[]⟩ : ByteArray), .int .i64 t142, .int .i64 x137008_19] 37 (0, 0))) ∧ Aside0 (Below w.heap.size w wc))
       case first =>
        have H := HC20.out
        clear HC20
        by_cases c28 : (t138.length : Int) = 2
        ·rw [if_pos c28] at H
         have c28b0 : ((t138.length : Int) == 2) = true := beq_iff_eq.mpr c28
         have c28b1 : ((t138.length : Int) != 2) = false := bne_eq_false_iff_eq.mpr c28
         clear c28
         (first | rw [c28b0] | (simp only [i64_w, i32_w]; rw [c28b0]) | skip)
         by_cases c29 : 1 < (t138.length : Int)
         ·rw [if_pos c29] at H
          have c29b0 : decide (1 < (t138.length : Int)) = true := decide_eq_true c29
          have c29b1 : decide (1 < t138.length) = true := decide_eq_true (by omega)
          clear c29
          replace H := Option.bind_eq_some_iff.mp H
          obtain ⟨⟨t145, t146⟩, A300, H⟩ := H
          replace H : (if t143 = true then (if t146 = true then (sallyportref12_Parse.j1 kj2 t130 t138 (t145 != t142) ((rdOf ByteArray.empty t130 0).toList == ([97, 108, 108, 111, 119] : List UInt8)) 0 0 0 0 0 (⟨#[]⟩ : ByteArray) t142 t145) else (sallyportref12_Parse.j1 kj2 t130 t138 false ((rdOf ByteArray.empty t130 0).toList == ([97, 108, 108, 111, 119] : List UInt8)) 0 0 0 0 0 (⟨#[]⟩ : ByteArray) t142 t145)) else (sallyportref12_Parse.j1 kj2 t130 t138 false ((rdOf ByteArray.empty t130 0).toList == ([97, 108, 108, 111, 119] : List UInt8)) 0 0 0 0 0 (⟨#[]⟩ : ByteArray) t142 t145)) = some (r1, r2, r3, r4, r5, r6, r7, r8, r9, r10) := H
          have A30 := Aside0.mk A300
          clear A300
          by_cases c31 : t143 = true
          ·subst c31
           have H1 : (if t146 = true then (sallyportref12_Parse.j1 kj2 t130 t138 (t145 != t142) ((rdOf ByteArray.empty t130 0).toList == ([97, 108, 108, 111, 119] : List UInt8)) 0 0 0 0 0 (⟨#[]⟩ : ByteArray) t142 t145) else (sallyportref12_Parse.j1 kj2 t130 t138 false ((rdOf ByteArray.empty t130 0).toList == ([97, 108, 108, 111, 119] : List UInt8)) 0 0 0 0 0 (⟨#[]⟩ : ByteArray) t142 t145)) = some (r1, r2, r3, r4, r5, r6, r7, r8, r9, r10) := by rw [if_pos rfl] at H; exact H
           clear H
           have H := H1
           clear H1
           by_cases c32 : t146 = true
           ·subst c32
            have H1 : (sallyportref12_Parse.j1 kj2 t130 t138 (t145 != t142) ((rdOf ByteArray.empty t130 0).toList == ([97, 108, 108, 111, 119] : List UInt8)) 0 0 0 0 0 (⟨#[]⟩ : ByteArray) t142 t145) = some (r1, r2, r3, r4, r5, r6, r7, r8, r9, r10) := by rw [if_pos rfl] at H; exact H
            clear H
            have H := H1
            clear H1
            have H' := Aside0.mk H
            clear H
            have p144 : 0 ≤ (1 : Int) := (by omega)
            have q144 : 1 < (t138.length : Int) := of_decide_eq_true (by first | (with_reducible assumption) | assumption)
            obtain ⟨ad144, e144, hx144_0⟩ := Kd.at_string (Kd.R_reads' HO140.out).2.2 1 p144 q144
            obtain rfl : ad141 = ad144 := (by injection e144)
            (try simp only [show (1 : Int).toNat = 1 from rfl, Nat.reduceMul, Nat.reduceEqDiff, Go.Addr.add, ↓reduceIte] at hx144_0)
            have qi144 : (1 < t138.length) = True := eq_true (by omega)
            (try rw [show ((1 : Int)).toNat = 1 from rfl] at hx144_0)
            have hn144_0 : ad141.block ≠ gb136 := Kd.own_blk (Kd.R_ne HO140.out BK136.out (by decide))
            have hn144_1 : ad141.block ≠ gb136 := Kd.own_blk (Kd.R_ne HO140.out BK136.out (by decide))
            replace hx144_0 := (cell_far (p := ⟨gb136, 7, none⟩) (by first | (rw [add_block]; exact hn144_0) | (show (Addr.add _ _).block ≠ _; rw [add_block]; exact hn144_0) | exact hn144_0) (.int .i64 t142)).trans hx144_0
            replace hx144_0 := (cell_far (p := ⟨gb136, 8, none⟩) (by first | (rw [add_block]; exact hn144_1) | (show (Addr.add _ _).block ≠ _; rw [add_block]; exact hn144_1) | exact hn144_1) (.int .i64 t142)).trans hx144_0
            clear hn144_0
            clear hn144_1
            replace p144 := eq_true p144
            replace q144 := eq_true q144
            go_wp2_with (first | ((with_reducible refine gate_callee (f := 50) rfl ?_); refine goesL_ (some 66) rfl rfl Tryz.func50 (by kernel_rfl) rfl #[.string (rdOf ByteArray.empty t138 1), .int .i64 5] rfl (by (try simp only [List.map_toArray, List.map_cons, List.map_nil]); first | done | rfl | (simp only [List.length_drop, List.length_take]; rfl)) ?_; (with_reducible refine (XV.sallyportbase_Whole.calls kj2 (rdOf ByteArray.empty t138 1) 5 t145 true _ A30.out).mono ?_); rintro e w' ⟨rfl, ⟨nd, rfl⟩⟩; refine ⟨_, rfl, ?_⟩; have hnb33 := NB136_129.out; have hnc33 := NB129_136.out; have hcz34_0 : w25.cell? ⟨gb136, 0, none⟩ = some (.bool ((rdOf ByteArray.empty t130 0).toList == ([97, 108, 108, 111, 119] : List UInt8))) := (blk_cell BK136.out 0).trans rfl; have hcz34_1 : w25.cell? ⟨gb136, 1, none⟩ = some (.int .u8 0) := (blk_cell BK136.out 1).trans rfl; have hcz34_2 : w25.cell? ⟨gb136, 2, none⟩ = some (.int .u8 0) := (blk_cell BK136.out 2).trans rfl; have hcz34_3 : w25.cell? ⟨gb136, 3, none⟩ = some (.int .u8 0) := (blk_cell BK136.out 3).trans rfl; have hcz34_4 : w25.cell? ⟨gb136, 4, none⟩ = some (.int .u8 0) := (blk_cell BK136.out 4).trans rfl; have hcz34_5 : w25.cell? ⟨gb136, 5, none⟩ = some (.int .i64 0) := (blk_cell BK136.out 5).trans rfl; have hcz34_6 : w25.cell? ⟨gb136, 6, none⟩ = some (.string (⟨#[]⟩ : ByteArray)) := (blk_cell BK136.out 6).trans rfl; have hcz34_7 : w25.cell? ⟨gb136, 7, none⟩ = some (.int .i64 0) := (blk_cell BK136.out 7).trans rfl; have hcz34_8 : w25.cell? ⟨gb136, 8, none⟩ = some (.int .i64 0) := (blk_cell BK136.out 8).trans rfl; have hfz34_0 := blk_frozen BK136.out 0; have hfz34_1 := blk_frozen BK136.out 1; have hfz34_2 := blk_frozen BK136.out 2; have hfz34_3 := blk_frozen BK136.out 3; have hfz34_4 := blk_frozen BK136.out 4; have hfz34_5 := blk_frozen BK136.out 5; have hfz34_6 := blk_frozen BK136.out 6; have hfz34_7 := blk_frozen BK136.out 7; have hfz34_8 := blk_frozen BK136.out 8))
            go_meet
            case rel => exact ⟨_, ((t145 != t142)), (t145), (by first | rfl | (simp; done) | (simp [*]; done)), H', ⟨by have := HJ2.out; first | omega | exact Nat.le_refl _⟩, ⟨by (with_reducible repeat (first | apply Kd.R_alloc | apply Kd.R_drewN | apply Kd.R_drew)); exact Kd.R_mono (Kd.R_far (p := ⟨gb136, 8, none⟩) (Kd.R_far (p := ⟨gb136, 8, none⟩) (Kd.R_far (p := ⟨gb136, 7, none⟩) (Kd.R_types HO_4.out BK136.out (by decide)) (fun _ hk => hk.2) (.int .i64 t142)) (fun _ hk => hk.2) (.int .i64 t142)) (fun _ hk => hk.2) (.int .i64 t145)) (fun _ hk => (by first | exact hk.1.2 | exact hk.1 | trivial))⟩, ⟨by (with_reducible repeat (first | apply Kd.R_alloc | apply Kd.R_drewN | apply Kd.R_drew)); exact Kd.R_mono (Kd.R_far (p := ⟨gb136, 8, none⟩) (Kd.R_far (p := ⟨gb136, 8, none⟩) (Kd.R_far (p := ⟨gb136, 7, none⟩) (Kd.R_types HO140.out BK136.out (by decide)) (fun _ hk => hk.2) (.int .i64 t142)) (fun _ hk => hk.2) (.int .i64 t142)) (fun _ hk => hk.2) (.int .i64 t145)) (fun _ hk => (by first | exact hk.1.2 | exact hk.1 | trivial))⟩, ⟨by (with_reducible repeat (first | refine blk_drewN ?_ _ | refine blk_drew ?_ | refine blk_alloc ?_ _)); refine blk_far ?_ NB129_136.out _; (with_reducible repeat (first | refine blk_drewN ?_ _ | refine blk_drew ?_ | refine blk_alloc ?_ _)); refine blk_far ?_ NB129_136.out _; (with_reducible repeat (first | refine blk_drewN ?_ _ | refine blk_drew ?_ | refine blk_alloc ?_ _)); refine blk_far ?_ NB129_136.out _; (with_reducible repeat (first | refine blk_drewN ?_ _ | refine blk_drew ?_ | refine blk_alloc ?_ _)); exact BK129.out⟩, ⟨by (with_reducible repeat (first | refine blk_drewN ?_ _ | refine blk_drew ?_ | refine blk_alloc ?_ _)); refine blk_put (cs := #[.bool ((rdOf ByteArray.empty t130 0).toList == ([97, 108, 108, 111, 119] : List UInt8)), .int .u8 0, .int .u8 0, .int .u8 0, .int .u8 0, .int .i64 0, .string (⟨#[]⟩ : ByteArray), .int .i64 t142, .int .i64 t142]) ?_ 8 _ rfl; (with_reducible repeat (first | refine blk_drewN ?_ _ | refine blk_drew ?_ | refine blk_alloc ?_ _)); refine blk_put (cs := #[.bool ((rdOf ByteArray.empty t130 0).toList == ([97, 108, 108, 111, 119] : List UInt8)), .int .u8 0, .int .u8 0, .int .u8 0, .int .u8 0, .int .i64 0, .string (⟨#[]⟩ : ByteArray), .int .i64 t142, .int .i64 0]) ?_ 8 _ rfl; (with_reducible repeat (first | refine blk_drewN ?_ _ | refine blk_drew ?_ | refine blk_alloc ?_ _)); refine blk_put (cs := #[.bool ((rdOf ByteArray.empty t130 0).toList == ([97, 108, 108, 111, 119] : List UInt8)), .int .u8 0, .int .u8 0, .int .u8 0, .int .u8 0, .int .i64 0, .string (⟨#[]⟩ : ByteArray), .int .i64 0, .int .i64 0]) ?_ 7 _ rfl; (with_reducible repeat (first | refine blk_drewN ?_ _ | refine blk_drew ?_ | refine blk_alloc ?_ _)); exact BK136.out⟩, ⟨by repeat (first | (with_reducible first | exact HB.out | apply below_alloc | apply pw_below_drewN | apply below_drew1 | refine below_set ?_ GE129.out | refine below_set ?_ GE136.out) | exact HB.out)⟩⟩
           ·replace c32 := Bool.eq_false_iff.mpr c32
            subst c32
            have H1 : (sallyportref12_Parse.j1 kj2 t130 t138 false ((rdOf ByteArray.empty t130 0).toList == ([97, 108, 108, 111, 119] : List UInt8)) 0 0 0 0 0 (⟨#[]⟩ : ByteArray) t142 t145) = some (r1, r2, r3, r4, r5, r6, r7, r8, r9, r10) := by rw [if_neg (show ¬ (false = true) by decide)] at H; exact H
            clear H
            have H := H1
            clear H1
            have H' := Aside0.mk H
            clear H
            have p144 : 0 ≤ (1 : Int) := (by omega)
            have q144 : 1 < (t138.length : Int) := of_decide_eq_true (by first | (with_reducible assumption) | assumption)
            obtain ⟨ad144, e144, hx144_0⟩ := Kd.at_string (Kd.R_reads' HO140.out).2.2 1 p144 q144
            obtain rfl : ad141 = ad144 := (by injection e144)
            (try simp only [show (1 : Int).toNat = 1 from rfl, Nat.reduceMul, Nat.reduceEqDiff, Go.Addr.add, ↓reduceIte] at hx144_0)
            have qi144 : (1 < t138.length) = True := eq_true (by omega)
            (try rw [show ((1 : Int)).toNat = 1 from rfl] at hx144_0)
            have hn144_0 : ad141.block ≠ gb136 := Kd.own_blk (Kd.R_ne HO140.out BK136.out (by decide))
            have hn144_1 : ad141.block ≠ gb136 := Kd.own_blk (Kd.R_ne HO140.out BK136.out (by decide))
            replace hx144_0 := (cell_far (p := ⟨gb136, 7, none⟩) (by first | (rw [add_block]; exact hn144_0) | (show (Addr.add _ _).block ≠ _; rw [add_block]; exact hn144_0) | exact hn144_0) (.int .i64 t142)).trans hx144_0
            replace hx144_0 := (cell_far (p := ⟨gb136, 8, none⟩) (by first | (rw [add_block]; exact hn144_1) | (show (Addr.add _ _).block ≠ _; rw [add_block]; exact hn144_1) | exact hn144_1) (.int .i64 t142)).trans hx144_0
            clear hn144_0
            clear hn144_1
            replace p144 := eq_true p144
            replace q144 := eq_true q144
            go_wp2_with (first | ((with_reducible refine gate_callee (f := 50) rfl ?_); refine goesL_ (some 66) rfl rfl Tryz.func50 (by kernel_rfl) rfl #[.string (rdOf ByteArray.empty t138 1), .int .i64 5] rfl (by (try simp only [List.map_toArray, List.map_cons, List.map_nil]); first | done | rfl | (simp only [List.length_drop, List.length_take]; rfl)) ?_; (with_reducible refine (XV.sallyportbase_Whole.calls kj2 (rdOf ByteArray.empty t138 1) 5 t145 false _ A30.out).mono ?_); rintro e w' ⟨rfl, ⟨nd, rfl⟩⟩; refine ⟨_, rfl, ?_⟩; have hnb35 := NB136_129.out; have hnc35 := NB129_136.out; have hcz36_0 : w25.cell? ⟨gb136, 0, none⟩ = some (.bool ((rdOf ByteArray.empty t130 0).toList == ([97, 108, 108, 111, 119] : List UInt8))) := (blk_cell BK136.out 0).trans rfl; have hcz36_1 : w25.cell? ⟨gb136, 1, none⟩ = some (.int .u8 0) := (blk_cell BK136.out 1).trans rfl; have hcz36_2 : w25.cell? ⟨gb136, 2, none⟩ = some (.int .u8 0) := (blk_cell BK136.out 2).trans rfl; have hcz36_3 : w25.cell? ⟨gb136, 3, none⟩ = some (.int .u8 0) := (blk_cell BK136.out 3).trans rfl; have hcz36_4 : w25.cell? ⟨gb136, 4, none⟩ = some (.int .u8 0) := (blk_cell BK136.out 4).trans rfl; have hcz36_5 : w25.cell? ⟨gb136, 5, none⟩ = some (.int .i64 0) := (blk_cell BK136.out 5).trans rfl; have hcz36_6 : w25.cell? ⟨gb136, 6, none⟩ = some (.string (⟨#[]⟩ : ByteArray)) := (blk_cell BK136.out 6).trans rfl; have hcz36_7 : w25.cell? ⟨gb136, 7, none⟩ = some (.int .i64 0) := (blk_cell BK136.out 7).trans rfl; have hcz36_8 : w25.cell? ⟨gb136, 8, none⟩ = some (.int .i64 0) := (blk_cell BK136.out 8).trans rfl; have hfz36_0 := blk_frozen BK136.out 0; have hfz36_1 := blk_frozen BK136.out 1; have hfz36_2 := blk_frozen BK136.out 2; have hfz36_3 := blk_frozen BK136.out 3; have hfz36_4 := blk_frozen BK136.out 4; have hfz36_5 := blk_frozen BK136.out 5; have hfz36_6 := blk_frozen BK136.out 6; have hfz36_7 := blk_frozen BK136.out 7; have hfz36_8 := blk_frozen BK136.out 8))
            go_meet
            case rel => exact ⟨_, (false), (t145), (by first | rfl | (simp; done) | (simp [*]; done)), H', ⟨by have := HJ2.out; first | omega | exact Nat.le_refl _⟩, ⟨by (with_reducible repeat (first | apply Kd.R_alloc | apply Kd.R_drewN | apply Kd.R_drew)); exact Kd.R_mono (Kd.R_far (p := ⟨gb136, 8, none⟩) (Kd.R_far (p := ⟨gb136, 8, none⟩) (Kd.R_far (p := ⟨gb136, 7, none⟩) (Kd.R_types HO_4.out BK136.out (by decide)) (fun _ hk => hk.2) (.int .i64 t142)) (fun _ hk => hk.2) (.int .i64 t142)) (fun _ hk => hk.2) (.int .i64 t145)) (fun _ hk => (by first | exact hk.1.2 | exact hk.1 | trivial))⟩, ⟨by (with_reducible repeat (first | apply Kd.R_alloc | apply Kd.R_drewN | apply Kd.R_drew)); exact Kd.R_mono (Kd.R_far (p := ⟨gb136, 8, none⟩) (Kd.R_far (p := ⟨gb136, 8, none⟩) (Kd.R_far (p := ⟨gb136, 7, none⟩) (Kd.R_types HO140.out BK136.out (by decide)) (fun _ hk => hk.2) (.int .i64 t142)) (fun _ hk => hk.2) (.int .i64 t142)) (fun _ hk => hk.2) (.int .i64 t145)) (fun _ hk => (by first | exact hk.1.2 | exact hk.1 | trivial))⟩, ⟨by (with_reducible repeat (first | refine blk_drewN ?_ _ | refine blk_drew ?_ | refine blk_alloc ?_ _)); refine blk_far ?_ NB129_136.out _; (with_reducible repeat (first | refine blk_drewN ?_ _ | refine blk_drew ?_ | refine blk_alloc ?_ _)); refine blk_far ?_ NB129_136.out _; (with_reducible repeat (first | refine blk_drewN ?_ _ | refine blk_drew ?_ | refine blk_alloc ?_ _)); refine blk_far ?_ NB129_136.out _; (with_reducible repeat (first | refine blk_drewN ?_ _ | refine blk_drew ?_ | refine blk_alloc ?_ _)); exact BK129.out⟩, ⟨by (with_reducible repeat (first | refine blk_drewN ?_ _ | refine blk_drew ?_ | refine blk_alloc ?_ _)); refine blk_put (cs := #[.bool ((rdOf ByteArray.empty t130 0).toList == ([97, 108, 108, 111, 119] : List UInt8)), .int .u8 0, .int .u8 0, .int .u8 0, .int .u8 0, .int .i64 0, .string (⟨#[]⟩ : ByteArray), .int .i64 t142, .int .i64 t142]) ?_ 8 _ rfl; (with_reducible repeat (first | refine blk_drewN ?_ _ | refine blk_drew ?_ | refine blk_alloc ?_ _)); refine blk_put (cs := #[.bool ((rdOf ByteArray.empty t130 0).toList == ([97, 108, 108, 111, 119] : List UInt8)), .int .u8 0, .int .u8 0, .int .u8 0, .int .u8 0, .int .i64 0, .string (⟨#[]⟩ : ByteArray), .int .i64 t142, .int .i64 0]) ?_ 8 _ rfl; (with_reducible repeat (first | refine blk_drewN ?_ _ | refine blk_drew ?_ | refine blk_alloc ?_ _)); refine blk_put (cs := #[.bool ((rdOf ByteArray.empty t130 0).toList == ([97, 108, 108, 111, 119] : List UInt8)), .int .u8 0, .int .u8 0, .int .u8 0, .int .u8 0, .int .i64 0, .string (⟨#[]⟩ : ByteArray), .int .i64 0, .int .i64 0]) ?_ 7 _ rfl; (with_reducible repeat (first | refine blk_drewN ?_ _ | refine blk_drew ?_ | refine blk_alloc ?_ _)); exact BK136.out⟩, ⟨by repeat (first | (with_reducible first | exact HB.out | apply below_alloc | apply pw_below_drewN | apply below_drew1 | refine below_set ?_ GE129.out | refine below_set ?_ GE136.out) | exact HB.out)⟩⟩
          ·replace c31 := Bool.eq_false_iff.mpr c31
           subst c31
           have H1 : (sallyportref12_Parse.j1 kj2 t130 t138 false ((rdOf ByteArray.empty t130 0).toList == ([97, 108, 108, 111, 119] : List UInt8)) 0 0 0 0 0 (⟨#[]⟩ : ByteArray) t142 t145) = some (r1, r2, r3, r4, r5, r6, r7, r8, r9, r10) := by rw [if_neg (show ¬ (false = true) by decide)] at H; exact H
           clear H
           have H := H1
           clear H1
           have H' := Aside0.mk H
           clear H
           have p144 : 0 ≤ (1 : Int) := (by omega)
           have q144 : 1 < (t138.length : Int) := of_decide_eq_true (by first | (with_reducible assumption) | assumption)
           obtain ⟨ad144, e144, hx144_0⟩ := Kd.at_string (Kd.R_reads' HO140.out).2.2 1 p144 q144
           obtain rfl : ad141 = ad144 := (by injection e144)
           (try simp only [show (1 : Int).toNat = 1 from rfl, Nat.reduceMul, Nat.reduceEqDiff, Go.Addr.add, ↓reduceIte] at hx144_0)
           have qi144 : (1 < t138.length) = True := eq_true (by omega)
           (try rw [show ((1 : Int)).toNat = 1 from rfl] at hx144_0)
           have hn144_0 : ad141.block ≠ gb136 := Kd.own_blk (Kd.R_ne HO140.out BK136.out (by decide))
           have hn144_1 : ad141.block ≠ gb136 := Kd.own_blk (Kd.R_ne HO140.out BK136.out (by decide))
           replace hx144_0 := (cell_far (p := ⟨gb136, 7, none⟩) (by first | (rw [add_block]; exact hn144_0) | (show (Addr.add _ _).block ≠ _; rw [add_block]; exact hn144_0) | exact hn144_0) (.int .i64 t142)).trans hx144_0
           replace hx144_0 := (cell_far (p := ⟨gb136, 8, none⟩) (by first | (rw [add_block]; exact hn144_1) | (show (Addr.add _ _).block ≠ _; rw [add_block]; exact hn144_1) | exact hn144_1) (.int .i64 t142)).trans hx144_0
           clear hn144_0
           clear hn144_1
           replace p144 := eq_true p144
           replace q144 := eq_true q144
           go_wp2_with (first | ((with_reducible refine gate_callee (f := 50) rfl ?_); refine goesL_ (some 66) rfl rfl Tryz.func50 (by kernel_rfl) rfl #[.string (rdOf ByteArray.empty t138 1), .int .i64 5] rfl (by (try simp only [List.map_toArray, List.map_cons, List.map_nil]); first | done | rfl | (simp only [List.length_drop, List.length_take]; rfl)) ?_; (with_reducible refine (XV.sallyportbase_Whole.calls kj2 (rdOf ByteArray.empty t138 1) 5 t145 t146 _ A30.out).mono ?_); rintro e w' ⟨rfl, ⟨nd, rfl⟩⟩; refine ⟨_, rfl, ?_⟩; have hnb37 := NB136_129.out; have hnc37 := NB129_136.out; have hcz38_0 : w25.cell? ⟨gb136, 0, none⟩ = some (.bool ((rdOf ByteArray.empty t130 0).toList == ([97, 108, 108, 111, 119] : List UInt8))) := (blk_cell BK136.out 0).trans rfl; have hcz38_1 : w25.cell? ⟨gb136, 1, none⟩ = some (.int .u8 0) := (blk_cell BK136.out 1).trans rfl; have hcz38_2 : w25.cell? ⟨gb136, 2, none⟩ = some (.int .u8 0) := (blk_cell BK136.out 2).trans rfl; have hcz38_3 : w25.cell? ⟨gb136, 3, none⟩ = some (.int .u8 0) := (blk_cell BK136.out 3).trans rfl; have hcz38_4 : w25.cell? ⟨gb136, 4, none⟩ = some (.int .u8 0) := (blk_cell BK136.out 4).trans rfl; have hcz38_5 : w25.cell? ⟨gb136, 5, none⟩ = some (.int .i64 0) := (blk_cell BK136.out 5).trans rfl; have hcz38_6 : w25.cell? ⟨gb136, 6, none⟩ = some (.string (⟨#[]⟩ : ByteArray)) := (blk_cell BK136.out 6).trans rfl; have hcz38_7 : w25.cell? ⟨gb136, 7, none⟩ = some (.int .i64 0) := (blk_cell BK136.out 7).trans rfl; have hcz38_8 : w25.cell? ⟨gb136, 8, none⟩ = some (.int .i64 0) := (blk_cell BK136.out 8).trans rfl; have hfz38_0 := blk_frozen BK136.out 0; have hfz38_1 := blk_frozen BK136.out 1; have hfz38_2 := blk_frozen BK136.out 2; have hfz38_3 := blk_frozen BK136.out 3; have hfz38_4 := blk_frozen BK136.out 4; have hfz38_5 := blk_frozen BK136.out 5; have hfz38_6 := blk_frozen BK136.out 6; have hfz38_7 := blk_frozen BK136.out 7; have hfz38_8 := blk_frozen BK136.out 8))
           go_meet
           case rel => exact ⟨_, (false), (t145), (by first | rfl | (simp; done) | (simp [*]; done)), H', ⟨by have := HJ2.out; first | omega | exact Nat.le_refl _⟩, ⟨by (with_reducible repeat (first | apply Kd.R_alloc | apply Kd.R_drewN | apply Kd.R_drew)); exact Kd.R_mono (Kd.R_far (p := ⟨gb136, 8, none⟩) (Kd.R_far (p := ⟨gb136, 8, none⟩) (Kd.R_far (p := ⟨gb136, 7, none⟩) (Kd.R_types HO_4.out BK136.out (by decide)) (fun _ hk => hk.2) (.int .i64 t142)) (fun _ hk => hk.2) (.int .i64 t142)) (fun _ hk => hk.2) (.int .i64 t145)) (fun _ hk => (by first | exact hk.1.2 | exact hk.1 | trivial))⟩, ⟨by (with_reducible repeat (first | apply Kd.R_alloc | apply Kd.R_drewN | apply Kd.R_drew)); exact Kd.R_mono (Kd.R_far (p := ⟨gb136, 8, none⟩) (Kd.R_far (p := ⟨gb136, 8, none⟩) (Kd.R_far (p := ⟨gb136, 7, none⟩) (Kd.R_types HO140.out BK136.out (by decide)) (fun _ hk => hk.2) (.int .i64 t142)) (fun _ hk => hk.2) (.int .i64 t142)) (fun _ hk => hk.2) (.int .i64 t145)) (fun _ hk => (by first | exact hk.1.2 | exact hk.1 | trivial))⟩, ⟨by (with_reducible repeat (first | refine blk_drewN ?_ _ | refine blk_drew ?_ | refine blk_alloc ?_ _)); refine blk_far ?_ NB129_136.out _; (with_reducible repeat (first | refine blk_drewN ?_ _ | refine blk_drew ?_ | refine blk_alloc ?_ _)); refine blk_far ?_ NB129_136.out _; (with_reducible repeat (first | refine blk_drewN ?_ _ | refine blk_drew ?_ | refine blk_alloc ?_ _)); refine blk_far ?_ NB129_136.out _; (with_reducible repeat (first | refine blk_drewN ?_ _ | refine blk_drew ?_ | refine blk_alloc ?_ _)); exact BK129.out⟩, ⟨by (with_reducible repeat (first | refine blk_drewN ?_ _ | refine blk_drew ?_ | refine blk_alloc ?_ _)); refine blk_put (cs := #[.bool ((rdOf ByteArray.empty t130 0).toList == ([97, 108, 108, 111, 119] : List UInt8)), .int .u8 0, .int .u8 0, .int .u8 0, .int .u8 0, .int .i64 0, .string (⟨#[]⟩ : ByteArray), .int .i64 t142, .int .i64 t142]) ?_ 8 _ rfl; (with_reducible repeat (first | refine blk_drewN ?_ _ | refine blk_drew ?_ | refine blk_alloc ?_ _)); refine blk_put (cs := #[.bool ((rdOf ByteArray.empty t130 0).toList == ([97, 108, 108, 111, 119] : List UInt8)), .int .u8 0, .int .u8 0, .int .u8 0, .int .u8 0, .int .i64 0, .string (⟨#[]⟩ : ByteArray), .int .i64 t142, .int .i64 0]) ?_ 8 _ rfl; (with_reducible repeat (first | refine blk_drewN ?_ _ | refine blk_drew ?_ | refine blk_alloc ?_ _)); refine blk_put (cs := #[.bool ((rdOf ByteArray.empty t130 0).toList == ([97, 108, 108, 111, 119] : List UInt8)), .int .u8 0, .int .u8 0, .int .u8 0, .int .u8 0, .int .i64 0, .string (⟨#[]⟩ : ByteArray), .int .i64 0, .int .i64 0]) ?_ 7 _ rfl; (with_reducible repeat (first | refine blk_drewN ?_ _ | refine blk_drew ?_ | refine blk_alloc ?_ _)); exact BK136.out⟩, ⟨by repeat (first | (with_reducible first | exact HB.out | apply below_alloc | apply pw_below_drewN | apply below_drew1 | refine below_set ?_ GE129.out | refine below_set ?_ GE136.out) | exact HB.out)⟩⟩
         ·rw [if_neg c29] at H
          exact absurd H (by simp)
        ·rw [if_neg c28] at H
         have c28b0 : ((t138.length : Int) == 2) = false := beq_eq_false_iff_ne.mpr c28
         have c28b1 : ((t138.length : Int) != 2) = true := bne_iff_ne.mpr c28
         (first | rw [c28b0] | (simp only [i64_w, i32_w]; rw [c28b0]) | skip)
         have H' := Aside0.mk H
         clear H
         go_wp2
         go_meet
         case rel => exact ⟨_, (t143), (t142), (by first | rfl | (simp; done) | (simp [*]; done)), H', ⟨by have := HJ2.out; first | omega | exact Nat.le_refl _⟩, ⟨by (with_reducible repeat (first | apply Kd.R_alloc | apply Kd.R_drewN | apply Kd.R_drew)); exact Kd.R_mono (Kd.R_far (p := ⟨gb136, 8, none⟩) (Kd.R_far (p := ⟨gb136, 7, none⟩) (Kd.R_types HO_4.out BK136.out (by decide)) (fun _ hk => hk.2) (.int .i64 t142)) (fun _ hk => hk.2) (.int .i64 t142)) (fun _ hk => (by first | exact hk.1.2 | exact hk.1 | trivial))⟩, ⟨by (with_reducible repeat (first | apply Kd.R_alloc | apply Kd.R_drewN | apply Kd.R_drew)); exact Kd.R_mono (Kd.R_far (p := ⟨gb136, 8, none⟩) (Kd.R_far (p := ⟨gb136, 7, none⟩) (Kd.R_types HO140.out BK136.out (by decide)) (fun _ hk => hk.2) (.int .i64 t142)) (fun _ hk => hk.2) (.int .i64 t142)) (fun _ hk => (by first | exact hk.1.2 | exact hk.1 | trivial))⟩, ⟨by (with_reducible repeat (first | refine blk_drewN ?_ _ | refine blk_drew ?_ | refine blk_alloc ?_ _)); refine blk_far ?_ NB129_136.out _; (with_reducible repeat (first | refine blk_drewN ?_ _ | refine blk_drew ?_ | refine blk_alloc ?_ _)); refine blk_far ?_ NB129_136.out _; (with_reducible repeat (first | refine blk_drewN ?_ _ | refine blk_drew ?_ | refine blk_alloc ?_ _)); exact BK129.out⟩, ⟨by (with_reducible repeat (first | refine blk_drewN ?_ _ | refine blk_drew ?_ | refine blk_alloc ?_ _)); refine blk_put (cs := #[.bool ((rdOf ByteArray.empty t130 0).toList == ([97, 108, 108, 111, 119] : List UInt8)), .int .u8 0, .int .u8 0, .int .u8 0, .int .u8 0, .int .i64 0, .string (⟨#[]⟩ : ByteArray), .int .i64 t142, .int .i64 0]) ?_ 8 _ rfl; (with_reducible repeat (first | refine blk_drewN ?_ _ | refine blk_drew ?_ | refine blk_alloc ?_ _)); refine blk_put (cs := #[.bool ((rdOf ByteArray.empty t130 0).toList == ([97, 108, 108, 111, 119] : List UInt8)), .int .u8 0, .int .u8 0, .int .u8 0, .int .u8 0, .int .i64 0, .string (⟨#[]⟩ : ByteArray), .int .i64 0, .int .i64 0]) ?_ 7 _ rfl; (with_reducible repeat (first | refine blk_drewN ?_ _ | refine blk_drew ?_ | refine blk_alloc ?_ _)); exact BK136.out⟩, ⟨by repeat (first | (with_reducible first | exact HB.out | apply below_alloc | apply pw_below_drewN | apply below_drew1 | refine below_set ?_ GE129.out | refine below_set ?_ GE136.out) | exact HB.out)⟩⟩
       case rest =>
        clear HC20
        try clear c1
        try clear p1
        try clear q1
        try clear hx1
        try clear qi1
        try clear c2
        try clear p2
        try clear c3
        try clear c4
        try clear c5
        try clear c6
        try clear c6b0
        try clear c6b1
        try clear c7
        try clear c7b0
        try clear c7b1
        try clear c8
        try clear c8b0
        try clear c8b1
        try clear c9
        try clear c9b0
        try clear c9b1
        try clear c13
        try clear p13
        try clear q13
        try clear hx13
        try clear qi13
        try clear p14
        try clear q14
        try clear hx14
        try clear qi14
        try clear c15
        try clear c15b0
        try clear c15b1
        try clear c16
        try clear c16b0
        try clear c16b1
        try clear c18
        try clear c18b0
        try clear c18b1
        try clear c22
        try clear c23
        try clear c28
        try clear c28b0
        try clear c28b1
        try clear c29
        try clear c29b0
        try clear c29b1
        try clear c31
        try clear c32
        try clear c33
        try clear c35
        try clear c37
        try clear hcz14_0
        try clear hcz14_1
        try clear hcz14_2
        try clear hcz14_3
        try clear hcz14_4
        try clear hcz14_5
        try clear hcz14_6
        try clear hcz14_7
        try clear hcz14_8
        try clear hcz24_0
        try clear hcz24_1
        try clear hcz24_2
        try clear hcz24_3
        try clear hcz24_4
        try clear hcz24_5
        try clear hcz24_6
        try clear hcz24_7
        try clear hcz24_8
        try clear hcz27_0
        try clear hcz27_1
        try clear hcz27_2
        try clear hcz27_3
        try clear hcz27_4
        try clear hcz27_5
        try clear hcz27_6
        try clear hcz27_7
        try clear hcz27_8
        try clear hcz34_0
        try clear hcz34_1
        try clear hcz34_2
        try clear hcz34_3
        try clear hcz34_4
        try clear hcz34_5
        try clear hcz34_6
        try clear hcz34_7
        try clear hcz34_8
        try clear hcz36_0
        try clear hcz36_1
        try clear hcz36_2
        try clear hcz36_3
        try clear hcz36_4
        try clear hcz36_5
        try clear hcz36_6
        try clear hcz36_7
        try clear hcz36_8
        try clear hcz38_0
        try clear hcz38_1
        try clear hcz38_2
        try clear hcz38_3
        try clear hcz38_4
        try clear hcz38_5
        try clear hcz38_6
        try clear hcz38_7
        try clear hcz38_8
        try clear hfz14_0
        try clear hfz14_1
        try clear hfz14_2
        try clear hfz14_3
        try clear hfz14_4
        try clear hfz14_5
        try clear hfz14_6
        try clear hfz14_7
        try clear hfz14_8
        try clear hfz24_0
        try clear hfz24_1
        try clear hfz24_2
        try clear hfz24_3
        try clear hfz24_4
        try clear hfz24_5
        try clear hfz24_6
        try clear hfz24_7
        try clear hfz24_8
        try clear hfz27_0
        try clear hfz27_1
        try clear hfz27_2
        try clear hfz27_3
        try clear hfz27_4
        try clear hfz27_5
        try clear hfz27_6
        try clear hfz27_7
        try clear hfz27_8
        try clear hfz34_0
        try clear hfz34_1
        try clear hfz34_2
        try clear hfz34_3
        try clear hfz34_4
        try clear hfz34_5
        try clear hfz34_6
        try clear hfz34_7
        try clear hfz34_8
        try clear hfz36_0
        try clear hfz36_1
        try clear hfz36_2
        try clear hfz36_3
        try clear hfz36_4
        try clear hfz36_5
        try clear hfz36_6
        try clear hfz36_7
        try clear hfz36_8
        try clear hfz38_0
        try clear hfz38_1
        try clear hfz38_2
        try clear hfz38_3
        try clear hfz38_4
        try clear hfz38_5
        try clear hfz38_6
        try clear hfz38_7
        try clear hfz38_8
        try clear hx133_0
        try clear hx134_0
        try clear hx135_0
        try clear hx137_0
        try clear hx141_0
        try clear hx144_0
        try clear p1
        try clear p133
        try clear p134
        try clear p135
        try clear p137
        try clear p141
        try clear p144
        try clear p2
        try clear q1
        try clear q133
        try clear q134
        try clear q135
        try clear q137
        try clear q141
        try clear q144
        obtain ⟨kq, x8_19, x137008_19, rfl, HA, HJ19, HO_4, HO_6, BK129, BK136, HB⟩ := hcut
        cases kq with
        | zero => exact absurd HA.out (by simp [sallyportref12_Parse.j1])
        | succ kj19 =>
         have H := HA.out
         clear HA
         simp only [sallyportref12_Parse.j1] at H
         have HC39 := Aside0.mk H
         clear H
         go_upto_region 12 with (fail)
         go_cut [86] (fun v86 wc => ∃ (kq : Nat) (x86_38 : Bool), v86 = .bool x86_38 ∧ Aside0 (sallyportref12_Parse.j2 kq t130 x86_38 ((rdOf ByteArray.empty t130 0).toList == ([97, 108, 108, 111, 119] : List UInt8)) 0 0 0 0 0 (⟨#[]⟩ : ByteArray) t142 x137008_19 = some (r1, r2, r3, r4, r5, r6, r7, r8, r9, r10)) ∧ Aside0 (kq ≤ kj19) ∧ Aside0 (Kd.R Kd.string 9 wc w.heap.size (fun _ => True) (.slice (some ad135) t130.length co21) t130) ∧ Aside0 (wc.heap[gb129]? = some (.cells #[.bool false, .int .u8 0, .int .u8 0, .int .u8 0, .int .u8 0, .int .i64 0, .string (⟨#[]⟩ : ByteArray), .int .i64 0, .int .i64 0] 37 (0, 0))) ∧ Aside0 (wc.heap[gb136]? = some (.cells #[.bool ((rdOf ByteArray.empty t130 0).toList == ([97, 108, 108, 111, 119] : List UInt8)), .int .u8 0, .int .u8 0, .int .u8 0, .int .u8 0, .int .i64 0, .string (⟨#[]⟩ : ByteArray), .int .i64 t142, .int .i64 x137008_19] 37 (0, 0))) ∧ Aside0 (Below w.heap.size w wc))
         case first =>
          have H := HC39.out
          clear HC39
          by_cases c40 : x8_19 = true
          ·subst c40
           have H1 : (sallyportref12_Parse.j2 kj19 t130 (decide ((t138.length : Int) > 2)) ((rdOf ByteArray.empty t130 0).toList == ([97, 108, 108, 111, 119] : List UInt8)) 0 0 0 0 0 (⟨#[]⟩ : ByteArray) t142 x137008_19) = some (r1, r2, r3, r4, r5, r6, r7, r8, r9, r10) := by rw [if_pos rfl] at H; exact H
           clear H
           have H := H1
           clear H1
           have H' := Aside0.mk H
           clear H
           go_wp2
           go_meet
           case rel => exact ⟨_, (decide ((t138.length : Int) > 2)), (by first | rfl | (simp; done) | (simp [*]; done)), H', ⟨by have := HJ2.out; have := HJ19.out; first | omega | exact Nat.le_refl _⟩, ⟨by (with_reducible repeat (first | apply Kd.R_alloc | apply Kd.R_drewN | apply Kd.R_drew)); exact Kd.R_mono HO_4.out (fun _ hk => trivial)⟩, ⟨by (with_reducible repeat (first | refine blk_drewN ?_ _ | refine blk_drew ?_ | refine blk_alloc ?_ _)); exact BK129.out⟩, ⟨by (with_reducible repeat (first | refine blk_drewN ?_ _ | refine blk_drew ?_ | refine blk_alloc ?_ _)); exact BK136.out⟩, ⟨by repeat (first | (with_reducible first | exact HB.out | apply below_alloc | apply pw_below_drewN | apply below_drew1 | refine below_set ?_ GE129.out | refine below_set ?_ GE136.out) | exact HB.out)⟩⟩
          ·replace c40 := Bool.eq_false_iff.mpr c40
           subst c40
           have H1 : (sallyportref12_Parse.j2 kj19 t130 true ((rdOf ByteArray.empty t130 0).toList == ([97, 108, 108, 111, 119] : List UInt8)) 0 0 0 0 0 (⟨#[]⟩ : ByteArray) t142 x137008_19) = some (r1, r2, r3, r4, r5, r6, r7, r8, r9, r10) := by rw [if_neg (show ¬ (false = true) by decide)] at H; exact H
           clear H
           have H := H1
           clear H1
           have H' := Aside0.mk H
           clear H
           go_wp2
           go_meet
           case rel => exact ⟨_, (true), (by first | rfl | (simp; done) | (simp [*]; done)), H', ⟨by have := HJ2.out; have := HJ19.out; first | omega | exact Nat.le_refl _⟩, ⟨by (with_reducible repeat (first | apply Kd.R_alloc | apply Kd.R_drewN | apply Kd.R_drew)); exact Kd.R_mono HO_4.out (fun _ hk => trivial)⟩, ⟨by (with_reducible repeat (first | refine blk_drewN ?_ _ | refine blk_drew ?_ | refine blk_alloc ?_ _)); exact BK129.out⟩, ⟨by (with_reducible repeat (first | refine blk_drewN ?_ _ | refine blk_drew ?_ | refine blk_alloc ?_ _)); exact BK136.out⟩, ⟨by repeat (first | (with_reducible first | exact HB.out | apply below_alloc | apply pw_below_drewN | apply below_drew1 | refine below_set ?_ GE129.out | refine below_set ?_ GE136.out) | exact HB.out)⟩⟩
         case rest =>
          clear HC39
          try clear c1
          try clear p1
          try clear q1
          try clear hx1
          try clear qi1
          try clear c2
          try clear p2
          try clear c3
          try clear c4
          try clear c5
          try clear c6
          try clear c6b0
          try clear c6b1
          try clear c7
          try clear c7b0
          try clear c7b1
          try clear c8
          try clear c8b0
          try clear c8b1
          try clear c9
          try clear c9b0
          try clear c9b1
          try clear c13
          try clear p13
          try clear q13
          try clear hx13
          try clear qi13
          try clear p14
          try clear q14
          try clear hx14
          try clear qi14
          try clear c15
          try clear c15b0
          try clear c15b1
          try clear c16
          try clear c16b0
          try clear c16b1
          try clear c18
          try clear c18b0
          try clear c18b1
          try clear c22
          try clear c23
          try clear c28
          try clear c28b0
          try clear c28b1
          try clear c29
          try clear c29b0
          try clear c29b1
          try clear c31
          try clear c32
          try clear c33
          try clear c35
          try clear c37
          try clear c40
          try clear hcz14_0
          try clear hcz14_1
          try clear hcz14_2
          try clear hcz14_3
          try clear hcz14_4
          try clear hcz14_5
          try clear hcz14_6
          try clear hcz14_7
          try clear hcz14_8
          try clear hcz24_0
          try clear hcz24_1
          try clear hcz24_2
          try clear hcz24_3
          try clear hcz24_4
          try clear hcz24_5
          try clear hcz24_6
          try clear hcz24_7
          try clear hcz24_8
          try clear hcz27_0
          try clear hcz27_1
          try clear hcz27_2
          try clear hcz27_3
          try clear hcz27_4
          try clear hcz27_5
          try clear hcz27_6
          try clear hcz27_7
          try clear hcz27_8
          try clear hcz34_0
          try clear hcz34_1
          try clear hcz34_2
          try clear hcz34_3
          try clear hcz34_4
          try clear hcz34_5
          try clear hcz34_6
          try clear hcz34_7
          try clear hcz34_8
          try clear hcz36_0
          try clear hcz36_1
          try clear hcz36_2
          try clear hcz36_3
          try clear hcz36_4
          try clear hcz36_5
          try clear hcz36_6
          try clear hcz36_7
          try clear hcz36_8
          try clear hcz38_0
          try clear hcz38_1
          try clear hcz38_2
          try clear hcz38_3
          try clear hcz38_4
          try clear hcz38_5
          try clear hcz38_6
          try clear hcz38_7
          try clear hcz38_8
          try clear hfz14_0
          try clear hfz14_1
          try clear hfz14_2
          try clear hfz14_3
          try clear hfz14_4
          try clear hfz14_5
          try clear hfz14_6
          try clear hfz14_7
          try clear hfz14_8
          try clear hfz24_0
          try clear hfz24_1
          try clear hfz24_2
          try clear hfz24_3
          try clear hfz24_4
          try clear hfz24_5
          try clear hfz24_6
          try clear hfz24_7
          try clear hfz24_8
          try clear hfz27_0
          try clear hfz27_1
          try clear hfz27_2
          try clear hfz27_3
          try clear hfz27_4
          try clear hfz27_5
          try clear hfz27_6
          try clear hfz27_7
          try clear hfz27_8
          try clear hfz34_0
          try clear hfz34_1
          try clear hfz34_2
          try clear hfz34_3
          try clear hfz34_4
          try clear hfz34_5
          try clear hfz34_6
          try clear hfz34_7
          try clear hfz34_8
          try clear hfz36_0
          try clear hfz36_1
          try clear hfz36_2
          try clear hfz36_3
          try clear hfz36_4
          try clear hfz36_5
          try clear hfz36_6
          try clear hfz36_7
          try clear hfz36_8
          try clear hfz38_0
          try clear hfz38_1
          try clear hfz38_2
          try clear hfz38_3
          try clear hfz38_4
          try clear hfz38_5
          try clear hfz38_6
          try clear hfz38_7
          try clear hfz38_8
          try clear hx133_0
          try clear hx134_0
          try clear hx135_0
          try clear hx137_0
          try clear hx141_0
          try clear hx144_0
          try clear p1
          try clear p13
          try clear p133
          try clear p134
          try clear p135
          try clear p137
          try clear p14
          try clear p141
          try clear p144
          try clear p2
          try clear q1
          try clear q13
          try clear q133
          try clear q134
          try clear q135
          try clear q137
          try clear q14
          try clear q141
          try clear q144
          obtain ⟨kq, x86_38, rfl, HA, HJ38, HO_4, BK129, BK136, HB⟩ := hcut
          cases kq with
          | zero => exact absurd HA.out (by simp [sallyportref12_Parse.j2])
          | succ kj38 =>
           have H := HA.out
           clear HA
           simp only [sallyportref12_Parse.j2] at H
           by_cases c41 : x86_38 = true
           ·subst c41
            have H1 : (some (false, 0, 0, 0, 0, 0, (⟨#[]⟩ : ByteArray), 0, 0, 120)) = some (r1, r2, r3, r4, r5, r6, r7, r8, r9, r10) := by rw [if_pos rfl] at H; exact H
            clear H
            have H := H1
            clear H1
            simp only [Option.some.injEq, Prod.mk.injEq] at H
            obtain ⟨rfl, rfl, rfl, rfl, rfl, rfl, rfl, rfl, rfl, rfl⟩ := H
            have hnb42 := NB129_136.out
            have hnc42 := NB136_129.out
            have hcz43_0 : wc.cell? ⟨gb129, 0, none⟩ = some (.bool false) := (blk_cell BK129.out 0).trans rfl
            have hcz43_1 : wc.cell? ⟨gb129, 1, none⟩ = some (.int .u8 0) := (blk_cell BK129.out 1).trans rfl
            have hcz43_2 : wc.cell? ⟨gb129, 2, none⟩ = some (.int .u8 0) := (blk_cell BK129.out 2).trans rfl
            have hcz43_3 : wc.cell? ⟨gb129, 3, none⟩ = some (.int .u8 0) := (blk_cell BK129.out 3).trans rfl
            have hcz43_4 : wc.cell? ⟨gb129, 4, none⟩ = some (.int .u8 0) := (blk_cell BK129.out 4).trans rfl
            have hcz43_5 : wc.cell? ⟨gb129, 5, none⟩ = some (.int .i64 0) := (blk_cell BK129.out 5).trans rfl
            have hcz43_6 : wc.cell? ⟨gb129, 6, none⟩ = some (.string (⟨#[]⟩ : ByteArray)) := (blk_cell BK129.out 6).trans rfl
            have hcz43_7 : wc.cell? ⟨gb129, 7, none⟩ = some (.int .i64 0) := (blk_cell BK129.out 7).trans rfl
            have hcz43_8 : wc.cell? ⟨gb129, 8, none⟩ = some (.int .i64 0) := (blk_cell BK129.out 8).trans rfl
            have hfz43_0 := blk_frozen BK129.out 0
            have hfz43_1 := blk_frozen BK129.out 1
            have hfz43_2 := blk_frozen BK129.out 2
            have hfz43_3 := blk_frozen BK129.out 3
            have hfz43_4 := blk_frozen BK129.out 4
            have hfz43_5 := blk_frozen BK129.out 5
            have hfz43_6 := blk_frozen BK129.out 6
            have hfz43_7 := blk_frozen BK129.out 7
            have hfz43_8 := blk_frozen BK129.out 8
            go_wp2
            refine bodyPost_ret (results_ct rfl _ _ gb129 37 #[.bool false, .int .u8 0, .int .u8 0, .int .u8 0, .int .u8 0, .int .i64 0, .string (⟨#[]⟩ : ByteArray), .int .i64 0, .int .i64 0] (0, 0) _ rfl (by (with_reducible repeat (first | refine blk_drewN ?_ _ | refine blk_drew ?_ | refine blk_alloc ?_ _)); refine blk_put (cs := #[.bool false, .int .u8 0, .int .u8 0, .int .u8 0, .int .u8 0, .int .i64 0, .string (⟨#[]⟩ : ByteArray), .int .i64 0, .int .i64 0]) ?_ 8 _ rfl; (with_reducible repeat (first | refine blk_drewN ?_ _ | refine blk_drew ?_ | refine blk_alloc ?_ _)); refine blk_put (cs := #[.bool false, .int .u8 0, .int .u8 0, .int .u8 0, .int .u8 0, .int .i64 0, .string (⟨#[]⟩ : ByteArray), .int .i64 0, .int .i64 0]) ?_ 7 _ rfl; (with_reducible repeat (first | refine blk_drewN ?_ _ | refine blk_drew ?_ | refine blk_alloc ?_ _)); refine blk_put (cs := #[.bool false, .int .u8 0, .int .u8 0, .int .u8 0, .int .u8 0, .int .i64 0, .string (⟨#[]⟩ : ByteArray), .int .i64 0, .int .i64 0]) ?_ 6 _ rfl; (with_reducible repeat (first | refine blk_drewN ?_ _ | refine blk_drew ?_ | refine blk_alloc ?_ _)); refine blk_put (cs := #[.bool false, .int .u8 0, .int .u8 0, .int .u8 0, .int .u8 0, .int .i64 0, .string (⟨#[]⟩ : ByteArray), .int .i64 0, .int .i64 0]) ?_ 5 _ rfl; (with_reducible repeat (first | refine blk_drewN ?_ _ | refine blk_drew ?_ | refine blk_alloc ?_ _)); refine blk_put (cs := #[.bool false, .int .u8 0, .int .u8 0, .int .u8 0, .int .u8 0, .int .i64 0, .string (⟨#[]⟩ : ByteArray), .int .i64 0, .int .i64 0]) ?_ 4 _ rfl; (with_reducible repeat (first | refine blk_drewN ?_ _ | refine blk_drew ?_ | refine blk_alloc ?_ _)); refine blk_put (cs := #[.bool false, .int .u8 0, .int .u8 0, .int .u8 0, .int .u8 0, .int .i64 0, .string (⟨#[]⟩ : ByteArray), .int .i64 0, .int .i64 0]) ?_ 3 _ rfl; (with_reducible repeat (first | refine blk_drewN ?_ _ | refine blk_drew ?_ | refine blk_alloc ?_ _)); refine blk_put (cs := #[.bool false, .int .u8 0, .int .u8 0, .int .u8 0, .int .u8 0, .int .i64 0, .string (⟨#[]⟩ : ByteArray), .int .i64 0, .int .i64 0]) ?_ 2 _ rfl; (with_reducible repeat (first | refine blk_drewN ?_ _ | refine blk_drew ?_ | refine blk_alloc ?_ _)); refine blk_put (cs := #[.bool false, .int .u8 0, .int .u8 0, .int .u8 0, .int .u8 0, .int .i64 0, .string (⟨#[]⟩ : ByteArray), .int .i64 0, .int .i64 0]) ?_ 1 _ rfl; (with_reducible repeat (first | refine blk_drewN ?_ _ | refine blk_drew ?_ | refine blk_alloc ?_ _)); refine blk_put (cs := #[.bool false, .int .u8 0, .int .u8 0, .int .u8 0, .int .u8 0, .int .i64 0, .string (⟨#[]⟩ : ByteArray), .int .i64 0, .int .i64 0]) ?_ 0 _ rfl; (with_reducible repeat (first | refine blk_drewN ?_ _ | refine blk_drew ?_ | refine blk_alloc ?_ _)); exact BK129.out) Tryz.underlying37 rfl (by kernel_rfl)) rfl ?_
            exact ⟨by first | rfl | (simp [errW_none, errW_some] <;> rfl) | (simp [*, errW_none, errW_some] <;> rfl), by repeat (first | (with_reducible first | exact HB.out | apply below_alloc | apply pw_below_drewN | apply below_drew1 | refine below_set ?_ GE129.out | refine below_set ?_ GE136.out) | exact HB.out)⟩
           ·replace c41 := Bool.eq_false_iff.mpr c41
            subst c41
            have H1 : (if 1 < (t130.length : Int) then ((sallyportref12_words.f kj38 (rdOf ByteArray.empty t130 1) 47).bind fun t148 => (if (t148.length : Int) = 2 then (if 0 < (t148.length : Int) then ((E.refPA.f (rdOf ByteArray.empty t148 0)).bind fun bt152 => (if 1 < (t148.length : Int) then ((XV.sallyportbase_Whole.f kj38 (rdOf ByteArray.empty t148 1) 2).bind fun bt169 => (if bt152.2.2.2.2.1 > 0 then (sallyportref12_Parse.j3 kj38 bt169.1 true ((rdOf ByteArray.empty t130 0).toList == ([97, 108, 108, 111, 119] : List UInt8)) 0 0 0 0 0 (⟨#[]⟩ : ByteArray) t142 x137008_19 bt152.1 bt152.2.1 bt152.2.2.1 bt152.2.2.2.1) else (sallyportref12_Parse.j3 kj38 bt169.1 (!bt169.2) ((rdOf ByteArray.empty t130 0).toList == ([97, 108, 108, 111, 119] : List UInt8)) 0 0 0 0 0 (⟨#[]⟩ : ByteArray) t142 x137008_19 bt152.1 bt152.2.1 bt152.2.2.1 bt152.2.2.2.1))) else (none))) else (none)) else (if (rdOf ByteArray.empty t130 1).toList = ([] : List UInt8) then (some (false, 0, 0, 0, 0, 0, (⟨#[]⟩ : ByteArray), 0, 0, 120)) else ((E.refRule.f ((rdOf ByteArray.empty t130 0).toList == ([97, 108, 108, 111, 119] : List UInt8)) 0 0 0 0 0 (rdOf ByteArray.empty t130 1) t142 x137008_19).bind fun t174 => (if t174 = true then (some (((rdOf ByteArray.empty t130 0).toList == ([97, 108, 108, 111, 119] : List UInt8)), 0, 0, 0, 0, 0, rdOf ByteArray.empty t130 1, t142, x137008_19, 0)) else (some (false, 0, 0, 0, 0, 0, (⟨#[]⟩ : ByteArray), 0, 0, 120))))))) else (none)) = some (r1, r2, r3, r4, r5, r6, r7, r8, r9, r10) := by rw [if_neg (show ¬ (false = true) by decide)] at H; exact H
            clear H
            have H := H1
            clear H1
            by_cases c44 : 1 < (t130.length : Int)
            ·rw [if_pos c44] at H
             have c44b0 : decide (1 < (t130.length : Int)) = true := decide_eq_true c44
             have c44b1 : decide (1 < t130.length) = true := decide_eq_true (by omega)
             clear c44
             replace H := Option.bind_eq_some_iff.mp H
             obtain ⟨t148, A450, H⟩ := H
             replace H : (if (t148.length : Int) = 2 then (if 0 < (t148.length : Int) then ((E.refPA.f (rdOf ByteArray.empty t148 0)).bind fun bt152 => (if 1 < (t148.length : Int) then ((XV.sallyportbase_Whole.f kj38 (rdOf ByteArray.empty t148 1) 2).bind fun bt169 => (if bt152.2.2.2.2.1 > 0 then (sallyportref12_Parse.j3 kj38 bt169.1 true ((rdOf ByteArray.empty t130 0).toList == ([97, 108, 108, 111, 119] : List UInt8)) 0 0 0 0 0 (⟨#[]⟩ : ByteArray) t142 x137008_19 bt152.1 bt152.2.1 bt152.2.2.1 bt152.2.2.2.1) else (sallyportref12_Parse.j3 kj38 bt169.1 (!bt169.2) ((rdOf ByteArray.empty t130 0).toList == ([97, 108, 108, 111, 119] : List UInt8)) 0 0 0 0 0 (⟨#[]⟩ : ByteArray) t142 x137008_19 bt152.1 bt152.2.1 bt152.2.2.1 bt152.2.2.2.1))) else (none))) else (none)) else (if (rdOf ByteArray.empty t130 1).toList = ([] : List UInt8) then (some (false, 0, 0, 0, 0, 0, (⟨#[]⟩ : ByteArray), 0, 0, 120)) else ((E.refRule.f ((rdOf ByteArray.empty t130 0).toList == ([97, 108, 108, 111, 119] : List UInt8)) 0 0 0 0 0 (rdOf ByteArray.empty t130 1) t142 x137008_19).bind fun t174 => (if t174 = true then (some (((rdOf ByteArray.empty t130 0).toList == ([97, 108, 108, 111, 119] : List UInt8)), 0, 0, 0, 0, 0, rdOf ByteArray.empty t130 1, t142, x137008_19, 0)) else (some (false, 0, 0, 0, 0, 0, (⟨#[]⟩ : ByteArray), 0, 0, 120)))))) = some (r1, r2, r3, r4, r5, r6, r7, r8, r9, r10) := H
             have A45 := Aside0.mk A450
             clear A450
             by_cases c46 : (t148.length : Int) = 2
             ·rw [if_pos c46] at H
              have c46b0 : ((t148.length : Int) == 2) = true := beq_iff_eq.mpr c46
              have c46b1 : ((t148.length : Int) != 2) = false := bne_eq_false_iff_eq.mpr c46
              clear c46
              by_cases c47 : 0 < (t148.length : Int)
              ·rw [if_pos c47] at H
               have c47b0 : decide (0 < (t148.length : Int)) = true := decide_eq_true c47
               have c47b1 : decide (0 < t148.length) = true := decide_eq_true (by omega)
               clear c47
               replace H := Option.bind_eq_some_iff.mp H
               obtain ⟨⟨t152, t153, t154, t155, t156, t157, t158, t159, t160, t161, t162, t163, t164, t165⟩, A480, H⟩ := H
               replace H : (if 1 < (t148.length : Int) then ((XV.sallyportbase_Whole.f kj38 (rdOf ByteArray.empty t148 1) 2).bind fun bt169 => (if t156 > 0 then (sallyportref12_Parse.j3 kj38 bt169.1 true ((rdOf ByteArray.empty t130 0).toList == ([97, 108, 108, 111, 119] : List UInt8)) 0 0 0 0 0 (⟨#[]⟩ : ByteArray) t142 x137008_19 t152 t153 t154 t155) else (sallyportref12_Parse.j3 kj38 bt169.1 (!bt169.2) ((rdOf ByteArray.empty t130 0).toList == ([97, 108, 108, 111, 119] : List UInt8)) 0 0 0 0 0 (⟨#[]⟩ : ByteArray) t142 x137008_19 t152 t153 t154 t155))) else (none)) = some (r1, r2, r3, r4, r5, r6, r7, r8, r9, r10) := H
               have A48 := Aside0.mk A480
               clear A480
               by_cases c49 : 1 < (t148.length : Int)
               ·rw [if_pos c49] at H
                have c49b0 : decide (1 < (t148.length : Int)) = true := decide_eq_true c49
                have c49b1 : decide (1 < t148.length) = true := decide_eq_true (by omega)
                clear c49
                replace H := Option.bind_eq_some_iff.mp H
                obtain ⟨⟨t169, t170⟩, A500, H⟩ := H
                replace H : (if t156 > 0 then (sallyportref12_Parse.j3 kj38 t169 true ((rdOf ByteArray.empty t130 0).toList == ([97, 108, 108, 111, 119] : List UInt8)) 0 0 0 0 0 (⟨#[]⟩ : ByteArray) t142 x137008_19 t152 t153 t154 t155) else (sallyportref12_Parse.j3 kj38 t169 (!t170) ((rdOf ByteArray.empty t130 0).toList == ([97, 108, 108, 111, 119] : List UInt8)) 0 0 0 0 0 (⟨#[]⟩ : ByteArray) t142 x137008_19 t152 t153 t154 t155)) = some (r1, r2, r3, r4, r5, r6, r7, r8, r9, r10) := H
                have A50 := Aside0.mk A500
                clear A500
                have HC51 := Aside0.mk H
                clear H
                have p147 : 0 ≤ (1 : Int) := (by omega)
                have q147 : 1 < (t130.length : Int) := of_decide_eq_true (by first | (with_reducible assumption) | assumption)
                obtain ⟨ad147, e147, hx147_0⟩ := Kd.at_string (Kd.R_reads' HO_4.out).2.2 1 p147 q147
                obtain rfl : ad135 = ad147 := (by injection e147)
                (try simp only [show (1 : Int).toNat = 1 from rfl, Nat.reduceMul, Nat.reduceEqDiff, Go.Addr.add, ↓reduceIte] at hx147_0)
                have qi147 : (1 < t130.length) = True := eq_true (by omega)
                (try rw [show ((1 : Int)).toNat = 1 from rfl] at hx147_0)
                replace p147 := eq_true p147
                replace q147 := eq_true q147
                go_upto_region 18 with (first | ((with_reducible refine gate_callee (f := 49) rfl ?_); refine goesL_ (some 91) rfl rfl Tryz.func49 (by kernel_rfl) rfl #[.string (rdOf ByteArray.empty t130 1), .int .u8 47] rfl (by (try simp only [List.map_toArray, List.map_cons, List.map_nil]); first | done | rfl | (simp only [List.length_drop, List.length_take]; rfl)) ?_; (with_reducible refine (sallyportref12_words.calls kj38 (rdOf ByteArray.empty t130 1) 47 t148 _ A45.out).mono ?_); rintro e w52 ⟨v149, rfl, ho0, hb⟩; refine ⟨_, rfl, ?_⟩; have n0_ := Aside0.mk (Kd.R_elder' (by (with_reducible repeat (first | apply Kd.R_alloc | apply Kd.R_drewN | apply Kd.R_drew)); exact HO_4.out) (Kd.R_base ho0) hb); have n1_ := Aside0.mk (Kd.R_lower (Kd.R_new' ho0 (Kd.R_lt (by (with_reducible repeat (first | apply Kd.R_alloc | apply Kd.R_drewN | apply Kd.R_drew)); exact HO_4.out))) (below_size (by repeat (first | (with_reducible first | exact HB.out | apply below_alloc | apply pw_below_drewN | apply below_drew1 | refine below_set ?_ GE129.out | refine below_set ?_ GE136.out) | exact HB.out)))); have n2_ := Aside0.mk (blk_below (g := gb129) (o := .cells #[.bool false, .int .u8 0, .int .u8 0, .int .u8 0, .int .u8 0, .int .i64 0, .string (⟨#[]⟩ : ByteArray), .int .i64 0, .int .i64 0] 37 (0, 0)) (by (with_reducible repeat (first | refine blk_drewN ?_ _ | refine blk_drew ?_ | refine blk_alloc ?_ _)); exact BK129.out) hb); have n3_ := Aside0.mk (blk_below (g := gb136) (o := .cells #[.bool ((rdOf ByteArray.empty t130 0).toList == ([97, 108, 108, 111, 119] : List UInt8)), .int .u8 0, .int .u8 0, .int .u8 0, .int .u8 0, .int .i64 0, .string (⟨#[]⟩ : ByteArray), .int .i64 t142, .int .i64 x137008_19] 37 (0, 0)) (by (with_reducible repeat (first | refine blk_drewN ?_ _ | refine blk_drew ?_ | refine blk_alloc ?_ _)); exact BK136.out) hb); have n4_ := Aside0.mk (below_step (by repeat (first | (with_reducible first | exact HB.out | apply below_alloc | apply pw_below_drewN | apply below_drew1 | refine below_set ?_ GE129.out | refine below_set ?_ GE136.out) | exact HB.out)) hb); clear HO_4; clear BK129; clear BK136; clear HB; have HO_4 := n0_; have HO150 := n1_; have BK129 := n2_; have BK136 := n3_; have HB := n4_; clear n0_ n1_ n2_ n3_ n4_; (try clear hb); (try clear hb2); (try clear hk); (try clear hi); (try clear ho0); obtain ⟨Ao53, co53, eo53⟩ := Kd.R_slice HO150.out; subst eo53; have p151 : 0 ≤ (0 : Int) := (by omega); have q151 : 0 < (t148.length : Int) := of_decide_eq_true (by first | (with_reducible assumption) | assumption); obtain ⟨ad151, e151, hx151_0⟩ := Kd.at_string (Kd.R_reads' HO150.out).2.2 0 p151 q151; cases e151; have qi151 : (0 < t148.length) = True := eq_true (by omega); (try rw [show ((0 : Int)).toNat = 0 from rfl] at hx151_0); (try rw [Addr.add_zero'] at hx151_0); replace p151 := eq_true p151; replace q151 := eq_true q151) | ((with_reducible refine gate_callee (f := 51) rfl ?_); refine goesL_ (some 99) rfl rfl Tryz.func51 (by kernel_rfl) rfl #[.string (rdOf ByteArray.empty t148 0)] rfl (by (try simp only [List.map_toArray, List.map_cons, List.map_nil]); first | done | rfl | (simp only [List.length_drop, List.length_take]; rfl)) ?_; (with_reducible refine (E.refPA.calls (rdOf ByteArray.empty t148 0) t152 t153 t154 t155 t156 t157 t158 t159 t160 t161 t162 t163 t164 t165 _ ?side1 A48.out).mono ?_); (case side1 => exact StdW.below HS_.out (by repeat (first | (with_reducible first | exact HB.out | apply below_alloc | apply pw_below_drewN | apply below_drew1 | refine below_set ?_ GE129.out | refine below_set ?_ GE136.out) | exact HB.out))); rintro e w54 ⟨rfl, hb⟩; refine ⟨_, rfl, ?_⟩; have n0_ := Aside0.mk (Kd.R_below (by (with_reducible repeat (first | apply Kd.R_alloc | apply Kd.R_drewN | apply Kd.R_drew)); exact HO_4.out) hb); have n1_ := Aside0.mk (Kd.R_below (by (with_reducible repeat (first | apply Kd.R_alloc | apply Kd.R_drewN | apply Kd.R_drew)); exact HO150.out) hb); have n2_ := Aside0.mk (blk_below (g := gb129) (o := .cells #[.bool false, .int .u8 0, .int .u8 0, .int .u8 0, .int .u8 0, .int .i64 0, .string (⟨#[]⟩ : ByteArray), .int .i64 0, .int .i64 0] 37 (0, 0)) (by (with_reducible repeat (first | refine blk_drewN ?_ _ | refine blk_drew ?_ | refine blk_alloc ?_ _)); exact BK129.out) hb); have n3_ := Aside0.mk (blk_below (g := gb136) (o := .cells #[.bool ((rdOf ByteArray.empty t130 0).toList == ([97, 108, 108, 111, 119] : List UInt8)), .int .u8 0, .int .u8 0, .int .u8 0, .int .u8 0, .int .i64 0, .string (⟨#[]⟩ : ByteArray), .int .i64 t142, .int .i64 x137008_19] 37 (0, 0)) (by (with_reducible repeat (first | refine blk_drewN ?_ _ | refine blk_drew ?_ | refine blk_alloc ?_ _)); exact BK136.out) hb); have n4_ := Aside0.mk (below_step (by repeat (first | (with_reducible first | exact HB.out | apply below_alloc | apply pw_below_drewN | apply below_drew1 | refine below_set ?_ GE129.out | refine below_set ?_ GE136.out) | exact HB.out)) hb); clear HO_4; clear HO150; clear BK129; clear BK136; clear HB; have HO_4 := n0_; have HO150 := n1_; have BK129 := n2_; have BK136 := n3_; have HB := n4_; clear n0_ n1_ n2_ n3_ n4_; (try clear hb); (try clear hb2); (try clear hk); (try clear hi)) | ((with_reducible refine gate_dst (N := 12) rfl ?_); (try (refine gate_guard (by rfl) ?_; dsimp only)); refine box_event ?hg (N := 12) ?hd (cs := #[.int .u8 0, .int .u8 0, .int .u8 0, .int .u8 0]) (t := 24) ?hr ?_; (case hd => rfl); (case hg => rfl); (case hr => first | (go_simp; done) | (go_simp; rfl)); intro gb166 hg w55 hbox hb; have n0_ := Aside0.mk (Kd.R_below (by (with_reducible repeat (first | apply Kd.R_alloc | apply Kd.R_drewN | apply Kd.R_drew)); exact HO_4.out) hb); have n1_ := Aside0.mk (Kd.R_below (by (with_reducible repeat (first | apply Kd.R_alloc | apply Kd.R_drewN | apply Kd.R_drew)); exact HO150.out) hb); have n2_ := Aside0.mk (blk_below (g := gb129) (o := .cells #[.bool false, .int .u8 0, .int .u8 0, .int .u8 0, .int .u8 0, .int .i64 0, .string (⟨#[]⟩ : ByteArray), .int .i64 0, .int .i64 0] 37 (0, 0)) (by (with_reducible repeat (first | refine blk_drewN ?_ _ | refine blk_drew ?_ | refine blk_alloc ?_ _)); exact BK129.out) hb); have n3_ := Aside0.mk (blk_below (g := gb136) (o := .cells #[.bool ((rdOf ByteArray.empty t130 0).toList == ([97, 108, 108, 111, 119] : List UInt8)), .int .u8 0, .int .u8 0, .int .u8 0, .int .u8 0, .int .i64 0, .string (⟨#[]⟩ : ByteArray), .int .i64 t142, .int .i64 x137008_19] 37 (0, 0)) (by (with_reducible repeat (first | refine blk_drewN ?_ _ | refine blk_drew ?_ | refine blk_alloc ?_ _)); exact BK136.out) hb); have n4_ := Aside0.mk (below_step (by repeat (first | (with_reducible first | exact HB.out | apply below_alloc | apply pw_below_drewN | apply below_drew1 | refine below_set ?_ GE129.out | refine below_set ?_ GE136.out) | exact HB.out)) hb); have n5_ := Aside0.mk (hbox); have n6_ := Aside0.mk ((by rw [hg]; exact (below_size (by repeat (first | (with_reducible first | exact HB.out | apply below_alloc | apply pw_below_drewN | apply below_drew1 | refine below_set ?_ GE129.out | refine below_set ?_ GE136.out) | exact HB.out))) : w.heap.size ≤ gb166)); have n7_ := Aside0.mk ((by rw [hg]; exact (below_size (by repeat (first | (with_reducible first | exact HB.out | apply below_alloc | apply pw_below_drewN | apply below_drew1 | refine below_set ?_ GE129.out | refine below_set ?_ GE136.out) | exact HB.out))) : w.heap.size ≤ gb166)); have n8_ := Aside0.mk ((by rw [hg]; exact Nat.ne_of_lt (blk_lt (g := gb129) (o := .cells #[.bool false, .int .u8 0, .int .u8 0, .int .u8 0, .int .u8 0, .int .i64 0, .string (⟨#[]⟩ : ByteArray), .int .i64 0, .int .i64 0] 37 (0, 0)) (by (with_reducible repeat (first | refine blk_drewN ?_ _ | refine blk_drew ?_ | refine blk_alloc ?_ _)); exact BK129.out)) : gb129 ≠ gb166)); have n9_ := Aside0.mk ((by rw [hg]; exact Nat.ne_of_gt (blk_lt (g := gb129) (o := .cells #[.bool false, .int .u8 0, .int .u8 0, .int .u8 0, .int .u8 0, .int .i64 0, .string (⟨#[]⟩ : ByteArray), .int .i64 0, .int .i64 0] 37 (0, 0)) (by (with_reducible repeat (first | refine blk_drewN ?_ _ | refine blk_drew ?_ | refine blk_alloc ?_ _)); exact BK129.out)) : gb166 ≠ gb129)); have n10_ := Aside0.mk ((by rw [hg]; exact Nat.ne_of_lt (blk_lt (g := gb136) (o := .cells #[.bool ((rdOf ByteArray.empty t130 0).toList == ([97, 108, 108, 111, 119] : List UInt8)), .int .u8 0, .int .u8 0, .int .u8 0, .int .u8 0, .int .i64 0, .string (⟨#[]⟩ : ByteArray), .int .i64 t142, .int .i64 x137008_19] 37 (0, 0)) (by (with_reducible repeat (first | refine blk_drewN ?_ _ | refine blk_drew ?_ | refine blk_alloc ?_ _)); exact BK136.out)) : gb136 ≠ gb166)); have n11_ := Aside0.mk ((by rw [hg]; exact Nat.ne_of_gt (blk_lt (g := gb136) (o := .cells #[.bool ((rdOf ByteArray.empty t130 0).toList == ([97, 108, 108, 111, 119] : List UInt8)), .int .u8 0, .int .u8 0, .int .u8 0, .int .u8 0, .int .i64 0, .string (⟨#[]⟩ : ByteArray), .int .i64 t142, .int .i64 x137008_19] 37 (0, 0)) (by (with_reducible repeat (first | refine blk_drewN ?_ _ | refine blk_drew ?_ | refine blk_alloc ?_ _)); exact BK136.out)) : gb166 ≠ gb136)); clear HO_4; clear HO150; clear BK129; clear BK136; clear HB; have HO_4 := n0_; have HO150 := n1_; have BK129 := n2_; have BK136 := n3_; have HB := n4_; have BK166 := n5_; have GW166 := n6_; have GE166 := n7_; have NB129_166 := n8_; have NB166_129 := n9_; have NB136_166 := n10_; have NB166_136 := n11_; clear n0_ n1_ n2_ n3_ n4_ n5_ n6_ n7_ n8_ n9_ n10_ n11_; clear hb hbox hg) | ((with_reducible refine gate_dst (N := 13) rfl ?_); (try (refine gate_guard (by rfl) ?_; dsimp only)); refine box_event ?hg (N := 13) ?hd (cs := #[.int .i64 0, .string (⟨#[]⟩ : ByteArray), .string (⟨#[]⟩ : ByteArray), .string (⟨#[]⟩ : ByteArray), .string (⟨#[]⟩ : ByteArray), .int .i64 0, .int .i64 0, .int .i64 0, .int .i64 0, .int .i64 0]) (t := 79) ?hr ?_; (case hd => rfl); (case hg => rfl); (case hr => first | (go_simp; done) | (go_simp; rfl)); intro gb167 hg w56 hbox hb; have n0_ := Aside0.mk (Kd.R_below (by (with_reducible repeat (first | apply Kd.R_alloc | apply Kd.R_drewN | apply Kd.R_drew)); exact HO_4.out) hb); have n1_ := Aside0.mk (Kd.R_below (by (with_reducible repeat (first | apply Kd.R_alloc | apply Kd.R_drewN | apply Kd.R_drew)); exact HO150.out) hb); have n2_ := Aside0.mk (blk_below (g := gb129) (o := .cells #[.bool false, .int .u8 0, .int .u8 0, .int .u8 0, .int .u8 0, .int .i64 0, .string (⟨#[]⟩ : ByteArray), .int .i64 0, .int .i64 0] 37 (0, 0)) (by (with_reducible repeat (first | refine blk_drewN ?_ _ | refine blk_drew ?_ | refine blk_alloc ?_ _)); exact BK129.out) hb); have n3_ := Aside0.mk (blk_below (g := gb136) (o := .cells #[.bool ((rdOf ByteArray.empty t130 0).toList == ([97, 108, 108, 111, 119] : List UInt8)), .int .u8 0, .int .u8 0, .int .u8 0, .int .u8 0, .int .i64 0, .string (⟨#[]⟩ : ByteArray), .int .i64 t142, .int .i64 x137008_19] 37 (0, 0)) (by (with_reducible repeat (first | refine blk_drewN ?_ _ | refine blk_drew ?_ | refine blk_alloc ?_ _)); exact BK136.out) hb); have n4_ := Aside0.mk (blk_below (g := gb166) (o := .cells #[.int .u8 0, .int .u8 0, .int .u8 0, .int .u8 0] 24 (0, 0)) (by (with_reducible repeat (first | refine blk_drewN ?_ _ | refine blk_drew ?_ | refine blk_alloc ?_ _)); exact BK166.out) hb); have n5_ := Aside0.mk (below_step (by repeat (first | (with_reducible first | exact HB.out | apply below_alloc | apply pw_below_drewN | apply below_drew1 | refine below_set ?_ GE129.out | refine below_set ?_ GE136.out | refine below_set ?_ GE166.out) | exact HB.out)) hb); have n6_ := Aside0.mk (hbox); have n7_ := Aside0.mk ((by rw [hg]; exact (below_size (by repeat (first | (with_reducible first | exact HB.out | apply below_alloc | apply pw_below_drewN | apply below_drew1 | refine below_set ?_ GE129.out | refine below_set ?_ GE136.out | refine below_set ?_ GE166.out) | exact HB.out))) : w.heap.size ≤ gb167)); have n8_ := Aside0.mk ((by rw [hg]; exact (below_size (by repeat (first | (with_reducible first | exact HB.out | apply below_alloc | apply pw_below_drewN | apply below_drew1 | refine below_set ?_ GE129.out | refine below_set ?_ GE136.out | refine below_set ?_ GE166.out) | exact HB.out))) : w.heap.size ≤ gb167)); have n9_ := Aside0.mk ((by rw [hg]; exact Nat.ne_of_lt (blk_lt (g := gb129) (o := .cells #[.bool false, .int .u8 0, .int .u8 0, .int .u8 0, .int .u8 0, .int .i64 0, .string (⟨#[]⟩ : ByteArray), .int .i64 0, .int .i64 0] 37 (0, 0)) (by (with_reducible repeat (first | refine blk_drewN ?_ _ | refine blk_drew ?_ | refine blk_alloc ?_ _)); exact BK129.out)) : gb129 ≠ gb167)); have n10_ := Aside0.mk ((by rw [hg]; exact Nat.ne_of_gt (blk_lt (g := gb129) (o := .cells #[.bool false, .int .u8 0, .int .u8 0, .int .u8 0, .int .u8 0, .int .i64 0, .string (⟨#[]⟩ : ByteArray), .int .i64 0, .int .i64 0] 37 (0, 0)) (by (with_reducible repeat (first | refine blk_drewN ?_ _ | refine blk_drew ?_ | refine blk_alloc ?_ _)); exact BK129.out)) : gb167 ≠ gb129)); have n11_ := Aside0.mk ((by rw [hg]; exact Nat.ne_of_lt (blk_lt (g := gb136) (o := .cells #[.bool ((rdOf ByteArray.empty t130 0).toList == ([97, 108, 108, 111, 119] : List UInt8)), .int .u8 0, .int .u8 0, .int .u8 0, .int .u8 0, .int .i64 0, .string (⟨#[]⟩ : ByteArray), .int .i64 t142, .int .i64 x137008_19] 37 (0, 0)) (by (with_reducible repeat (first | refine blk_drewN ?_ _ | refine blk_drew ?_ | refine blk_alloc ?_ _)); exact BK136.out)) : gb136 ≠ gb167)); have n12_ := Aside0.mk ((by rw [hg]; exact Nat.ne_of_gt (blk_lt (g := gb136) (o := .cells #[.bool ((rdOf ByteArray.empty t130 0).toList == ([97, 108, 108, 111, 119] : List UInt8)), .int .u8 0, .int .u8 0, .int .u8 0, .int .u8 0, .int .i64 0, .string (⟨#[]⟩ : ByteArray), .int .i64 t142, .int .i64 x137008_19] 37 (0, 0)) (by (with_reducible repeat (first | refine blk_drewN ?_ _ | refine blk_drew ?_ | refine blk_alloc ?_ _)); exact BK136.out)) : gb167 ≠ gb136)); have n13_ := Aside0.mk ((by rw [hg]; exact Nat.ne_of_lt (blk_lt (g := gb166) (o := .cells #[.int .u8 0, .int .u8 0, .int .u8 0, .int .u8 0] 24 (0, 0)) (by (with_reducible repeat (first | refine blk_drewN ?_ _ | refine blk_drew ?_ | refine blk_alloc ?_ _)); exact BK166.out)) : gb166 ≠ gb167)); have n14_ := Aside0.mk ((by rw [hg]; exact Nat.ne_of_gt (blk_lt (g := gb166) (o := .cells #[.int .u8 0, .int .u8 0, .int .u8 0, .int .u8 0] 24 (0, 0)) (by (with_reducible repeat (first | refine blk_drewN ?_ _ | refine blk_drew ?_ | refine blk_alloc ?_ _)); exact BK166.out)) : gb167 ≠ gb166)); clear HO_4; clear HO150; clear BK129; clear BK136; clear BK166; clear HB; have HO_4 := n0_; have HO150 := n1_; have BK129 := n2_; have BK136 := n3_; have BK166 := n4_; have HB := n5_; have BK167 := n6_; have GW167 := n7_; have GE167 := n8_; have NB129_167 := n9_; have NB167_129 := n10_; have NB136_167 := n11_; have NB167_136 := n12_; have NB166_167 := n13_; have NB167_166 := n14_; clear n0_ n1_ n2_ n3_ n4_ n5_ n6_ n7_ n8_ n9_ n10_ n11_ n12_ n13_ n14_; clear hb hbox hg; have hnb57 := NB166_129.out; have hnc57 := NB129_166.out; have hnb58 := NB166_136.out; have hnc58 := NB136_166.out; have hnb59 := NB166_167.out; have hnc59 := NB167_166.out; have hcz60_0 : w56.cell? ⟨gb166, 0, none⟩ = some (.int .u8 0) := (blk_cell BK166.out 0).trans rfl; have hcz60_1 : w56.cell? ⟨gb166, 1, none⟩ = some (.int .u8 0) := (blk_cell BK166.out 1).trans rfl; have hcz60_2 : w56.cell? ⟨gb166, 2, none⟩ = some (.int .u8 0) := (blk_cell BK166.out 2).trans rfl; have hcz60_3 : w56.cell? ⟨gb166, 3, none⟩ = some (.int .u8 0) := (blk_cell BK166.out 3).trans rfl; have hfz60_0 := blk_frozen BK166.out 0; have hfz60_1 := blk_frozen BK166.out 1; have hfz60_2 := blk_frozen BK166.out 2; have hfz60_3 := blk_frozen BK166.out 3; have hnb61 := NB167_129.out; have hnc61 := NB129_167.out; have hnb62 := NB167_136.out; have hnc62 := NB136_167.out; have hcz63_0 : w56.cell? ⟨gb167, 0, none⟩ = some (.int .i64 0) := (blk_cell BK167.out 0).trans rfl; have hcz63_1 : w56.cell? ⟨gb167, 1, none⟩ = some (.string (⟨#[]⟩ : ByteArray)) := (blk_cell BK167.out 1).trans rfl; have hcz63_2 : w56.cell? ⟨gb167, 2, none⟩ = some (.string (⟨#[]⟩ : ByteArray)) := (blk_cell BK167.out 2).trans rfl; have hcz63_3 : w56.cell? ⟨gb167, 3, none⟩ = some (.string (⟨#[]⟩ : ByteArray)) := (blk_cell BK167.out 3).trans rfl; have hcz63_4 : w56.cell? ⟨gb167, 4, none⟩ = some (.string (⟨#[]⟩ : ByteArray)) := (blk_cell BK167.out 4).trans rfl; have hcz63_5 : w56.cell? ⟨gb167, 5, none⟩ = some (.int .i64 0) := (blk_cell BK167.out 5).trans rfl; have hcz63_6 : w56.cell? ⟨gb167, 6, none⟩ = some (.int .i64 0) := (blk_cell BK167.out 6).trans rfl; have hcz63_7 : w56.cell? ⟨gb167, 7, none⟩ = some (.int .i64 0) := (blk_cell BK167.out 7).trans rfl; have hcz63_8 : w56.cell? ⟨gb167, 8, none⟩ = some (.int .i64 0) := (blk_cell BK167.out 8).trans rfl; have hcz63_9 : w56.cell? ⟨gb167, 9, none⟩ = some (.int .i64 0) := (blk_cell BK167.out 9).trans rfl; have hfz63_0 := blk_frozen BK167.out 0; have hfz63_1 := blk_frozen BK167.out 1; have hfz63_2 := blk_frozen BK167.out 2; have hfz63_3 := blk_frozen BK167.out 3; have hfz63_4 := blk_frozen BK167.out 4; have hfz63_5 := blk_frozen BK167.out 5; have hfz63_6 := blk_frozen BK167.out 6; have hfz63_7 := blk_frozen BK167.out 7; have hfz63_8 := blk_frozen BK167.out 8; have hfz63_9 := blk_frozen BK167.out 9; have p168 : 0 ≤ (1 : Int) := (by omega); have q168 : 1 < (t148.length : Int) := of_decide_eq_true (by first | (with_reducible assumption) | assumption); obtain ⟨ad168, e168, hx168_0⟩ := Kd.at_string (Kd.R_reads' HO150.out).2.2 1 p168 q168; obtain rfl : ad151 = ad168 := (by injection e168); (try simp only [show (1 : Int).toNat = 1 from rfl, Nat.reduceMul, Nat.reduceEqDiff, Go.Addr.add, ↓reduceIte] at hx168_0); have qi168 : (1 < t148.length) = True := eq_true (by omega); (try rw [show ((1 : Int)).toNat = 1 from rfl] at hx168_0); have hn168_0 : ad151.block ≠ gb166 := Kd.own_blk (Kd.R_ne HO150.out BK166.out (by decide)); have hn168_1 : ad151.block ≠ gb166 := Kd.own_blk (Kd.R_ne HO150.out BK166.out (by decide)); have hn168_2 : ad151.block ≠ gb166 := Kd.own_blk (Kd.R_ne HO150.out BK166.out (by decide)); have hn168_3 : ad151.block ≠ gb166 := Kd.own_blk (Kd.R_ne HO150.out BK166.out (by decide)); have hn168_4 : ad151.block ≠ gb167 := Kd.own_blk (Kd.R_ne HO150.out BK167.out (by decide)); have hn168_5 : ad151.block ≠ gb167 := Kd.own_blk (Kd.R_ne HO150.out BK167.out (by decide)); have hn168_6 : ad151.block ≠ gb167 := Kd.own_blk (Kd.R_ne HO150.out BK167.out (by decide)); have hn168_7 : ad151.block ≠ gb167 := Kd.own_blk (Kd.R_ne HO150.out BK167.out (by decide)); have hn168_8 : ad151.block ≠ gb167 := Kd.own_blk (Kd.R_ne HO150.out BK167.out (by decide)); have hn168_9 : ad151.block ≠ gb167 := Kd.own_blk (Kd.R_ne HO150.out BK167.out (by decide)); have hn168_10 : ad151.block ≠ gb167 := Kd.own_blk (Kd.R_ne HO150.out BK167.out (by decide)); have hn168_11 : ad151.block ≠ gb167 := Kd.own_blk (Kd.R_ne HO150.out BK167.out (by decide)); have hn168_12 : ad151.block ≠ gb167 := Kd.own_blk (Kd.R_ne HO150.out BK167.out (by decide)); have hn168_13 : ad151.block ≠ gb167 := Kd.own_blk (Kd.R_ne HO150.out BK167.out (by decide)); replace hx168_0 := (cell_far (p := ⟨gb166, 0, none⟩) (by first | (rw [add_block]; exact hn168_0) | (show (Addr.add _ _).block ≠ _; rw [add_block]; exact hn168_0) | exact hn168_0) (.int .u8 t152)).trans hx168_0; replace hx168_0 := (cell_far (p := ⟨gb166, 1, none⟩) (by first | (rw [add_block]; exact hn168_1) | (show (Addr.add _ _).block ≠ _; rw [add_block]; exact hn168_1) | exact hn168_1) (.int .u8 t153)).trans hx168_0; replace hx168_0 := (cell_far (p := ⟨gb166, 2, none⟩) (by first | (rw [add_block]; exact hn168_2) | (show (Addr.add _ _).block ≠ _; rw [add_block]; exact hn168_2) | exact hn168_2) (.int .u8 t154)).trans hx168_0; replace hx168_0 := (cell_far (p := ⟨gb166, 3, none⟩) (by first | (rw [add_block]; exact hn168_3) | (show (Addr.add _ _).block ≠ _; rw [add_block]; exact hn168_3) | exact hn168_3) (.int .u8 t155)).trans hx168_0; replace hx168_0 := (cell_far (p := ⟨gb167, 0, none⟩) (by first | (rw [add_block]; exact hn168_4) | (show (Addr.add _ _).block ≠ _; rw [add_block]; exact hn168_4) | exact hn168_4) (.int .i64 t156)).trans hx168_0; replace hx168_0 := (cell_far (p := ⟨gb167, 1, none⟩) (by first | (rw [add_block]; exact hn168_5) | (show (Addr.add _ _).block ≠ _; rw [add_block]; exact hn168_5) | exact hn168_5) (.string t157)).trans hx168_0; replace hx168_0 := (cell_far (p := ⟨gb167, 2, none⟩) (by first | (rw [add_block]; exact hn168_6) | (show (Addr.add _ _).block ≠ _; rw [add_block]; exact hn168_6) | exact hn168_6) (.string t158)).trans hx168_0; replace hx168_0 := (cell_far (p := ⟨gb167, 3, none⟩) (by first | (rw [add_block]; exact hn168_7) | (show (Addr.add _ _).block ≠ _; rw [add_block]; exact hn168_7) | exact hn168_7) (.string t159)).trans hx168_0; replace hx168_0 := (cell_far (p := ⟨gb167, 4, none⟩) (by first | (rw [add_block]; exact hn168_8) | (show (Addr.add _ _).block ≠ _; rw [add_block]; exact hn168_8) | exact hn168_8) (.string t160)).trans hx168_0; replace hx168_0 := (cell_far (p := ⟨gb167, 5, none⟩) (by first | (rw [add_block]; exact hn168_9) | (show (Addr.add _ _).block ≠ _; rw [add_block]; exact hn168_9) | exact hn168_9) (.int .i64 t161)).trans hx168_0; replace hx168_0 := (cell_far (p := ⟨gb167, 6, none⟩) (by first | (rw [add_block]; exact hn168_10) | (show (Addr.add _ _).block ≠ _; rw [add_block]; exact hn168_10) | exact hn168_10) (.int .i64 t162)).trans hx168_0; replace hx168_0 := (cell_far (p := ⟨gb167, 7, none⟩) (by first | (rw [add_block]; exact hn168_11) | (show (Addr.add _ _).block ≠ _; rw [add_block]; exact hn168_11) | exact hn168_11) (.int .i64 t163)).trans hx168_0; replace hx168_0 := (cell_far (p := ⟨gb167, 8, none⟩) (by first | (rw [add_block]; exact hn168_12) | (show (Addr.add _ _).block ≠ _; rw [add_block]; exact hn168_12) | exact hn168_12) (.int .i64 t164)).trans hx168_0; replace hx168_0 := (cell_far (p := ⟨gb167, 9, none⟩) (by first | (rw [add_block]; exact hn168_13) | (show (Addr.add _ _).block ≠ _; rw [add_block]; exact hn168_13) | exact hn168_13) (.int .i64 t165)).trans hx168_0; clear hn168_0; clear hn168_1; clear hn168_2; clear hn168_3; clear hn168_4; clear hn168_5; clear hn168_6; clear hn168_7; clear hn168_8; clear hn168_9; clear hn168_10; clear hn168_11; clear hn168_12; clear hn168_13; replace p168 := eq_true p168; replace q168 := eq_true q168) | ((with_reducible refine gate_callee (f := 50) rfl ?_); refine goesL_ (some 106) rfl rfl Tryz.func50 (by kernel_rfl) rfl #[.string (rdOf ByteArray.empty t148 1), .int .i64 2] rfl (by (try simp only [List.map_toArray, List.map_cons, List.map_nil]); first | done | rfl | (simp only [List.length_drop, List.length_take]; rfl)) ?_; (with_reducible refine (XV.sallyportbase_Whole.calls kj38 (rdOf ByteArray.empty t148 1) 2 t169 t170 _ A50.out).mono ?_); rintro e w' ⟨rfl, ⟨nd, rfl⟩⟩; refine ⟨_, rfl, ?_⟩))
                (try simp only [Act.put, List.setIfInBounds_toArray, List.set_cons_zero, List.set_cons_succ])
                go_cut [115] (fun v115 wc => ∃ (kq : Nat) (x115_50 : Bool), v115 = .bool x115_50 ∧ Aside0 (sallyportref12_Parse.j3 kq t169 x115_50 ((rdOf ByteArray.empty t130 0).toList == ([97, 108, 108, 111, 119] : List UInt8)) 0 0 0 0 0 (⟨#[]⟩ : ByteArray) t142 x137008_19 t152 t153 t154 t155 = some (r1, r2, r3, r4, r5, r6, r7, r8, r9, r10)) ∧ Aside0 (kq ≤ kj38) ∧ Aside0 (wc.heap[gb129]? = some (.cells #[.bool false, .int .u8 0, .int .u8 0, .int .u8 0, .int .u8 0, .int .i64 0, .string (⟨#[]⟩ : ByteArray), .int .i64 0, .int .i64 0] 37 (0, 0))) ∧ Aside0 (wc.heap[gb136]? = some (.cells #[.bool ((rdOf ByteArray.empty t130 0).toList == ([97, 108, 108, 111, 119] : List UInt8)), .int .u8 0, .int .u8 0, .int .u8 0, .int .u8 0, .int .i64 0, .string (⟨#[]⟩ : ByteArray), .int .i64 t142, .int .i64 x137008_19] 37 (0, 0))) ∧ Aside0 (wc.heap[gb166]? = some (.cells #[.int .u8 t152, .int .u8 t153, .int .u8 t154, .int .u8 t155] 24 (0, 0))) ∧ Aside0 (wc.heap[gb167]? = some (.cells #[.int .i64 t156, .string t157, .string t158, .string t159, .string t160, .int .i64 t161, .int .i64 t162, .int .i64 t163, .int .i64 t164, .int .i64 t165] 79 (0, 0))) ∧ Aside0 (Below w.heap.size w wc))
                case first =>
                 have H := HC51.out
                 clear HC51
                 by_cases c64 : t156 > 0
                 ·rw [if_pos c64] at H
                  have c64b0 : decide (0 < t156) = true := decide_eq_true c64
                  clear c64
                  (first | rw [c64b0] | (simp only [i64_w, i32_w]; rw [c64b0]) | skip)
                  have H' := Aside0.mk H
                  clear H
                  have hnb65 := NB167_129.out
                  have hnc65 := NB129_167.out
                  have hnb66 := NB167_136.out
                  have hnc66 := NB136_167.out
                  have hnb67 := NB167_166.out
                  have hnc67 := NB166_167.out
                  have hcz68_0 : w56.cell? ⟨gb167, 0, none⟩ = some (.int .i64 0) := (blk_cell BK167.out 0).trans rfl
                  have hcz68_1 : w56.cell? ⟨gb167, 1, none⟩ = some (.string (⟨#[]⟩ : ByteArray)) := (blk_cell BK167.out 1).trans rfl
                  have hcz68_2 : w56.cell? ⟨gb167, 2, none⟩ = some (.string (⟨#[]⟩ : ByteArray)) := (blk_cell BK167.out 2).trans rfl
                  have hcz68_3 : w56.cell? ⟨gb167, 3, none⟩ = some (.string (⟨#[]⟩ : ByteArray)) := (blk_cell BK167.out 3).trans rfl
                  have hcz68_4 : w56.cell? ⟨gb167, 4, none⟩ = some (.string (⟨#[]⟩ : ByteArray)) := (blk_cell BK167.out 4).trans rfl
                  have hcz68_5 : w56.cell? ⟨gb167, 5, none⟩ = some (.int .i64 0) := (blk_cell BK167.out 5).trans rfl
                  have hcz68_6 : w56.cell? ⟨gb167, 6, none⟩ = some (.int .i64 0) := (blk_cell BK167.out 6).trans rfl
                  have hcz68_7 : w56.cell? ⟨gb167, 7, none⟩ = some (.int .i64 0) := (blk_cell BK167.out 7).trans rfl
                  have hcz68_8 : w56.cell? ⟨gb167, 8, none⟩ = some (.int .i64 0) := (blk_cell BK167.out 8).trans rfl
                  have hcz68_9 : w56.cell? ⟨gb167, 9, none⟩ = some (.int .i64 0) := (blk_cell BK167.out 9).trans rfl
                  have hfz68_0 := blk_frozen BK167.out 0
                  have hfz68_1 := blk_frozen BK167.out 1
                  have hfz68_2 := blk_frozen BK167.out 2
                  have hfz68_3 := blk_frozen BK167.out 3
                  have hfz68_4 := blk_frozen BK167.out 4
                  have hfz68_5 := blk_frozen BK167.out 5
                  have hfz68_6 := blk_frozen BK167.out 6
                  have hfz68_7 := blk_frozen BK167.out 7
                  have hfz68_8 := blk_frozen BK167.out 8
                  have hfz68_9 := blk_frozen BK167.out 9
                  go_wp2
                  go_meet
                  case rel => exact ⟨_, (true), (by first | rfl | (simp; done) | (simp [*]; done)), H', ⟨by have := HJ2.out; have := HJ19.out; have := HJ38.out; first | omega | exact Nat.le_refl _⟩, ⟨by (with_reducible repeat (first | refine blk_drewN ?_ _ | refine blk_drew ?_ | refine blk_alloc ?_ _)); refine blk_far ?_ NB129_167.out _; (with_reducible repeat (first | refine blk_drewN ?_ _ | refine blk_drew ?_ | refine blk_alloc ?_ _)); refine blk_far ?_ NB129_167.out _; (with_reducible repeat (first | refine blk_drewN ?_ _ | refine blk_drew ?_ | refine blk_alloc ?_ _)); refine blk_far ?_ NB129_167.out _; (with_reducible repeat (first | refine blk_drewN ?_ _ | refine blk_drew ?_ | refine blk_alloc ?_ _)); refine blk_far ?_ NB129_167.out _; (with_reducible repeat (first | refine blk_drewN ?_ _ | refine blk_drew ?_ | refine blk_alloc ?_ _)); refine blk_far ?_ NB129_167.out _; (with_reducible repeat (first | refine blk_drewN ?_ _ | refine blk_drew ?_ | refine blk_alloc ?_ _)); refine blk_far ?_ NB129_167.out _; (with_reducible repeat (first | refine blk_drewN ?_ _ | refine blk_drew ?_ | refine blk_alloc ?_ _)); refine blk_far ?_ NB129_167.out _; (with_reducible repeat (first | refine blk_drewN ?_ _ | refine blk_drew ?_ | refine blk_alloc ?_ _)); refine blk_far ?_ NB129_167.out _; (with_reducible repeat (first | refine blk_drewN ?_ _ | refine blk_drew ?_ | refine blk_alloc ?_ _)); refine blk_far ?_ NB129_167.out _; (with_reducible repeat (first | refine blk_drewN ?_ _ | refine blk_drew ?_ | refine blk_alloc ?_ _)); refine blk_far ?_ NB129_167.out _; (with_reducible repeat (first | refine blk_drewN ?_ _ | refine blk_drew ?_ | refine blk_alloc ?_ _)); refine blk_far ?_ NB129_166.out _; (with_reducible repeat (first | refine blk_drewN ?_ _ | refine blk_drew ?_ | refine blk_alloc ?_ _)); refine blk_far ?_ NB129_166.out _; (with_reducible repeat (first | refine blk_drewN ?_ _ | refine blk_drew ?_ | refine blk_alloc ?_ _)); refine blk_far ?_ NB129_166.out _; (with_reducible repeat (first | refine blk_drewN ?_ _ | refine blk_drew ?_ | refine blk_alloc ?_ _)); refine blk_far ?_ NB129_166.out _; (with_reducible repeat (first | refine blk_drewN ?_ _ | refine blk_drew ?_ | refine blk_alloc ?_ _)); exact BK129.out⟩, ⟨by (with_reducible repeat (first | refine blk_drewN ?_ _ | refine blk_drew ?_ | refine blk_alloc ?_ _)); refine blk_far ?_ NB136_167.out _; (with_reducible repeat (first | refine blk_drewN ?_ _ | refine blk_drew ?_ | refine blk_alloc ?_ _)); refine blk_far ?_ NB136_167.out _; (with_reducible repeat (first | refine blk_drewN ?_ _ | refine blk_drew ?_ | refine blk_alloc ?_ _)); refine blk_far ?_ NB136_167.out _; (with_reducible repeat (first | refine blk_drewN ?_ _ | refine blk_drew ?_ | refine blk_alloc ?_ _)); refine blk_far ?_ NB136_167.out _; (with_reducible repeat (first | refine blk_drewN ?_ _ | refine blk_drew ?_ | refine blk_alloc ?_ _)); refine blk_far ?_ NB136_167.out _; (with_reducible repeat (first | refine blk_drewN ?_ _ | refine blk_drew ?_ | refine blk_alloc ?_ _)); refine blk_far ?_ NB136_167.out _; (with_reducible repeat (first | refine blk_drewN ?_ _ | refine blk_drew ?_ | refine blk_alloc ?_ _)); refine blk_far ?_ NB136_167.out _; (with_reducible repeat (first | refine blk_drewN ?_ _ | refine blk_drew ?_ | refine blk_alloc ?_ _)); refine blk_far ?_ NB136_167.out _; (with_reducible repeat (first | refine blk_drewN ?_ _ | refine blk_drew ?_ | refine blk_alloc ?_ _)); refine blk_far ?_ NB136_167.out _; (with_reducible repeat (first | refine blk_drewN ?_ _ | refine blk_drew ?_ | refine blk_alloc ?_ _)); refine blk_far ?_ NB136_167.out _; (with_reducible repeat (first | refine blk_drewN ?_ _ | refine blk_drew ?_ | refine blk_alloc ?_ _)); refine blk_far ?_ NB136_166.out _; (with_reducible repeat (first | refine blk_drewN ?_ _ | refine blk_drew ?_ | refine blk_alloc ?_ _)); refine blk_far ?_ NB136_166.out _; (with_reducible repeat (first | refine blk_drewN ?_ _ | refine blk_drew ?_ | refine blk_alloc ?_ _)); refine blk_far ?_ NB136_166.out _; (with_reducible repeat (first | refine blk_drewN ?_ _ | refine blk_drew ?_ | refine blk_alloc ?_ _)); refine blk_far ?_ NB136_166.out _; (with_reducible repeat (first | refine blk_drewN ?_ _ | refine blk_drew ?_ | refine blk_alloc ?_ _)); exact BK136.out⟩, ⟨by (with_reducible repeat (first | refine blk_drewN ?_ _ | refine blk_drew ?_ | refine blk_alloc ?_ _)); refine blk_far ?_ NB166_167.out _; (with_reducible repeat (first | refine blk_drewN ?_ _ | refine blk_drew ?_ | refine blk_alloc ?_ _)); refine blk_far ?_ NB166_167.out _; (with_reducible repeat (first | refine blk_drewN ?_ _ | refine blk_drew ?_ | refine blk_alloc ?_ _)); refine blk_far ?_ NB166_167.out _; (with_reducible repeat (first | refine blk_drewN ?_ _ | refine blk_drew ?_ | refine blk_alloc ?_ _)); refine blk_far ?_ NB166_167.out _; (with_reducible repeat (first | refine blk_drewN ?_ _ | refine blk_drew ?_ | refine blk_alloc ?_ _)); refine blk_far ?_ NB166_167.out _; (with_reducible repeat (first | refine blk_drewN ?_ _ | refine blk_drew ?_ | refine blk_alloc ?_ _)); refine blk_far ?_ NB166_167.out _; (with_reducible repeat (first | refine blk_drewN ?_ _ | refine blk_drew ?_ | refine blk_alloc ?_ _)); refine blk_far ?_ NB166_167.out _; (with_reducible repeat (first | refine blk_drewN ?_ _ | refine blk_drew ?_ | refine blk_alloc ?_ _)); refine blk_far ?_ NB166_167.out _; (with_reducible repeat (first | refine blk_drewN ?_ _ | refine blk_drew ?_ | refine blk_alloc ?_ _)); refine blk_far ?_ NB166_167.out _; (with_reducible repeat (first | refine blk_drewN ?_ _ | refine blk_drew ?_ | refine blk_alloc ?_ _)); refine blk_far ?_ NB166_167.out _; (with_reducible repeat (first | refine blk_drewN ?_ _ | refine blk_drew ?_ | refine blk_alloc ?_ _)); refine blk_put (cs := #[.int .u8 t152, .int .u8 t153, .int .u8 t154, .int .u8 0]) ?_ 3 _ rfl; (with_reducible repeat (first | refine blk_drewN ?_ _ | refine blk_drew ?_ | refine blk_alloc ?_ _)); refine blk_put (cs := #[.int .u8 t152, .int .u8 t153, .int .u8 0, .int .u8 0]) ?_ 2 _ rfl; (with_reducible repeat (first | refine blk_drewN ?_ _ | refine blk_drew ?_ | refine blk_alloc ?_ _)); refine blk_put (cs := #[.int .u8 t152, .int .u8 0, .int .u8 0, .int .u8 0]) ?_ 1 _ rfl; (with_reducible repeat (first | refine blk_drewN ?_ _ | refine blk_drew ?_ | refine blk_alloc ?_ _)); refine blk_put (cs := #[.int .u8 0, .int .u8 0, .int .u8 0, .int .u8 0]) ?_ 0 _ rfl; (with_reducible repeat (first | refine blk_drewN ?_ _ | refine blk_drew ?_ | refine blk_alloc ?_ _)); exact BK166.out⟩, ⟨by (with_reducible repeat (first | refine blk_drewN ?_ _ | refine blk_drew ?_ | refine blk_alloc ?_ _)); refine blk_put (cs := #[.int .i64 t156, .string t157, .string t158, .string t159, .string t160, .int .i64 t161, .int .i64 t162, .int .i64 t163, .int .i64 t164, .int .i64 0]) ?_ 9 _ rfl; (with_reducible repeat (first | refine blk_drewN ?_ _ | refine blk_drew ?_ | refine blk_alloc ?_ _)); refine blk_put (cs := #[.int .i64 t156, .string t157, .string t158, .string t159, .string t160, .int .i64 t161, .int .i64 t162, .int .i64 t163, .int .i64 0, .int .i64 0]) ?_ 8 _ rfl; (with_reducible repeat (first | refine blk_drewN ?_ _ | refine blk_drew ?_ | refine blk_alloc ?_ _)); refine blk_put (cs := #[.int .i64 t156, .string t157, .string t158, .string t159, .string t160, .int .i64 t161, .int .i64 t162, .int .i64 0, .int .i64 0, .int .i64 0]) ?_ 7 _ rfl; (with_reducible repeat (first | refine blk_drewN ?_ _ | refine blk_drew ?_ | refine blk_alloc ?_ _)); refine blk_put (cs := #[.int .i64 t156, .string t157, .string t158, .string t159, .string t160, .int .i64 t161, .int .i64 0, .int .i64 0, .int .i64 0, .int .i64 0]) ?_ 6 _ rfl; (with_reducible repeat (first | refine blk_drewN ?_ _ | refine blk_drew ?_ | refine blk_alloc ?_ _)); refine blk_put (cs := #[.int .i64 t156, .string t157, .string t158, .string t159, .string t160, .int .i64 0, .int .i64 0, .int .i64 0, .int .i64 0, .int .i64 0]) ?_ 5 _ rfl; (with_reducible repeat (first | refine blk_drewN ?_ _ | refine blk_drew ?_ | refine blk_alloc ?_ _)); refine blk_put (cs := #[.int .i64 t156, .string t157, .string t158, .string t159, .string (⟨#[]⟩ : ByteArray), .int .i64 0, .int .i64 0, .int .i64 0, .int .i64 0, .int .i64 0]) ?_ 4 _ rfl; (with_reducible repeat (first | refine blk_drewN ?_ _ | refine blk_drew ?_ | refine blk_alloc ?_ _)); refine blk_put (cs := #[.int .i64 t156, .string t157, .string t158, .string (⟨#[]⟩ : ByteArray), .string (⟨#[]⟩ : ByteArray), .int .i64 0, .int .i64 0, .int .i64 0, .int .i64 0, .int .i64 0]) ?_ 3 _ rfl; (with_reducible repeat (first | refine blk_drewN ?_ _ | refine blk_drew ?_ | refine blk_alloc ?_ _)); refine blk_put (cs := #[.int .i64 t156, .string t157, .string (⟨#[]⟩ : ByteArray), .string (⟨#[]⟩ : ByteArray), .string (⟨#[]⟩ : ByteArray), .int .i64 0, .int .i64 0, .int .i64 0, .int .i64 0, .int .i64 0]) ?_ 2 _ rfl; (with_reducible repeat (first | refine blk_drewN ?_ _ | refine blk_drew ?_ | refine blk_alloc ?_ _)); refine blk_put (cs := #[.int .i64 t156, .string (⟨#[]⟩ : ByteArray), .string (⟨#[]⟩ : ByteArray), .string (⟨#[]⟩ : ByteArray), .string (⟨#[]⟩ : ByteArray), .int .i64 0, .int .i64 0, .int .i64 0, .int .i64 0, .int .i64 0]) ?_ 1 _ rfl; (with_reducible repeat (first | refine blk_drewN ?_ _ | refine blk_drew ?_ | refine blk_alloc ?_ _)); refine blk_put (cs := #[.int .i64 0, .string (⟨#[]⟩ : ByteArray), .string (⟨#[]⟩ : ByteArray), .string (⟨#[]⟩ : ByteArray), .string (⟨#[]⟩ : ByteArray), .int .i64 0, .int .i64 0, .int .i64 0, .int .i64 0, .int .i64 0]) ?_ 0 _ rfl; (with_reducible repeat (first | refine blk_drewN ?_ _ | refine blk_drew ?_ | refine blk_alloc ?_ _)); refine blk_far ?_ NB167_166.out _; (with_reducible repeat (first | refine blk_drewN ?_ _ | refine blk_drew ?_ | refine blk_alloc ?_ _)); refine blk_far ?_ NB167_166.out _; (with_reducible repeat (first | refine blk_drewN ?_ _ | refine blk_drew ?_ | refine blk_alloc ?_ _)); refine blk_far ?_ NB167_166.out _; (with_reducible repeat (first | refine blk_drewN ?_ _ | refine blk_drew ?_ | refine blk_alloc ?_ _)); refine blk_far ?_ NB167_166.out _; (with_reducible repeat (first | refine blk_drewN ?_ _ | refine blk_drew ?_ | refine blk_alloc ?_ _)); exact BK167.out⟩, ⟨by repeat (first | (with_reducible first | exact HB.out | apply below_alloc | apply pw_below_drewN | apply below_drew1 | refine below_set ?_ GE129.out | refine below_set ?_ GE136.out | refine below_set ?_ GE166.out | refine below_set ?_ GE167.out) | exact HB.out)⟩⟩
                 ·rw [if_neg c64] at H
                  have c64b0 : decide (0 < t156) = false := decide_eq_false c64
                  clear c64
                  (first | rw [c64b0] | (simp only [i64_w, i32_w]; rw [c64b0]) | skip)
                  have H' := Aside0.mk H
                  clear H
                  have hnb69 := NB167_129.out
                  have hnc69 := NB129_167.out
                  have hnb70 := NB167_136.out
                  have hnc70 := NB136_167.out
                  have hnb71 := NB167_166.out
                  have hnc71 := NB166_167.out
                  have hcz72_0 : w56.cell? ⟨gb167, 0, none⟩ = some (.int .i64 0) := (blk_cell BK167.out 0).trans rfl
                  have hcz72_1 : w56.cell? ⟨gb167, 1, none⟩ = some (.string (⟨#[]⟩ : ByteArray)) := (blk_cell BK167.out 1).trans rfl
                  have hcz72_2 : w56.cell? ⟨gb167, 2, none⟩ = some (.string (⟨#[]⟩ : ByteArray)) := (blk_cell BK167.out 2).trans rfl
                  have hcz72_3 : w56.cell? ⟨gb167, 3, none⟩ = some (.string (⟨#[]⟩ : ByteArray)) := (blk_cell BK167.out 3).trans rfl
                  have hcz72_4 : w56.cell? ⟨gb167, 4, none⟩ = some (.string (⟨#[]⟩ : ByteArray)) := (blk_cell BK167.out 4).trans rfl
                  have hcz72_5 : w56.cell? ⟨gb167, 5, none⟩ = some (.int .i64 0) := (blk_cell BK167.out 5).trans rfl
                  have hcz72_6 : w56.cell? ⟨gb167, 6, none⟩ = some (.int .i64 0) := (blk_cell BK167.out 6).trans rfl
                  have hcz72_7 : w56.cell? ⟨gb167, 7, none⟩ = some (.int .i64 0) := (blk_cell BK167.out 7).trans rfl
                  have hcz72_8 : w56.cell? ⟨gb167, 8, none⟩ = some (.int .i64 0) := (blk_cell BK167.out 8).trans rfl
                  have hcz72_9 : w56.cell? ⟨gb167, 9, none⟩ = some (.int .i64 0) := (blk_cell BK167.out 9).trans rfl
                  have hfz72_0 := blk_frozen BK167.out 0
                  have hfz72_1 := blk_frozen BK167.out 1
                  have hfz72_2 := blk_frozen BK167.out 2
                  have hfz72_3 := blk_frozen BK167.out 3
                  have hfz72_4 := blk_frozen BK167.out 4
                  have hfz72_5 := blk_frozen BK167.out 5
                  have hfz72_6 := blk_frozen BK167.out 6
                  have hfz72_7 := blk_frozen BK167.out 7
                  have hfz72_8 := blk_frozen BK167.out 8
                  have hfz72_9 := blk_frozen BK167.out 9
                  go_wp2
                  go_meet
                  case rel => exact ⟨_, (!t170), (by first | rfl | (simp; done) | (simp [*]; done)), H', ⟨by have := HJ2.out; have := HJ19.out; have := HJ38.out; first | omega | exact Nat.le_refl _⟩, ⟨by (with_reducible repeat (first | refine blk_drewN ?_ _ | refine blk_drew ?_ | refine blk_alloc ?_ _)); refine blk_far ?_ NB129_167.out _; (with_reducible repeat (first | refine blk_drewN ?_ _ | refine blk_drew ?_ | refine blk_alloc ?_ _)); refine blk_far ?_ NB129_167.out _; (with_reducible repeat (first | refine blk_drewN ?_ _ | refine blk_drew ?_ | refine blk_alloc ?_ _)); refine blk_far ?_ NB129_167.out _; (with_reducible repeat (first | refine blk_drewN ?_ _ | refine blk_drew ?_ | refine blk_alloc ?_ _)); refine blk_far ?_ NB129_167.out _; (with_reducible repeat (first | refine blk_drewN ?_ _ | refine blk_drew ?_ | refine blk_alloc ?_ _)); refine blk_far ?_ NB129_167.out _; (with_reducible repeat (first | refine blk_drewN ?_ _ | refine blk_drew ?_ | refine blk_alloc ?_ _)); refine blk_far ?_ NB129_167.out _; (with_reducible repeat (first | refine blk_drewN ?_ _ | refine blk_drew ?_ | refine blk_alloc ?_ _)); refine blk_far ?_ NB129_167.out _; (with_reducible repeat (first | refine blk_drewN ?_ _ | refine blk_drew ?_ | refine blk_alloc ?_ _)); refine blk_far ?_ NB129_167.out _; (with_reducible repeat (first | refine blk_drewN ?_ _ | refine blk_drew ?_ | refine blk_alloc ?_ _)); refine blk_far ?_ NB129_167.out _; (with_reducible repeat (first | refine blk_drewN ?_ _ | refine blk_drew ?_ | refine blk_alloc ?_ _)); refine blk_far ?_ NB129_167.out _; (with_reducible repeat (first | refine blk_drewN ?_ _ | refine blk_drew ?_ | refine blk_alloc ?_ _)); refine blk_far ?_ NB129_166.out _; (with_reducible repeat (first | refine blk_drewN ?_ _ | refine blk_drew ?_ | refine blk_alloc ?_ _)); refine blk_far ?_ NB129_166.out _; (with_reducible repeat (first | refine blk_drewN ?_ _ | refine blk_drew ?_ | refine blk_alloc ?_ _)); refine blk_far ?_ NB129_166.out _; (with_reducible repeat (first | refine blk_drewN ?_ _ | refine blk_drew ?_ | refine blk_alloc ?_ _)); refine blk_far ?_ NB129_166.out _; (with_reducible repeat (first | refine blk_drewN ?_ _ | refine blk_drew ?_ | refine blk_alloc ?_ _)); exact BK129.out⟩, ⟨by (with_reducible repeat (first | refine blk_drewN ?_ _ | refine blk_drew ?_ | refine blk_alloc ?_ _)); refine blk_far ?_ NB136_167.out _; (with_reducible repeat (first | refine blk_drewN ?_ _ | refine blk_drew ?_ | refine blk_alloc ?_ _)); refine blk_far ?_ NB136_167.out _; (with_reducible repeat (first | refine blk_drewN ?_ _ | refine blk_drew ?_ | refine blk_alloc ?_ _)); refine blk_far ?_ NB136_167.out _; (with_reducible repeat (first | refine blk_drewN ?_ _ | refine blk_drew ?_ | refine blk_alloc ?_ _)); refine blk_far ?_ NB136_167.out _; (with_reducible repeat (first | refine blk_drewN ?_ _ | refine blk_drew ?_ | refine blk_alloc ?_ _)); refine blk_far ?_ NB136_167.out _; (with_reducible repeat (first | refine blk_drewN ?_ _ | refine blk_drew ?_ | refine blk_alloc ?_ _)); refine blk_far ?_ NB136_167.out _; (with_reducible repeat (first | refine blk_drewN ?_ _ | refine blk_drew ?_ | refine blk_alloc ?_ _)); refine blk_far ?_ NB136_167.out _; (with_reducible repeat (first | refine blk_drewN ?_ _ | refine blk_drew ?_ | refine blk_alloc ?_ _)); refine blk_far ?_ NB136_167.out _; (with_reducible repeat (first | refine blk_drewN ?_ _ | refine blk_drew ?_ | refine blk_alloc ?_ _)); refine blk_far ?_ NB136_167.out _; (with_reducible repeat (first | refine blk_drewN ?_ _ | refine blk_drew ?_ | refine blk_alloc ?_ _)); refine blk_far ?_ NB136_167.out _; (with_reducible repeat (first | refine blk_drewN ?_ _ | refine blk_drew ?_ | refine blk_alloc ?_ _)); refine blk_far ?_ NB136_166.out _; (with_reducible repeat (first | refine blk_drewN ?_ _ | refine blk_drew ?_ | refine blk_alloc ?_ _)); refine blk_far ?_ NB136_166.out _; (with_reducible repeat (first | refine blk_drewN ?_ _ | refine blk_drew ?_ | refine blk_alloc ?_ _)); refine blk_far ?_ NB136_166.out _; (with_reducible repeat (first | refine blk_drewN ?_ _ | refine blk_drew ?_ | refine blk_alloc ?_ _)); refine blk_far ?_ NB136_166.out _; (with_reducible repeat (first | refine blk_drewN ?_ _ | refine blk_drew ?_ | refine blk_alloc ?_ _)); exact BK136.out⟩, ⟨by (with_reducible repeat (first | refine blk_drewN ?_ _ | refine blk_drew ?_ | refine blk_alloc ?_ _)); refine blk_far ?_ NB166_167.out _; (with_reducible repeat (first | refine blk_drewN ?_ _ | refine blk_drew ?_ | refine blk_alloc ?_ _)); refine blk_far ?_ NB166_167.out _; (with_reducible repeat (first | refine blk_drewN ?_ _ | refine blk_drew ?_ | refine blk_alloc ?_ _)); refine blk_far ?_ NB166_167.out _; (with_reducible repeat (first | refine blk_drewN ?_ _ | refine blk_drew ?_ | refine blk_alloc ?_ _)); refine blk_far ?_ NB166_167.out _; (with_reducible repeat (first | refine blk_drewN ?_ _ | refine blk_drew ?_ | refine blk_alloc ?_ _)); refine blk_far ?_ NB166_167.out _; (with_reducible repeat (first | refine blk_drewN ?_ _ | refine blk_drew ?_ | refine blk_alloc ?_ _)); refine blk_far ?_ NB166_167.out _; (with_reducible repeat (first | refine blk_drewN ?_ _ | refine blk_drew ?_ | refine blk_alloc ?_ _)); refine blk_far ?_ NB166_167.out _; (with_reducible repeat (first | refine blk_drewN ?_ _ | refine blk_drew ?_ | refine blk_alloc ?_ _)); refine blk_far ?_ NB166_167.out _; (with_reducible repeat (first | refine blk_drewN ?_ _ | refine blk_drew ?_ | refine blk_alloc ?_ _)); refine blk_far ?_ NB166_167.out _; (with_reducible repeat (first | refine blk_drewN ?_ _ | refine blk_drew ?_ | refine blk_alloc ?_ _)); refine blk_far ?_ NB166_167.out _; (with_reducible repeat (first | refine blk_drewN ?_ _ | refine blk_drew ?_ | refine blk_alloc ?_ _)); refine blk_put (cs := #[.int .u8 t152, .int .u8 t153, .int .u8 t154, .int .u8 0]) ?_ 3 _ rfl; (with_reducible repeat (first | refine blk_drewN ?_ _ | refine blk_drew ?_ | refine blk_alloc ?_ _)); refine blk_put (cs := #[.int .u8 t152, .int .u8 t153, .int .u8 0, .int .u8 0]) ?_ 2 _ rfl; (with_reducible repeat (first | refine blk_drewN ?_ _ | refine blk_drew ?_ | refine blk_alloc ?_ _)); refine blk_put (cs := #[.int .u8 t152, .int .u8 0, .int .u8 0, .int .u8 0]) ?_ 1 _ rfl; (with_reducible repeat (first | refine blk_drewN ?_ _ | refine blk_drew ?_ | refine blk_alloc ?_ _)); refine blk_put (cs := #[.int .u8 0, .int .u8 0, .int .u8 0, .int .u8 0]) ?_ 0 _ rfl; (with_reducible repeat (first | refine blk_drewN ?_ _ | refine blk_drew ?_ | refine blk_alloc ?_ _)); exact BK166.out⟩, ⟨by (with_reducible repeat (first | refine blk_drewN ?_ _ | refine blk_drew ?_ | refine blk_alloc ?_ _)); refine blk_put (cs := #[.int .i64 t156, .string t157, .string t158, .string t159, .string t160, .int .i64 t161, .int .i64 t162, .int .i64 t163, .int .i64 t164, .int .i64 0]) ?_ 9 _ rfl; (with_reducible repeat (first | refine blk_drewN ?_ _ | refine blk_drew ?_ | refine blk_alloc ?_ _)); refine blk_put (cs := #[.int .i64 t156, .string t157, .string t158, .string t159, .string t160, .int .i64 t161, .int .i64 t162, .int .i64 t163, .int .i64 0, .int .i64 0]) ?_ 8 _ rfl; (with_reducible repeat (first | refine blk_drewN ?_ _ | refine blk_drew ?_ | refine blk_alloc ?_ _)); refine blk_put (cs := #[.int .i64 t156, .string t157, .string t158, .string t159, .string t160, .int .i64 t161, .int .i64 t162, .int .i64 0, .int .i64 0, .int .i64 0]) ?_ 7 _ rfl; (with_reducible repeat (first | refine blk_drewN ?_ _ | refine blk_drew ?_ | refine blk_alloc ?_ _)); refine blk_put (cs := #[.int .i64 t156, .string t157, .string t158, .string t159, .string t160, .int .i64 t161, .int .i64 0, .int .i64 0, .int .i64 0, .int .i64 0]) ?_ 6 _ rfl; (with_reducible repeat (first | refine blk_drewN ?_ _ | refine blk_drew ?_ | refine blk_alloc ?_ _)); refine blk_put (cs := #[.int .i64 t156, .string t157, .string t158, .string t159, .string t160, .int .i64 0, .int .i64 0, .int .i64 0, .int .i64 0, .int .i64 0]) ?_ 5 _ rfl; (with_reducible repeat (first | refine blk_drewN ?_ _ | refine blk_drew ?_ | refine blk_alloc ?_ _)); refine blk_put (cs := #[.int .i64 t156, .string t157, .string t158, .string t159, .string (⟨#[]⟩ : ByteArray), .int .i64 0, .int .i64 0, .int .i64 0, .int .i64 0, .int .i64 0]) ?_ 4 _ rfl; (with_reducible repeat (first | refine blk_drewN ?_ _ | refine blk_drew ?_ | refine blk_alloc ?_ _)); refine blk_put (cs := #[.int .i64 t156, .string t157, .string t158, .string (⟨#[]⟩ : ByteArray), .string (⟨#[]⟩ : ByteArray), .int .i64 0, .int .i64 0, .int .i64 0, .int .i64 0, .int .i64 0]) ?_ 3 _ rfl; (with_reducible repeat (first | refine blk_drewN ?_ _ | refine blk_drew ?_ | refine blk_alloc ?_ _)); refine blk_put (cs := #[.int .i64 t156, .string t157, .string (⟨#[]⟩ : ByteArray), .string (⟨#[]⟩ : ByteArray), .string (⟨#[]⟩ : ByteArray), .int .i64 0, .int .i64 0, .int .i64 0, .int .i64 0, .int .i64 0]) ?_ 2 _ rfl; (with_reducible repeat (first | refine blk_drewN ?_ _ | refine blk_drew ?_ | refine blk_alloc ?_ _)); refine blk_put (cs := #[.int .i64 t156, .string (⟨#[]⟩ : ByteArray), .string (⟨#[]⟩ : ByteArray), .string (⟨#[]⟩ : ByteArray), .string (⟨#[]⟩ : ByteArray), .int .i64 0, .int .i64 0, .int .i64 0, .int .i64 0, .int .i64 0]) ?_ 1 _ rfl; (with_reducible repeat (first | refine blk_drewN ?_ _ | refine blk_drew ?_ | refine blk_alloc ?_ _)); refine blk_put (cs := #[.int .i64 0, .string (⟨#[]⟩ : ByteArray), .string (⟨#[]⟩ : ByteArray), .string (⟨#[]⟩ : ByteArray), .string (⟨#[]⟩ : ByteArray), .int .i64 0, .int .i64 0, .int .i64 0, .int .i64 0, .int .i64 0]) ?_ 0 _ rfl; (with_reducible repeat (first | refine blk_drewN ?_ _ | refine blk_drew ?_ | refine blk_alloc ?_ _)); refine blk_far ?_ NB167_166.out _; (with_reducible repeat (first | refine blk_drewN ?_ _ | refine blk_drew ?_ | refine blk_alloc ?_ _)); refine blk_far ?_ NB167_166.out _; (with_reducible repeat (first | refine blk_drewN ?_ _ | refine blk_drew ?_ | refine blk_alloc ?_ _)); refine blk_far ?_ NB167_166.out _; (with_reducible repeat (first | refine blk_drewN ?_ _ | refine blk_drew ?_ | refine blk_alloc ?_ _)); refine blk_far ?_ NB167_166.out _; (with_reducible repeat (first | refine blk_drewN ?_ _ | refine blk_drew ?_ | refine blk_alloc ?_ _)); exact BK167.out⟩, ⟨by repeat (first | (with_reducible first | exact HB.out | apply below_alloc | apply pw_below_drewN | apply below_drew1 | refine below_set ?_ GE129.out | refine below_set ?_ GE136.out | refine below_set ?_ GE166.out | refine below_set ?_ GE167.out) | exact HB.out)⟩⟩
                case rest =>
                 clear HC51
                 try clear c1
                 try clear p1
                 try clear q1
                 try clear hx1
                 try clear qi1
                 try clear c2
                 try clear p2
                 try clear c3
                 try clear c4
                 try clear c5
                 try clear c6
                 try clear c6b0
                 try clear c6b1
                 try clear c7
                 try clear c7b0
                 try clear c7b1
                 try clear c8
                 try clear c8b0
                 try clear c8b1
                 try clear c9
                 try clear c9b0
                 try clear c9b1
                 try clear c13
                 try clear p13
                 try clear q13
                 try clear hx13
                 try clear qi13
                 try clear p14
                 try clear q14
                 try clear hx14
                 try clear qi14
                 try clear c15
                 try clear c15b0
                 try clear c15b1
                 try clear p15
                 try clear q15
                 try clear hx15
                 try clear qi15
                 try clear c16
                 try clear c16b0
                 try clear c16b1
                 try clear p16
                 try clear q16
                 try clear hx16
                 try clear qi16
                 try clear c18
                 try clear c18b0
                 try clear c18b1
                 try clear c22
                 try clear c23
                 try clear c28
                 try clear c28b0
                 try clear c28b1
                 try clear c29
                 try clear c29b0
                 try clear c29b1
                 try clear c31
                 try clear c32
                 try clear c33
                 try clear c35
                 try clear c37
                 try clear c40
                 try clear c41
                 try clear c42
                 try clear c44
                 try clear c44b0
                 try clear c44b1
                 try clear c46
                 try clear c46b0
                 try clear c46b1
                 try clear c47
                 try clear c47b0
                 try clear c47b1
                 try clear c49
                 try clear c49b0
                 try clear c49b1
                 try clear c50
                 try clear c51
                 try clear c57
                 try clear c58
                 try clear c59
                 try clear c61
                 try clear c62
                 try clear c64
                 try clear c64b0
                 try clear c65
                 try clear c66
                 try clear c67
                 try clear c69
                 try clear c70
                 try clear c71
                 try clear hcz14_0
                 try clear hcz14_1
                 try clear hcz14_2
                 try clear hcz14_3
                 try clear hcz14_4
                 try clear hcz14_5
                 try clear hcz14_6
                 try clear hcz14_7
                 try clear hcz14_8
                 try clear hcz24_0
                 try clear hcz24_1
                 try clear hcz24_2
                 try clear hcz24_3
                 try clear hcz24_4
                 try clear hcz24_5
                 try clear hcz24_6
                 try clear hcz24_7
                 try clear hcz24_8
                 try clear hcz27_0
                 try clear hcz27_1
                 try clear hcz27_2
                 try clear hcz27_3
                 try clear hcz27_4
                 try clear hcz27_5
                 try clear hcz27_6
                 try clear hcz27_7
                 try clear hcz27_8
                 try clear hcz34_0
                 try clear hcz34_1
                 try clear hcz34_2
                 try clear hcz34_3
                 try clear hcz34_4
                 try clear hcz34_5
                 try clear hcz34_6
                 try clear hcz34_7
                 try clear hcz34_8
                 try clear hcz36_0
                 try clear hcz36_1
                 try clear hcz36_2
                 try clear hcz36_3
                 try clear hcz36_4
                 try clear hcz36_5
                 try clear hcz36_6
                 try clear hcz36_7
                 try clear hcz36_8
                 try clear hcz38_0
                 try clear hcz38_1
                 try clear hcz38_2
                 try clear hcz38_3
                 try clear hcz38_4
                 try clear hcz38_5
                 try clear hcz38_6
                 try clear hcz38_7
                 try clear hcz38_8
                 try clear hcz43_0
                 try clear hcz43_1
                 try clear hcz43_2
                 try clear hcz43_3
                 try clear hcz43_4
                 try clear hcz43_5
                 try clear hcz43_6
                 try clear hcz43_7
                 try clear hcz43_8
                 try clear hcz60_0
                 try clear hcz60_1
                 try clear hcz60_2
                 try clear hcz60_3
                 try clear hcz63_0
                 try clear hcz63_1
                 try clear hcz63_2
                 try clear hcz63_3
                 try clear hcz63_4
                 try clear hcz63_5
                 try clear hcz63_6
                 try clear hcz63_7
                 try clear hcz63_8
                 try clear hcz63_9
                 try clear hcz68_0
                 try clear hcz68_1
                 try clear hcz68_2
                 try clear hcz68_3
                 try clear hcz68_4
                 try clear hcz68_5
                 try clear hcz68_6
                 try clear hcz68_7
                 try clear hcz68_8
                 try clear hcz68_9
                 try clear hcz72_0
                 try clear hcz72_1
                 try clear hcz72_2
                 try clear hcz72_3
                 try clear hcz72_4
                 try clear hcz72_5
                 try clear hcz72_6
                 try clear hcz72_7
                 try clear hcz72_8
                 try clear hcz72_9
                 try clear hfz14_0
                 try clear hfz14_1
                 try clear hfz14_2
                 try clear hfz14_3
                 try clear hfz14_4
                 try clear hfz14_5
                 try clear hfz14_6
                 try clear hfz14_7
                 try clear hfz14_8
                 try clear hfz24_0
                 try clear hfz24_1
                 try clear hfz24_2
                 try clear hfz24_3
                 try clear hfz24_4
                 try clear hfz24_5
                 try clear hfz24_6
                 try clear hfz24_7
                 try clear hfz24_8
                 try clear hfz27_0
                 try clear hfz27_1
                 try clear hfz27_2
                 try clear hfz27_3
                 try clear hfz27_4
                 try clear hfz27_5
                 try clear hfz27_6
                 try clear hfz27_7
                 try clear hfz27_8
                 try clear hfz34_0
                 try clear hfz34_1
                 try clear hfz34_2
                 try clear hfz34_3
                 try clear hfz34_4
                 try clear hfz34_5
                 try clear hfz34_6
                 try clear hfz34_7
                 try clear hfz34_8
                 try clear hfz36_0
                 try clear hfz36_1
                 try clear hfz36_2
                 try clear hfz36_3
                 try clear hfz36_4
                 try clear hfz36_5
                 try clear hfz36_6
                 try clear hfz36_7
                 try clear hfz36_8
                 try clear hfz38_0
                 try clear hfz38_1
                 try clear hfz38_2
                 try clear hfz38_3
                 try clear hfz38_4
                 try clear hfz38_5
                 try clear hfz38_6
                 try clear hfz38_7
                 try clear hfz38_8
                 try clear hfz43_0
                 try clear hfz43_1
                 try clear hfz43_2
                 try clear hfz43_3
                 try clear hfz43_4
                 try clear hfz43_5
                 try clear hfz43_6
                 try clear hfz43_7
                 try clear hfz43_8
                 try clear hfz60_0
                 try clear hfz60_1
                 try clear hfz60_2
                 try clear hfz60_3
                 try clear hfz63_0
                 try clear hfz63_1
                 try clear hfz63_2
                 try clear hfz63_3
                 try clear hfz63_4
                 try clear hfz63_5
                 try clear hfz63_6
                 try clear hfz63_7
                 try clear hfz63_8
                 try clear hfz63_9
                 try clear hfz68_0
                 try clear hfz68_1
                 try clear hfz68_2
                 try clear hfz68_3
                 try clear hfz68_4
                 try clear hfz68_5
                 try clear hfz68_6
                 try clear hfz68_7
                 try clear hfz68_8
                 try clear hfz68_9
                 try clear hfz72_0
                 try clear hfz72_1
                 try clear hfz72_2
                 try clear hfz72_3
                 try clear hfz72_4
                 try clear hfz72_5
                 try clear hfz72_6
                 try clear hfz72_7
                 try clear hfz72_8
                 try clear hfz72_9
                 try clear hx133_0
                 try clear hx134_0
                 try clear hx135_0
                 try clear hx137_0
                 try clear hx141_0
                 try clear hx144_0
                 try clear hx147_0
                 try clear hx151_0
                 try clear hx168_0
                 try clear p1
                 try clear p13
                 try clear p133
                 try clear p134
                 try clear p135
                 try clear p137
                 try clear p14
                 try clear p141
                 try clear p144
                 try clear p147
                 try clear p151
                 try clear p168
                 try clear p2
                 try clear q1
                 try clear q13
                 try clear q133
                 try clear q134
                 try clear q135
                 try clear q137
                 try clear q14
                 try clear q141
                 try clear q144
                 try clear q147
                 try clear q151
                 try clear q168
                 obtain ⟨kq, x115_50, rfl, HA, HJ50, BK129, BK136, BK166, BK167, HB⟩ := hcut
                 cases kq with
                 | zero => exact absurd HA.out (by simp [sallyportref12_Parse.j3])
                 | succ kj50 =>
                  have H := HA.out
                  clear HA
                  simp only [sallyportref12_Parse.j3] at H
                  by_cases c73 : x115_50 = true
                  ·subst c73
                   have H1 : (some (false, 0, 0, 0, 0, 0, (⟨#[]⟩ : ByteArray), 0, 0, 120)) = some (r1, r2, r3, r4, r5, r6, r7, r8, r9, r10) := by rw [if_pos rfl] at H; exact H
                   clear H
                   have H := H1
                   clear H1
                   simp only [Option.some.injEq, Prod.mk.injEq] at H
                   obtain ⟨rfl, rfl, rfl, rfl, rfl, rfl, rfl, rfl, rfl, rfl⟩ := H
                   have hnb74 := NB129_136.out
                   have hnc74 := NB136_129.out
                   have hnb75 := NB129_166.out
                   have hnc75 := NB166_129.out
                   have hnb76 := NB129_167.out
                   have hnc76 := NB167_129.out
                   have hcz77_0 : wc.cell? ⟨gb129, 0, none⟩ = some (.bool false) := (blk_cell BK129.out 0).trans rfl
                   have hcz77_1 : wc.cell? ⟨gb129, 1, none⟩ = some (.int .u8 0) := (blk_cell BK129.out 1).trans rfl
                   have hcz77_2 : wc.cell? ⟨gb129, 2, none⟩ = some (.int .u8 0) := (blk_cell BK129.out 2).trans rfl
                   have hcz77_3 : wc.cell? ⟨gb129, 3, none⟩ = some (.int .u8 0) := (blk_cell BK129.out 3).trans rfl
                   have hcz77_4 : wc.cell? ⟨gb129, 4, none⟩ = some (.int .u8 0) := (blk_cell BK129.out 4).trans rfl
                   have hcz77_5 : wc.cell? ⟨gb129, 5, none⟩ = some (.int .i64 0) := (blk_cell BK129.out 5).trans rfl
                   have hcz77_6 : wc.cell? ⟨gb129, 6, none⟩ = some (.string (⟨#[]⟩ : ByteArray)) := (blk_cell BK129.out 6).trans rfl
                   have hcz77_7 : wc.cell? ⟨gb129, 7, none⟩ = some (.int .i64 0) := (blk_cell BK129.out 7).trans rfl
                   have hcz77_8 : wc.cell? ⟨gb129, 8, none⟩ = some (.int .i64 0) := (blk_cell BK129.out 8).trans rfl
                   have hfz77_0 := blk_frozen BK129.out 0
                   have hfz77_1 := blk_frozen BK129.out 1
                   have hfz77_2 := blk_frozen BK129.out 2
                   have hfz77_3 := blk_frozen BK129.out 3
                   have hfz77_4 := blk_frozen BK129.out 4
                   have hfz77_5 := blk_frozen BK129.out 5
                   have hfz77_6 := blk_frozen BK129.out 6
                   have hfz77_7 := blk_frozen BK129.out 7
                   have hfz77_8 := blk_frozen BK129.out 8
                   go_wp2
                   refine bodyPost_ret (results_ct rfl _ _ gb129 37 #[.bool false, .int .u8 0, .int .u8 0, .int .u8 0, .int .u8 0, .int .i64 0, .string (⟨#[]⟩ : ByteArray), .int .i64 0, .int .i64 0] (0, 0) _ rfl (by (with_reducible repeat (first | refine blk_drewN ?_ _ | refine blk_drew ?_ | refine blk_alloc ?_ _)); refine blk_put (cs := #[.bool false, .int .u8 0, .int .u8 0, .int .u8 0, .int .u8 0, .int .i64 0, .string (⟨#[]⟩ : ByteArray), .int .i64 0, .int .i64 0]) ?_ 8 _ rfl; (with_reducible repeat (first | refine blk_drewN ?_ _ | refine blk_drew ?_ | refine blk_alloc ?_ _)); refine blk_put (cs := #[.bool false, .int .u8 0, .int .u8 0, .int .u8 0, .int .u8 0, .int .i64 0, .string (⟨#[]⟩ : ByteArray), .int .i64 0, .int .i64 0]) ?_ 7 _ rfl; (with_reducible repeat (first | refine blk_drewN ?_ _ | refine blk_drew ?_ | refine blk_alloc ?_ _)); refine blk_put (cs := #[.bool false, .int .u8 0, .int .u8 0, .int .u8 0, .int .u8 0, .int .i64 0, .string (⟨#[]⟩ : ByteArray), .int .i64 0, .int .i64 0]) ?_ 6 _ rfl; (with_reducible repeat (first | refine blk_drewN ?_ _ | refine blk_drew ?_ | refine blk_alloc ?_ _)); refine blk_put (cs := #[.bool false, .int .u8 0, .int .u8 0, .int .u8 0, .int .u8 0, .int .i64 0, .string (⟨#[]⟩ : ByteArray), .int .i64 0, .int .i64 0]) ?_ 5 _ rfl; (with_reducible repeat (first | refine blk_drewN ?_ _ | refine blk_drew ?_ | refine blk_alloc ?_ _)); refine blk_put (cs := #[.bool false, .int .u8 0, .int .u8 0, .int .u8 0, .int .u8 0, .int .i64 0, .string (⟨#[]⟩ : ByteArray), .int .i64 0, .int .i64 0]) ?_ 4 _ rfl; (with_reducible repeat (first | refine blk_drewN ?_ _ | refine blk_drew ?_ | refine blk_alloc ?_ _)); refine blk_put (cs := #[.bool false, .int .u8 0, .int .u8 0, .int .u8 0, .int .u8 0, .int .i64 0, .string (⟨#[]⟩ : ByteArray), .int .i64 0, .int .i64 0]) ?_ 3 _ rfl; (with_reducible repeat (first | refine blk_drewN ?_ _ | refine blk_drew ?_ | refine blk_alloc ?_ _)); refine blk_put (cs := #[.bool false, .int .u8 0, .int .u8 0, .int .u8 0, .int .u8 0, .int .i64 0, .string (⟨#[]⟩ : ByteArray), .int .i64 0, .int .i64 0]) ?_ 2 _ rfl; (with_reducible repeat (first | refine blk_drewN ?_ _ | refine blk_drew ?_ | refine blk_alloc ?_ _)); refine blk_put (cs := #[.bool false, .int .u8 0, .int .u8 0, .int .u8 0, .int .u8 0, .int .i64 0, .string (⟨#[]⟩ : ByteArray), .int .i64 0, .int .i64 0]) ?_ 1 _ rfl; (with_reducible repeat (first | refine blk_drewN ?_ _ | refine blk_drew ?_ | refine blk_alloc ?_ _)); refine blk_put (cs := #[.bool false, .int .u8 0, .int .u8 0, .int .u8 0, .int .u8 0, .int .i64 0, .string (⟨#[]⟩ : ByteArray), .int .i64 0, .int .i64 0]) ?_ 0 _ rfl; (with_reducible repeat (first | refine blk_drewN ?_ _ | refine blk_drew ?_ | refine blk_alloc ?_ _)); exact BK129.out) Tryz.underlying37 rfl (by kernel_rfl)) rfl ?_
                   exact ⟨by first | rfl | (simp [errW_none, errW_some] <;> rfl) | (simp [*, errW_none, errW_some] <;> rfl), by repeat (first | (with_reducible first | exact HB.out | apply below_alloc | apply pw_below_drewN | apply below_drew1 | refine below_set ?_ GE129.out | refine below_set ?_ GE136.out | refine below_set ?_ GE166.out | refine below_set ?_ GE167.out) | exact HB.out)⟩
                  ·replace c73 := Bool.eq_false_iff.mpr c73
                   subst c73
                   have H1 : ((E.refRule.f ((rdOf ByteArray.empty t130 0).toList == ([97, 108, 108, 111, 119] : List UInt8)) t152 t153 t154 t155 t169 (⟨#[]⟩ : ByteArray) t142 x137008_19).bind fun t171 => (if t171 = true then (some (((rdOf ByteArray.empty t130 0).toList == ([97, 108, 108, 111, 119] : List UInt8)), t152, t153, t154, t155, t169, (⟨#[]⟩ : ByteArray), t142, x137008_19, 0)) else (some (false, 0, 0, 0, 0, 0, (⟨#[]⟩ : ByteArray), 0, 0, 120)))) = some (r1, r2, r3, r4, r5, r6, r7, r8, r9, r10) := by rw [if_neg (show ¬ (false = true) by decide)] at H; exact H
                   clear H
                   have H := H1
                   clear H1
                   replace H := Option.bind_eq_some_iff.mp H
                   obtain ⟨t171, A780, H⟩ := H
                   replace H : (if t171 = true then (some (((rdOf ByteArray.empty t130 0).toList == ([97, 108, 108, 111, 119] : List UInt8)), t152, t153, t154, t155, t169, (⟨#[]⟩ : ByteArray), t142, x137008_19, 0)) else (some (false, 0, 0, 0, 0, 0, (⟨#[]⟩ : ByteArray), 0, 0, 120))) = some (r1, r2, r3, r4, r5, r6, r7, r8, r9, r10) := H
                   have A78 := Aside0.mk A780
                   clear A780
                   by_cases c79 : t171 = true
                   ·subst c79
                    have H1 : (some (((rdOf ByteArray.empty t130 0).toList == ([97, 108, 108, 111, 119] : List UInt8)), t152, t153, t154, t155, t169, (⟨#[]⟩ : ByteArray), t142, x137008_19, 0)) = some (r1, r2, r3, r4, r5, r6, r7, r8, r9, r10) := by rw [if_pos rfl] at H; exact H
                    clear H
                    have H := H1
                    clear H1
                    simp only [Option.some.injEq, Prod.mk.injEq] at H
                    obtain ⟨rfl, rfl, rfl, rfl, rfl, rfl, rfl, rfl, rfl, rfl⟩ := H
                    have hnb80 := NB166_129.out
                    have hnc80 := NB129_166.out
                    have hnb81 := NB166_136.out
                    have hnc81 := NB136_166.out
                    have hnb82 := NB166_167.out
                    have hnc82 := NB167_166.out
                    have hcz83_0 : wc.cell? ⟨gb166, 0, none⟩ = some (.int .u8 t152) := (blk_cell BK166.out 0).trans rfl
                    have hcz83_1 : wc.cell? ⟨gb166, 1, none⟩ = some (.int .u8 t153) := (blk_cell BK166.out 1).trans rfl
                    have hcz83_2 : wc.cell? ⟨gb166, 2, none⟩ = some (.int .u8 t154) := (blk_cell BK166.out 2).trans rfl
                    have hcz83_3 : wc.cell? ⟨gb166, 3, none⟩ = some (.int .u8 t155) := (blk_cell BK166.out 3).trans rfl
                    have hfz83_0 := blk_frozen BK166.out 0
                    have hfz83_1 := blk_frozen BK166.out 1
                    have hfz83_2 := blk_frozen BK166.out 2
                    have hfz83_3 := blk_frozen BK166.out 3
                    have hnb84 := NB136_129.out
                    have hnc84 := NB129_136.out
                    have hnb85 := NB136_167.out
                    have hnc85 := NB167_136.out
                    have hcz86_0 : wc.cell? ⟨gb136, 0, none⟩ = some (.bool ((rdOf ByteArray.empty t130 0).toList == ([97, 108, 108, 111, 119] : List UInt8))) := (blk_cell BK136.out 0).trans rfl
                    have hcz86_1 : wc.cell? ⟨gb136, 1, none⟩ = some (.int .u8 0) := (blk_cell BK136.out 1).trans rfl
                    have hcz86_2 : wc.cell? ⟨gb136, 2, none⟩ = some (.int .u8 0) := (blk_cell BK136.out 2).trans rfl
                    have hcz86_3 : wc.cell? ⟨gb136, 3, none⟩ = some (.int .u8 0) := (blk_cell BK136.out 3).trans rfl
                    have hcz86_4 : wc.cell? ⟨gb136, 4, none⟩ = some (.int .u8 0) := (blk_cell BK136.out 4).trans rfl
                    have hcz86_5 : wc.cell? ⟨gb136, 5, none⟩ = some (.int .i64 0) := (blk_cell BK136.out 5).trans rfl
                    have hcz86_6 : wc.cell? ⟨gb136, 6, none⟩ = some (.string (⟨#[]⟩ : ByteArray)) := (blk_cell BK136.out 6).trans rfl
                    have hcz86_7 : wc.cell? ⟨gb136, 7, none⟩ = some (.int .i64 t142) := (blk_cell BK136.out 7).trans rfl
                    have hcz86_8 : wc.cell? ⟨gb136, 8, none⟩ = some (.int .i64 x137008_19) := (blk_cell BK136.out 8).trans rfl
                    have hfz86_0 := blk_frozen BK136.out 0
                    have hfz86_1 := blk_frozen BK136.out 1
                    have hfz86_2 := blk_frozen BK136.out 2
                    have hfz86_3 := blk_frozen BK136.out 3
                    have hfz86_4 := blk_frozen BK136.out 4
                    have hfz86_5 := blk_frozen BK136.out 5
                    have hfz86_6 := blk_frozen BK136.out 6
                    have hfz86_7 := blk_frozen BK136.out 7
                    have hfz86_8 := blk_frozen BK136.out 8
                    go_wp2_with (first | ((with_reducible refine gate_callee (f := 39) rfl ?_); refine goesL_ (some 131) rfl rfl Tryz.func39 (by kernel_rfl) rfl #[.agg #[.bool ((rdOf ByteArray.empty t130 0).toList == ([97, 108, 108, 111, 119] : List UInt8)), .int .u8 t152, .int .u8 t153, .int .u8 t154, .int .u8 t155, .int .i64 t169, .string (⟨#[]⟩ : ByteArray), .int .i64 t142, .int .i64 x137008_19]] rfl (by (try simp only [List.map_toArray, List.map_cons, List.map_nil]); first | done | rfl | (simp only [List.length_drop, List.length_take]; rfl)) ?_; (with_reducible refine (E.refRule.calls ((rdOf ByteArray.empty t130 0).toList == ([97, 108, 108, 111, 119] : List UInt8)) t152 t153 t154 t155 t169 (⟨#[]⟩ : ByteArray) t142 x137008_19 true _ ?side1 A78.out).mono ?_); (case side1 => exact StdW.below HS_.out (by repeat (first | (with_reducible first | exact HB.out | apply below_alloc | apply pw_below_drewN | apply below_drew1 | refine below_set ?_ GE129.out | refine below_set ?_ GE136.out | refine below_set ?_ GE166.out | refine below_set ?_ GE167.out) | exact HB.out))); rintro e w87 ⟨rfl, hb⟩; refine ⟨_, rfl, ?_⟩; have n0_ := Aside0.mk (blk_below (g := gb129) (o := .cells #[.bool false, .int .u8 0, .int .u8 0, .int .u8 0, .int .u8 0, .int .i64 0, .string (⟨#[]⟩ : ByteArray), .int .i64 0, .int .i64 0] 37 (0, 0)) (by (with_reducible repeat (first | refine blk_drewN ?_ _ | refine blk_drew ?_ | refine blk_alloc ?_ _)); refine blk_far ?_ NB129_136.out _; (with_reducible repeat (first | refine blk_drewN ?_ _ | refine blk_drew ?_ | refine blk_alloc ?_ _)); refine blk_far ?_ NB129_136.out _; (with_reducible repeat (first | refine blk_drewN ?_ _ | refine blk_drew ?_ | refine blk_alloc ?_ _)); refine blk_far ?_ NB129_136.out _; (with_reducible repeat (first | refine blk_drewN ?_ _ | refine blk_drew ?_ | refine blk_alloc ?_ _)); refine blk_far ?_ NB129_136.out _; (with_reducible repeat (first | refine blk_drewN ?_ _ | refine blk_drew ?_ | refine blk_alloc ?_ _)); refine blk_far ?_ NB129_136.out _; (with_reducible repeat (first | refine blk_drewN ?_ _ | refine blk_drew ?_ | refine blk_alloc ?_ _)); exact BK129.out) hb); have n1_ := Aside0.mk (blk_below (g := gb136) (o := .cells #[.bool ((rdOf ByteArray.empty t130 0).toList == ([97, 108, 108, 111, 119] : List UInt8)), .int .u8 t152, .int .u8 t153, .int .u8 t154, .int .u8 t155, .int .i64 t169, .string (⟨#[]⟩ : ByteArray), .int .i64 t142, .int .i64 x137008_19] 37 (0, 0)) (by (with_reducible repeat (first | refine blk_drewN ?_ _ | refine blk_drew ?_ | refine blk_alloc ?_ _)); refine blk_put (cs := #[.bool ((rdOf ByteArray.empty t130 0).toList == ([97, 108, 108, 111, 119] : List UInt8)), .int .u8 t152, .int .u8 t153, .int .u8 t154, .int .u8 t155, .int .i64 0, .string (⟨#[]⟩ : ByteArray), .int .i64 t142, .int .i64 x137008_19]) ?_ 5 _ rfl; (with_reducible repeat (first | refine blk_drewN ?_ _ | refine blk_drew ?_ | refine blk_alloc ?_ _)); refine blk_put (cs := #[.bool ((rdOf ByteArray.empty t130 0).toList == ([97, 108, 108, 111, 119] : List UInt8)), .int .u8 t152, .int .u8 t153, .int .u8 t154, .int .u8 0, .int .i64 0, .string (⟨#[]⟩ : ByteArray), .int .i64 t142, .int .i64 x137008_19]) ?_ 4 _ rfl; (with_reducible repeat (first | refine blk_drewN ?_ _ | refine blk_drew ?_ | refine blk_alloc ?_ _)); refine blk_put (cs := #[.bool ((rdOf ByteArray.empty t130 0).toList == ([97, 108, 108, 111, 119] : List UInt8)), .int .u8 t152, .int .u8 t153, .int .u8 0, .int .u8 0, .int .i64 0, .string (⟨#[]⟩ : ByteArray), .int .i64 t142, .int .i64 x137008_19]) ?_ 3 _ rfl; (with_reducible repeat (first | refine blk_drewN ?_ _ | refine blk_drew ?_ | refine blk_alloc ?_ _)); refine blk_put (cs := #[.bool ((rdOf ByteArray.empty t130 0).toList == ([97, 108, 108, 111, 119] : List UInt8)), .int .u8 t152, .int .u8 0, .int .u8 0, .int .u8 0, .int .i64 0, .string (⟨#[]⟩ : ByteArray), .int .i64 t142, .int .i64 x137008_19]) ?_ 2 _ rfl; (with_reducible repeat (first | refine blk_drewN ?_ _ | refine blk_drew ?_ | refine blk_alloc ?_ _)); refine blk_put (cs := #[.bool ((rdOf ByteArray.empty t130 0).toList == ([97, 108, 108, 111, 119] : List UInt8)), .int .u8 0, .int .u8 0, .int .u8 0, .int .u8 0, .int .i64 0, .string (⟨#[]⟩ : ByteArray), .int .i64 t142, .int .i64 x137008_19]) ?_ 1 _ rfl; (with_reducible repeat (first | refine blk_drewN ?_ _ | refine blk_drew ?_ | refine blk_alloc ?_ _)); exact BK136.out) hb); have n2_ := Aside0.mk (blk_below (g := gb166) (o := .cells #[.int .u8 t152, .int .u8 t153, .int .u8 t154, .int .u8 t155] 24 (0, 0)) (by (with_reducible repeat (first | refine blk_drewN ?_ _ | refine blk_drew ?_ | refine blk_alloc ?_ _)); refine blk_far ?_ NB166_136.out _; (with_reducible repeat (first | refine blk_drewN ?_ _ | refine blk_drew ?_ | refine blk_alloc ?_ _)); refine blk_far ?_ NB166_136.out _; (with_reducible repeat (first | refine blk_drewN ?_ _ | refine blk_drew ?_ | refine blk_alloc ?_ _)); refine blk_far ?_ NB166_136.out _; (with_reducible repeat (first | refine blk_drewN ?_ _ | refine blk_drew ?_ | refine blk_alloc ?_ _)); refine blk_far ?_ NB166_136.out _; (with_reducible repeat (first | refine blk_drewN ?_ _ | refine blk_drew ?_ | refine blk_alloc ?_ _)); refine blk_far ?_ NB166_136.out _; (with_reducible repeat (first | refine blk_drewN ?_ _ | refine blk_drew ?_ | refine blk_alloc ?_ _)); exact BK166.out) hb); have n3_ := Aside0.mk (blk_below (g := gb167) (o := .cells #[.int .i64 t156, .string t157, .string t158, .string t159, .string t160, .int .i64 t161, .int .i64 t162, .int .i64 t163, .int .i64 t164, .int .i64 t165] 79 (0, 0)) (by (with_reducible repeat (first | refine blk_drewN ?_ _ | refine blk_drew ?_ | refine blk_alloc ?_ _)); refine blk_far ?_ NB167_136.out _; (with_reducible repeat (first | refine blk_drewN ?_ _ | refine blk_drew ?_ | refine blk_alloc ?_ _)); refine blk_far ?_ NB167_136.out _; (with_reducible repeat (first | refine blk_drewN ?_ _ | refine blk_drew ?_ | refine blk_alloc ?_ _)); refine blk_far ?_ NB167_136.out _; (with_reducible repeat (first | refine blk_drewN ?_ _ | refine blk_drew ?_ | refine blk_alloc ?_ _)); refine blk_far ?_ NB167_136.out _; (with_reducible repeat (first | refine blk_drewN ?_ _ | refine blk_drew ?_ | refine blk_alloc ?_ _)); refine blk_far ?_ NB167_136.out _; (with_reducible repeat (first | refine blk_drewN ?_ _ | refine blk_drew ?_ | refine blk_alloc ?_ _)); exact BK167.out) hb); have n4_ := Aside0.mk (below_step (by repeat (first | (with_reducible first | exact HB.out | apply below_alloc | apply pw_below_drewN | apply below_drew1 | refine below_set ?_ GE129.out | refine below_set ?_ GE136.out | refine below_set ?_ GE166.out | refine below_set ?_ GE167.out) | exact HB.out)) hb); clear BK129; clear BK136; clear BK166; clear BK167; clear HB; have BK129 := n0_; have BK136 := n1_; have BK166 := n2_; have BK167 := n3_; have HB := n4_; clear n0_ n1_ n2_ n3_ n4_; (try clear hb); (try clear hb2); (try clear hk); (try clear hi); have hcz88_0 : w87.cell? ⟨gb136, 0, none⟩ = some (.bool ((rdOf ByteArray.empty t130 0).toList == ([97, 108, 108, 111, 119] : List UInt8))) := (blk_cell BK136.out 0).trans rfl; have hcz88_1 : w87.cell? ⟨gb136, 1, none⟩ = some (.int .u8 t152) := (blk_cell BK136.out 1).trans rfl; have hcz88_2 : w87.cell? ⟨gb136, 2, none⟩ = some (.int .u8 t153) := (blk_cell BK136.out 2).trans rfl; have hcz88_3 : w87.cell? ⟨gb136, 3, none⟩ = some (.int .u8 t154) := (blk_cell BK136.out 3).trans rfl; have hcz88_4 : w87.cell? ⟨gb136, 4, none⟩ = some (.int .u8 t155) := (blk_cell BK136.out 4).trans rfl; have hcz88_5 : w87.cell? ⟨gb136, 5, none⟩ = some (.int .i64 t169) := (blk_cell BK136.out 5).trans rfl; have hcz88_6 : w87.cell? ⟨gb136, 6, none⟩ = some (.string (⟨#[]⟩ : ByteArray)) := (blk_cell BK136.out 6).trans rfl; have hcz88_7 : w87.cell? ⟨gb136, 7, none⟩ = some (.int .i64 t142) := (blk_cell BK136.out 7).trans rfl; have hcz88_8 : w87.cell? ⟨gb136, 8, none⟩ = some (.int .i64 x137008_19) := (blk_cell BK136.out 8).trans rfl; have hfz88_0 := blk_frozen BK136.out 0; have hfz88_1 := blk_frozen BK136.out 1; have hfz88_2 := blk_frozen BK136.out 2; have hfz88_3 := blk_frozen BK136.out 3; have hfz88_4 := blk_frozen BK136.out 4; have hfz88_5 := blk_frozen BK136.out 5; have hfz88_6 := blk_frozen BK136.out 6; have hfz88_7 := blk_frozen BK136.out 7; have hfz88_8 := blk_frozen BK136.out 8; have hnb89 := NB129_167.out; have hnc89 := NB167_129.out; have hcz90_0 : w87.cell? ⟨gb129, 0, none⟩ = some (.bool false) := (blk_cell BK129.out 0).trans rfl; have hcz90_1 : w87.cell? ⟨gb129, 1, none⟩ = some (.int .u8 0) := (blk_cell BK129.out 1).trans rfl; have hcz90_2 : w87.cell? ⟨gb129, 2, none⟩ = some (.int .u8 0) := (blk_cell BK129.out 2).trans rfl; have hcz90_3 : w87.cell? ⟨gb129, 3, none⟩ = some (.int .u8 0) := (blk_cell BK129.out 3).trans rfl; have hcz90_4 : w87.cell? ⟨gb129, 4, none⟩ = some (.int .u8 0) := (blk_cell BK129.out 4).trans rfl; have hcz90_5 : w87.cell? ⟨gb129, 5, none⟩ = some (.int .i64 0) := (blk_cell BK129.out 5).trans rfl; have hcz90_6 : w87.cell? ⟨gb129, 6, none⟩ = some (.string (⟨#[]⟩ : ByteArray)) := (blk_cell BK129.out 6).trans rfl; have hcz90_7 : w87.cell? ⟨gb129, 7, none⟩ = some (.int .i64 0) := (blk_cell BK129.out 7).trans rfl; have hcz90_8 : w87.cell? ⟨gb129, 8, none⟩ = some (.int .i64 0) := (blk_cell BK129.out 8).trans rfl; have hfz90_0 := blk_frozen BK129.out 0; have hfz90_1 := blk_frozen BK129.out 1; have hfz90_2 := blk_frozen BK129.out 2; have hfz90_3 := blk_frozen BK129.out 3; have hfz90_4 := blk_frozen BK129.out 4; have hfz90_5 := blk_frozen BK129.out 5; have hfz90_6 := blk_frozen BK129.out 6; have hfz90_7 := blk_frozen BK129.out 7; have hfz90_8 := blk_frozen BK129.out 8))
                    refine bodyPost_ret (results_ct rfl _ _ gb129 37 #[.bool ((rdOf ByteArray.empty t130 0).toList == ([97, 108, 108, 111, 119] : List UInt8)), .int .u8 t152, .int .u8 t153, .int .u8 t154, .int .u8 t155, .int .i64 t169, .string (⟨#[]⟩ : ByteArray), .int .i64 t142, .int .i64 x137008_19] (0, 0) _ rfl (by (with_reducible repeat (first | refine blk_drewN ?_ _ | refine blk_drew ?_ | refine blk_alloc ?_ _)); refine blk_put (cs := #[.bool ((rdOf ByteArray.empty t130 0).toList == ([97, 108, 108, 111, 119] : List UInt8)), .int .u8 t152, .int .u8 t153, .int .u8 t154, .int .u8 t155, .int .i64 t169, .string (⟨#[]⟩ : ByteArray), .int .i64 t142, .int .i64 0]) ?_ 8 _ rfl; (with_reducible repeat (first | refine blk_drewN ?_ _ | refine blk_drew ?_ | refine blk_alloc ?_ _)); refine blk_put (cs := #[.bool ((rdOf ByteArray.empty t130 0).toList == ([97, 108, 108, 111, 119] : List UInt8)), .int .u8 t152, .int .u8 t153, .int .u8 t154, .int .u8 t155, .int .i64 t169, .string (⟨#[]⟩ : ByteArray), .int .i64 0, .int .i64 0]) ?_ 7 _ rfl; (with_reducible repeat (first | refine blk_drewN ?_ _ | refine blk_drew ?_ | refine blk_alloc ?_ _)); refine blk_put (cs := #[.bool ((rdOf ByteArray.empty t130 0).toList == ([97, 108, 108, 111, 119] : List UInt8)), .int .u8 t152, .int .u8 t153, .int .u8 t154, .int .u8 t155, .int .i64 t169, .string (⟨#[]⟩ : ByteArray), .int .i64 0, .int .i64 0]) ?_ 6 _ rfl; (with_reducible repeat (first | refine blk_drewN ?_ _ | refine blk_drew ?_ | refine blk_alloc ?_ _)); refine blk_put (cs := #[.bool ((rdOf ByteArray.empty t130 0).toList == ([97, 108, 108, 111, 119] : List UInt8)), .int .u8 t152, .int .u8 t153, .int .u8 t154, .int .u8 t155, .int .i64 0, .string (⟨#[]⟩ : ByteArray), .int .i64 0, .int .i64 0]) ?_ 5 _ rfl; (with_reducible repeat (first | refine blk_drewN ?_ _ | refine blk_drew ?_ | refine blk_alloc ?_ _)); refine blk_put (cs := #[.bool ((rdOf ByteArray.empty t130 0).toList == ([97, 108, 108, 111, 119] : List UInt8)), .int .u8 t152, .int .u8 t153, .int .u8 t154, .int .u8 0, .int .i64 0, .string (⟨#[]⟩ : ByteArray), .int .i64 0, .int .i64 0]) ?_ 4 _ rfl; (with_reducible repeat (first | refine blk_drewN ?_ _ | refine blk_drew ?_ | refine blk_alloc ?_ _)); refine blk_put (cs := #[.bool ((rdOf ByteArray.empty t130 0).toList == ([97, 108, 108, 111, 119] : List UInt8)), .int .u8 t152, .int .u8 t153, .int .u8 0, .int .u8 0, .int .i64 0, .string (⟨#[]⟩ : ByteArray), .int .i64 0, .int .i64 0]) ?_ 3 _ rfl; (with_reducible repeat (first | refine blk_drewN ?_ _ | refine blk_drew ?_ | refine blk_alloc ?_ _)); refine blk_put (cs := #[.bool ((rdOf ByteArray.empty t130 0).toList == ([97, 108, 108, 111, 119] : List UInt8)), .int .u8 t152, .int .u8 0, .int .u8 0, .int .u8 0, .int .i64 0, .string (⟨#[]⟩ : ByteArray), .int .i64 0, .int .i64 0]) ?_ 2 _ rfl; (with_reducible repeat (first | refine blk_drewN ?_ _ | refine blk_drew ?_ | refine blk_alloc ?_ _)); refine blk_put (cs := #[.bool ((rdOf ByteArray.empty t130 0).toList == ([97, 108, 108, 111, 119] : List UInt8)), .int .u8 0, .int .u8 0, .int .u8 0, .int .u8 0, .int .i64 0, .string (⟨#[]⟩ : ByteArray), .int .i64 0, .int .i64 0]) ?_ 1 _ rfl; (with_reducible repeat (first | refine blk_drewN ?_ _ | refine blk_drew ?_ | refine blk_alloc ?_ _)); refine blk_put (cs := #[.bool false, .int .u8 0, .int .u8 0, .int .u8 0, .int .u8 0, .int .i64 0, .string (⟨#[]⟩ : ByteArray), .int .i64 0, .int .i64 0]) ?_ 0 _ rfl; (with_reducible repeat (first | refine blk_drewN ?_ _ | refine blk_drew ?_ | refine blk_alloc ?_ _)); exact BK129.out) Tryz.underlying37 rfl (by kernel_rfl)) rfl ?_
                    exact ⟨by first | rfl | (simp [errW_none, errW_some] <;> rfl) | (simp [*, errW_none, errW_some] <;> rfl), by repeat (first | (with_reducible first | exact HB.out | apply below_alloc | apply pw_below_drewN | apply below_drew1 | refine below_set ?_ GE129.out | refine below_set ?_ GE136.out | refine below_set ?_ GE166.out | refine below_set ?_ GE167.out) | exact HB.out)⟩
                   ·replace c79 := Bool.eq_false_iff.mpr c79
                    subst c79
                    have H1 : (some (false, 0, 0, 0, 0, 0, (⟨#[]⟩ : ByteArray), 0, 0, 120)) = some (r1, r2, r3, r4, r5, r6, r7, r8, r9, r10) := by rw [if_neg (show ¬ (false = true) by decide)] at H; exact H
                    clear H
                    have H := H1
                    clear H1
                    simp only [Option.some.injEq, Prod.mk.injEq] at H
                    obtain ⟨rfl, rfl, rfl, rfl, rfl, rfl, rfl, rfl, rfl, rfl⟩ := H
                    have hnb91 := NB166_129.out
                    have hnc91 := NB129_166.out
                    have hnb92 := NB166_136.out
                    have hnc92 := NB136_166.out
                    have hnb93 := NB166_167.out
                    have hnc93 := NB167_166.out
                    have hcz94_0 : wc.cell? ⟨gb166, 0, none⟩ = some (.int .u8 t152) := (blk_cell BK166.out 0).trans rfl
                    have hcz94_1 : wc.cell? ⟨gb166, 1, none⟩ = some (.int .u8 t153) := (blk_cell BK166.out 1).trans rfl
                    have hcz94_2 : wc.cell? ⟨gb166, 2, none⟩ = some (.int .u8 t154) := (blk_cell BK166.out 2).trans rfl
                    have hcz94_3 : wc.cell? ⟨gb166, 3, none⟩ = some (.int .u8 t155) := (blk_cell BK166.out 3).trans rfl
                    have hfz94_0 := blk_frozen BK166.out 0
                    have hfz94_1 := blk_frozen BK166.out 1
                    have hfz94_2 := blk_frozen BK166.out 2
                    have hfz94_3 := blk_frozen BK166.out 3
                    have hnb95 := NB136_129.out
                    have hnc95 := NB129_136.out
                    have hnb96 := NB136_167.out
                    have hnc96 := NB167_136.out
                    have hcz97_0 : wc.cell? ⟨gb136, 0, none⟩ = some (.bool ((rdOf ByteArray.empty t130 0).toList == ([97, 108, 108, 111, 119] : List UInt8))) := (blk_cell BK136.out 0).trans rfl
                    have hcz97_1 : wc.cell? ⟨gb136, 1, none⟩ = some (.int .u8 0) := (blk_cell BK136.out 1).trans rfl
                    have hcz97_2 : wc.cell? ⟨gb136, 2, none⟩ = some (.int .u8 0) := (blk_cell BK136.out 2).trans rfl
                    have hcz97_3 : wc.cell? ⟨gb136, 3, none⟩ = some (.int .u8 0) := (blk_cell BK136.out 3).trans rfl
                    have hcz97_4 : wc.cell? ⟨gb136, 4, none⟩ = some (.int .u8 0) := (blk_cell BK136.out 4).trans rfl
                    have hcz97_5 : wc.cell? ⟨gb136, 5, none⟩ = some (.int .i64 0) := (blk_cell BK136.out 5).trans rfl
                    have hcz97_6 : wc.cell? ⟨gb136, 6, none⟩ = some (.string (⟨#[]⟩ : ByteArray)) := (blk_cell BK136.out 6).trans rfl
                    have hcz97_7 : wc.cell? ⟨gb136, 7, none⟩ = some (.int .i64 t142) := (blk_cell BK136.out 7).trans rfl
                    have hcz97_8 : wc.cell? ⟨gb136, 8, none⟩ = some (.int .i64 x137008_19) := (blk_cell BK136.out 8).trans rfl
                    have hfz97_0 := blk_frozen BK136.out 0
                    have hfz97_1 := blk_frozen BK136.out 1
                    have hfz97_2 := blk_frozen BK136.out 2
                    have hfz97_3 := blk_frozen BK136.out 3
                    have hfz97_4 := blk_frozen BK136.out 4
                    have hfz97_5 := blk_frozen BK136.out 5
                    have hfz97_6 := blk_frozen BK136.out 6
                    have hfz97_7 := blk_frozen BK136.out 7
                    have hfz97_8 := blk_frozen BK136.out 8
                    go_wp2_with (first | ((with_reducible refine gate_callee (f := 39) rfl ?_); refine goesL_ (some 131) rfl rfl Tryz.func39 (by kernel_rfl) rfl #[.agg #[.bool ((rdOf ByteArray.empty t130 0).toList == ([97, 108, 108, 111, 119] : List UInt8)), .int .u8 t152, .int .u8 t153, .int .u8 t154, .int .u8 t155, .int .i64 t169, .string (⟨#[]⟩ : ByteArray), .int .i64 t142, .int .i64 x137008_19]] rfl (by (try simp only [List.map_toArray, List.map_cons, List.map_nil]); first | done | rfl | (simp only [List.length_drop, List.length_take]; rfl)) ?_; (with_reducible refine (E.refRule.calls ((rdOf ByteArray.empty t130 0).toList == ([97, 108, 108, 111, 119] : List UInt8)) t152 t153 t154 t155 t169 (⟨#[]⟩ : ByteArray) t142 x137008_19 false _ ?side1 A78.out).mono ?_); (case side1 => exact StdW.below HS_.out (by repeat (first | (with_reducible first | exact HB.out | apply below_alloc | apply pw_below_drewN | apply below_drew1 | refine below_set ?_ GE129.out | refine below_set ?_ GE136.out | refine below_set ?_ GE166.out | refine below_set ?_ GE167.out) | exact HB.out))); rintro e w98 ⟨rfl, hb⟩; refine ⟨_, rfl, ?_⟩; have n0_ := Aside0.mk (blk_below (g := gb129) (o := .cells #[.bool false, .int .u8 0, .int .u8 0, .int .u8 0, .int .u8 0, .int .i64 0, .string (⟨#[]⟩ : ByteArray), .int .i64 0, .int .i64 0] 37 (0, 0)) (by (with_reducible repeat (first | refine blk_drewN ?_ _ | refine blk_drew ?_ | refine blk_alloc ?_ _)); refine blk_far ?_ NB129_136.out _; (with_reducible repeat (first | refine blk_drewN ?_ _ | refine blk_drew ?_ | refine blk_alloc ?_ _)); refine blk_far ?_ NB129_136.out _; (with_reducible repeat (first | refine blk_drewN ?_ _ | refine blk_drew ?_ | refine blk_alloc ?_ _)); refine blk_far ?_ NB129_136.out _; (with_reducible repeat (first | refine blk_drewN ?_ _ | refine blk_drew ?_ | refine blk_alloc ?_ _)); refine blk_far ?_ NB129_136.out _; (with_reducible repeat (first | refine blk_drewN ?_ _ | refine blk_drew ?_ | refine blk_alloc ?_ _)); refine blk_far ?_ NB129_136.out _; (with_reducible repeat (first | refine blk_drewN ?_ _ | refine blk_drew ?_ | refine blk_alloc ?_ _)); exact BK129.out) hb); have n1_ := Aside0.mk (blk_below (g := gb136) (o := .cells #[.bool ((rdOf ByteArray.empty t130 0).toList == ([97, 108, 108, 111, 119] : List UInt8)), .int .u8 t152, .int .u8 t153, .int .u8 t154, .int .u8 t155, .int .i64 t169, .string (⟨#[]⟩ : ByteArray), .int .i64 t142, .int .i64 x137008_19] 37 (0, 0)) (by (with_reducible repeat (first | refine blk_drewN ?_ _ | refine blk_drew ?_ | refine blk_alloc ?_ _)); refine blk_put (cs := #[.bool ((rdOf ByteArray.empty t130 0).toList == ([97, 108, 108, 111, 119] : List UInt8)), .int .u8 t152, .int .u8 t153, .int .u8 t154, .int .u8 t155, .int .i64 0, .string (⟨#[]⟩ : ByteArray), .int .i64 t142, .int .i64 x137008_19]) ?_ 5 _ rfl; (with_reducible repeat (first | refine blk_drewN ?_ _ | refine blk_drew ?_ | refine blk_alloc ?_ _)); refine blk_put (cs := #[.bool ((rdOf ByteArray.empty t130 0).toList == ([97, 108, 108, 111, 119] : List UInt8)), .int .u8 t152, .int .u8 t153, .int .u8 t154, .int .u8 0, .int .i64 0, .string (⟨#[]⟩ : ByteArray), .int .i64 t142, .int .i64 x137008_19]) ?_ 4 _ rfl; (with_reducible repeat (first | refine blk_drewN ?_ _ | refine blk_drew ?_ | refine blk_alloc ?_ _)); refine blk_put (cs := #[.bool ((rdOf ByteArray.empty t130 0).toList == ([97, 108, 108, 111, 119] : List UInt8)), .int .u8 t152, .int .u8 t153, .int .u8 0, .int .u8 0, .int .i64 0, .string (⟨#[]⟩ : ByteArray), .int .i64 t142, .int .i64 x137008_19]) ?_ 3 _ rfl; (with_reducible repeat (first | refine blk_drewN ?_ _ | refine blk_drew ?_ | refine blk_alloc ?_ _)); refine blk_put (cs := #[.bool ((rdOf ByteArray.empty t130 0).toList == ([97, 108, 108, 111, 119] : List UInt8)), .int .u8 t152, .int .u8 0, .int .u8 0, .int .u8 0, .int .i64 0, .string (⟨#[]⟩ : ByteArray), .int .i64 t142, .int .i64 x137008_19]) ?_ 2 _ rfl; (with_reducible repeat (first | refine blk_drewN ?_ _ | refine blk_drew ?_ | refine blk_alloc ?_ _)); refine blk_put (cs := #[.bool ((rdOf ByteArray.empty t130 0).toList == ([97, 108, 108, 111, 119] : List UInt8)), .int .u8 0, .int .u8 0, .int .u8 0, .int .u8 0, .int .i64 0, .string (⟨#[]⟩ : ByteArray), .int .i64 t142, .int .i64 x137008_19]) ?_ 1 _ rfl; (with_reducible repeat (first | refine blk_drewN ?_ _ | refine blk_drew ?_ | refine blk_alloc ?_ _)); exact BK136.out) hb); have n2_ := Aside0.mk (blk_below (g := gb166) (o := .cells #[.int .u8 t152, .int .u8 t153, .int .u8 t154, .int .u8 t155] 24 (0, 0)) (by (with_reducible repeat (first | refine blk_drewN ?_ _ | refine blk_drew ?_ | refine blk_alloc ?_ _)); refine blk_far ?_ NB166_136.out _; (with_reducible repeat (first | refine blk_drewN ?_ _ | refine blk_drew ?_ | refine blk_alloc ?_ _)); refine blk_far ?_ NB166_136.out _; (with_reducible repeat (first | refine blk_drewN ?_ _ | refine blk_drew ?_ | refine blk_alloc ?_ _)); refine blk_far ?_ NB166_136.out _; (with_reducible repeat (first | refine blk_drewN ?_ _ | refine blk_drew ?_ | refine blk_alloc ?_ _)); refine blk_far ?_ NB166_136.out _; (with_reducible repeat (first | refine blk_drewN ?_ _ | refine blk_drew ?_ | refine blk_alloc ?_ _)); refine blk_far ?_ NB166_136.out _; (with_reducible repeat (first | refine blk_drewN ?_ _ | refine blk_drew ?_ | refine blk_alloc ?_ _)); exact BK166.out) hb); have n3_ := Aside0.mk (blk_below (g := gb167) (o := .cells #[.int .i64 t156, .string t157, .string t158, .string t159, .string t160, .int .i64 t161, .int .i64 t162, .int .i64 t163, .int .i64 t164, .int .i64 t165] 79 (0, 0)) (by (with_reducible repeat (first | refine blk_drewN ?_ _ | refine blk_drew ?_ | refine blk_alloc ?_ _)); refine blk_far ?_ NB167_136.out _; (with_reducible repeat (first | refine blk_drewN ?_ _ | refine blk_drew ?_ | refine blk_alloc ?_ _)); refine blk_far ?_ NB167_136.out _; (with_reducible repeat (first | refine blk_drewN ?_ _ | refine blk_drew ?_ | refine blk_alloc ?_ _)); refine blk_far ?_ NB167_136.out _; (with_reducible repeat (first | refine blk_drewN ?_ _ | refine blk_drew ?_ | refine blk_alloc ?_ _)); refine blk_far ?_ NB167_136.out _; (with_reducible repeat (first | refine blk_drewN ?_ _ | refine blk_drew ?_ | refine blk_alloc ?_ _)); refine blk_far ?_ NB167_136.out _; (with_reducible repeat (first | refine blk_drewN ?_ _ | refine blk_drew ?_ | refine blk_alloc ?_ _)); exact BK167.out) hb); have n4_ := Aside0.mk (below_step (by repeat (first | (with_reducible first | exact HB.out | apply below_alloc | apply pw_below_drewN | apply below_drew1 | refine below_set ?_ GE129.out | refine below_set ?_ GE136.out | refine below_set ?_ GE166.out | refine below_set ?_ GE167.out) | exact HB.out)) hb); clear BK129; clear BK136; clear BK166; clear BK167; clear HB; have BK129 := n0_; have BK136 := n1_; have BK166 := n2_; have BK167 := n3_; have HB := n4_; clear n0_ n1_ n2_ n3_ n4_; (try clear hb); (try clear hb2); (try clear hk); (try clear hi); have hnb99 := NB129_167.out; have hnc99 := NB167_129.out; have hcz100_0 : w98.cell? ⟨gb129, 0, none⟩ = some (.bool false) := (blk_cell BK129.out 0).trans rfl; have hcz100_1 : w98.cell? ⟨gb129, 1, none⟩ = some (.int .u8 0) := (blk_cell BK129.out 1).trans rfl; have hcz100_2 : w98.cell? ⟨gb129, 2, none⟩ = some (.int .u8 0) := (blk_cell BK129.out 2).trans rfl; have hcz100_3 : w98.cell? ⟨gb129, 3, none⟩ = some (.int .u8 0) := (blk_cell BK129.out 3).trans rfl; have hcz100_4 : w98.cell? ⟨gb129, 4, none⟩ = some (.int .u8 0) := (blk_cell BK129.out 4).trans rfl; have hcz100_5 : w98.cell? ⟨gb129, 5, none⟩ = some (.int .i64 0) := (blk_cell BK129.out 5).trans rfl; have hcz100_6 : w98.cell? ⟨gb129, 6, none⟩ = some (.string (⟨#[]⟩ : ByteArray)) := (blk_cell BK129.out 6).trans rfl; have hcz100_7 : w98.cell? ⟨gb129, 7, none⟩ = some (.int .i64 0) := (blk_cell BK129.out 7).trans rfl; have hcz100_8 : w98.cell? ⟨gb129, 8, none⟩ = some (.int .i64 0) := (blk_cell BK129.out 8).trans rfl; have hfz100_0 := blk_frozen BK129.out 0; have hfz100_1 := blk_frozen BK129.out 1; have hfz100_2 := blk_frozen BK129.out 2; have hfz100_3 := blk_frozen BK129.out 3; have hfz100_4 := blk_frozen BK129.out 4; have hfz100_5 := blk_frozen BK129.out 5; have hfz100_6 := blk_frozen BK129.out 6; have hfz100_7 := blk_frozen BK129.out 7; have hfz100_8 := blk_frozen BK129.out 8))
                    refine bodyPost_ret (results_ct rfl _ _ gb129 37 #[.bool false, .int .u8 0, .int .u8 0, .int .u8 0, .int .u8 0, .int .i64 0, .string (⟨#[]⟩ : ByteArray), .int .i64 0, .int .i64 0] (0, 0) _ rfl (by (with_reducible repeat (first | refine blk_drewN ?_ _ | refine blk_drew ?_ | refine blk_alloc ?_ _)); refine blk_put (cs := #[.bool false, .int .u8 0, .int .u8 0, .int .u8 0, .int .u8 0, .int .i64 0, .string (⟨#[]⟩ : ByteArray), .int .i64 0, .int .i64 0]) ?_ 8 _ rfl; (with_reducible repeat (first | refine blk_drewN ?_ _ | refine blk_drew ?_ | refine blk_alloc ?_ _)); refine blk_put (cs := #[.bool false, .int .u8 0, .int .u8 0, .int .u8 0, .int .u8 0, .int .i64 0, .string (⟨#[]⟩ : ByteArray), .int .i64 0, .int .i64 0]) ?_ 7 _ rfl; (with_reducible repeat (first | refine blk_drewN ?_ _ | refine blk_drew ?_ | refine blk_alloc ?_ _)); refine blk_put (cs := #[.bool false, .int .u8 0, .int .u8 0, .int .u8 0, .int .u8 0, .int .i64 0, .string (⟨#[]⟩ : ByteArray), .int .i64 0, .int .i64 0]) ?_ 6 _ rfl; (with_reducible repeat (first | refine blk_drewN ?_ _ | refine blk_drew ?_ | refine blk_alloc ?_ _)); refine blk_put (cs := #[.bool false, .int .u8 0, .int .u8 0, .int .u8 0, .int .u8 0, .int .i64 0, .string (⟨#[]⟩ : ByteArray), .int .i64 0, .int .i64 0]) ?_ 5 _ rfl; (with_reducible repeat (first | refine blk_drewN ?_ _ | refine blk_drew ?_ | refine blk_alloc ?_ _)); refine blk_put (cs := #[.bool false, .int .u8 0, .int .u8 0, .int .u8 0, .int .u8 0, .int .i64 0, .string (⟨#[]⟩ : ByteArray), .int .i64 0, .int .i64 0]) ?_ 4 _ rfl; (with_reducible repeat (first | refine blk_drewN ?_ _ | refine blk_drew ?_ | refine blk_alloc ?_ _)); refine blk_put (cs := #[.bool false, .int .u8 0, .int .u8 0, .int .u8 0, .int .u8 0, .int .i64 0, .string (⟨#[]⟩ : ByteArray), .int .i64 0, .int .i64 0]) ?_ 3 _ rfl; (with_reducible repeat (first | refine blk_drewN ?_ _ | refine blk_drew ?_ | refine blk_alloc ?_ _)); refine blk_put (cs := #[.bool false, .int .u8 0, .int .u8 0, .int .u8 0, .int .u8 0, .int .i64 0, .string (⟨#[]⟩ : ByteArray), .int .i64 0, .int .i64 0]) ?_ 2 _ rfl; (with_reducible repeat (first | refine blk_drewN ?_ _ | refine blk_drew ?_ | refine blk_alloc ?_ _)); refine blk_put (cs := #[.bool false, .int .u8 0, .int .u8 0, .int .u8 0, .int .u8 0, .int .i64 0, .string (⟨#[]⟩ : ByteArray), .int .i64 0, .int .i64 0]) ?_ 1 _ rfl; (with_reducible repeat (first | refine blk_drewN ?_ _ | refine blk_drew ?_ | refine blk_alloc ?_ _)); refine blk_put (cs := #[.bool false, .int .u8 0, .int .u8 0, .int .u8 0, .int .u8 0, .int .i64 0, .string (⟨#[]⟩ : ByteArray), .int .i64 0, .int .i64 0]) ?_ 0 _ rfl; (with_reducible repeat (first | refine blk_drewN ?_ _ | refine blk_drew ?_ | refine blk_alloc ?_ _)); exact BK129.out) Tryz.underlying37 rfl (by kernel_rfl)) rfl ?_
                    exact ⟨by first | rfl | (simp [errW_none, errW_some] <;> rfl) | (simp [*, errW_none, errW_some] <;> rfl), by repeat (first | (with_reducible first | exact HB.out | apply below_alloc | apply pw_below_drewN | apply below_drew1 | refine below_set ?_ GE129.out | refine below_set ?_ GE136.out | refine below_set ?_ GE166.out | refine below_set ?_ GE167.out) | exact HB.out)⟩
               ·rw [if_neg c49] at H
                exact absurd H (by simp)
              ·rw [if_neg c47] at H
               exact absurd H (by simp)
             ·rw [if_neg c46] at H
              have c46b0 : ((t148.length : Int) == 2) = false := beq_eq_false_iff_ne.mpr c46
              have c46b1 : ((t148.length : Int) != 2) = true := bne_iff_ne.mpr c46
              by_cases c101 : (rdOf ByteArray.empty t130 1).toList = ([] : List UInt8)
              ·rw [if_pos c101] at H
               have c101b0 : ((rdOf ByteArray.empty t130 1).toList == ([] : List UInt8)) = true := beq_iff_eq.mpr c101
               have c101b6 : (rdOf ByteArray.empty t130 1).toList.isEmpty = true := by rw [List.isEmpty_iff]; exact c101
               have c101b1 : ((rdOf ByteArray.empty t130 1).toList != ([] : List UInt8)) = false := bne_eq_false_iff_eq.mpr c101
               clear c101
               simp only [Option.some.injEq, Prod.mk.injEq] at H
               obtain ⟨rfl, rfl, rfl, rfl, rfl, rfl, rfl, rfl, rfl, rfl⟩ := H
               have p147 : 0 ≤ (1 : Int) := (by omega)
               have q147 : 1 < (t130.length : Int) := of_decide_eq_true (by first | (with_reducible assumption) | assumption)
               obtain ⟨ad147, e147, hx147_0⟩ := Kd.at_string (Kd.R_reads' HO_4.out).2.2 1 p147 q147
               obtain rfl : ad135 = ad147 := (by injection e147)
               (try simp only [show (1 : Int).toNat = 1 from rfl, Nat.reduceMul, Nat.reduceEqDiff, Go.Addr.add, ↓reduceIte] at hx147_0)
               have qi147 : (1 < t130.length) = True := eq_true (by omega)
               (try rw [show ((1 : Int)).toNat = 1 from rfl] at hx147_0)
               replace p147 := eq_true p147
               replace q147 := eq_true q147
               go_wp2_with (first | ((with_reducible refine gate_callee (f := 49) rfl ?_); refine goesL_ (some 91) rfl rfl Tryz.func49 (by kernel_rfl) rfl #[.string (rdOf ByteArray.empty t130 1), .int .u8 47] rfl (by (try simp only [List.map_toArray, List.map_cons, List.map_nil]); first | done | rfl | (simp only [List.length_drop, List.length_take]; rfl)) ?_; (with_reducible refine (sallyportref12_words.calls kj38 (rdOf ByteArray.empty t130 1) 47 t148 _ A45.out).mono ?_); rintro e w102 ⟨v149, rfl, ho0, hb⟩; refine ⟨_, rfl, ?_⟩; have n0_ := Aside0.mk (Kd.R_elder' (by (with_reducible repeat (first | apply Kd.R_alloc | apply Kd.R_drewN | apply Kd.R_drew)); exact HO_4.out) (Kd.R_base ho0) hb); have n1_ := Aside0.mk (Kd.R_lower (Kd.R_new' ho0 (Kd.R_lt (by (with_reducible repeat (first | apply Kd.R_alloc | apply Kd.R_drewN | apply Kd.R_drew)); exact HO_4.out))) (below_size (by repeat (first | (with_reducible first | exact HB.out | apply below_alloc | apply pw_below_drewN | apply below_drew1 | refine below_set ?_ GE129.out | refine below_set ?_ GE136.out) | exact HB.out)))); have n2_ := Aside0.mk (blk_below (g := gb129) (o := .cells #[.bool false, .int .u8 0, .int .u8 0, .int .u8 0, .int .u8 0, .int .i64 0, .string (⟨#[]⟩ : ByteArray), .int .i64 0, .int .i64 0] 37 (0, 0)) (by (with_reducible repeat (first | refine blk_drewN ?_ _ | refine blk_drew ?_ | refine blk_alloc ?_ _)); exact BK129.out) hb); have n3_ := Aside0.mk (blk_below (g := gb136) (o := .cells #[.bool ((rdOf ByteArray.empty t130 0).toList == ([97, 108, 108, 111, 119] : List UInt8)), .int .u8 0, .int .u8 0, .int .u8 0, .int .u8 0, .int .i64 0, .string (⟨#[]⟩ : ByteArray), .int .i64 t142, .int .i64 x137008_19] 37 (0, 0)) (by (with_reducible repeat (first | refine blk_drewN ?_ _ | refine blk_drew ?_ | refine blk_alloc ?_ _)); exact BK136.out) hb); have n4_ := Aside0.mk (below_step (by repeat (first | (with_reducible first | exact HB.out | apply below_alloc | apply pw_below_drewN | apply below_drew1 | refine below_set ?_ GE129.out | refine below_set ?_ GE136.out) | exact HB.out)) hb); clear HO_4; clear BK129; clear BK136; clear HB; have HO_4 := n0_; have HO150 := n1_; have BK129 := n2_; have BK136 := n3_; have HB := n4_; clear n0_ n1_ n2_ n3_ n4_; (try clear hb); (try clear hb2); (try clear hk); (try clear hi); (try clear ho0); obtain ⟨Ao103, co103, eo103⟩ := Kd.R_slice HO150.out; subst eo103; have p172 : 0 ≤ (1 : Int) := (by omega); have q172 : 1 < (t130.length : Int) := of_decide_eq_true (by first | (with_reducible assumption) | assumption); obtain ⟨ad172, e172, hx172_0⟩ := Kd.at_string (Kd.R_reads' HO_4.out).2.2 1 p172 q172; obtain rfl : ad135 = ad172 := (by injection e172); (try simp only [show (1 : Int).toNat = 1 from rfl, Nat.reduceMul, Nat.reduceEqDiff, Go.Addr.add, ↓reduceIte] at hx172_0); have qi172 : (1 < t130.length) = True := eq_true (by omega); (try rw [show ((1 : Int)).toNat = 1 from rfl] at hx172_0); replace p172 := eq_true p172; replace q172 := eq_true q172; have hnb104 := NB136_129.out; have hnc104 := NB129_136.out; have hcz105_0 : w102.cell? ⟨gb136, 0, none⟩ = some (.bool ((rdOf ByteArray.empty t130 0).toList == ([97, 108, 108, 111, 119] : List UInt8))) := (blk_cell BK136.out 0).trans rfl; have hcz105_1 : w102.cell? ⟨gb136, 1, none⟩ = some (.int .u8 0) := (blk_cell BK136.out 1).trans rfl; have hcz105_2 : w102.cell? ⟨gb136, 2, none⟩ = some (.int .u8 0) := (blk_cell BK136.out 2).trans rfl; have hcz105_3 : w102.cell? ⟨gb136, 3, none⟩ = some (.int .u8 0) := (blk_cell BK136.out 3).trans rfl; have hcz105_4 : w102.cell? ⟨gb136, 4, none⟩ = some (.int .u8 0) := (blk_cell BK136.out 4).trans rfl; have hcz105_5 : w102.cell? ⟨gb136, 5, none⟩ = some (.int .i64 0) := (blk_cell BK136.out 5).trans rfl; have hcz105_6 : w102.cell? ⟨gb136, 6, none⟩ = some (.string (⟨#[]⟩ : ByteArray)) := (blk_cell BK136.out 6).trans rfl; have hcz105_7 : w102.cell? ⟨gb136, 7, none⟩ = some (.int .i64 t142) := (blk_cell BK136.out 7).trans rfl; have hcz105_8 : w102.cell? ⟨gb136, 8, none⟩ = some (.int .i64 x137008_19) := (blk_cell BK136.out 8).trans rfl; have hfz105_0 := blk_frozen BK136.out 0; have hfz105_1 := blk_frozen BK136.out 1; have hfz105_2 := blk_frozen BK136.out 2; have hfz105_3 := blk_frozen BK136.out 3; have hfz105_4 := blk_frozen BK136.out 4; have hfz105_5 := blk_frozen BK136.out 5; have hfz105_6 := blk_frozen BK136.out 6; have hfz105_7 := blk_frozen BK136.out 7; have hfz105_8 := blk_frozen BK136.out 8; have p173 : 0 ≤ (1 : Int) := (by omega); have q173 : 1 < (t130.length : Int) := of_decide_eq_true (by first | (with_reducible assumption) | assumption); obtain ⟨ad173, e173, hx173_0⟩ := Kd.at_string (Kd.R_reads' HO_4.out).2.2 1 p173 q173; obtain rfl : ad135 = ad173 := (by injection e173); (try simp only [show (1 : Int).toNat = 1 from rfl, Nat.reduceMul, Nat.reduceEqDiff, Go.Addr.add, ↓reduceIte] at hx173_0); have qi173 : (1 < t130.length) = True := eq_true (by omega); (try rw [show ((1 : Int)).toNat = 1 from rfl] at hx173_0); have hn173_0 : ad135.block ≠ gb136 := Kd.own_blk (Kd.R_ne HO_4.out BK136.out (by decide)); replace hx173_0 := (cell_far (p := ⟨gb136, 6, none⟩) (by first | (rw [add_block]; exact hn173_0) | (show (Addr.add _ _).block ≠ _; rw [add_block]; exact hn173_0) | exact hn173_0) (.string (rdOf ByteArray.empty t130 1))).trans hx173_0; clear hn173_0; replace p173 := eq_true p173; replace q173 := eq_true q173; have hcz106_0 : w102.cell? ⟨gb129, 0, none⟩ = some (.bool false) := (blk_cell BK129.out 0).trans rfl; have hcz106_1 : w102.cell? ⟨gb129, 1, none⟩ = some (.int .u8 0) := (blk_cell BK129.out 1).trans rfl; have hcz106_2 : w102.cell? ⟨gb129, 2, none⟩ = some (.int .u8 0) := (blk_cell BK129.out 2).trans rfl; have hcz106_3 : w102.cell? ⟨gb129, 3, none⟩ = some (.int .u8 0) := (blk_cell BK129.out 3).trans rfl; have hcz106_4 : w102.cell? ⟨gb129, 4, none⟩ = some (.int .u8 0) := (blk_cell BK129.out 4).trans rfl; have hcz106_5 : w102.cell? ⟨gb129, 5, none⟩ = some (.int .i64 0) := (blk_cell BK129.out 5).trans rfl; have hcz106_6 : w102.cell? ⟨gb129, 6, none⟩ = some (.string (⟨#[]⟩ : ByteArray)) := (blk_cell BK129.out 6).trans rfl; have hcz106_7 : w102.cell? ⟨gb129, 7, none⟩ = some (.int .i64 0) := (blk_cell BK129.out 7).trans rfl; have hcz106_8 : w102.cell? ⟨gb129, 8, none⟩ = some (.int .i64 0) := (blk_cell BK129.out 8).trans rfl; have hfz106_0 := blk_frozen BK129.out 0; have hfz106_1 := blk_frozen BK129.out 1; have hfz106_2 := blk_frozen BK129.out 2; have hfz106_3 := blk_frozen BK129.out 3; have hfz106_4 := blk_frozen BK129.out 4; have hfz106_5 := blk_frozen BK129.out 5; have hfz106_6 := blk_frozen BK129.out 6; have hfz106_7 := blk_frozen BK129.out 7; have hfz106_8 := blk_frozen BK129.out 8))
               refine bodyPost_ret (results_ct rfl _ _ gb129 37 #[.bool false, .int .u8 0, .int .u8 0, .int .u8 0, .int .u8 0, .int .i64 0, .string (⟨#[]⟩ : ByteArray), .int .i64 0, .int .i64 0] (0, 0) _ rfl (by (with_reducible repeat (first | refine blk_drewN ?_ _ | refine blk_drew ?_ | refine blk_alloc ?_ _)); refine blk_put (cs := #[.bool false, .int .u8 0, .int .u8 0, .int .u8 0, .int .u8 0, .int .i64 0, .string (⟨#[]⟩ : ByteArray), .int .i64 0, .int .i64 0]) ?_ 8 _ rfl; (with_reducible repeat (first | refine blk_drewN ?_ _ | refine blk_drew ?_ | refine blk_alloc ?_ _)); refine blk_put (cs := #[.bool false, .int .u8 0, .int .u8 0, .int .u8 0, .int .u8 0, .int .i64 0, .string (⟨#[]⟩ : ByteArray), .int .i64 0, .int .i64 0]) ?_ 7 _ rfl; (with_reducible repeat (first | refine blk_drewN ?_ _ | refine blk_drew ?_ | refine blk_alloc ?_ _)); refine blk_put (cs := #[.bool false, .int .u8 0, .int .u8 0, .int .u8 0, .int .u8 0, .int .i64 0, .string (⟨#[]⟩ : ByteArray), .int .i64 0, .int .i64 0]) ?_ 6 _ rfl; (with_reducible repeat (first | refine blk_drewN ?_ _ | refine blk_drew ?_ | refine blk_alloc ?_ _)); refine blk_put (cs := #[.bool false, .int .u8 0, .int .u8 0, .int .u8 0, .int .u8 0, .int .i64 0, .string (⟨#[]⟩ : ByteArray), .int .i64 0, .int .i64 0]) ?_ 5 _ rfl; (with_reducible repeat (first | refine blk_drewN ?_ _ | refine blk_drew ?_ | refine blk_alloc ?_ _)); refine blk_put (cs := #[.bool false, .int .u8 0, .int .u8 0, .int .u8 0, .int .u8 0, .int .i64 0, .string (⟨#[]⟩ : ByteArray), .int .i64 0, .int .i64 0]) ?_ 4 _ rfl; (with_reducible repeat (first | refine blk_drewN ?_ _ | refine blk_drew ?_ | refine blk_alloc ?_ _)); refine blk_put (cs := #[.bool false, .int .u8 0, .int .u8 0, .int .u8 0, .int .u8 0, .int .i64 0, .string (⟨#[]⟩ : ByteArray), .int .i64 0, .int .i64 0]) ?_ 3 _ rfl; (with_reducible repeat (first | refine blk_drewN ?_ _ | refine blk_drew ?_ | refine blk_alloc ?_ _)); refine blk_put (cs := #[.bool false, .int .u8 0, .int .u8 0, .int .u8 0, .int .u8 0, .int .i64 0, .string (⟨#[]⟩ : ByteArray), .int .i64 0, .int .i64 0]) ?_ 2 _ rfl; (with_reducible repeat (first | refine blk_drewN ?_ _ | refine blk_drew ?_ | refine blk_alloc ?_ _)); refine blk_put (cs := #[.bool false, .int .u8 0, .int .u8 0, .int .u8 0, .int .u8 0, .int .i64 0, .string (⟨#[]⟩ : ByteArray), .int .i64 0, .int .i64 0]) ?_ 1 _ rfl; (with_reducible repeat (first | refine blk_drewN ?_ _ | refine blk_drew ?_ | refine blk_alloc ?_ _)); refine blk_put (cs := #[.bool false, .int .u8 0, .int .u8 0, .int .u8 0, .int .u8 0, .int .i64 0, .string (⟨#[]⟩ : ByteArray), .int .i64 0, .int .i64 0]) ?_ 0 _ rfl; (with_reducible repeat (first | refine blk_drewN ?_ _ | refine blk_drew ?_ | refine blk_alloc ?_ _)); refine blk_far ?_ NB129_136.out _; (with_reducible repeat (first | refine blk_drewN ?_ _ | refine blk_drew ?_ | refine blk_alloc ?_ _)); exact BK129.out) Tryz.underlying37 rfl (by kernel_rfl)) rfl ?_
               exact ⟨by first | rfl | (simp [errW_none, errW_some] <;> rfl) | (simp [*, errW_none, errW_some] <;> rfl), by repeat (first | (with_reducible first | exact HB.out | apply below_alloc | apply pw_below_drewN | apply below_drew1 | refine below_set ?_ GE129.out | refine below_set ?_ GE136.out) | exact HB.out)⟩
              ·rw [if_neg c101] at H
               have c101b0 : ((rdOf ByteArray.empty t130 1).toList == ([] : List UInt8)) = false := beq_eq_false_iff_ne.mpr c101
               have c101b6 : (rdOf ByteArray.empty t130 1).toList.isEmpty = false := by rw [← Bool.not_eq_true, List.isEmpty_iff]; exact c101
               have c101b1 : ((rdOf ByteArray.empty t130 1).toList != ([] : List UInt8)) = true := bne_iff_ne.mpr c101
               replace H := Option.bind_eq_some_iff.mp H
               obtain ⟨t174, A1070, H⟩ := H
               replace H : (if t174 = true then (some (((rdOf ByteArray.empty t130 0).toList == ([97, 108, 108, 111, 119] : List UInt8)), 0, 0, 0, 0, 0, rdOf ByteArray.empty t130 1, t142, x137008_19, 0)) else (some (false, 0, 0, 0, 0, 0, (⟨#[]⟩ : ByteArray), 0, 0, 120))) = some (r1, r2, r3, r4, r5, r6, r7, r8, r9, r10) := H
               have A107 := Aside0.mk A1070
               clear A1070
               by_cases c108 : t174 = true
               ·subst c108
                have H1 : (some (((rdOf ByteArray.empty t130 0).toList == ([97, 108, 108, 111, 119] : List UInt8)), 0, 0, 0, 0, 0, rdOf ByteArray.empty t130 1, t142, x137008_19, 0)) = some (r1, r2, r3, r4, r5, r6, r7, r8, r9, r10) := by rw [if_pos rfl] at H; exact H
                clear H
                have H := H1
                clear H1
                simp only [Option.some.injEq, Prod.mk.injEq] at H
                obtain ⟨rfl, rfl, rfl, rfl, rfl, rfl, rfl, rfl, rfl, rfl⟩ := H
                have p147 : 0 ≤ (1 : Int) := (by omega)
                have q147 : 1 < (t130.length : Int) := of_decide_eq_true (by first | (with_reducible assumption) | assumption)
                obtain ⟨ad147, e147, hx147_0⟩ := Kd.at_string (Kd.R_reads' HO_4.out).2.2 1 p147 q147
                obtain rfl : ad135 = ad147 := (by injection e147)
                (try simp only [show (1 : Int).toNat = 1 from rfl, Nat.reduceMul, Nat.reduceEqDiff, Go.Addr.add, ↓reduceIte] at hx147_0)
                have qi147 : (1 < t130.length) = True := eq_true (by omega)
                (try rw [show ((1 : Int)).toNat = 1 from rfl] at hx147_0)
                replace p147 := eq_true p147
                replace q147 := eq_true q147
                go_wp2_with (first | ((with_reducible refine gate_callee (f := 49) rfl ?_); refine goesL_ (some 91) rfl rfl Tryz.func49 (by kernel_rfl) rfl #[.string (rdOf ByteArray.empty t130 1), .int .u8 47] rfl (by (try simp only [List.map_toArray, List.map_cons, List.map_nil]); first | done | rfl | (simp only [List.length_drop, List.length_take]; rfl)) ?_; (with_reducible refine (sallyportref12_words.calls kj38 (rdOf ByteArray.empty t130 1) 47 t148 _ A45.out).mono ?_); rintro e w109 ⟨v149, rfl, ho0, hb⟩; refine ⟨_, rfl, ?_⟩; have n0_ := Aside0.mk (Kd.R_elder' (by (with_reducible repeat (first | apply Kd.R_alloc | apply Kd.R_drewN | apply Kd.R_drew)); exact HO_4.out) (Kd.R_base ho0) hb); have n1_ := Aside0.mk (Kd.R_lower (Kd.R_new' ho0 (Kd.R_lt (by (with_reducible repeat (first | apply Kd.R_alloc | apply Kd.R_drewN | apply Kd.R_drew)); exact HO_4.out))) (below_size (by repeat (first | (with_reducible first | exact HB.out | apply below_alloc | apply pw_below_drewN | apply below_drew1 | refine below_set ?_ GE129.out | refine below_set ?_ GE136.out) | exact HB.out)))); have n2_ := Aside0.mk (blk_below (g := gb129) (o := .cells #[.bool false, .int .u8 0, .int .u8 0, .int .u8 0, .int .u8 0, .int .i64 0, .string (⟨#[]⟩ : ByteArray), .int .i64 0, .int .i64 0] 37 (0, 0)) (by (with_reducible repeat (first | refine blk_drewN ?_ _ | refine blk_drew ?_ | refine blk_alloc ?_ _)); exact BK129.out) hb); have n3_ := Aside0.mk (blk_below (g := gb136) (o := .cells #[.bool ((rdOf ByteArray.empty t130 0).toList == ([97, 108, 108, 111, 119] : List UInt8)), .int .u8 0, .int .u8 0, .int .u8 0, .int .u8 0, .int .i64 0, .string (⟨#[]⟩ : ByteArray), .int .i64 t142, .int .i64 x137008_19] 37 (0, 0)) (by (with_reducible repeat (first | refine blk_drewN ?_ _ | refine blk_drew ?_ | refine blk_alloc ?_ _)); exact BK136.out) hb); have n4_ := Aside0.mk (below_step (by repeat (first | (with_reducible first | exact HB.out | apply below_alloc | apply pw_below_drewN | apply below_drew1 | refine below_set ?_ GE129.out | refine below_set ?_ GE136.out) | exact HB.out)) hb); clear HO_4; clear BK129; clear BK136; clear HB; have HO_4 := n0_; have HO150 := n1_; have BK129 := n2_; have BK136 := n3_; have HB := n4_; clear n0_ n1_ n2_ n3_ n4_; (try clear hb); (try clear hb2); (try clear hk); (try clear hi); (try clear ho0); obtain ⟨Ao110, co110, eo110⟩ := Kd.R_slice HO150.out; subst eo110; have p172 : 0 ≤ (1 : Int) := (by omega); have q172 : 1 < (t130.length : Int) := of_decide_eq_true (by first | (with_reducible assumption) | assumption); obtain ⟨ad172, e172, hx172_0⟩ := Kd.at_string (Kd.R_reads' HO_4.out).2.2 1 p172 q172; obtain rfl : ad135 = ad172 := (by injection e172); (try simp only [show (1 : Int).toNat = 1 from rfl, Nat.reduceMul, Nat.reduceEqDiff, Go.Addr.add, ↓reduceIte] at hx172_0); have qi172 : (1 < t130.length) = True := eq_true (by omega); (try rw [show ((1 : Int)).toNat = 1 from rfl] at hx172_0); replace p172 := eq_true p172; replace q172 := eq_true q172; have hnb111 := NB136_129.out; have hnc111 := NB129_136.out; have hcz112_0 : w109.cell? ⟨gb136, 0, none⟩ = some (.bool ((rdOf ByteArray.empty t130 0).toList == ([97, 108, 108, 111, 119] : List UInt8))) := (blk_cell BK136.out 0).trans rfl; have hcz112_1 : w109.cell? ⟨gb136, 1, none⟩ = some (.int .u8 0) := (blk_cell BK136.out 1).trans rfl; have hcz112_2 : w109.cell? ⟨gb136, 2, none⟩ = some (.int .u8 0) := (blk_cell BK136.out 2).trans rfl; have hcz112_3 : w109.cell? ⟨gb136, 3, none⟩ = some (.int .u8 0) := (blk_cell BK136.out 3).trans rfl; have hcz112_4 : w109.cell? ⟨gb136, 4, none⟩ = some (.int .u8 0) := (blk_cell BK136.out 4).trans rfl; have hcz112_5 : w109.cell? ⟨gb136, 5, none⟩ = some (.int .i64 0) := (blk_cell BK136.out 5).trans rfl; have hcz112_6 : w109.cell? ⟨gb136, 6, none⟩ = some (.string (⟨#[]⟩ : ByteArray)) := (blk_cell BK136.out 6).trans rfl; have hcz112_7 : w109.cell? ⟨gb136, 7, none⟩ = some (.int .i64 t142) := (blk_cell BK136.out 7).trans rfl; have hcz112_8 : w109.cell? ⟨gb136, 8, none⟩ = some (.int .i64 x137008_19) := (blk_cell BK136.out 8).trans rfl; have hfz112_0 := blk_frozen BK136.out 0; have hfz112_1 := blk_frozen BK136.out 1; have hfz112_2 := blk_frozen BK136.out 2; have hfz112_3 := blk_frozen BK136.out 3; have hfz112_4 := blk_frozen BK136.out 4; have hfz112_5 := blk_frozen BK136.out 5; have hfz112_6 := blk_frozen BK136.out 6; have hfz112_7 := blk_frozen BK136.out 7; have hfz112_8 := blk_frozen BK136.out 8; have p173 : 0 ≤ (1 : Int) := (by omega); have q173 : 1 < (t130.length : Int) := of_decide_eq_true (by first | (with_reducible assumption) | assumption); obtain ⟨ad173, e173, hx173_0⟩ := Kd.at_string (Kd.R_reads' HO_4.out).2.2 1 p173 q173; obtain rfl : ad135 = ad173 := (by injection e173); (try simp only [show (1 : Int).toNat = 1 from rfl, Nat.reduceMul, Nat.reduceEqDiff, Go.Addr.add, ↓reduceIte] at hx173_0); have qi173 : (1 < t130.length) = True := eq_true (by omega); (try rw [show ((1 : Int)).toNat = 1 from rfl] at hx173_0); have hn173_0 : ad135.block ≠ gb136 := Kd.own_blk (Kd.R_ne HO_4.out BK136.out (by decide)); replace hx173_0 := (cell_far (p := ⟨gb136, 6, none⟩) (by first | (rw [add_block]; exact hn173_0) | (show (Addr.add _ _).block ≠ _; rw [add_block]; exact hn173_0) | exact hn173_0) (.string (rdOf ByteArray.empty t130 1))).trans hx173_0; clear hn173_0; replace p173 := eq_true p173; replace q173 := eq_true q173) | ((with_reducible refine gate_callee (f := 39) rfl ?_); refine goesL_ (some 131) rfl rfl Tryz.func39 (by kernel_rfl) rfl #[.agg #[.bool ((rdOf ByteArray.empty t130 0).toList == ([97, 108, 108, 111, 119] : List UInt8)), .int .u8 0, .int .u8 0, .int .u8 0, .int .u8 0, .int .i64 0, .string (rdOf ByteArray.empty t130 1), .int .i64 t142, .int .i64 x137008_19]] rfl (by (try simp only [List.map_toArray, List.map_cons, List.map_nil]); first | done | rfl | (simp only [List.length_drop, List.length_take]; rfl)) ?_; (with_reducible refine (E.refRule.calls ((rdOf ByteArray.empty t130 0).toList == ([97, 108, 108, 111, 119] : List UInt8)) 0 0 0 0 0 (rdOf ByteArray.empty t130 1) t142 x137008_19 true _ ?side1 A107.out).mono ?_); (case side1 => exact StdW.below HS_.out (by repeat (first | (with_reducible first | exact HB.out | apply below_alloc | apply pw_below_drewN | apply below_drew1 | refine below_set ?_ GE129.out | refine below_set ?_ GE136.out) | exact HB.out))); rintro e w113 ⟨rfl, hb⟩; refine ⟨_, rfl, ?_⟩; have n0_ := Aside0.mk (Kd.R_below (by (with_reducible repeat (first | apply Kd.R_alloc | apply Kd.R_drewN | apply Kd.R_drew)); exact (Kd.R_mono (Kd.R_far (p := ⟨gb136, 6, none⟩) (Kd.R_types HO_4.out BK136.out (by decide)) (fun _ hk => hk.2) (.string (rdOf ByteArray.empty t130 1))) (fun _ h_ => h_.1))) hb); have n1_ := Aside0.mk (Kd.R_below (by (with_reducible repeat (first | apply Kd.R_alloc | apply Kd.R_drewN | apply Kd.R_drew)); exact (Kd.R_mono (Kd.R_far (p := ⟨gb136, 6, none⟩) (Kd.R_types HO150.out BK136.out (by decide)) (fun _ hk => hk.2) (.string (rdOf ByteArray.empty t130 1))) (fun _ h_ => h_.1))) hb); have n2_ := Aside0.mk (blk_below (g := gb129) (o := .cells #[.bool false, .int .u8 0, .int .u8 0, .int .u8 0, .int .u8 0, .int .i64 0, .string (⟨#[]⟩ : ByteArray), .int .i64 0, .int .i64 0] 37 (0, 0)) (by (with_reducible repeat (first | refine blk_drewN ?_ _ | refine blk_drew ?_ | refine blk_alloc ?_ _)); refine blk_far ?_ NB129_136.out _; (with_reducible repeat (first | refine blk_drewN ?_ _ | refine blk_drew ?_ | refine blk_alloc ?_ _)); exact BK129.out) hb); have n3_ := Aside0.mk (blk_below (g := gb136) (o := .cells #[.bool ((rdOf ByteArray.empty t130 0).toList == ([97, 108, 108, 111, 119] : List UInt8)), .int .u8 0, .int .u8 0, .int .u8 0, .int .u8 0, .int .i64 0, .string (rdOf ByteArray.empty t130 1), .int .i64 t142, .int .i64 x137008_19] 37 (0, 0)) (by (with_reducible repeat (first | refine blk_drewN ?_ _ | refine blk_drew ?_ | refine blk_alloc ?_ _)); refine blk_put (cs := #[.bool ((rdOf ByteArray.empty t130 0).toList == ([97, 108, 108, 111, 119] : List UInt8)), .int .u8 0, .int .u8 0, .int .u8 0, .int .u8 0, .int .i64 0, .string (⟨#[]⟩ : ByteArray), .int .i64 t142, .int .i64 x137008_19]) ?_ 6 _ rfl; (with_reducible repeat (first | refine blk_drewN ?_ _ | refine blk_drew ?_ | refine blk_alloc ?_ _)); exact BK136.out) hb); have n4_ := Aside0.mk (below_step (by repeat (first | (with_reducible first | exact HB.out | apply below_alloc | apply pw_below_drewN | apply below_drew1 | refine below_set ?_ GE129.out | refine below_set ?_ GE136.out) | exact HB.out)) hb); clear HO_4; clear HO150; clear BK129; clear BK136; clear HB; have HO_4 := n0_; have HO150 := n1_; have BK129 := n2_; have BK136 := n3_; have HB := n4_; clear n0_ n1_ n2_ n3_ n4_; (try clear hb); (try clear hb2); (try clear hk); (try clear hi); have hcz114_0 : w113.cell? ⟨gb136, 0, none⟩ = some (.bool ((rdOf ByteArray.empty t130 0).toList == ([97, 108, 108, 111, 119] : List UInt8))) := (blk_cell BK136.out 0).trans rfl; have hcz114_1 : w113.cell? ⟨gb136, 1, none⟩ = some (.int .u8 0) := (blk_cell BK136.out 1).trans rfl; have hcz114_2 : w113.cell? ⟨gb136, 2, none⟩ = some (.int .u8 0) := (blk_cell BK136.out 2).trans rfl; have hcz114_3 : w113.cell? ⟨gb136, 3, none⟩ = some (.int .u8 0) := (blk_cell BK136.out 3).trans rfl; have hcz114_4 : w113.cell? ⟨gb136, 4, none⟩ = some (.int .u8 0) := (blk_cell BK136.out 4).trans rfl; have hcz114_5 : w113.cell? ⟨gb136, 5, none⟩ = some (.int .i64 0) := (blk_cell BK136.out 5).trans rfl; have hcz114_6 : w113.cell? ⟨gb136, 6, none⟩ = some (.string (rdOf ByteArray.empty t130 1)) := (blk_cell BK136.out 6).trans rfl; have hcz114_7 : w113.cell? ⟨gb136, 7, none⟩ = some (.int .i64 t142) := (blk_cell BK136.out 7).trans rfl; have hcz114_8 : w113.cell? ⟨gb136, 8, none⟩ = some (.int .i64 x137008_19) := (blk_cell BK136.out 8).trans rfl; have hfz114_0 := blk_frozen BK136.out 0; have hfz114_1 := blk_frozen BK136.out 1; have hfz114_2 := blk_frozen BK136.out 2; have hfz114_3 := blk_frozen BK136.out 3; have hfz114_4 := blk_frozen BK136.out 4; have hfz114_5 := blk_frozen BK136.out 5; have hfz114_6 := blk_frozen BK136.out 6; have hfz114_7 := blk_frozen BK136.out 7; have hfz114_8 := blk_frozen BK136.out 8; have hcz115_0 : w113.cell? ⟨gb129, 0, none⟩ = some (.bool false) := (blk_cell BK129.out 0).trans rfl; have hcz115_1 : w113.cell? ⟨gb129, 1, none⟩ = some (.int .u8 0) := (blk_cell BK129.out 1).trans rfl; have hcz115_2 : w113.cell? ⟨gb129, 2, none⟩ = some (.int .u8 0) := (blk_cell BK129.out 2).trans rfl; have hcz115_3 : w113.cell? ⟨gb129, 3, none⟩ = some (.int .u8 0) := (blk_cell BK129.out 3).trans rfl; have hcz115_4 : w113.cell? ⟨gb129, 4, none⟩ = some (.int .u8 0) := (blk_cell BK129.out 4).trans rfl; have hcz115_5 : w113.cell? ⟨gb129, 5, none⟩ = some (.int .i64 0) := (blk_cell BK129.out 5).trans rfl; have hcz115_6 : w113.cell? ⟨gb129, 6, none⟩ = some (.string (⟨#[]⟩ : ByteArray)) := (blk_cell BK129.out 6).trans rfl; have hcz115_7 : w113.cell? ⟨gb129, 7, none⟩ = some (.int .i64 0) := (blk_cell BK129.out 7).trans rfl; have hcz115_8 : w113.cell? ⟨gb129, 8, none⟩ = some (.int .i64 0) := (blk_cell BK129.out 8).trans rfl; have hfz115_0 := blk_frozen BK129.out 0; have hfz115_1 := blk_frozen BK129.out 1; have hfz115_2 := blk_frozen BK129.out 2; have hfz115_3 := blk_frozen BK129.out 3; have hfz115_4 := blk_frozen BK129.out 4; have hfz115_5 := blk_frozen BK129.out 5; have hfz115_6 := blk_frozen BK129.out 6; have hfz115_7 := blk_frozen BK129.out 7; have hfz115_8 := blk_frozen BK129.out 8))
                refine bodyPost_ret (results_ct rfl _ _ gb129 37 #[.bool ((rdOf ByteArray.empty t130 0).toList == ([97, 108, 108, 111, 119] : List UInt8)), .int .u8 0, .int .u8 0, .int .u8 0, .int .u8 0, .int .i64 0, .string (rdOf ByteArray.empty t130 1), .int .i64 t142, .int .i64 x137008_19] (0, 0) _ rfl (by (with_reducible repeat (first | refine blk_drewN ?_ _ | refine blk_drew ?_ | refine blk_alloc ?_ _)); refine blk_put (cs := #[.bool ((rdOf ByteArray.empty t130 0).toList == ([97, 108, 108, 111, 119] : List UInt8)), .int .u8 0, .int .u8 0, .int .u8 0, .int .u8 0, .int .i64 0, .string (rdOf ByteArray.empty t130 1), .int .i64 t142, .int .i64 0]) ?_ 8 _ rfl; (with_reducible repeat (first | refine blk_drewN ?_ _ | refine blk_drew ?_ | refine blk_alloc ?_ _)); refine blk_put (cs := #[.bool ((rdOf ByteArray.empty t130 0).toList == ([97, 108, 108, 111, 119] : List UInt8)), .int .u8 0, .int .u8 0, .int .u8 0, .int .u8 0, .int .i64 0, .string (rdOf ByteArray.empty t130 1), .int .i64 0, .int .i64 0]) ?_ 7 _ rfl; (with_reducible repeat (first | refine blk_drewN ?_ _ | refine blk_drew ?_ | refine blk_alloc ?_ _)); refine blk_put (cs := #[.bool ((rdOf ByteArray.empty t130 0).toList == ([97, 108, 108, 111, 119] : List UInt8)), .int .u8 0, .int .u8 0, .int .u8 0, .int .u8 0, .int .i64 0, .string (⟨#[]⟩ : ByteArray), .int .i64 0, .int .i64 0]) ?_ 6 _ rfl; (with_reducible repeat (first | refine blk_drewN ?_ _ | refine blk_drew ?_ | refine blk_alloc ?_ _)); refine blk_put (cs := #[.bool ((rdOf ByteArray.empty t130 0).toList == ([97, 108, 108, 111, 119] : List UInt8)), .int .u8 0, .int .u8 0, .int .u8 0, .int .u8 0, .int .i64 0, .string (⟨#[]⟩ : ByteArray), .int .i64 0, .int .i64 0]) ?_ 5 _ rfl; (with_reducible repeat (first | refine blk_drewN ?_ _ | refine blk_drew ?_ | refine blk_alloc ?_ _)); refine blk_put (cs := #[.bool ((rdOf ByteArray.empty t130 0).toList == ([97, 108, 108, 111, 119] : List UInt8)), .int .u8 0, .int .u8 0, .int .u8 0, .int .u8 0, .int .i64 0, .string (⟨#[]⟩ : ByteArray), .int .i64 0, .int .i64 0]) ?_ 4 _ rfl; (with_reducible repeat (first | refine blk_drewN ?_ _ | refine blk_drew ?_ | refine blk_alloc ?_ _)); refine blk_put (cs := #[.bool ((rdOf ByteArray.empty t130 0).toList == ([97, 108, 108, 111, 119] : List UInt8)), .int .u8 0, .int .u8 0, .int .u8 0, .int .u8 0, .int .i64 0, .string (⟨#[]⟩ : ByteArray), .int .i64 0, .int .i64 0]) ?_ 3 _ rfl; (with_reducible repeat (first | refine blk_drewN ?_ _ | refine blk_drew ?_ | refine blk_alloc ?_ _)); refine blk_put (cs := #[.bool ((rdOf ByteArray.empty t130 0).toList == ([97, 108, 108, 111, 119] : List UInt8)), .int .u8 0, .int .u8 0, .int .u8 0, .int .u8 0, .int .i64 0, .string (⟨#[]⟩ : ByteArray), .int .i64 0, .int .i64 0]) ?_ 2 _ rfl; (with_reducible repeat (first | refine blk_drewN ?_ _ | refine blk_drew ?_ | refine blk_alloc ?_ _)); refine blk_put (cs := #[.bool ((rdOf ByteArray.empty t130 0).toList == ([97, 108, 108, 111, 119] : List UInt8)), .int .u8 0, .int .u8 0, .int .u8 0, .int .u8 0, .int .i64 0, .string (⟨#[]⟩ : ByteArray), .int .i64 0, .int .i64 0]) ?_ 1 _ rfl; (with_reducible repeat (first | refine blk_drewN ?_ _ | refine blk_drew ?_ | refine blk_alloc ?_ _)); refine blk_put (cs := #[.bool false, .int .u8 0, .int .u8 0, .int .u8 0, .int .u8 0, .int .i64 0, .string (⟨#[]⟩ : ByteArray), .int .i64 0, .int .i64 0]) ?_ 0 _ rfl; (with_reducible repeat (first | refine blk_drewN ?_ _ | refine blk_drew ?_ | refine blk_alloc ?_ _)); exact BK129.out) Tryz.underlying37 rfl (by kernel_rfl)) rfl ?_
                exact ⟨by first | rfl | (simp [errW_none, errW_some] <;> rfl) | (simp [*, errW_none, errW_some] <;> rfl), by repeat (first | (with_reducible first | exact HB.out | apply below_alloc | apply pw_below_drewN | apply below_drew1 | refine below_set ?_ GE129.out | refine below_set ?_ GE136.out) | exact HB.out)⟩
               ·replace c108 := Bool.eq_false_iff.mpr c108
                subst c108
                have H1 : (some (false, 0, 0, 0, 0, 0, (⟨#[]⟩ : ByteArray), 0, 0, 120)) = some (r1, r2, r3, r4, r5, r6, r7, r8, r9, r10) := by rw [if_neg (show ¬ (false = true) by decide)] at H; exact H
                clear H
                have H := H1
                clear H1
                simp only [Option.some.injEq, Prod.mk.injEq] at H
                obtain ⟨rfl, rfl, rfl, rfl, rfl, rfl, rfl, rfl, rfl, rfl⟩ := H
                have p147 : 0 ≤ (1 : Int) := (by omega)
                have q147 : 1 < (t130.length : Int) := of_decide_eq_true (by first | (with_reducible assumption) | assumption)
                obtain ⟨ad147, e147, hx147_0⟩ := Kd.at_string (Kd.R_reads' HO_4.out).2.2 1 p147 q147
                obtain rfl : ad135 = ad147 := (by injection e147)
                (try simp only [show (1 : Int).toNat = 1 from rfl, Nat.reduceMul, Nat.reduceEqDiff, Go.Addr.add, ↓reduceIte] at hx147_0)
                have qi147 : (1 < t130.length) = True := eq_true (by omega)
                (try rw [show ((1 : Int)).toNat = 1 from rfl] at hx147_0)
                replace p147 := eq_true p147
                replace q147 := eq_true q147
                go_wp2_with (first | ((with_reducible refine gate_callee (f := 49) rfl ?_); refine goesL_ (some 91) rfl rfl Tryz.func49 (by kernel_rfl) rfl #[.string (rdOf ByteArray.empty t130 1), .int .u8 47] rfl (by (try simp only [List.map_toArray, List.map_cons, List.map_nil]); first | done | rfl | (simp only [List.length_drop, List.length_take]; rfl)) ?_; (with_reducible refine (sallyportref12_words.calls kj38 (rdOf ByteArray.empty t130 1) 47 t148 _ A45.out).mono ?_); rintro e w116 ⟨v149, rfl, ho0, hb⟩; refine ⟨_, rfl, ?_⟩; have n0_ := Aside0.mk (Kd.R_elder' (by (with_reducible repeat (first | apply Kd.R_alloc | apply Kd.R_drewN | apply Kd.R_drew)); exact HO_4.out) (Kd.R_base ho0) hb); have n1_ := Aside0.mk (Kd.R_lower (Kd.R_new' ho0 (Kd.R_lt (by (with_reducible repeat (first | apply Kd.R_alloc | apply Kd.R_drewN | apply Kd.R_drew)); exact HO_4.out))) (below_size (by repeat (first | (with_reducible first | exact HB.out | apply below_alloc | apply pw_below_drewN | apply below_drew1 | refine below_set ?_ GE129.out | refine below_set ?_ GE136.out) | exact HB.out)))); have n2_ := Aside0.mk (blk_below (g := gb129) (o := .cells #[.bool false, .int .u8 0, .int .u8 0, .int .u8 0, .int .u8 0, .int .i64 0, .string (⟨#[]⟩ : ByteArray), .int .i64 0, .int .i64 0] 37 (0, 0)) (by (with_reducible repeat (first | refine blk_drewN ?_ _ | refine blk_drew ?_ | refine blk_alloc ?_ _)); exact BK129.out) hb); have n3_ := Aside0.mk (blk_below (g := gb136) (o := .cells #[.bool ((rdOf ByteArray.empty t130 0).toList == ([97, 108, 108, 111, 119] : List UInt8)), .int .u8 0, .int .u8 0, .int .u8 0, .int .u8 0, .int .i64 0, .string (⟨#[]⟩ : ByteArray), .int .i64 t142, .int .i64 x137008_19] 37 (0, 0)) (by (with_reducible repeat (first | refine blk_drewN ?_ _ | refine blk_drew ?_ | refine blk_alloc ?_ _)); exact BK136.out) hb); have n4_ := Aside0.mk (below_step (by repeat (first | (with_reducible first | exact HB.out | apply below_alloc | apply pw_below_drewN | apply below_drew1 | refine below_set ?_ GE129.out | refine below_set ?_ GE136.out) | exact HB.out)) hb); clear HO_4; clear BK129; clear BK136; clear HB; have HO_4 := n0_; have HO150 := n1_; have BK129 := n2_; have BK136 := n3_; have HB := n4_; clear n0_ n1_ n2_ n3_ n4_; (try clear hb); (try clear hb2); (try clear hk); (try clear hi); (try clear ho0); obtain ⟨Ao117, co117, eo117⟩ := Kd.R_slice HO150.out; subst eo117; have p172 : 0 ≤ (1 : Int) := (by omega); have q172 : 1 < (t130.length : Int) := of_decide_eq_true (by first | (with_reducible assumption) | assumption); obtain ⟨ad172, e172, hx172_0⟩ := Kd.at_string (Kd.R_reads' HO_4.out).2.2 1 p172 q172; obtain rfl : ad135 = ad172 := (by injection e172); (try simp only [show (1 : Int).toNat = 1 from rfl, Nat.reduceMul, Nat.reduceEqDiff, Go.Addr.add, ↓reduceIte] at hx172_0); have qi172 : (1 < t130.length) = True := eq_true (by omega); (try rw [show ((1 : Int)).toNat = 1 from rfl] at hx172_0); replace p172 := eq_true p172; replace q172 := eq_true q172; have hnb118 := NB136_129.out; have hnc118 := NB129_136.out; have hcz119_0 : w116.cell? ⟨gb136, 0, none⟩ = some (.bool ((rdOf ByteArray.empty t130 0).toList == ([97, 108, 108, 111, 119] : List UInt8))) := (blk_cell BK136.out 0).trans rfl; have hcz119_1 : w116.cell? ⟨gb136, 1, none⟩ = some (.int .u8 0) := (blk_cell BK136.out 1).trans rfl; have hcz119_2 : w116.cell? ⟨gb136, 2, none⟩ = some (.int .u8 0) := (blk_cell BK136.out 2).trans rfl; have hcz119_3 : w116.cell? ⟨gb136, 3, none⟩ = some (.int .u8 0) := (blk_cell BK136.out 3).trans rfl; have hcz119_4 : w116.cell? ⟨gb136, 4, none⟩ = some (.int .u8 0) := (blk_cell BK136.out 4).trans rfl; have hcz119_5 : w116.cell? ⟨gb136, 5, none⟩ = some (.int .i64 0) := (blk_cell BK136.out 5).trans rfl; have hcz119_6 : w116.cell? ⟨gb136, 6, none⟩ = some (.string (⟨#[]⟩ : ByteArray)) := (blk_cell BK136.out 6).trans rfl; have hcz119_7 : w116.cell? ⟨gb136, 7, none⟩ = some (.int .i64 t142) := (blk_cell BK136.out 7).trans rfl; have hcz119_8 : w116.cell? ⟨gb136, 8, none⟩ = some (.int .i64 x137008_19) := (blk_cell BK136.out 8).trans rfl; have hfz119_0 := blk_frozen BK136.out 0; have hfz119_1 := blk_frozen BK136.out 1; have hfz119_2 := blk_frozen BK136.out 2; have hfz119_3 := blk_frozen BK136.out 3; have hfz119_4 := blk_frozen BK136.out 4; have hfz119_5 := blk_frozen BK136.out 5; have hfz119_6 := blk_frozen BK136.out 6; have hfz119_7 := blk_frozen BK136.out 7; have hfz119_8 := blk_frozen BK136.out 8; have p173 : 0 ≤ (1 : Int) := (by omega); have q173 : 1 < (t130.length : Int) := of_decide_eq_true (by first | (with_reducible assumption) | assumption); obtain ⟨ad173, e173, hx173_0⟩ := Kd.at_string (Kd.R_reads' HO_4.out).2.2 1 p173 q173; obtain rfl : ad135 = ad173 := (by injection e173); (try simp only [show (1 : Int).toNat = 1 from rfl, Nat.reduceMul, Nat.reduceEqDiff, Go.Addr.add, ↓reduceIte] at hx173_0); have qi173 : (1 < t130.length) = True := eq_true (by omega); (try rw [show ((1 : Int)).toNat = 1 from rfl] at hx173_0); have hn173_0 : ad135.block ≠ gb136 := Kd.own_blk (Kd.R_ne HO_4.out BK136.out (by decide)); replace hx173_0 := (cell_far (p := ⟨gb136, 6, none⟩) (by first | (rw [add_block]; exact hn173_0) | (show (Addr.add _ _).block ≠ _; rw [add_block]; exact hn173_0) | exact hn173_0) (.string (rdOf ByteArray.empty t130 1))).trans hx173_0; clear hn173_0; replace p173 := eq_true p173; replace q173 := eq_true q173) | ((with_reducible refine gate_callee (f := 39) rfl ?_); refine goesL_ (some 131) rfl rfl Tryz.func39 (by kernel_rfl) rfl #[.agg #[.bool ((rdOf ByteArray.empty t130 0).toList == ([97, 108, 108, 111, 119] : List UInt8)), .int .u8 0, .int .u8 0, .int .u8 0, .int .u8 0, .int .i64 0, .string (rdOf ByteArray.empty t130 1), .int .i64 t142, .int .i64 x137008_19]] rfl (by (try simp only [List.map_toArray, List.map_cons, List.map_nil]); first | done | rfl | (simp only [List.length_drop, List.length_take]; rfl)) ?_; (with_reducible refine (E.refRule.calls ((rdOf ByteArray.empty t130 0).toList == ([97, 108, 108, 111, 119] : List UInt8)) 0 0 0 0 0 (rdOf ByteArray.empty t130 1) t142 x137008_19 false _ ?side1 A107.out).mono ?_); (case side1 => exact StdW.below HS_.out (by repeat (first | (with_reducible first | exact HB.out | apply below_alloc | apply pw_below_drewN | apply below_drew1 | refine below_set ?_ GE129.out | refine below_set ?_ GE136.out) | exact HB.out))); rintro e w120 ⟨rfl, hb⟩; refine ⟨_, rfl, ?_⟩; have n0_ := Aside0.mk (Kd.R_below (by (with_reducible repeat (first | apply Kd.R_alloc | apply Kd.R_drewN | apply Kd.R_drew)); exact (Kd.R_mono (Kd.R_far (p := ⟨gb136, 6, none⟩) (Kd.R_types HO_4.out BK136.out (by decide)) (fun _ hk => hk.2) (.string (rdOf ByteArray.empty t130 1))) (fun _ h_ => h_.1))) hb); have n1_ := Aside0.mk (Kd.R_below (by (with_reducible repeat (first | apply Kd.R_alloc | apply Kd.R_drewN | apply Kd.R_drew)); exact (Kd.R_mono (Kd.R_far (p := ⟨gb136, 6, none⟩) (Kd.R_types HO150.out BK136.out (by decide)) (fun _ hk => hk.2) (.string (rdOf ByteArray.empty t130 1))) (fun _ h_ => h_.1))) hb); have n2_ := Aside0.mk (blk_below (g := gb129) (o := .cells #[.bool false, .int .u8 0, .int .u8 0, .int .u8 0, .int .u8 0, .int .i64 0, .string (⟨#[]⟩ : ByteArray), .int .i64 0, .int .i64 0] 37 (0, 0)) (by (with_reducible repeat (first | refine blk_drewN ?_ _ | refine blk_drew ?_ | refine blk_alloc ?_ _)); refine blk_far ?_ NB129_136.out _; (with_reducible repeat (first | refine blk_drewN ?_ _ | refine blk_drew ?_ | refine blk_alloc ?_ _)); exact BK129.out) hb); have n3_ := Aside0.mk (blk_below (g := gb136) (o := .cells #[.bool ((rdOf ByteArray.empty t130 0).toList == ([97, 108, 108, 111, 119] : List UInt8)), .int .u8 0, .int .u8 0, .int .u8 0, .int .u8 0, .int .i64 0, .string (rdOf ByteArray.empty t130 1), .int .i64 t142, .int .i64 x137008_19] 37 (0, 0)) (by (with_reducible repeat (first | refine blk_drewN ?_ _ | refine blk_drew ?_ | refine blk_alloc ?_ _)); refine blk_put (cs := #[.bool ((rdOf ByteArray.empty t130 0).toList == ([97, 108, 108, 111, 119] : List UInt8)), .int .u8 0, .int .u8 0, .int .u8 0, .int .u8 0, .int .i64 0, .string (⟨#[]⟩ : ByteArray), .int .i64 t142, .int .i64 x137008_19]) ?_ 6 _ rfl; (with_reducible repeat (first | refine blk_drewN ?_ _ | refine blk_drew ?_ | refine blk_alloc ?_ _)); exact BK136.out) hb); have n4_ := Aside0.mk (below_step (by repeat (first | (with_reducible first | exact HB.out | apply below_alloc | apply pw_below_drewN | apply below_drew1 | refine below_set ?_ GE129.out | refine below_set ?_ GE136.out) | exact HB.out)) hb); clear HO_4; clear HO150; clear BK129; clear BK136; clear HB; have HO_4 := n0_; have HO150 := n1_; have BK129 := n2_; have BK136 := n3_; have HB := n4_; clear n0_ n1_ n2_ n3_ n4_; (try clear hb); (try clear hb2); (try clear hk); (try clear hi); have hcz121_0 : w120.cell? ⟨gb129, 0, none⟩ = some (.bool false) := (blk_cell BK129.out 0).trans rfl; have hcz121_1 : w120.cell? ⟨gb129, 1, none⟩ = some (.int .u8 0) := (blk_cell BK129.out 1).trans rfl; have hcz121_2 : w120.cell? ⟨gb129, 2, none⟩ = some (.int .u8 0) := (blk_cell BK129.out 2).trans rfl; have hcz121_3 : w120.cell? ⟨gb129, 3, none⟩ = some (.int .u8 0) := (blk_cell BK129.out 3).trans rfl; have hcz121_4 : w120.cell? ⟨gb129, 4, none⟩ = some (.int .u8 0) := (blk_cell BK129.out 4).trans rfl; have hcz121_5 : w120.cell? ⟨gb129, 5, none⟩ = some (.int .i64 0) := (blk_cell BK129.out 5).trans rfl; have hcz121_6 : w120.cell? ⟨gb129, 6, none⟩ = some (.string (⟨#[]⟩ : ByteArray)) := (blk_cell BK129.out 6).trans rfl; have hcz121_7 : w120.cell? ⟨gb129, 7, none⟩ = some (.int .i64 0) := (blk_cell BK129.out 7).trans rfl; have hcz121_8 : w120.cell? ⟨gb129, 8, none⟩ = some (.int .i64 0) := (blk_cell BK129.out 8).trans rfl; have hfz121_0 := blk_frozen BK129.out 0; have hfz121_1 := blk_frozen BK129.out 1; have hfz121_2 := blk_frozen BK129.out 2; have hfz121_3 := blk_frozen BK129.out 3; have hfz121_4 := blk_frozen BK129.out 4; have hfz121_5 := blk_frozen BK129.out 5; have hfz121_6 := blk_frozen BK129.out 6; have hfz121_7 := blk_frozen BK129.out 7; have hfz121_8 := blk_frozen BK129.out 8))
                refine bodyPost_ret (results_ct rfl _ _ gb129 37 #[.bool false, .int .u8 0, .int .u8 0, .int .u8 0, .int .u8 0, .int .i64 0, .string (⟨#[]⟩ : ByteArray), .int .i64 0, .int .i64 0] (0, 0) _ rfl (by (with_reducible repeat (first | refine blk_drewN ?_ _ | refine blk_drew ?_ | refine blk_alloc ?_ _)); refine blk_put (cs := #[.bool false, .int .u8 0, .int .u8 0, .int .u8 0, .int .u8 0, .int .i64 0, .string (⟨#[]⟩ : ByteArray), .int .i64 0, .int .i64 0]) ?_ 8 _ rfl; (with_reducible repeat (first | refine blk_drewN ?_ _ | refine blk_drew ?_ | refine blk_alloc ?_ _)); refine blk_put (cs := #[.bool false, .int .u8 0, .int .u8 0, .int .u8 0, .int .u8 0, .int .i64 0, .string (⟨#[]⟩ : ByteArray), .int .i64 0, .int .i64 0]) ?_ 7 _ rfl; (with_reducible repeat (first | refine blk_drewN ?_ _ | refine blk_drew ?_ | refine blk_alloc ?_ _)); refine blk_put (cs := #[.bool false, .int .u8 0, .int .u8 0, .int .u8 0, .int .u8 0, .int .i64 0, .string (⟨#[]⟩ : ByteArray), .int .i64 0, .int .i64 0]) ?_ 6 _ rfl; (with_reducible repeat (first | refine blk_drewN ?_ _ | refine blk_drew ?_ | refine blk_alloc ?_ _)); refine blk_put (cs := #[.bool false, .int .u8 0, .int .u8 0, .int .u8 0, .int .u8 0, .int .i64 0, .string (⟨#[]⟩ : ByteArray), .int .i64 0, .int .i64 0]) ?_ 5 _ rfl; (with_reducible repeat (first | refine blk_drewN ?_ _ | refine blk_drew ?_ | refine blk_alloc ?_ _)); refine blk_put (cs := #[.bool false, .int .u8 0, .int .u8 0, .int .u8 0, .int .u8 0, .int .i64 0, .string (⟨#[]⟩ : ByteArray), .int .i64 0, .int .i64 0]) ?_ 4 _ rfl; (with_reducible repeat (first | refine blk_drewN ?_ _ | refine blk_drew ?_ | refine blk_alloc ?_ _)); refine blk_put (cs := #[.bool false, .int .u8 0, .int .u8 0, .int .u8 0, .int .u8 0, .int .i64 0, .string (⟨#[]⟩ : ByteArray), .int .i64 0, .int .i64 0]) ?_ 3 _ rfl; (with_reducible repeat (first | refine blk_drewN ?_ _ | refine blk_drew ?_ | refine blk_alloc ?_ _)); refine blk_put (cs := #[.bool false, .int .u8 0, .int .u8 0, .int .u8 0, .int .u8 0, .int .i64 0, .string (⟨#[]⟩ : ByteArray), .int .i64 0, .int .i64 0]) ?_ 2 _ rfl; (with_reducible repeat (first | refine blk_drewN ?_ _ | refine blk_drew ?_ | refine blk_alloc ?_ _)); refine blk_put (cs := #[.bool false, .int .u8 0, .int .u8 0, .int .u8 0, .int .u8 0, .int .i64 0, .string (⟨#[]⟩ : ByteArray), .int .i64 0, .int .i64 0]) ?_ 1 _ rfl; (with_reducible repeat (first | refine blk_drewN ?_ _ | refine blk_drew ?_ | refine blk_alloc ?_ _)); refine blk_put (cs := #[.bool false, .int .u8 0, .int .u8 0, .int .u8 0, .int .u8 0, .int .i64 0, .string (⟨#[]⟩ : ByteArray), .int .i64 0, .int .i64 0]) ?_ 0 _ rfl; (with_reducible repeat (first | refine blk_drewN ?_ _ | refine blk_drew ?_ | refine blk_alloc ?_ _)); exact BK129.out) Tryz.underlying37 rfl (by kernel_rfl)) rfl ?_
                exact ⟨by first | rfl | (simp [errW_none, errW_some] <;> rfl) | (simp [*, errW_none, errW_some] <;> rfl), by repeat (first | (with_reducible first | exact HB.out | apply below_alloc | apply pw_below_drewN | apply below_drew1 | refine below_set ?_ GE129.out | refine below_set ?_ GE136.out) | exact HB.out)⟩
            ·rw [if_neg c44] at H
             exact absurd H (by simp)
      ·rw [if_neg c18] at H
       exact absurd H (by simp)
     ·rw [if_neg c16] at H
      exact absurd H (by simp)
    ·rw [if_neg c15] at H
     exact absurd H (by simp)
end Go.Proofs.YteondnhokgmakaaGreatDoor.XT


namespace Go.Proofs.YteondnhokgmakaaGreatDoor.E
open Go.RowKit Go.Proofs.YteondnhokgmakaaGreatDoorW.PrintWords Go.Proofs.YteondnhokgmakaaGreatDoorW.PrintLast Go.Proofs.YteondnhokgmakaaGreatDoor.XC Go.Proofs.YteondnhokgmakaaGreatDoor.XR Go.Proofs.YteondnhokgmakaaGreatDoor.XT Go.Proofs.YteondnhokgmakaaGreatDoor.XV
set_option linter.unusedVariables false
set_option linter.unusedSimpArgs false
def ppTup : Option S37 → Bool × Int × Int × Int × Int × Int × ByteArray × Int × Int × Int
  | none => (false, 0, 0, 0, 0, 0, ⟨#[]⟩, 0, 0, 120)
  | some r => (r.f0, r.f1.f0, r.f1.f1, r.f1.f2, r.f1.f3, r.f2, r.f3, r.f4, r.f5, 0)
theorem cutW_one (b : UInt8) (s : ByteArray) (h : b ∉ s.data.toList) : cutW b s.data.toList ⟨#[]⟩ = [s] := by
  apply map_data_inj
  rw [cutW_zero, cutOn_none1 b _ h]; rfl
theorem cutW_two (b : UInt8) (x y : List UInt8) (h : b ∉ x) (h2 : b ∉ y) : cutW b (x ++ b :: y) ⟨#[]⟩ = [⟨x.toArray⟩, ⟨y.toArray⟩] := by
  apply map_data_inj
  rw [cutW_zero, cutOn_app1 b _ _ h, cutOn_none1 b _ h2]; rfl
theorem cutW_more (b : UInt8) (x y : List UInt8) (h : b ∉ x) (h2 : b ∈ y) : ∃ q r t, cutW b (x ++ b :: y) ⟨#[]⟩ = ⟨x.toArray⟩ :: q :: r :: t := by
  obtain ⟨u, v, rfl, hu⟩ := List.eq_append_cons_of_mem h2
  obtain ⟨p, r, e⟩ := Pt.cutOn_cons b v
  refine ⟨⟨u.toArray⟩, ⟨p.toArray⟩, r.map (fun l => ⟨l.toArray⟩), map_data_inj ?_⟩
  rw [cutW_zero, cutOn_app1 b _ _ h, cutOn_app1 b _ _ hu, e]
  simp [Function.comp_def]
theorem words_cutW (s : ByteArray) : cutW 32 s.data.toList ⟨#[]⟩ = wordsS s := by
  apply map_data_inj
  rw [cutW_zero, words_data]
theorem wholeV_num (l : List UInt8) (d : Nat) (h : (wholeV l d).2 = true) (hd : d ≤ 18) : numOkP l = true ∧ atoiV l = (wholeV l d).1 := by
  unfold wholeV at h ⊢
  rw [Num.whole_canon] at h ⊢
  split at h
  · rename_i m hm
    split at hm
    · rename_i hc
      have hv : Num.val l < 9223372036854775808 := by
        have h1 := val_lt l (by rw [(Num.canon_iff l).1 hc.1, List.all_eq_true]; exact Num.dec_digits _)
        have h2 : (10 : Nat) ^ l.length ≤ 10 ^ 18 := Nat.pow_le_pow_right (by decide) (by omega)
        exact Nat.lt_of_lt_of_le h1 (Nat.le_trans h2 (by decide))
      have := numOkP_canon l hc.1 hv
      cases hm
      exact this
    · cases hm
  · cases h
theorem num_wholeV (l : List UInt8) (d : Nat) (hd : 1 ≤ d) (h : numOkP l = true) (hv : atoiV l < (10 ^ d : Nat)) : wholeV l d = (atoiV l, true) := by
  obtain ⟨hc, e, -⟩ := numOkP_iff l h
  unfold wholeV
  rw [Num.whole_canon, if_pos ⟨hc, Num.canon_len l d hd hc (by omega)⟩, e]
theorem j3_f (k : Nat) (bi : Int) (bad al : Bool) (su : ByteArray) (lo hi a b c d x0 x1 x2 x3 x4 : Int) (hb : inB8 a ∧ inB8 b ∧ inB8 c ∧ inB8 d) (hs : su.size ≤ 281474976710656) :
    sallyportref12_Parse.j3 (k + 1) bi bad al x0 x1 x2 x3 x4 su lo hi a b c d = some (ppTup ((if bad then none else (some ⟨al, ⟨a, b, c, d⟩, bi, su, lo, hi⟩ : Option S37)).filter rightB)) := by
  simp only [sallyportref12_Parse.j3]
  cases bad
  · simp only [Bool.false_eq_true, if_false]
    rw [show refRule.f al a b c d bi su lo hi = some (rightB ⟨al, ⟨a, b, c, d⟩, bi, su, lo, hi⟩) by unfold refRule.f; rw [if_pos ⟨hb.1, hb.2.1, hb.2.2.1, hb.2.2.2, hs⟩], Option.bind_some, Option.filter_some]
    cases rightB ⟨al, ⟨a, b, c, d⟩, bi, su, lo, hi⟩ <;> rfl
  · rfl
def refNet (al : Bool) (w1 : ByteArray) (lo hi : Int) : Option S37 := Option.filter rightB (match cutW 47 w1.data.toList ⟨#[]⟩ with
  | [x, y] => (match rpaRes x with
    | .inl _ => none
    | .inr l => if (wholeV y.data.toList 2).2 then some ⟨al, ⟨l.getD 0 0, l.getD 1 0, l.getD 2 0, l.getD 3 0⟩, (wholeV y.data.toList 2).1, ⟨#[]⟩, lo, hi⟩ else none)
  | _ => if w1.size = 0 then none else some ⟨al, ⟨0, 0, 0, 0⟩, 0, w1, lo, hi⟩)
theorem rpa_bytes (s : ByteArray) (l : List Int) (h : rpaRes s = .inr l) : inB8 (l.getD 0 0) ∧ inB8 (l.getD 1 0) ∧ inB8 (l.getD 2 0) ∧ inB8 (l.getD 3 0) := by
  obtain ⟨a, b, c, d, rfl, -, ha, hb, hc, hd⟩ := paRes_back s l (rpa_pa s l h)
  exact ⟨ha, hb, hc, hd⟩
theorem j2_f (k : Nat) (w0 w1 w2 : ByteArray) (bad al : Bool) (lo hi : Int) (hz : w1.size ≤ 285) (hk : 400 ≤ k) :
    sallyportref12_Parse.j2 (k + 1) [w0, w1, w2] bad al 0 0 0 0 0 ⟨#[]⟩ lo hi = some (ppTup (if bad then none else refNet al w1 lo hi)) := by
  simp only [sallyportref12_Parse.j2]
  cases bad
  · simp only [Bool.false_eq_true, if_false]
    have e1 : rdOf ByteArray.empty [w0, w1, w2] 1 = w1 := rfl
    have z8 : inB8 0 := ⟨by decide, by decide⟩
    rw [if_pos (by simp), e1, words_f 47 47 rfl w1 (by omega) k (by omega), Option.bind_some]
    unfold refNet
    have hsuf : (if w1.toList = ([] : List UInt8) then (some (false, 0, 0, 0, 0, 0, (⟨#[]⟩ : ByteArray), 0, 0, 120) : Option (Bool × Int × Int × Int × Int × Int × ByteArray × Int × Int × Int)) else ((refRule.f al 0 0 0 0 0 w1 lo hi).bind fun t174 => (if t174 = true then (some (al, 0, 0, 0, 0, 0, w1, lo, hi, 0)) else (some (false, 0, 0, 0, 0, 0, (⟨#[]⟩ : ByteArray), 0, 0, 120))))) =
        some (ppTup ((if w1.size = 0 then none else (some ⟨al, ⟨0, 0, 0, 0⟩, 0, w1, lo, hi⟩ : Option S37)).filter rightB)) := by
      by_cases h0 : w1.size = 0
      · rw [if_pos h0, if_pos (by rw [ByteArray.toList_eq, size_nil h0])]; rfl
      · rw [if_neg h0, if_neg (fun e => h0 (by have := size_zero w1; rw [e] at this; simpa using this.symm))]
        rw [show refRule.f al 0 0 0 0 0 w1 lo hi = some (rightB ⟨al, ⟨0, 0, 0, 0⟩, 0, w1, lo, hi⟩) by unfold refRule.f; rw [if_pos ⟨z8, z8, z8, z8, by omega⟩], Option.bind_some, Option.filter_some]
        cases rightB ⟨al, ⟨0, 0, 0, 0⟩, 0, w1, lo, hi⟩ <;> rfl
    generalize cutW 47 w1.data.toList ⟨#[]⟩ = P
    match P with
    | [x, y] =>
      have ex : rdOf ByteArray.empty [x, y] 0 = x := rfl
      have ey : rdOf ByteArray.empty [x, y] 1 = y := rfl
      rw [if_pos (by simp), if_pos (by simp), ex]
      unfold refPA.f
      rw [Option.bind_some, if_pos (by simp), ey, show sallyportbase_Whole.f k y 2 = some (wholeV y.data.toList 2) from whole_f y 2 k (by decide) (by omega), Option.bind_some]
      obtain ⟨k, rfl⟩ : ∃ j, k = j + 1 := ⟨k - 1, by omega⟩
      cases hr : rpaRes x with
      | inl ac =>
        obtain ⟨a, c⟩ := ac
        simp only []
        rw [if_pos (by decide), j3_f k _ true al ⟨#[]⟩ lo hi 0 0 0 0 _ _ _ _ _ ⟨z8, z8, z8, z8⟩ (by decide)]
        rw [hr]; rfl
      | inr l =>
        simp only []
        rw [if_neg (by decide), j3_f k _ _ al ⟨#[]⟩ lo hi _ _ _ _ _ _ _ _ _ (rpa_bytes x l hr) (by decide)]
        rw [hr]
        cases (wholeV y.data.toList 2).2 <;> rfl
    | [] => rw [if_neg (by decide)]; exact hsuf
    | [x] => rw [if_neg (by simp)]; exact hsuf
    | x :: y :: z :: t => rw [if_neg (by simp only [List.length_cons]; omega)]; exact hsuf
  · rfl
def netC (al : Bool) (c1 : List UInt8 × List UInt8 × Bool) (w1 : ByteArray) (lo hi : Int) : Option S37 :=
  if c1.2.2 then match paRes ⟨c1.1.toArray⟩ with
    | .inl _ => none
    | .inr l => if numOkP c1.2.1 then some ⟨al, ⟨l.getD 0 0, l.getD 1 0, l.getD 2 0, l.getD 3 0⟩, atoiV c1.2.1, ⟨#[]⟩, lo, hi⟩ else none
  else if w1.size = 0 then none else some ⟨al, ⟨0, 0, 0, 0⟩, 0, w1, lo, hi⟩
theorem ruleC_net (al : Bool) (c2 c1 : List UInt8 × List UInt8 × Bool) (w1 : ByteArray) : ruleC al c2 c1 w1 = netC al c1 w1 (atoiV c2.1) (if c2.2.2 then atoiV c2.2.1 else atoiV c2.1) := rfl
theorem rpa_inl (s : ByteArray) (x : Int × Int) (h : paRes s = .inl x) : ∃ y, rpaRes s = .inl y := by
  cases hr : rpaRes s with
  | inl y => exact ⟨y, rfl⟩
  | inr l => rw [rpa_pa s l hr] at h; cases h
theorem num_free (l : List UInt8) (h : numOkP l = true) (c : UInt8) (hc : c.toNat < 48) : c ∉ l := by
  obtain ⟨h1, h2⟩ := numP_back l h
  rw [← h1]
  exact itoa_not _ h2 c hc
theorem net_eq (al : Bool) (w1 : ByteArray) (lo hi : Int) (hz : w1.size ≤ 285) : refNet al w1 lo hi = (netC al (Lib.cut w1.data.toList [47]) w1 lo hi).filter rightB := by
  unfold refNet netC
  rcases cut_split 47 w1.data.toList with ⟨hn, hcut⟩ | ⟨a, b, hl, hn, hcut⟩
  · rw [hcut, cutW_one 47 w1 hn]
    rfl
  · rw [hcut]
    simp only [if_true]
    by_cases hb : (47 : UInt8) ∈ b
    · obtain ⟨q, r, t, e⟩ := cutW_more 47 a b hn hb
      rw [hl, e]
      have hne : ¬ w1.size = 0 := fun h0 => by
        have := congrArg List.length hl
        rw [← Lib.size_eq, h0] at this
        simp at this
      have hbad : rightB ⟨al, ⟨0, 0, 0, 0⟩, 0, w1, lo, hi⟩ = false := by
        cases hr : rightB ⟨al, ⟨0, 0, 0, 0⟩, 0, w1, lo, hi⟩
        · rfl
        · have := ((right_facts ⟨al, ⟨0, 0, 0, 0⟩, 0, w1, lo, hi⟩ (by show w1.size ≤ _; omega) hr).2.2.2.2 hne).1
          exact absurd (by rw [hl]; simp [hb]) (name_free w1 hne this).2
      have hnum : numOkP b = false := by
        cases hr : numOkP b
        · rfl
        · exact absurd hb (num_free b hr 47 (by decide))
      simp only [if_neg hne, Option.filter_some, hbad, hnum]
      cases paRes ⟨a.toArray⟩ <;> rfl
    · rw [hl, cutW_two 47 a b hn hb]
      simp only []
      cases hp : paRes ⟨a.toArray⟩ with
      | inl x =>
        obtain ⟨y, hy⟩ := rpa_inl _ x hp
        rw [hy]
      | inr l =>
        rw [pa_rpa _ l hp]
        simp only []
        cases hw : (wholeV b 2).2
        · cases hnum : numOkP b
          · rfl
          · simp only [Bool.false_eq_true, if_false, if_true, Option.filter_none, Option.filter_some]
            have hbad : rightB ⟨al, ⟨l.getD 0 0, l.getD 1 0, l.getD 2 0, l.getD 3 0⟩, atoiV b, ⟨#[]⟩, lo, hi⟩ = false := by
              cases hr : rightB ⟨al, ⟨l.getD 0 0, l.getD 1 0, l.getD 2 0, l.getD 3 0⟩, atoiV b, ⟨#[]⟩, lo, hi⟩
              · rfl
              · have := ((right_facts ⟨al, ⟨l.getD 0 0, l.getD 1 0, l.getD 2 0, l.getD 3 0⟩, atoiV b, ⟨#[]⟩, lo, hi⟩ (show (0 : Nat) ≤ 281474976710656 by decide) hr).2.2.2.1 rfl).2
                rw [num_wholeV b 2 (by decide) hnum (by show atoiV b < ((10 ^ 2 : Nat) : Int); have : atoiV b ≤ 32 := this; omega)] at hw
                cases hw
            rw [hbad]; rfl
        · obtain ⟨h1, h2⟩ := wholeV_num b 2 hw (by decide)
          rw [h1, h2]
def refRule3 (al : Bool) (w1 w2 : ByteArray) : Option S37 := match cutW 45 w2.data.toList ⟨#[]⟩ with
  | [x] => if (wholeV x.data.toList 5).2 then refNet al w1 (wholeV x.data.toList 5).1 (wholeV x.data.toList 5).1 else none
  | [x, y] => if (wholeV x.data.toList 5).2 && ((wholeV y.data.toList 5).2 && ((wholeV y.data.toList 5).1 != (wholeV x.data.toList 5).1)) then refNet al w1 (wholeV x.data.toList 5).1 (wholeV y.data.toList 5).1 else none
  | _ => none
theorem netC_parts (al : Bool) (c1 : List UInt8 × List UInt8 × Bool) (w1 : ByteArray) (lo hi : Int) (r : S37) (hz : w1.size ≤ 285) (h : netC al c1 w1 lo hi = some r) : r.f4 = lo ∧ r.f5 = hi ∧ r.f3.size ≤ 281474976710656 := by
  unfold netC at h
  split at h
  · split at h
    · cases h
    · split at h
      · cases h; exact ⟨rfl, rfl, (show (0 : Nat) ≤ 281474976710656 by decide)⟩
      · cases h
  · split at h
    · cases h
    · cases h; exact ⟨rfl, rfl, Nat.le_trans hz (by decide)⟩
theorem ref_rule (al : Bool) (w1 w2 : ByteArray) (hz : w1.size ≤ 285) : refRule3 al w1 w2 = ruleOf al w1 w2 := by
  unfold refRule3 ruleOf
  rw [ruleC_net]
  have big : ∀ (l : List UInt8), numOkP l = true → atoiV l ≤ 65535 → wholeV l 5 = (atoiV l, true) := fun l h hv => num_wholeV l 5 (by decide) h (by show atoiV l < ((10 ^ 5 : Nat) : Int); omega)
  rcases cut_split 45 w2.data.toList with ⟨hn, hcut⟩ | ⟨a, b, hl, hn, hcut⟩
  · rw [hcut, cutW_one 45 w2 hn]
    simp only [Bool.false_eq_true, if_false, Bool.true_and]
    cases hw : (wholeV w2.data.toList 5).2
    · simp only [Bool.false_eq_true, if_false]
      symm
      rw [Option.filter_eq_none_iff]
      intro r hr hh
      rw [Bool.and_eq_true] at hh
      obtain ⟨p4, p5, p3⟩ := netC_parts _ _ _ _ _ r hz hr
      have hf := right_facts r p3 hh.2
      rw [big _ hh.1 (by rw [← p4]; omega)] at hw
      cases hw
    · obtain ⟨h1, h2⟩ := wholeV_num _ 5 hw (by decide)
      simp only [if_true, h1, Bool.true_and]
      rw [← h2, net_eq al w1 _ _ hz]
  · rw [hcut, hl]
    simp only [if_true]
    by_cases hb : (45 : UInt8) ∈ b
    · obtain ⟨q, r, t, e⟩ := cutW_more 45 a b hn hb
      rw [e]
      have hnum : numOkP b = false := by
        cases hr : numOkP b
        · rfl
        · exact absurd hb (num_free b hr 45 (by decide))
      simp only [hnum, Bool.false_and, Bool.and_false]
      symm
      rw [Option.filter_eq_none_iff]
      intro r _ hh
      cases hh
    · rw [cutW_two 45 a b hn hb]
      have ea : (⟨a.toArray⟩ : ByteArray).data.toList = a := rfl
      have eb : (⟨b.toArray⟩ : ByteArray).data.toList = b := rfl
      simp only [ea, eb]
      cases hw : ((wholeV a 5).2 && ((wholeV b 5).2 && ((wholeV b 5).1 != (wholeV a 5).1)))
      · simp only [Bool.false_eq_true, if_false]
        symm
        rw [Option.filter_eq_none_iff]
        intro r hr hh
        simp only [Bool.and_eq_true] at hh
        obtain ⟨p4, p5, p3⟩ := netC_parts _ _ _ _ _ r hz hr
        have hf := right_facts r p3 hh.2.2
        rw [big a hh.1 (by rw [← p4]; omega), big b hh.2.1.1 (by rw [← p5]; omega)] at hw
        have := hh.2.1.2
        rw [p4, p5] at this
        simp only [Bool.true_and] at hw
        rw [hw] at this
        cases this
      · simp only [Bool.and_eq_true] at hw
        obtain ⟨h1, h2⟩ := wholeV_num a 5 hw.1 (by decide)
        obtain ⟨h3, h4⟩ := wholeV_num b 5 hw.2.1 (by decide)
        simp only [if_true, h1, h3, Bool.true_and]
        rw [net_eq al w1 _ _ hz, ← h2, ← h4]
        refine Option.ext fun r => ?_
        simp only [Option.filter_eq_some_iff, Bool.and_eq_true]
        constructor
        · rintro ⟨x, y⟩
          obtain ⟨p4, p5, -⟩ := netC_parts _ _ _ _ _ r hz x
          exact ⟨x, by rw [p4, p5, h2, h4]; exact hw.2.2, y⟩
        · rintro ⟨x, -, y⟩
          exact ⟨x, y⟩
end Go.Proofs.YteondnhokgmakaaGreatDoor.E
