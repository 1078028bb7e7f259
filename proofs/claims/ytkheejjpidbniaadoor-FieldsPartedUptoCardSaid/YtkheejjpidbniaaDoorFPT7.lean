/- FieldsParted, the second form: the fields of any list of up to 2^20 fields are parted in two, hop fields and kept ones, in order, and keeping again changes nothing -/
import Derived.Test.YtkheejjpidbniaaDoorFPT5
import Derived.Test.YtkheejjpidbniaaDoorFPT6
import Derived.Test.YtkheejjpidbniaaDoorFPT2
import Derived.Test.YtkheejjpidbniaaDoorRows
import Derived.Deep.Slices
import Derived.Deep.Fields
import Derived.ChangeSame
import Derived.SizedLaws
import Derived.OpenShut
import Derived.Stop.LaidErr
import Derived.Lib.LaidTab
import Derived.Deep.DeepHandedRow
import Derived.Lay
import Derived.Stop.Joined
import Derived.Test.YtkheejjpidbniaaDoorCards
import Derived.Test.YtkheejjpidbniaaDoorTie
import Derived.WalkKit
import Derived.ProofKit
import Derived.ShutString
import Derived.MakeChecks
import Derived.Carry


namespace Go.Proofs.YtkheejjpidbniaaDoor.XL
open Go.Proofs.YtkheejjpidbniaaDoor.XK Go.Proofs.YtkheejjpidbniaaDoor.XA
open Go.RowKit Go.Proofs.YtkheejjpidbniaaDoorW.PrintWords Go.Proofs.YtkheejjpidbniaaDoorW.PrintLast Go.Proofs.YtkheejjpidbniaaDoorW.PrintMore
attribute [local go_sem] max2_int min2_int max_two min_two max_three min_three max_four min_four
set_option linter.unusedVariables false
set_option linter.unusedSimpArgs false
attribute [local go_sem high] eqA24
mutual
def sallyportlaw13_FieldsParted.j0 : Nat → List (S24) → List (S24) → Int → List (S24) → Int → Bool → Option (Bool)
 | 0, _, _, _, _, _, _ => none
 | k + 1, x0, x3, x4, x5, x6, x28 => if x28 = true then (if x4 = x6 then (if (x0.length : Int) > 64 then (some ((wrap64 ((x3.length : Int) + (x5.length : Int))) == 0)) else (some false)) else (some false)) else (if (wrap64 ((x3.length : Int) + (x5.length : Int))) = (x0.length : Int) then (sallyportlaw13_FieldsParted.l0 k x0 x3 x5 0 0 0) else (some false))
def sallyportlaw13_FieldsParted.l0 : Nat → List (S24) → List (S24) → List (S24) → Int → Int → Int → Option (Bool)
 | 0, _, _, _, _, _, _ => none
 | k + 1, x0, x3, x5, x7, x8, x9 => if x9 < (x0.length : Int) then (if x7 < (x3.length : Int) then (if 0 ≤ x7 then (if 0 ≤ x9 then (if ((((rd_T24 x3 x7).f0).toList) == (((rd_T24 x0 x9).f0).toList) && ((((rd_T24 x3 x7).f1).toList) == (((rd_T24 x0 x9).f1).toList))) = true then (if x8 ≥ (x5.length : Int) then (sallyportlaw13_FieldsParted.j2 k x0 x3 x5 x7 x8 x9 true) else (if 0 ≤ x8 then (if x8 < (x5.length : Int) then (sallyportlaw13_FieldsParted.j2 k x0 x3 x5 x7 x8 x9 (!((((rd_T24 x5 x8).f0).toList) == (((rd_T24 x0 x9).f0).toList)) || (!((((rd_T24 x5 x8).f1).toList) == (((rd_T24 x0 x9).f1).toList))))) else (none)) else (none))) else (sallyportlaw13_FieldsParted.j2 k x0 x3 x5 x7 x8 x9 false)) else (none)) else (none)) else (sallyportlaw13_FieldsParted.j2 k x0 x3 x5 x7 x8 x9 false)) else ((E.Keep.f x5).bind fun bt157 => (if bt157.2 = 0 then ((XK.sallyportbase_SameFields.f k x5 bt157.1).bind fun t161 => (some t161)) else (some false)))
def sallyportlaw13_FieldsParted.j2 : Nat → List (S24) → List (S24) → List (S24) → Int → Int → Int → Bool → Option (Bool)
 | 0, _, _, _, _, _, _, _ => none
 | k + 1, x0, x3, x5, x7, x8, x9, x59 => if x59 = true then (sallyportlaw13_FieldsParted.l0 k x0 x3 x5 (wrap64 (x7 + 1)) x8 (wrap64 (x9 + 1))) else (if x8 < (x5.length : Int) then (if 0 ≤ x8 then (if 0 ≤ x9 then (if x9 < (x0.length : Int) then (if ((((rd_T24 x5 x8).f0).toList) == (((rd_T24 x0 x9).f0).toList) && ((((rd_T24 x5 x8).f1).toList) == (((rd_T24 x0 x9).f1).toList))) = true then (sallyportlaw13_FieldsParted.l0 k x0 x3 x5 x7 (wrap64 (x8 + 1)) (wrap64 (x9 + 1))) else (some false)) else (none)) else (none)) else (none)) else (some false))
end
def sallyportlaw13_FieldsParted.f (k : Nat) (l0 : List (S24)) : Option (Bool) := (sallyportlaw13_works.f k).bind fun t148 => (if t148 = true then ((E.Hops.f l0).bind fun bt149 => ((E.Keep.f l0).bind fun bt153 => (if bt149.2 = 0 then (sallyportlaw13_FieldsParted.j0 k l0 bt149.1 bt149.2 bt153.1 bt153.2 (bt153.2 != 0)) else (sallyportlaw13_FieldsParted.j0 k l0 bt149.1 bt149.2 bt153.1 bt153.2 true)))) else (some false))
theorem sallyportlaw13_FieldsParted.mono_l : ∀ k, (∀ y0 y1 y2 y3 y4 y5, LeO (sallyportlaw13_FieldsParted.j0 k y0 y1 y2 y3 y4 y5) (sallyportlaw13_FieldsParted.j0 (k + 1) y0 y1 y2 y3 y4 y5)) ∧ (∀ y0 y1 y2 y3 y4 y5, LeO (sallyportlaw13_FieldsParted.l0 k y0 y1 y2 y3 y4 y5) (sallyportlaw13_FieldsParted.l0 (k + 1) y0 y1 y2 y3 y4 y5)) ∧ (∀ y0 y1 y2 y3 y4 y5 y6, LeO (sallyportlaw13_FieldsParted.j2 k y0 y1 y2 y3 y4 y5 y6) (sallyportlaw13_FieldsParted.j2 (k + 1) y0 y1 y2 y3 y4 y5 y6))
 | 0 => ⟨fun _ _ _ _ _ _ r h => by simp [sallyportlaw13_FieldsParted.j0] at h, fun _ _ _ _ _ _ r h => by simp [sallyportlaw13_FieldsParted.l0] at h, fun _ _ _ _ _ _ _ r h => by simp [sallyportlaw13_FieldsParted.j2] at h⟩
 | k + 1 => by
  obtain ⟨ih0, ih1, ih2⟩ := sallyportlaw13_FieldsParted.mono_l k
  refine ⟨?_, ?_, ?_⟩
  ·intro y0 y1 y2 y3 y4 y5
   unfold sallyportlaw13_FieldsParted.j0
   repeat' first
   | (with_reducible exact ih0 _ _ _ _ _ _)
   | (with_reducible exact ih1 _ _ _ _ _ _)
   | (with_reducible exact ih2 _ _ _ _ _ _ _)
   | (with_reducible exact XK.sallyportbase_SameFields.mono _ _ _)
   | (with_reducible exact sallyportlaw13_works.mono _)
   | (with_reducible exact LeO.refl _)
   | (with_reducible exact LeO.none _)
   | (with_reducible refine LeO.ite ?_ ?_)
   | (with_reducible refine LeO.bind ?_ (fun _ => ?_))
   | exact ih0 _ _ _ _ _ _
   | exact ih1 _ _ _ _ _ _
   | exact ih2 _ _ _ _ _ _ _
   | exact XK.sallyportbase_SameFields.mono _ _ _
   | exact sallyportlaw13_works.mono _
   | exact LeO.none _
   | refine LeO.ite ?_ ?_
   | refine LeO.bind ?_ (fun _ => ?_)
  ·intro y0 y1 y2 y3 y4 y5
   unfold sallyportlaw13_FieldsParted.l0
   repeat' first
   | (with_reducible exact ih0 _ _ _ _ _ _)
   | (with_reducible exact ih1 _ _ _ _ _ _)
   | (with_reducible exact ih2 _ _ _ _ _ _ _)
   | (with_reducible exact XK.sallyportbase_SameFields.mono _ _ _)
   | (with_reducible exact sallyportlaw13_works.mono _)
   | (with_reducible exact LeO.refl _)
   | (with_reducible exact LeO.none _)
   | (with_reducible refine LeO.ite ?_ ?_)
   | (with_reducible refine LeO.bind ?_ (fun _ => ?_))
   | exact ih0 _ _ _ _ _ _
   | exact ih1 _ _ _ _ _ _
   | exact ih2 _ _ _ _ _ _ _
   | exact XK.sallyportbase_SameFields.mono _ _ _
   | exact sallyportlaw13_works.mono _
   | exact LeO.none _
   | refine LeO.ite ?_ ?_
   | refine LeO.bind ?_ (fun _ => ?_)
  ·intro y0 y1 y2 y3 y4 y5 y6
   unfold sallyportlaw13_FieldsParted.j2
   repeat' first
   | (with_reducible exact ih0 _ _ _ _ _ _)
   | (with_reducible exact ih1 _ _ _ _ _ _)
   | (with_reducible exact ih2 _ _ _ _ _ _ _)
   | (with_reducible exact XK.sallyportbase_SameFields.mono _ _ _)
   | (with_reducible exact sallyportlaw13_works.mono _)
   | (with_reducible exact LeO.refl _)
   | (with_reducible exact LeO.none _)
   | (with_reducible refine LeO.ite ?_ ?_)
   | (with_reducible refine LeO.bind ?_ (fun _ => ?_))
   | exact ih0 _ _ _ _ _ _
   | exact ih1 _ _ _ _ _ _
   | exact ih2 _ _ _ _ _ _ _
   | exact XK.sallyportbase_SameFields.mono _ _ _
   | exact sallyportlaw13_works.mono _
   | exact LeO.none _
   | refine LeO.ite ?_ ?_
   | refine LeO.bind ?_ (fun _ => ?_)
theorem sallyportlaw13_FieldsParted.mono : ∀ a0 k, LeO (sallyportlaw13_FieldsParted.f k a0) (sallyportlaw13_FieldsParted.f (k + 1) a0) := by
 intro a0 k
 obtain ⟨ih0, ih1, ih2⟩ := sallyportlaw13_FieldsParted.mono_l k
 unfold sallyportlaw13_FieldsParted.f
 repeat' first
   | (with_reducible exact ih0 _ _ _ _ _ _)
   | (with_reducible exact ih1 _ _ _ _ _ _)
   | (with_reducible exact ih2 _ _ _ _ _ _ _)
   | (with_reducible exact XK.sallyportbase_SameFields.mono _ _ _)
   | (with_reducible exact sallyportlaw13_works.mono _)
   | (with_reducible exact LeO.refl _)
   | (with_reducible exact LeO.none _)
   | (with_reducible refine LeO.ite ?_ ?_)
   | (with_reducible refine LeO.bind ?_ (fun _ => ?_))
   | exact ih0 _ _ _ _ _ _
   | exact ih1 _ _ _ _ _ _
   | exact ih2 _ _ _ _ _ _ _
   | exact XK.sallyportbase_SameFields.mono _ _ _
   | exact sallyportlaw13_works.mono _
   | exact LeO.none _
   | refine LeO.ite ?_ ?_
   | refine LeO.bind ?_ (fun _ => ?_)
set_option maxHeartbeats 8000000 in
set_option maxRecDepth 100000 in
theorem sallyportlaw13_FieldsParted.calls (k : Nat) (A0 : Option Addr) (c0 : Nat) (l0 : List (S24)) (r : Bool) (w : World) (hr0 : Kd.C k24 w A0 l0.length l0) (hc0 : l0.length ≤ c0) (hS_ : StdW w) (h : sallyportlaw13_FieldsParted.f k l0 = some r) :
  Calls Tryd.prog 4 #[.slice A0 l0.length c0] w fun e w' => e = .returned (.bool r) ∧ Below w.heap.size w w' := by
 have hu24 := Tryd.underlying24
 have HR0 := Aside0.mk hr0
 have HC0 := Aside0.mk hc0
 clear hr0 hc0
 have HS_ := Aside0.mk hS_
 clear hS_
 have HB := Aside0.mk (Below.refl w.heap.size w)
 have H : ((sallyportlaw13_works.f k).bind fun t148 => (if t148 = true then ((E.Hops.f l0).bind fun bt149 => ((E.Keep.f l0).bind fun bt153 => (if bt149.2 = 0 then (sallyportlaw13_FieldsParted.j0 k l0 bt149.1 bt149.2 bt153.1 bt153.2 (bt153.2 != 0)) else (sallyportlaw13_FieldsParted.j0 k l0 bt149.1 bt149.2 bt153.1 bt153.2 true)))) else (some false))) = some r := h
 clear h
 replace H := Option.bind_eq_some_iff.mp H
 obtain ⟨t148, A20, H⟩ := H
 replace H : (if t148 = true then ((E.Hops.f l0).bind fun bt149 => ((E.Keep.f l0).bind fun bt153 => (if bt149.2 = 0 then (sallyportlaw13_FieldsParted.j0 k l0 bt149.1 bt149.2 bt153.1 bt153.2 (bt153.2 != 0)) else (sallyportlaw13_FieldsParted.j0 k l0 bt149.1 bt149.2 bt153.1 bt153.2 true)))) else (some false)) = some r := H
 have A2 := Aside0.mk A20
 clear A20
 by_cases c3 : t148 = true
 ·subst c3
  have H1 : ((E.Hops.f l0).bind fun bt149 => ((E.Keep.f l0).bind fun bt153 => (if bt149.2 = 0 then (sallyportlaw13_FieldsParted.j0 k l0 bt149.1 bt149.2 bt153.1 bt153.2 (bt153.2 != 0)) else (sallyportlaw13_FieldsParted.j0 k l0 bt149.1 bt149.2 bt153.1 bt153.2 true)))) = some r := by rw [if_pos rfl] at H; exact H
  clear H
  have H := H1
  clear H1
  replace H := Option.bind_eq_some_iff.mp H
  obtain ⟨⟨t149, t150⟩, A40, H⟩ := H
  replace H : ((E.Keep.f l0).bind fun bt153 => (if t150 = 0 then (sallyportlaw13_FieldsParted.j0 k l0 t149 t150 bt153.1 bt153.2 (bt153.2 != 0)) else (sallyportlaw13_FieldsParted.j0 k l0 t149 t150 bt153.1 bt153.2 true))) = some r := H
  have A4 := Aside0.mk A40
  clear A40
  replace H := Option.bind_eq_some_iff.mp H
  obtain ⟨⟨t153, t154⟩, A50, H⟩ := H
  replace H : (if t150 = 0 then (sallyportlaw13_FieldsParted.j0 k l0 t149 t150 t153 t154 (t154 != 0)) else (sallyportlaw13_FieldsParted.j0 k l0 t149 t150 t153 t154 true)) = some r := H
  have A5 := Aside0.mk A50
  clear A50
  have HC6 := Aside0.mk H
  clear H
  go_enter Tryd.func4, Tryd.ntmps4
  go_upto_region 5 with (first | (go_at_call 5; (with_reducible refine (sallyportlaw13_works.calls k  true _ ?side1 A2.out).mono ?_); (case side1 => exact StdW.below HS_.out (by repeat (first | (with_reducible first | exact HB.out | apply below_alloc | apply pw_below_drewN | apply below_drew1) | exact HB.out))); rintro e w7 ⟨rfl, hb⟩; have n0_ := Aside0.mk (below_step (by repeat (first | (with_reducible first | exact HB.out | apply below_alloc | apply pw_below_drewN | apply below_drew1) | exact HB.out)) hb); clear HB; have HB := n0_; clear n0_; (try clear hb); (try clear hb2); (try clear hk); (try clear hi)) | (go_at_call 10; (with_reducible refine (E.Hops.calls _ _ l0 t149 t150 _ ?side1 ?side2 ?side3 A4.out).mono ?_); (case side1 => repeat (first | exact (Kd.C_below HR0.out HB.out) | (with_reducible refine Kd.C_alloc ?_ _) | (with_reducible refine Kd.C_drewN ?_ _) | (with_reducible refine Kd.C_drew ?_))); (case side2 => exact HC0.out); (case side3 => exact StdW.below HS_.out (by repeat (first | (with_reducible first | exact HB.out | apply below_alloc | apply pw_below_drewN | apply below_drew1) | exact HB.out))); rintro e w8 ⟨v151, rfl, ho0, hb⟩; have n0_ := Aside0.mk (Kd.R_lower ho0 (below_size (by repeat (first | (with_reducible first | exact HB.out | apply below_alloc | apply pw_below_drewN | apply below_drew1) | exact HB.out)))); have n1_ := Aside0.mk (below_step (by repeat (first | (with_reducible first | exact HB.out | apply below_alloc | apply pw_below_drewN | apply below_drew1) | exact HB.out)) hb); clear HB; have HO152 := n0_; have HB := n1_; clear n0_ n1_; (try clear hb); (try clear hb2); (try clear hk); (try clear hi); (try clear ho0)) | (go_at_call 11; (with_reducible refine (E.Keep.calls _ _ l0 t153 t154 _ ?side1 ?side2 ?side3 A5.out).mono ?_); (case side1 => repeat (first | exact (Kd.C_below HR0.out HB.out) | (with_reducible refine Kd.C_alloc ?_ _) | (with_reducible refine Kd.C_drewN ?_ _) | (with_reducible refine Kd.C_drew ?_))); (case side2 => exact HC0.out); (case side3 => exact StdW.below HS_.out (by repeat (first | (with_reducible first | exact HB.out | apply below_alloc | apply pw_below_drewN | apply below_drew1) | exact HB.out))); rintro e w9 ⟨v155, rfl, ho0, hb⟩; have n0_ := Aside0.mk (Kd.R_elder' (by (with_reducible repeat (first | apply Kd.R_alloc | apply Kd.R_drewN | apply Kd.R_drew)); exact HO152.out) (Kd.R_base ho0) hb); have n1_ := Aside0.mk (Kd.R_lower (Kd.R_new' ho0 (Kd.R_lt (by (with_reducible repeat (first | apply Kd.R_alloc | apply Kd.R_drewN | apply Kd.R_drew)); exact HO152.out))) (below_size (by repeat (first | (with_reducible first | exact HB.out | apply below_alloc | apply pw_below_drewN | apply below_drew1) | exact HB.out)))); have n2_ := Aside0.mk (below_step (by repeat (first | (with_reducible first | exact HB.out | apply below_alloc | apply pw_below_drewN | apply below_drew1) | exact HB.out)) hb); clear HO152; clear HB; have HO152 := n0_; have HO156 := n1_; have HB := n2_; clear n0_ n1_ n2_; (try clear hb); (try clear hb2); (try clear hk); (try clear hi); (try clear ho0)))
  repeat (go_quiet (first | (go_at_call 5; (with_reducible refine (sallyportlaw13_works.calls k  true _ ?side1 A2.out).mono ?_); (case side1 => exact StdW.below HS_.out (by repeat (first | (with_reducible first | exact HB.out | apply below_alloc | apply pw_below_drewN | apply below_drew1) | exact HB.out))); rintro e w7 ⟨rfl, hb⟩; have n0_ := Aside0.mk (below_step (by repeat (first | (with_reducible first | exact HB.out | apply below_alloc | apply pw_below_drewN | apply below_drew1) | exact HB.out)) hb); clear HB; have HB := n0_; clear n0_; (try clear hb); (try clear hb2); (try clear hk); (try clear hi)) | (go_at_call 10; (with_reducible refine (E.Hops.calls _ _ l0 t149 t150 _ ?side1 ?side2 ?side3 A4.out).mono ?_); (case side1 => repeat (first | exact (Kd.C_below HR0.out HB.out) | (with_reducible refine Kd.C_alloc ?_ _) | (with_reducible refine Kd.C_drewN ?_ _) | (with_reducible refine Kd.C_drew ?_))); (case side2 => exact HC0.out); (case side3 => exact StdW.below HS_.out (by repeat (first | (with_reducible first | exact HB.out | apply below_alloc | apply pw_below_drewN | apply below_drew1) | exact HB.out))); rintro e w8 ⟨v151, rfl, ho0, hb⟩; have n0_ := Aside0.mk (Kd.R_lower ho0 (below_size (by repeat (first | (with_reducible first | exact HB.out | apply below_alloc | apply pw_below_drewN | apply below_drew1) | exact HB.out)))); have n1_ := Aside0.mk (below_step (by repeat (first | (with_reducible first | exact HB.out | apply below_alloc | apply pw_below_drewN | apply below_drew1) | exact HB.out)) hb); clear HB; have HO152 := n0_; have HB := n1_; clear n0_ n1_; (try clear hb); (try clear hb2); (try clear hk); (try clear hi); (try clear ho0)) | (go_at_call 11; (with_reducible refine (E.Keep.calls _ _ l0 t153 t154 _ ?side1 ?side2 ?side3 A5.out).mono ?_); (case side1 => repeat (first | exact (Kd.C_below HR0.out HB.out) | (with_reducible refine Kd.C_alloc ?_ _) | (with_reducible refine Kd.C_drewN ?_ _) | (with_reducible refine Kd.C_drew ?_))); (case side2 => exact HC0.out); (case side3 => exact StdW.below HS_.out (by repeat (first | (with_reducible first | exact HB.out | apply below_alloc | apply pw_below_drewN | apply below_drew1) | exact HB.out))); rintro e w9 ⟨v155, rfl, ho0, hb⟩; have n0_ := Aside0.mk (Kd.R_elder' (by (with_reducible repeat (first | apply Kd.R_alloc | apply Kd.R_drewN | apply Kd.R_drew)); exact HO152.out) (Kd.R_base ho0) hb); have n1_ := Aside0.mk (Kd.R_lower (Kd.R_new' ho0 (Kd.R_lt (by (with_reducible repeat (first | apply Kd.R_alloc | apply Kd.R_drewN | apply Kd.R_drew)); exact HO152.out))) (below_size (by repeat (first | (with_reducible first | exact HB.out | apply below_alloc | apply pw_below_drewN | apply below_drew1) | exact HB.out)))); have n2_ := Aside0.mk (below_step (by repeat (first | (with_reducible first | exact HB.out | apply below_alloc | apply pw_below_drewN | apply below_drew1) | exact HB.out)) hb); clear HO152; clear HB; have HO152 := n0_; have HO156 := n1_; have HB := n2_; clear n0_ n1_ n2_; (try clear hb); (try clear hb2); (try clear hk); (try clear hi); (try clear ho0))); go_upto_region 5 with (first | (go_at_call 5; (with_reducible refine (sallyportlaw13_works.calls k  true _ ?side1 A2.out).mono ?_); (case side1 => exact StdW.below HS_.out (by repeat (first | (with_reducible first | exact HB.out | apply below_alloc | apply pw_below_drewN | apply below_drew1) | exact HB.out))); rintro e w7 ⟨rfl, hb⟩; have n0_ := Aside0.mk (below_step (by repeat (first | (with_reducible first | exact HB.out | apply below_alloc | apply pw_below_drewN | apply below_drew1) | exact HB.out)) hb); clear HB; have HB := n0_; clear n0_; (try clear hb); (try clear hb2); (try clear hk); (try clear hi)) | (go_at_call 10; (with_reducible refine (E.Hops.calls _ _ l0 t149 t150 _ ?side1 ?side2 ?side3 A4.out).mono ?_); (case side1 => repeat (first | exact (Kd.C_below HR0.out HB.out) | (with_reducible refine Kd.C_alloc ?_ _) | (with_reducible refine Kd.C_drewN ?_ _) | (with_reducible refine Kd.C_drew ?_))); (case side2 => exact HC0.out); (case side3 => exact StdW.below HS_.out (by repeat (first | (with_reducible first | exact HB.out | apply below_alloc | apply pw_below_drewN | apply below_drew1) | exact HB.out))); rintro e w8 ⟨v151, rfl, ho0, hb⟩; have n0_ := Aside0.mk (Kd.R_lower ho0 (below_size (by repeat (first | (with_reducible first | exact HB.out | apply below_alloc | apply pw_below_drewN | apply below_drew1) | exact HB.out)))); have n1_ := Aside0.mk (below_step (by repeat (first | (with_reducible first | exact HB.out | apply below_alloc | apply pw_below_drewN | apply below_drew1) | exact HB.out)) hb); clear HB; have HO152 := n0_; have HB := n1_; clear n0_ n1_; (try clear hb); (try clear hb2); (try clear hk); (try clear hi); (try clear ho0)) | (go_at_call 11; (with_reducible refine (E.Keep.calls _ _ l0 t153 t154 _ ?side1 ?side2 ?side3 A5.out).mono ?_); (case side1 => repeat (first | exact (Kd.C_below HR0.out HB.out) | (with_reducible refine Kd.C_alloc ?_ _) | (with_reducible refine Kd.C_drewN ?_ _) | (with_reducible refine Kd.C_drew ?_))); (case side2 => exact HC0.out); (case side3 => exact StdW.below HS_.out (by repeat (first | (with_reducible first | exact HB.out | apply below_alloc | apply pw_below_drewN | apply below_drew1) | exact HB.out))); rintro e w9 ⟨v155, rfl, ho0, hb⟩; have n0_ := Aside0.mk (Kd.R_elder' (by (with_reducible repeat (first | apply Kd.R_alloc | apply Kd.R_drewN | apply Kd.R_drew)); exact HO152.out) (Kd.R_base ho0) hb); have n1_ := Aside0.mk (Kd.R_lower (Kd.R_new' ho0 (Kd.R_lt (by (with_reducible repeat (first | apply Kd.R_alloc | apply Kd.R_drewN | apply Kd.R_drew)); exact HO152.out))) (below_size (by repeat (first | (with_reducible first | exact HB.out | apply below_alloc | apply pw_below_drewN | apply below_drew1) | exact HB.out)))); have n2_ := Aside0.mk (below_step (by repeat (first | (with_reducible first | exact HB.out | apply below_alloc | apply pw_below_drewN | apply below_drew1) | exact HB.out)) hb); clear HO152; clear HB; have HO152 := n0_; have HO156 := n1_; have HB := n2_; clear n0_ n1_ n2_; (try clear hb); (try clear hb2); (try clear hk); (try clear hi); (try clear ho0))))
  (try simp only [Act.put, List.setIfInBounds_toArray, List.set_cons_zero, List.set_cons_succ])
  go_cut [28] (fun v28 wc => ∃ (kq : Nat) (x28_5 : Bool), v28 = .bool x28_5 ∧ Aside0 (sallyportlaw13_FieldsParted.j0 kq l0 t149 t150 t153 t154 x28_5 = some r) ∧ Aside0 (kq ≤ k) ∧ Aside0 (Kd.R k24 24 wc w.heap.size (fun k_ => some k_ ≠ (v155 : Value).ownBlock) v151 t149) ∧ Aside0 (Kd.R k24 24 wc w.heap.size (fun k_ => some k_ ≠ (v151 : Value).ownBlock) v155 t153) ∧ Aside0 (Below w.heap.size w wc))
  case first =>
   have H := HC6.out
   clear HC6
   by_cases c10 : t150 = 0
   ·rw [if_pos c10] at H
    have c10b0 : (t150 == 0) = true := beq_iff_eq.mpr c10
    have c10b1 : (t150 != 0) = false := bne_eq_false_iff_eq.mpr c10
    clear c10
    (first | rw [c10b0] | (simp only [i64_w, i32_w]; rw [c10b0]) | skip)
    have H' := Aside0.mk H
    clear H
    go_wp2
    repeat (go_quiet (fail); try go_wp2)
    go_meet
    case rel => exact ⟨_, ((t154 != 0)), (by first | rfl | (simp; done) | (simp [*]; done)), H', ⟨by first | omega | exact Nat.le_refl _⟩, ⟨by (with_reducible repeat (first | apply Kd.R_alloc | apply Kd.R_drewN | apply Kd.R_drew)); exact Kd.R_mono HO152.out (fun _ hk => hk.2)⟩, ⟨by (with_reducible repeat (first | apply Kd.R_alloc | apply Kd.R_drewN | apply Kd.R_drew)); exact Kd.R_mono HO156.out (fun _ hk => hk.2)⟩, ⟨by repeat (first | (with_reducible first | exact HB.out | apply below_alloc | apply pw_below_drewN | apply below_drew1) | exact HB.out)⟩⟩
   ·rw [if_neg c10] at H
    have c10b0 : (t150 == 0) = false := beq_eq_false_iff_ne.mpr c10
    have c10b1 : (t150 != 0) = true := bne_iff_ne.mpr c10
    (first | rw [c10b0] | (simp only [i64_w, i32_w]; rw [c10b0]) | skip)
    have H' := Aside0.mk H
    clear H
    go_wp2
    repeat (go_quiet (fail); try go_wp2)
    go_meet
    case rel => exact ⟨_, (true), (by first | rfl | (simp; done) | (simp [*]; done)), H', ⟨by first | omega | exact Nat.le_refl _⟩, ⟨by (with_reducible repeat (first | apply Kd.R_alloc | apply Kd.R_drewN | apply Kd.R_drew)); exact Kd.R_mono HO152.out (fun _ hk => hk.2)⟩, ⟨by (with_reducible repeat (first | apply Kd.R_alloc | apply Kd.R_drewN | apply Kd.R_drew)); exact Kd.R_mono HO156.out (fun _ hk => hk.2)⟩, ⟨by repeat (first | (with_reducible first | exact HB.out | apply below_alloc | apply pw_below_drewN | apply below_drew1) | exact HB.out)⟩⟩
  case rest =>
   clear HC6
   try clear c1
   try clear p2
   try clear c3
   try clear c4
   try clear c10
   try clear c10b0
   try clear c10b1
   obtain ⟨kq, x28_5, rfl, HA, HJ5, HO_3, HO_5, HB⟩ := hcut
   cases kq with
   | zero => exact absurd HA.out (by simp [sallyportlaw13_FieldsParted.j0])
   | succ kj5 =>
    have H := HA.out
    clear HA
    simp only [sallyportlaw13_FieldsParted.j0] at H
    by_cases c11 : x28_5 = true
    ·subst c11
     have H1 : (if t150 = t154 then (if (l0.length : Int) > 64 then (some ((wrap64 ((t149.length : Int) + (t153.length : Int))) == 0)) else (some false)) else (some false)) = some r := by rw [if_pos rfl] at H; exact H
     clear H
     have H := H1
     clear H1
     by_cases c12 : t150 = t154
     ·rw [if_pos c12] at H
      have c12b0 : (t150 == t154) = true := beq_iff_eq.mpr c12
      have c12b1 : (t150 != t154) = false := bne_eq_false_iff_eq.mpr c12
      clear c12
      by_cases c13 : (l0.length : Int) > 64
      ·rw [if_pos c13] at H
       have c13b0 : decide (64 < (l0.length : Int)) = true := decide_eq_true c13
       have c13b1 : decide (64 < l0.length) = true := decide_eq_true (by omega)
       clear c13
       obtain rfl := Option.some.inj H
       obtain ⟨Ao14, co14, eo14⟩ := Kd.R_slice HO_3.out
       subst eo14
       obtain ⟨Ao15, co15, eo15⟩ := Kd.R_slice HO_5.out
       subst eo15
       go_wp2
       repeat (go_quiet (fail); try go_wp2)
       go_ret
       exact ⟨by first | rfl | (simp [errW_none, errW_some] <;> rfl) | (simp [*, errW_none, errW_some] <;> rfl), by repeat (first | (with_reducible first | exact HB.out | apply below_alloc | apply pw_below_drewN | apply below_drew1) | exact HB.out)⟩
      ·rw [if_neg c13] at H
       have c13b0 : decide (64 < (l0.length : Int)) = false := decide_eq_false c13
       have c13b1 : decide (64 < l0.length) = false := decide_eq_false (by omega)
       clear c13
       obtain rfl := Option.some.inj H
       go_wp2
       repeat (go_quiet (fail); try go_wp2)
       go_ret
       exact ⟨by first | rfl | (simp [errW_none, errW_some] <;> rfl) | (simp [*, errW_none, errW_some] <;> rfl), by repeat (first | (with_reducible first | exact HB.out | apply below_alloc | apply pw_below_drewN | apply below_drew1) | exact HB.out)⟩
     ·rw [if_neg c12] at H
      have c12b0 : (t150 == t154) = false := beq_eq_false_iff_ne.mpr c12
      have c12b1 : (t150 != t154) = true := bne_iff_ne.mpr c12
      obtain rfl := Option.some.inj H
      go_wp2
      repeat (go_quiet (fail); try go_wp2)
      go_ret
      exact ⟨by first | rfl | (simp [errW_none, errW_some] <;> rfl) | (simp [*, errW_none, errW_some] <;> rfl), by repeat (first | (with_reducible first | exact HB.out | apply below_alloc | apply pw_below_drewN | apply below_drew1) | exact HB.out)⟩
    ·replace c11 := Bool.eq_false_iff.mpr c11
     subst c11
     have H1 : (if (wrap64 ((t149.length : Int) + (t153.length : Int))) = (l0.length : Int) then (sallyportlaw13_FieldsParted.l0 kj5 l0 t149 t153 0 0 0) else (some false)) = some r := by rw [if_neg (show ¬ (false = true) by decide)] at H; exact H
     clear H
     have H := H1
     clear H1
     by_cases c16 : (wrap64 ((t149.length : Int) + (t153.length : Int))) = (l0.length : Int)
     ·rw [if_pos c16] at H
      have c16b0 : ((wrap64 ((t149.length : Int) + (t153.length : Int))) == (l0.length : Int)) = true := beq_iff_eq.mpr c16
      have c16b1 : ((wrap64 ((t149.length : Int) + (t153.length : Int))) != (l0.length : Int)) = false := bne_eq_false_iff_eq.mpr c16
      clear c16
      have H' := Aside0.mk H
      clear H
      obtain ⟨Ao17, co17, eo17⟩ := Kd.R_slice HO_3.out
      subst eo17
      obtain ⟨Ao18, co18, eo18⟩ := Kd.R_slice HO_5.out
      subst eo18
      go_wp2
      repeat (go_quiet (fail); try go_wp2)
      go_loopg [7, 8, 9] kj5 (fun kq v7 v8 v9 w' => ∃ (x7_2 : Int) (x8_2 : Int) (x9_2 : Int), v7 = .int .i64 x7_2 ∧ v8 = .int .i64 x8_2 ∧ v9 = .int .i64 x9_2 ∧ Aside0 (sallyportlaw13_FieldsParted.l0 kq l0 t149 t153 x7_2 x8_2 x9_2 = some r) ∧ Aside0 (kq ≤ kj5) ∧ Aside0 (Kd.R k24 24 w' w.heap.size (fun k_ => some k_ ≠ ((.slice Ao18 t153.length co18) : Value).ownBlock) (.slice Ao17 t149.length co17) t149) ∧ Aside0 (Kd.R k24 24 w' w.heap.size (fun k_ => some k_ ≠ ((.slice Ao17 t149.length co17) : Value).ownBlock) (.slice Ao18 t153.length co18) t153) ∧ Aside0 (Below w.heap.size w w'))
      case atStart => exact ⟨(0), (0), (0), (by first | rfl | (simp; done) | (simp [*]; done)), (by first | rfl | (simp; done) | (simp [*]; done)), (by first | rfl | (simp; done) | (simp [*]; done)), H', ⟨Nat.le_refl _⟩, ⟨by (with_reducible repeat (first | apply Kd.R_alloc | apply Kd.R_drewN | apply Kd.R_drew)); exact HO_3.out⟩, ⟨by (with_reducible repeat (first | apply Kd.R_alloc | apply Kd.R_drewN | apply Kd.R_drew)); exact HO_5.out⟩, ⟨by repeat (first | (with_reducible first | exact HB.out | apply below_alloc | apply pw_below_drewN | apply below_drew1) | exact HB.out)⟩⟩
      case round =>
       clear H'
       try clear c1
       try clear p2
       try clear c3
       try clear c4
       try clear p6
       try clear c10
       try clear c10b0
       try clear c10b1
       try clear c11
       try clear c12
       try clear c12b0
       try clear c12b1
       try clear c13
       try clear c13b0
       try clear c13b1
       try clear c16
       try clear c16b0
       try clear c16b1
       try clear p2
       obtain ⟨x7_2, x8_2, x9_2, rfl, rfl, rfl, HA, HK2, HO_3, HO_5, HB⟩ := hrel
       cases gk with
       | zero => exact absurd HA.out (by simp [sallyportlaw13_FieldsParted.l0])
       | succ k2 =>
        have H := HA.out
        clear HA
        simp only [sallyportlaw13_FieldsParted.l0] at H
        by_cases c19 : x9_2 < (l0.length : Int)
        ·rw [if_pos c19] at H
         have c19b0 : decide (x9_2 < (l0.length : Int)) = true := decide_eq_true c19
         clear c19
         have HC20 := Aside0.mk H
         clear H
         go_upto_region 14 with (fail)
         repeat (go_quiet (fail); go_upto_region 14 with (fail))
         go_cut [59] (fun v59 wc => ∃ (kq : Nat) (x59_19 : Bool), v59 = .bool x59_19 ∧ Aside0 (sallyportlaw13_FieldsParted.j2 kq l0 t149 t153 x7_2 x8_2 x9_2 x59_19 = some r) ∧ Aside0 (kq ≤ k2) ∧ Aside0 (Kd.R k24 24 wc w.heap.size (fun k_ => some k_ ≠ ((.slice Ao18 t153.length co18) : Value).ownBlock) (.slice Ao17 t149.length co17) t149) ∧ Aside0 (Kd.R k24 24 wc w.heap.size (fun k_ => some k_ ≠ ((.slice Ao17 t149.length co17) : Value).ownBlock) (.slice Ao18 t153.length co18) t153) ∧ Aside0 (Below w.heap.size w wc))
         case first =>
          have H := HC20.out
          clear HC20
          by_cases c21 : x7_2 < (t149.length : Int)
          ·rw [if_pos c21] at H
           have c21b0 : decide (x7_2 < (t149.length : Int)) = true := decide_eq_true c21
           clear c21
           (first | rw [c21b0] | (simp only [i64_w, i32_w]; rw [c21b0]) | skip)
           by_cases c22 : 0 ≤ x7_2
           ·rw [if_pos c22] at H
            have c22b0 : decide (0 ≤ x7_2) = true := decide_eq_true c22
            clear c22
            by_cases c23 : 0 ≤ x9_2
            ·rw [if_pos c23] at H
             have c23b0 : decide (0 ≤ x9_2) = true := decide_eq_true c23
             clear c23
             by_cases c24 : ((((rd_T24 t149 x7_2).f0).toList) == (((rd_T24 l0 x9_2).f0).toList) && ((((rd_T24 t149 x7_2).f1).toList) == (((rd_T24 l0 x9_2).f1).toList))) = true
             ·rw [if_pos c24] at H
              have c24b0 : ((((rd_T24 t149 x7_2).f0).toList) == (((rd_T24 l0 x9_2).f0).toList) && ((((rd_T24 t149 x7_2).f1).toList) == (((rd_T24 l0 x9_2).f1).toList))) = true := c24
              (try (have c24b1 : decide ((((rd_T24 t149 x7_2).f0).toList) = (((rd_T24 l0 x9_2).f0).toList) && ((((rd_T24 t149 x7_2).f1).toList) == (((rd_T24 l0 x9_2).f1).toList))) = true := by simpa using c24))
              (try (have c24b2 : ((((rd_T24 t149 x7_2).f0).toList) == (((rd_T24 l0 x9_2).f0).toList) && ((((rd_T24 t149 x7_2).f1).toList) == (((rd_T24 l0 x9_2).f1).toList))) = true := by simpa using c24))
              clear c24
              by_cases c25 : x8_2 ≥ (t153.length : Int)
              ·rw [if_pos c25] at H
               have c25b0 : decide ((t153.length : Int) ≤ x8_2) = true := decide_eq_true c25
               clear c25
               have H' := Aside0.mk H
               clear H
               have p162 : 0 ≤ (x7_2 : Int) := of_decide_eq_true (by first | (with_reducible assumption) | assumption)
               have q162 : x7_2 < (t149.length : Int) := of_decide_eq_true (by first | (with_reducible assumption) | assumption)
               obtain ⟨ad162, e162, hx162_0, hx162_1⟩ := at_T24 (Kd.R_reads' HO_3.out).2.2 x7_2 p162 q162
               cases e162
               replace p162 := eq_true p162
               replace q162 := eq_true q162
               have p163 : 0 ≤ (x9_2 : Int) := of_decide_eq_true (by first | (with_reducible assumption) | assumption)
               have q163 : x9_2 < (l0.length : Int) := of_decide_eq_true (by first | (with_reducible assumption) | assumption)
               obtain ⟨ad163, e163, hx163_0, hx163_1⟩ := at_T24 HR0.out x9_2 p163 q163
               cases e163
               replace hx163_0 := (HB.out.cell (World.block_lt_of_cell? w _ hx163_0)).trans hx163_0
               replace hx163_1 := (HB.out.cell (World.block_lt_of_cell? w _ hx163_1)).trans hx163_1
               replace p163 := eq_true p163
               replace q163 := eq_true q163
               go_wp2
               repeat (go_quiet (fail); try go_wp2)
               go_meet
               case rel => exact ⟨_, (true), (by first | rfl | (simp; done) | (simp [*]; done)), H', ⟨by have := HJ5.out; have := HK2.out; first | omega | exact Nat.le_refl _⟩, ⟨by (with_reducible repeat (first | apply Kd.R_alloc | apply Kd.R_drewN | apply Kd.R_drew)); exact HO_3.out⟩, ⟨by (with_reducible repeat (first | apply Kd.R_alloc | apply Kd.R_drewN | apply Kd.R_drew)); exact HO_5.out⟩, ⟨by repeat (first | (with_reducible first | exact HB.out | apply below_alloc | apply pw_below_drewN | apply below_drew1) | exact HB.out)⟩⟩
              ·rw [if_neg c25] at H
               have c25b0 : decide ((t153.length : Int) ≤ x8_2) = false := decide_eq_false c25
               clear c25
               by_cases c26 : 0 ≤ x8_2
               ·rw [if_pos c26] at H
                have c26b0 : decide (0 ≤ x8_2) = true := decide_eq_true c26
                clear c26
                by_cases c27 : x8_2 < (t153.length : Int)
                ·rw [if_pos c27] at H
                 have c27b0 : decide (x8_2 < (t153.length : Int)) = true := decide_eq_true c27
                 clear c27
                 have H' := Aside0.mk H
                 clear H
                 have p162 : 0 ≤ (x7_2 : Int) := of_decide_eq_true (by first | (with_reducible assumption) | assumption)
                 have q162 : x7_2 < (t149.length : Int) := of_decide_eq_true (by first | (with_reducible assumption) | assumption)
                 obtain ⟨ad162, e162, hx162_0, hx162_1⟩ := at_T24 (Kd.R_reads' HO_3.out).2.2 x7_2 p162 q162
                 cases e162
                 replace p162 := eq_true p162
                 replace q162 := eq_true q162
                 have p163 : 0 ≤ (x9_2 : Int) := of_decide_eq_true (by first | (with_reducible assumption) | assumption)
                 have q163 : x9_2 < (l0.length : Int) := of_decide_eq_true (by first | (with_reducible assumption) | assumption)
                 obtain ⟨ad163, e163, hx163_0, hx163_1⟩ := at_T24 HR0.out x9_2 p163 q163
                 cases e163
                 replace hx163_0 := (HB.out.cell (World.block_lt_of_cell? w _ hx163_0)).trans hx163_0
                 replace hx163_1 := (HB.out.cell (World.block_lt_of_cell? w _ hx163_1)).trans hx163_1
                 replace p163 := eq_true p163
                 replace q163 := eq_true q163
                 have p164 : 0 ≤ (x8_2 : Int) := of_decide_eq_true (by first | (with_reducible assumption) | assumption)
                 have q164 : x8_2 < (t153.length : Int) := of_decide_eq_true (by first | (with_reducible assumption) | assumption)
                 obtain ⟨ad164, e164, hx164_0, hx164_1⟩ := at_T24 (Kd.R_reads' HO_5.out).2.2 x8_2 p164 q164
                 cases e164
                 replace p164 := eq_true p164
                 replace q164 := eq_true q164
                 have p165 : 0 ≤ (x9_2 : Int) := of_decide_eq_true (by first | (with_reducible assumption) | assumption)
                 have q165 : x9_2 < (l0.length : Int) := of_decide_eq_true (by first | (with_reducible assumption) | assumption)
                 obtain ⟨ad165, e165, hx165_0, hx165_1⟩ := at_T24 HR0.out x9_2 p165 q165
                 obtain rfl : ad163 = ad165 := (by injection e165)
                 replace hx165_0 := (HB.out.cell (World.block_lt_of_cell? w _ hx165_0)).trans hx165_0
                 replace hx165_1 := (HB.out.cell (World.block_lt_of_cell? w _ hx165_1)).trans hx165_1
                 replace p165 := eq_true p165
                 replace q165 := eq_true q165
                 go_wp2
                 repeat (go_quiet (fail); try go_wp2)
                 go_meet
                 case rel => exact ⟨_, ((!((((rd_T24 t153 x8_2).f0).toList) == (((rd_T24 l0 x9_2).f0).toList)) || (!((((rd_T24 t153 x8_2).f1).toList) == (((rd_T24 l0 x9_2).f1).toList))))), (by first | rfl | (simp; done) | (simp [*]; done)), H', ⟨by have := HJ5.out; have := HK2.out; first | omega | exact Nat.le_refl _⟩, ⟨by (with_reducible repeat (first | apply Kd.R_alloc | apply Kd.R_drewN | apply Kd.R_drew)); exact HO_3.out⟩, ⟨by (with_reducible repeat (first | apply Kd.R_alloc | apply Kd.R_drewN | apply Kd.R_drew)); exact HO_5.out⟩, ⟨by repeat (first | (with_reducible first | exact HB.out | apply below_alloc | apply pw_below_drewN | apply below_drew1) | exact HB.out)⟩⟩
                ·rw [if_neg c27] at H
                 exact absurd H (by simp)
               ·rw [if_neg c26] at H
                exact absurd H (by simp)
             ·rw [if_neg c24] at H
              have c24b0 : ((((rd_T24 t149 x7_2).f0).toList) == (((rd_T24 l0 x9_2).f0).toList) && ((((rd_T24 t149 x7_2).f1).toList) == (((rd_T24 l0 x9_2).f1).toList))) = false := by simpa using c24
              (try (have c24b1 : decide ((((rd_T24 t149 x7_2).f0).toList) = (((rd_T24 l0 x9_2).f0).toList) && ((((rd_T24 t149 x7_2).f1).toList) == (((rd_T24 l0 x9_2).f1).toList))) = false := by simpa using c24))
              (try (have c24b2 : ((((rd_T24 t149 x7_2).f0).toList) == (((rd_T24 l0 x9_2).f0).toList) && ((((rd_T24 t149 x7_2).f1).toList) == (((rd_T24 l0 x9_2).f1).toList))) = false := by simpa using c24))
              (try (have c24b3 : ¬ ((((rd_T24 t149 x7_2).f0).toList) = (((rd_T24 l0 x9_2).f0).toList) && ((((rd_T24 t149 x7_2).f1).toList) == (((rd_T24 l0 x9_2).f1).toList))) := by simpa using c24))
              clear c24
              have H' := Aside0.mk H
              clear H
              have p162 : 0 ≤ (x7_2 : Int) := of_decide_eq_true (by first | (with_reducible assumption) | assumption)
              have q162 : x7_2 < (t149.length : Int) := of_decide_eq_true (by first | (with_reducible assumption) | assumption)
              obtain ⟨ad162, e162, hx162_0, hx162_1⟩ := at_T24 (Kd.R_reads' HO_3.out).2.2 x7_2 p162 q162
              cases e162
              replace p162 := eq_true p162
              replace q162 := eq_true q162
              have p163 : 0 ≤ (x9_2 : Int) := of_decide_eq_true (by first | (with_reducible assumption) | assumption)
              have q163 : x9_2 < (l0.length : Int) := of_decide_eq_true (by first | (with_reducible assumption) | assumption)
              obtain ⟨ad163, e163, hx163_0, hx163_1⟩ := at_T24 HR0.out x9_2 p163 q163
              cases e163
              replace hx163_0 := (HB.out.cell (World.block_lt_of_cell? w _ hx163_0)).trans hx163_0
              replace hx163_1 := (HB.out.cell (World.block_lt_of_cell? w _ hx163_1)).trans hx163_1
              replace p163 := eq_true p163
              replace q163 := eq_true q163
              go_wp2
              repeat (go_quiet (fail); try go_wp2)
              go_meet
              case rel => exact ⟨_, (false), (by first | rfl | (simp; done) | (simp [*]; done)), H', ⟨by have := HJ5.out; have := HK2.out; first | omega | exact Nat.le_refl _⟩, ⟨by (with_reducible repeat (first | apply Kd.R_alloc | apply Kd.R_drewN | apply Kd.R_drew)); exact HO_3.out⟩, ⟨by (with_reducible repeat (first | apply Kd.R_alloc | apply Kd.R_drewN | apply Kd.R_drew)); exact HO_5.out⟩, ⟨by repeat (first | (with_reducible first | exact HB.out | apply below_alloc | apply pw_below_drewN | apply below_drew1) | exact HB.out)⟩⟩
            ·rw [if_neg c23] at H
             exact absurd H (by simp)
           ·rw [if_neg c22] at H
            exact absurd H (by simp)
          ·rw [if_neg c21] at H
           have c21b0 : decide (x7_2 < (t149.length : Int)) = false := decide_eq_false c21
           clear c21
           (first | rw [c21b0] | (simp only [i64_w, i32_w]; rw [c21b0]) | skip)
           have H' := Aside0.mk H
           clear H
           go_wp2
           repeat (go_quiet (fail); try go_wp2)
           go_meet
           case rel => exact ⟨_, (false), (by first | rfl | (simp; done) | (simp [*]; done)), H', ⟨by have := HJ5.out; have := HK2.out; first | omega | exact Nat.le_refl _⟩, ⟨by (with_reducible repeat (first | apply Kd.R_alloc | apply Kd.R_drewN | apply Kd.R_drew)); exact HO_3.out⟩, ⟨by (with_reducible repeat (first | apply Kd.R_alloc | apply Kd.R_drewN | apply Kd.R_drew)); exact HO_5.out⟩, ⟨by repeat (first | (with_reducible first | exact HB.out | apply below_alloc | apply pw_below_drewN | apply below_drew1) | exact HB.out)⟩⟩
         case rest =>
          clear HC20
          try clear c1
          try clear p1
          try clear q1
          try clear hx1
          try clear c2
          try clear p2
          try clear c3
          try clear c4
          try clear p6
          try clear c10
          try clear c10b0
          try clear c10b1
          try clear c11
          try clear c12
          try clear c12b0
          try clear c12b1
          try clear c13
          try clear c13b0
          try clear c13b1
          try clear c16
          try clear c16b0
          try clear c16b1
          try clear p16
          try clear q16
          try clear hx16
          try clear c19
          try clear c19b0
          try clear c21
          try clear c21b0
          try clear c22
          try clear c22b0
          try clear c23
          try clear c23b0
          try clear c24
          try clear c24b0
          try clear c24b1
          try clear c24b2
          try clear c25
          try clear c25b0
          try clear c26
          try clear c26b0
          try clear c27
          try clear c27b0
          try clear hx162_0
          try clear hx162_1
          try clear hx163_0
          try clear hx163_1
          try clear hx164_0
          try clear hx164_1
          try clear hx165_0
          try clear hx165_1
          try clear p162
          try clear p163
          try clear p164
          try clear p165
          try clear p2
          try clear p6
          try clear q162
          try clear q163
          try clear q164
          try clear q165
          obtain ⟨kq, x59_19, rfl, HA, HJ19, HO_3, HO_5, HB⟩ := hcut
          cases kq with
          | zero => exact absurd HA.out (by simp [sallyportlaw13_FieldsParted.j2])
          | succ kj19 =>
           have H := HA.out
           clear HA
           simp only [sallyportlaw13_FieldsParted.j2] at H
           by_cases c28 : x59_19 = true
           ·subst c28
            have H1 : (sallyportlaw13_FieldsParted.l0 kj19 l0 t149 t153 (wrap64 (x7_2 + 1)) x8_2 (wrap64 (x9_2 + 1))) = some r := by rw [if_pos rfl] at H; exact H
            clear H
            have H := H1
            clear H1
            have H' := Aside0.mk H
            clear H
            go_wp2
            repeat (go_quiet (fail); try go_wp2)
            go_roundg kj19
            case measure => have := HJ5.out; have := HK2.out; have := HJ19.out; omega
            case rel => exact ⟨(wrap64 (x7_2 + 1)), (x8_2), (wrap64 (x9_2 + 1)), (by first | rfl | (simp; done) | (simp [*]; done)), (by first | rfl | (simp; done) | (simp [*]; done)), (by first | rfl | (simp; done) | (simp [*]; done)), H', ⟨by have := HJ5.out; have := HK2.out; have := HJ19.out; omega⟩, ⟨by (with_reducible repeat (first | apply Kd.R_alloc | apply Kd.R_drewN | apply Kd.R_drew)); exact HO_3.out⟩, ⟨by (with_reducible repeat (first | apply Kd.R_alloc | apply Kd.R_drewN | apply Kd.R_drew)); exact HO_5.out⟩, ⟨by repeat (first | (with_reducible first | exact HB.out | apply below_alloc | apply pw_below_drewN | apply below_drew1) | exact HB.out)⟩⟩
           ·replace c28 := Bool.eq_false_iff.mpr c28
            subst c28
            have H1 : (if x8_2 < (t153.length : Int) then (if 0 ≤ x8_2 then (if 0 ≤ x9_2 then (if x9_2 < (l0.length : Int) then (if ((((rd_T24 t153 x8_2).f0).toList) == (((rd_T24 l0 x9_2).f0).toList) && ((((rd_T24 t153 x8_2).f1).toList) == (((rd_T24 l0 x9_2).f1).toList))) = true then (sallyportlaw13_FieldsParted.l0 kj19 l0 t149 t153 x7_2 (wrap64 (x8_2 + 1)) (wrap64 (x9_2 + 1))) else (some false)) else (none)) else (none)) else (none)) else (some false)) = some r := by rw [if_neg (show ¬ (false = true) by decide)] at H; exact H
            clear H
            have H := H1
            clear H1
            by_cases c29 : x8_2 < (t153.length : Int)
            ·rw [if_pos c29] at H
             have c29b0 : decide (x8_2 < (t153.length : Int)) = true := decide_eq_true c29
             clear c29
             by_cases c30 : 0 ≤ x8_2
             ·rw [if_pos c30] at H
              have c30b0 : decide (0 ≤ x8_2) = true := decide_eq_true c30
              clear c30
              by_cases c31 : 0 ≤ x9_2
              ·rw [if_pos c31] at H
               have c31b0 : decide (0 ≤ x9_2) = true := decide_eq_true c31
               clear c31
               by_cases c32 : x9_2 < (l0.length : Int)
               ·rw [if_pos c32] at H
                have c32b0 : decide (x9_2 < (l0.length : Int)) = true := decide_eq_true c32
                clear c32
                by_cases c33 : ((((rd_T24 t153 x8_2).f0).toList) == (((rd_T24 l0 x9_2).f0).toList) && ((((rd_T24 t153 x8_2).f1).toList) == (((rd_T24 l0 x9_2).f1).toList))) = true
                ·rw [if_pos c33] at H
                 have c33b0 : ((((rd_T24 t153 x8_2).f0).toList) == (((rd_T24 l0 x9_2).f0).toList) && ((((rd_T24 t153 x8_2).f1).toList) == (((rd_T24 l0 x9_2).f1).toList))) = true := c33
                 (try (have c33b1 : decide ((((rd_T24 t153 x8_2).f0).toList) = (((rd_T24 l0 x9_2).f0).toList) && ((((rd_T24 t153 x8_2).f1).toList) == (((rd_T24 l0 x9_2).f1).toList))) = true := by simpa using c33))
                 (try (have c33b2 : ((((rd_T24 t153 x8_2).f0).toList) == (((rd_T24 l0 x9_2).f0).toList) && ((((rd_T24 t153 x8_2).f1).toList) == (((rd_T24 l0 x9_2).f1).toList))) = true := by simpa using c33))
                 clear c33
                 have H' := Aside0.mk H
                 clear H
                 have p166 : 0 ≤ (x8_2 : Int) := of_decide_eq_true (by first | (with_reducible assumption) | assumption)
                 have q166 : x8_2 < (t153.length : Int) := of_decide_eq_true (by first | (with_reducible assumption) | assumption)
                 obtain ⟨ad166, e166, hx166_0, hx166_1⟩ := at_T24 (Kd.R_reads' HO_5.out).2.2 x8_2 p166 q166
                 cases e166
                 replace p166 := eq_true p166
                 replace q166 := eq_true q166
                 have p167 : 0 ≤ (x9_2 : Int) := of_decide_eq_true (by first | (with_reducible assumption) | assumption)
                 have q167 : x9_2 < (l0.length : Int) := of_decide_eq_true (by first | (with_reducible assumption) | assumption)
                 obtain ⟨ad167, e167, hx167_0, hx167_1⟩ := at_T24 HR0.out x9_2 p167 q167
                 cases e167
                 replace hx167_0 := (HB.out.cell (World.block_lt_of_cell? w _ hx167_0)).trans hx167_0
                 replace hx167_1 := (HB.out.cell (World.block_lt_of_cell? w _ hx167_1)).trans hx167_1
                 replace p167 := eq_true p167
                 replace q167 := eq_true q167
                 go_wp2
                 repeat (go_quiet (fail); try go_wp2)
                 go_roundg kj19
                 case measure => have := HJ5.out; have := HK2.out; have := HJ19.out; omega
                 case rel => exact ⟨(x7_2), (wrap64 (x8_2 + 1)), (wrap64 (x9_2 + 1)), (by first | rfl | (simp; done) | (simp [*]; done)), (by first | rfl | (simp; done) | (simp [*]; done)), (by first | rfl | (simp; done) | (simp [*]; done)), H', ⟨by have := HJ5.out; have := HK2.out; have := HJ19.out; omega⟩, ⟨by (with_reducible repeat (first | apply Kd.R_alloc | apply Kd.R_drewN | apply Kd.R_drew)); exact HO_3.out⟩, ⟨by (with_reducible repeat (first | apply Kd.R_alloc | apply Kd.R_drewN | apply Kd.R_drew)); exact HO_5.out⟩, ⟨by repeat (first | (with_reducible first | exact HB.out | apply below_alloc | apply pw_below_drewN | apply below_drew1) | exact HB.out)⟩⟩
                ·rw [if_neg c33] at H
                 have c33b0 : ((((rd_T24 t153 x8_2).f0).toList) == (((rd_T24 l0 x9_2).f0).toList) && ((((rd_T24 t153 x8_2).f1).toList) == (((rd_T24 l0 x9_2).f1).toList))) = false := by simpa using c33
                 (try (have c33b1 : decide ((((rd_T24 t153 x8_2).f0).toList) = (((rd_T24 l0 x9_2).f0).toList) && ((((rd_T24 t153 x8_2).f1).toList) == (((rd_T24 l0 x9_2).f1).toList))) = false := by simpa using c33))
                 (try (have c33b2 : ((((rd_T24 t153 x8_2).f0).toList) == (((rd_T24 l0 x9_2).f0).toList) && ((((rd_T24 t153 x8_2).f1).toList) == (((rd_T24 l0 x9_2).f1).toList))) = false := by simpa using c33))
                 (try (have c33b3 : ¬ ((((rd_T24 t153 x8_2).f0).toList) = (((rd_T24 l0 x9_2).f0).toList) && ((((rd_T24 t153 x8_2).f1).toList) == (((rd_T24 l0 x9_2).f1).toList))) := by simpa using c33))
                 clear c33
                 obtain rfl := Option.some.inj H
                 have p166 : 0 ≤ (x8_2 : Int) := of_decide_eq_true (by first | (with_reducible assumption) | assumption)
                 have q166 : x8_2 < (t153.length : Int) := of_decide_eq_true (by first | (with_reducible assumption) | assumption)
                 obtain ⟨ad166, e166, hx166_0, hx166_1⟩ := at_T24 (Kd.R_reads' HO_5.out).2.2 x8_2 p166 q166
                 cases e166
                 replace p166 := eq_true p166
                 replace q166 := eq_true q166
                 have p167 : 0 ≤ (x9_2 : Int) := of_decide_eq_true (by first | (with_reducible assumption) | assumption)
                 have q167 : x9_2 < (l0.length : Int) := of_decide_eq_true (by first | (with_reducible assumption) | assumption)
                 obtain ⟨ad167, e167, hx167_0, hx167_1⟩ := at_T24 HR0.out x9_2 p167 q167
                 cases e167
                 replace hx167_0 := (HB.out.cell (World.block_lt_of_cell? w _ hx167_0)).trans hx167_0
                 replace hx167_1 := (HB.out.cell (World.block_lt_of_cell? w _ hx167_1)).trans hx167_1
                 replace p167 := eq_true p167
                 replace q167 := eq_true q167
                 go_wp2
                 repeat (go_quiet (fail); try go_wp2)
                 go_ret
                 exact ⟨by first | rfl | (simp [errW_none, errW_some] <;> rfl) | (simp [*, errW_none, errW_some] <;> rfl), by repeat (first | (with_reducible first | exact HB.out | apply below_alloc | apply pw_below_drewN | apply below_drew1) | exact HB.out)⟩
               ·rw [if_neg c32] at H
                exact absurd H (by simp)
              ·rw [if_neg c31] at H
               exact absurd H (by simp)
             ·rw [if_neg c30] at H
              exact absurd H (by simp)
            ·rw [if_neg c29] at H
             have c29b0 : decide (x8_2 < (t153.length : Int)) = false := decide_eq_false c29
             clear c29
             obtain rfl := Option.some.inj H
             go_wp2
             repeat (go_quiet (fail); try go_wp2)
             go_ret
             exact ⟨by first | rfl | (simp [errW_none, errW_some] <;> rfl) | (simp [*, errW_none, errW_some] <;> rfl), by repeat (first | (with_reducible first | exact HB.out | apply below_alloc | apply pw_below_drewN | apply below_drew1) | exact HB.out)⟩
        ·rw [if_neg c19] at H
         have c19b0 : decide (x9_2 < (l0.length : Int)) = false := decide_eq_false c19
         clear c19
         replace H := Option.bind_eq_some_iff.mp H
         obtain ⟨⟨t157, t158⟩, A340, H⟩ := H
         replace H : (if t158 = 0 then ((XK.sallyportbase_SameFields.f k2 t153 t157).bind fun t161 => (some t161)) else (some false)) = some r := H
         have A34 := Aside0.mk A340
         clear A340
         by_cases c35 : t158 = 0
         ·rw [if_pos c35] at H
          have c35b0 : (t158 == 0) = true := beq_iff_eq.mpr c35
          have c35b1 : (t158 != 0) = false := bne_eq_false_iff_eq.mpr c35
          clear c35
          replace H := Option.bind_eq_some_iff.mp H
          obtain ⟨t161, A360, H⟩ := H
          replace H : (some t161) = some r := H
          have A36 := Aside0.mk A360
          clear A360
          obtain rfl := Option.some.inj H
          go_wp2_with (first | (go_at_call 11; (with_reducible refine (E.Keep.calls _ _ t153 t157 t158 _ ?side1 ?side2 ?side3 A34.out).mono ?_); (case side1 => repeat (first | exact (Kd.R_reads' HO_5.out).2.2 | (with_reducible refine Kd.C_alloc ?_ _) | (with_reducible refine Kd.C_drewN ?_ _) | (with_reducible refine Kd.C_drew ?_))); (case side2 => exact (Kd.R_reads' HO_5.out).2.1); (case side3 => exact StdW.below HS_.out (by repeat (first | (with_reducible first | exact HB.out | apply below_alloc | apply pw_below_drewN | apply below_drew1) | exact HB.out))); rintro e w37 ⟨v159, rfl, ho0, hb⟩; have n0_ := Aside0.mk (Kd.R_elder' (by (with_reducible repeat (first | apply Kd.R_alloc | apply Kd.R_drewN | apply Kd.R_drew)); exact HO_3.out) (Kd.R_base ho0) hb); have n1_ := Aside0.mk (Kd.R_elder' (by (with_reducible repeat (first | apply Kd.R_alloc | apply Kd.R_drewN | apply Kd.R_drew)); exact HO_5.out) (Kd.R_base ho0) hb); have n2_ := Aside0.mk (Kd.R_lower (Kd.R_new' (Kd.R_new' ho0 (Kd.R_lt (by (with_reducible repeat (first | apply Kd.R_alloc | apply Kd.R_drewN | apply Kd.R_drew)); exact HO_3.out))) (Kd.R_lt (by (with_reducible repeat (first | apply Kd.R_alloc | apply Kd.R_drewN | apply Kd.R_drew)); exact HO_5.out))) (below_size (by repeat (first | (with_reducible first | exact HB.out | apply below_alloc | apply pw_below_drewN | apply below_drew1) | exact HB.out)))); have n3_ := Aside0.mk (below_step (by repeat (first | (with_reducible first | exact HB.out | apply below_alloc | apply pw_below_drewN | apply below_drew1) | exact HB.out)) hb); clear HO_3; clear HO_5; clear HB; have HO_3 := n0_; have HO_5 := n1_; have HO160 := n2_; have HB := n3_; clear n0_ n1_ n2_ n3_; (try clear hb); (try clear hb2); (try clear hk); (try clear hi); (try clear ho0); obtain ⟨Ao38, co38, eo38⟩ := Kd.R_slice HO160.out; subst eo38) | (go_at_call 12; (with_reducible refine (XK.sallyportbase_SameFields.calls k2 _ _ t153 _ _ t157 t161 _ ?side1 ?side2 ?side3 ?side4 A36.out).mono ?_); (case side1 => repeat (first | exact (Kd.R_reads' HO_5.out).2.2 | (with_reducible refine Kd.C_alloc ?_ _) | (with_reducible refine Kd.C_drewN ?_ _) | (with_reducible refine Kd.C_drew ?_))); (case side2 => exact (Kd.R_reads' HO_5.out).2.1); (case side3 => repeat (first | exact (Kd.R_reads' HO160.out).2.2 | (with_reducible refine Kd.C_alloc ?_ _) | (with_reducible refine Kd.C_drewN ?_ _) | (with_reducible refine Kd.C_drew ?_))); (case side4 => exact (Kd.R_reads' HO160.out).2.1); rintro e w' ⟨rfl, ⟨nd, rfl⟩⟩; (try first | exact ⟨rfl, _, World.drewN_drewN _ _ _⟩ | exact ⟨rfl, _, Eq.trans (World.drewN_drewN _ _ _) (congrArg (World.drewN _) (Nat.add_assoc _ _ _))⟩)))
          repeat (go_quiet (first | (go_at_call 11; (with_reducible refine (E.Keep.calls _ _ t153 t157 t158 _ ?side1 ?side2 ?side3 A34.out).mono ?_); (case side1 => repeat (first | exact (Kd.R_reads' HO_5.out).2.2 | (with_reducible refine Kd.C_alloc ?_ _) | (with_reducible refine Kd.C_drewN ?_ _) | (with_reducible refine Kd.C_drew ?_))); (case side2 => exact (Kd.R_reads' HO_5.out).2.1); (case side3 => exact StdW.below HS_.out (by repeat (first | (with_reducible first | exact HB.out | apply below_alloc | apply pw_below_drewN | apply below_drew1) | exact HB.out))); rintro e w37 ⟨v159, rfl, ho0, hb⟩; have n0_ := Aside0.mk (Kd.R_elder' (by (with_reducible repeat (first | apply Kd.R_alloc | apply Kd.R_drewN | apply Kd.R_drew)); exact HO_3.out) (Kd.R_base ho0) hb); have n1_ := Aside0.mk (Kd.R_elder' (by (with_reducible repeat (first | apply Kd.R_alloc | apply Kd.R_drewN | apply Kd.R_drew)); exact HO_5.out) (Kd.R_base ho0) hb); have n2_ := Aside0.mk (Kd.R_lower (Kd.R_new' (Kd.R_new' ho0 (Kd.R_lt (by (with_reducible repeat (first | apply Kd.R_alloc | apply Kd.R_drewN | apply Kd.R_drew)); exact HO_3.out))) (Kd.R_lt (by (with_reducible repeat (first | apply Kd.R_alloc | apply Kd.R_drewN | apply Kd.R_drew)); exact HO_5.out))) (below_size (by repeat (first | (with_reducible first | exact HB.out | apply below_alloc | apply pw_below_drewN | apply below_drew1) | exact HB.out)))); have n3_ := Aside0.mk (below_step (by repeat (first | (with_reducible first | exact HB.out | apply below_alloc | apply pw_below_drewN | apply below_drew1) | exact HB.out)) hb); clear HO_3; clear HO_5; clear HB; have HO_3 := n0_; have HO_5 := n1_; have HO160 := n2_; have HB := n3_; clear n0_ n1_ n2_ n3_; (try clear hb); (try clear hb2); (try clear hk); (try clear hi); (try clear ho0); obtain ⟨Ao38, co38, eo38⟩ := Kd.R_slice HO160.out; subst eo38) | (go_at_call 12; (with_reducible refine (XK.sallyportbase_SameFields.calls k2 _ _ t153 _ _ t157 t161 _ ?side1 ?side2 ?side3 ?side4 A36.out).mono ?_); (case side1 => repeat (first | exact (Kd.R_reads' HO_5.out).2.2 | (with_reducible refine Kd.C_alloc ?_ _) | (with_reducible refine Kd.C_drewN ?_ _) | (with_reducible refine Kd.C_drew ?_))); (case side2 => exact (Kd.R_reads' HO_5.out).2.1); (case side3 => repeat (first | exact (Kd.R_reads' HO160.out).2.2 | (with_reducible refine Kd.C_alloc ?_ _) | (with_reducible refine Kd.C_drewN ?_ _) | (with_reducible refine Kd.C_drew ?_))); (case side4 => exact (Kd.R_reads' HO160.out).2.1); rintro e w' ⟨rfl, ⟨nd, rfl⟩⟩; (try first | exact ⟨rfl, _, World.drewN_drewN _ _ _⟩ | exact ⟨rfl, _, Eq.trans (World.drewN_drewN _ _ _) (congrArg (World.drewN _) (Nat.add_assoc _ _ _))⟩))); try go_wp2_with (first | (go_at_call 11; (with_reducible refine (E.Keep.calls _ _ t153 t157 t158 _ ?side1 ?side2 ?side3 A34.out).mono ?_); (case side1 => repeat (first | exact (Kd.R_reads' HO_5.out).2.2 | (with_reducible refine Kd.C_alloc ?_ _) | (with_reducible refine Kd.C_drewN ?_ _) | (with_reducible refine Kd.C_drew ?_))); (case side2 => exact (Kd.R_reads' HO_5.out).2.1); (case side3 => exact StdW.below HS_.out (by repeat (first | (with_reducible first | exact HB.out | apply below_alloc | apply pw_below_drewN | apply below_drew1) | exact HB.out))); rintro e w37 ⟨v159, rfl, ho0, hb⟩; have n0_ := Aside0.mk (Kd.R_elder' (by (with_reducible repeat (first | apply Kd.R_alloc | apply Kd.R_drewN | apply Kd.R_drew)); exact HO_3.out) (Kd.R_base ho0) hb); have n1_ := Aside0.mk (Kd.R_elder' (by (with_reducible repeat (first | apply Kd.R_alloc | apply Kd.R_drewN | apply Kd.R_drew)); exact HO_5.out) (Kd.R_base ho0) hb); have n2_ := Aside0.mk (Kd.R_lower (Kd.R_new' (Kd.R_new' ho0 (Kd.R_lt (by (with_reducible repeat (first | apply Kd.R_alloc | apply Kd.R_drewN | apply Kd.R_drew)); exact HO_3.out))) (Kd.R_lt (by (with_reducible repeat (first | apply Kd.R_alloc | apply Kd.R_drewN | apply Kd.R_drew)); exact HO_5.out))) (below_size (by repeat (first | (with_reducible first | exact HB.out | apply below_alloc | apply pw_below_drewN | apply below_drew1) | exact HB.out)))); have n3_ := Aside0.mk (below_step (by repeat (first | (with_reducible first | exact HB.out | apply below_alloc | apply pw_below_drewN | apply below_drew1) | exact HB.out)) hb); clear HO_3; clear HO_5; clear HB; have HO_3 := n0_; have HO_5 := n1_; have HO160 := n2_; have HB := n3_; clear n0_ n1_ n2_ n3_; (try clear hb); (try clear hb2); (try clear hk); (try clear hi); (try clear ho0); obtain ⟨Ao38, co38, eo38⟩ := Kd.R_slice HO160.out; subst eo38) | (go_at_call 12; (with_reducible refine (XK.sallyportbase_SameFields.calls k2 _ _ t153 _ _ t157 t161 _ ?side1 ?side2 ?side3 ?side4 A36.out).mono ?_); (case side1 => repeat (first | exact (Kd.R_reads' HO_5.out).2.2 | (with_reducible refine Kd.C_alloc ?_ _) | (with_reducible refine Kd.C_drewN ?_ _) | (with_reducible refine Kd.C_drew ?_))); (case side2 => exact (Kd.R_reads' HO_5.out).2.1); (case side3 => repeat (first | exact (Kd.R_reads' HO160.out).2.2 | (with_reducible refine Kd.C_alloc ?_ _) | (with_reducible refine Kd.C_drewN ?_ _) | (with_reducible refine Kd.C_drew ?_))); (case side4 => exact (Kd.R_reads' HO160.out).2.1); rintro e w' ⟨rfl, ⟨nd, rfl⟩⟩; (try first | exact ⟨rfl, _, World.drewN_drewN _ _ _⟩ | exact ⟨rfl, _, Eq.trans (World.drewN_drewN _ _ _) (congrArg (World.drewN _) (Nat.add_assoc _ _ _))⟩))))
          go_ret
          exact ⟨by first | rfl | (simp [errW_none, errW_some] <;> rfl) | (simp [*, errW_none, errW_some] <;> rfl), by repeat (first | (with_reducible first | exact HB.out | apply below_alloc | apply pw_below_drewN | apply below_drew1) | exact HB.out)⟩
         ·rw [if_neg c35] at H
          have c35b0 : (t158 == 0) = false := beq_eq_false_iff_ne.mpr c35
          have c35b1 : (t158 != 0) = true := bne_iff_ne.mpr c35
          obtain rfl := Option.some.inj H
          go_wp2_with (first | (go_at_call 11; (with_reducible refine (E.Keep.calls _ _ t153 t157 t158 _ ?side1 ?side2 ?side3 A34.out).mono ?_); (case side1 => repeat (first | exact (Kd.R_reads' HO_5.out).2.2 | (with_reducible refine Kd.C_alloc ?_ _) | (with_reducible refine Kd.C_drewN ?_ _) | (with_reducible refine Kd.C_drew ?_))); (case side2 => exact (Kd.R_reads' HO_5.out).2.1); (case side3 => exact StdW.below HS_.out (by repeat (first | (with_reducible first | exact HB.out | apply below_alloc | apply pw_below_drewN | apply below_drew1) | exact HB.out))); rintro e w39 ⟨v159, rfl, ho0, hb⟩; have n0_ := Aside0.mk (Kd.R_elder' (by (with_reducible repeat (first | apply Kd.R_alloc | apply Kd.R_drewN | apply Kd.R_drew)); exact HO_3.out) (Kd.R_base ho0) hb); have n1_ := Aside0.mk (Kd.R_elder' (by (with_reducible repeat (first | apply Kd.R_alloc | apply Kd.R_drewN | apply Kd.R_drew)); exact HO_5.out) (Kd.R_base ho0) hb); have n2_ := Aside0.mk (Kd.R_lower (Kd.R_new' (Kd.R_new' ho0 (Kd.R_lt (by (with_reducible repeat (first | apply Kd.R_alloc | apply Kd.R_drewN | apply Kd.R_drew)); exact HO_3.out))) (Kd.R_lt (by (with_reducible repeat (first | apply Kd.R_alloc | apply Kd.R_drewN | apply Kd.R_drew)); exact HO_5.out))) (below_size (by repeat (first | (with_reducible first | exact HB.out | apply below_alloc | apply pw_below_drewN | apply below_drew1) | exact HB.out)))); have n3_ := Aside0.mk (below_step (by repeat (first | (with_reducible first | exact HB.out | apply below_alloc | apply pw_below_drewN | apply below_drew1) | exact HB.out)) hb); clear HO_3; clear HO_5; clear HB; have HO_3 := n0_; have HO_5 := n1_; have HO160 := n2_; have HB := n3_; clear n0_ n1_ n2_ n3_; (try clear hb); (try clear hb2); (try clear hk); (try clear hi); (try clear ho0)))
          repeat (go_quiet (first | (go_at_call 11; (with_reducible refine (E.Keep.calls _ _ t153 t157 t158 _ ?side1 ?side2 ?side3 A34.out).mono ?_); (case side1 => repeat (first | exact (Kd.R_reads' HO_5.out).2.2 | (with_reducible refine Kd.C_alloc ?_ _) | (with_reducible refine Kd.C_drewN ?_ _) | (with_reducible refine Kd.C_drew ?_))); (case side2 => exact (Kd.R_reads' HO_5.out).2.1); (case side3 => exact StdW.below HS_.out (by repeat (first | (with_reducible first | exact HB.out | apply below_alloc | apply pw_below_drewN | apply below_drew1) | exact HB.out))); rintro e w39 ⟨v159, rfl, ho0, hb⟩; have n0_ := Aside0.mk (Kd.R_elder' (by (with_reducible repeat (first | apply Kd.R_alloc | apply Kd.R_drewN | apply Kd.R_drew)); exact HO_3.out) (Kd.R_base ho0) hb); have n1_ := Aside0.mk (Kd.R_elder' (by (with_reducible repeat (first | apply Kd.R_alloc | apply Kd.R_drewN | apply Kd.R_drew)); exact HO_5.out) (Kd.R_base ho0) hb); have n2_ := Aside0.mk (Kd.R_lower (Kd.R_new' (Kd.R_new' ho0 (Kd.R_lt (by (with_reducible repeat (first | apply Kd.R_alloc | apply Kd.R_drewN | apply Kd.R_drew)); exact HO_3.out))) (Kd.R_lt (by (with_reducible repeat (first | apply Kd.R_alloc | apply Kd.R_drewN | apply Kd.R_drew)); exact HO_5.out))) (below_size (by repeat (first | (with_reducible first | exact HB.out | apply below_alloc | apply pw_below_drewN | apply below_drew1) | exact HB.out)))); have n3_ := Aside0.mk (below_step (by repeat (first | (with_reducible first | exact HB.out | apply below_alloc | apply pw_below_drewN | apply below_drew1) | exact HB.out)) hb); clear HO_3; clear HO_5; clear HB; have HO_3 := n0_; have HO_5 := n1_; have HO160 := n2_; have HB := n3_; clear n0_ n1_ n2_ n3_; (try clear hb); (try clear hb2); (try clear hk); (try clear hi); (try clear ho0))); try go_wp2_with (first | (go_at_call 11; (with_reducible refine (E.Keep.calls _ _ t153 t157 t158 _ ?side1 ?side2 ?side3 A34.out).mono ?_); (case side1 => repeat (first | exact (Kd.R_reads' HO_5.out).2.2 | (with_reducible refine Kd.C_alloc ?_ _) | (with_reducible refine Kd.C_drewN ?_ _) | (with_reducible refine Kd.C_drew ?_))); (case side2 => exact (Kd.R_reads' HO_5.out).2.1); (case side3 => exact StdW.below HS_.out (by repeat (first | (with_reducible first | exact HB.out | apply below_alloc | apply pw_below_drewN | apply below_drew1) | exact HB.out))); rintro e w39 ⟨v159, rfl, ho0, hb⟩; have n0_ := Aside0.mk (Kd.R_elder' (by (with_reducible repeat (first | apply Kd.R_alloc | apply Kd.R_drewN | apply Kd.R_drew)); exact HO_3.out) (Kd.R_base ho0) hb); have n1_ := Aside0.mk (Kd.R_elder' (by (with_reducible repeat (first | apply Kd.R_alloc | apply Kd.R_drewN | apply Kd.R_drew)); exact HO_5.out) (Kd.R_base ho0) hb); have n2_ := Aside0.mk (Kd.R_lower (Kd.R_new' (Kd.R_new' ho0 (Kd.R_lt (by (with_reducible repeat (first | apply Kd.R_alloc | apply Kd.R_drewN | apply Kd.R_drew)); exact HO_3.out))) (Kd.R_lt (by (with_reducible repeat (first | apply Kd.R_alloc | apply Kd.R_drewN | apply Kd.R_drew)); exact HO_5.out))) (below_size (by repeat (first | (with_reducible first | exact HB.out | apply below_alloc | apply pw_below_drewN | apply below_drew1) | exact HB.out)))); have n3_ := Aside0.mk (below_step (by repeat (first | (with_reducible first | exact HB.out | apply below_alloc | apply pw_below_drewN | apply below_drew1) | exact HB.out)) hb); clear HO_3; clear HO_5; clear HB; have HO_3 := n0_; have HO_5 := n1_; have HO160 := n2_; have HB := n3_; clear n0_ n1_ n2_ n3_; (try clear hb); (try clear hb2); (try clear hk); (try clear hi); (try clear ho0))))
          go_ret
          exact ⟨by first | rfl | (simp [errW_none, errW_some] <;> rfl) | (simp [*, errW_none, errW_some] <;> rfl), by repeat (first | (with_reducible first | exact HB.out | apply below_alloc | apply pw_below_drewN | apply below_drew1) | exact HB.out)⟩
     ·rw [if_neg c16] at H
      have c16b0 : ((wrap64 ((t149.length : Int) + (t153.length : Int))) == (l0.length : Int)) = false := beq_eq_false_iff_ne.mpr c16
      have c16b1 : ((wrap64 ((t149.length : Int) + (t153.length : Int))) != (l0.length : Int)) = true := bne_iff_ne.mpr c16
      obtain rfl := Option.some.inj H
      obtain ⟨Ao40, co40, eo40⟩ := Kd.R_slice HO_3.out
      subst eo40
      obtain ⟨Ao41, co41, eo41⟩ := Kd.R_slice HO_5.out
      subst eo41
      go_wp2
      repeat (go_quiet (fail); try go_wp2)
      go_ret
      exact ⟨by first | rfl | (simp [errW_none, errW_some] <;> rfl) | (simp [*, errW_none, errW_some] <;> rfl), by repeat (first | (with_reducible first | exact HB.out | apply below_alloc | apply pw_below_drewN | apply below_drew1) | exact HB.out)⟩
 ·replace c3 := Bool.eq_false_iff.mpr c3
  subst c3
  have H1 : (some false) = some r := by rw [if_neg (show ¬ (false = true) by decide)] at H; exact H
  clear H
  have H := H1
  clear H1
  obtain rfl := Option.some.inj H
  go_enter Tryd.func4, Tryd.ntmps4
  go_wp2_with (first | (go_at_call 5; (with_reducible refine (sallyportlaw13_works.calls k  false _ ?side1 A2.out).mono ?_); (case side1 => exact StdW.below HS_.out (by repeat (first | (with_reducible first | exact HB.out | apply below_alloc | apply pw_below_drewN | apply below_drew1) | exact HB.out))); rintro e w42 ⟨rfl, hb⟩; have n0_ := Aside0.mk (below_step (by repeat (first | (with_reducible first | exact HB.out | apply below_alloc | apply pw_below_drewN | apply below_drew1) | exact HB.out)) hb); clear HB; have HB := n0_; clear n0_; (try clear hb); (try clear hb2); (try clear hk); (try clear hi)))
  repeat (go_quiet (first | (go_at_call 5; (with_reducible refine (sallyportlaw13_works.calls k  false _ ?side1 A2.out).mono ?_); (case side1 => exact StdW.below HS_.out (by repeat (first | (with_reducible first | exact HB.out | apply below_alloc | apply pw_below_drewN | apply below_drew1) | exact HB.out))); rintro e w42 ⟨rfl, hb⟩; have n0_ := Aside0.mk (below_step (by repeat (first | (with_reducible first | exact HB.out | apply below_alloc | apply pw_below_drewN | apply below_drew1) | exact HB.out)) hb); clear HB; have HB := n0_; clear n0_; (try clear hb); (try clear hb2); (try clear hk); (try clear hi))); try go_wp2_with (first | (go_at_call 5; (with_reducible refine (sallyportlaw13_works.calls k  false _ ?side1 A2.out).mono ?_); (case side1 => exact StdW.below HS_.out (by repeat (first | (with_reducible first | exact HB.out | apply below_alloc | apply pw_below_drewN | apply below_drew1) | exact HB.out))); rintro e w42 ⟨rfl, hb⟩; have n0_ := Aside0.mk (below_step (by repeat (first | (with_reducible first | exact HB.out | apply below_alloc | apply pw_below_drewN | apply below_drew1) | exact HB.out)) hb); clear HB; have HB := n0_; clear n0_; (try clear hb); (try clear hb2); (try clear hk); (try clear hi))))
  go_ret
  exact ⟨by first | rfl | (simp [errW_none, errW_some] <;> rfl) | (simp [*, errW_none, errW_some] <;> rfl), by repeat (first | (with_reducible first | exact HB.out | apply below_alloc | apply pw_below_drewN | apply below_drew1) | exact HB.out)⟩
end Go.Proofs.YtkheejjpidbniaaDoor.XL


namespace Go.Proofs.YtkheejjpidbniaaDoor.XL
open Go.Proofs.YtkheejjpidbniaaDoor.XK Go.Proofs.YtkheejjpidbniaaDoor.XA
open Go.RowKit Go.Proofs.YtkheejjpidbniaaDoorW.PrintWords Go.Proofs.YtkheejjpidbniaaDoorW.PrintLast Go.Proofs.YtkheejjpidbniaaDoorW.PrintMore
attribute [local go_sem] max2_int min2_int max_two min_two max_three min_three max_four min_four
set_option linter.unusedVariables false
set_option linter.unusedSimpArgs false
end Go.Proofs.YtkheejjpidbniaaDoor.XL


namespace Go.Proofs.YtkheejjpidbniaaDoor.E
open Go.RowKit Go.Proofs.YtkheejjpidbniaaDoorW.PrintWords Go.Proofs.YtkheejjpidbniaaDoorW.PrintLast Go.Proofs.YtkheejjpidbniaaDoor.XK Go.Proofs.YtkheejjpidbniaaDoor.XA Go.Proofs.YtkheejjpidbniaaDoor.XL
set_option linter.unusedVariables false
set_option linter.unusedSimpArgs false
def smallL (l : List S24) : Prop := l.length ≤ 1048577 ∧ ∀ f ∈ l, f.f0.size ≤ 1048576 ∧ f.f1.size ≤ 1048576
theorem small_okL {l : List S24} (h : smallL l) : okL l = true := by
  unfold okL
  rw [Bool.and_eq_true, List.all_eq_true, decide_eq_true_eq]
  refine ⟨fun f hf => ?_, by have := h.1; omega⟩
  have := h.2 f hf
  rw [Bool.and_eq_true, decide_eq_true_eq, decide_eq_true_eq]
  omega
theorem flat_bound (q : S24 → List ByteArray) (n : Nat) : ∀ l : List S24, (∀ f ∈ l, (q f).length ≤ n) → (l.flatMap q).length ≤ l.length * n
  | [], _ => Nat.zero_le _
  | f :: r, h => by
    rw [List.flatMap_cons, List.length_append, List.length_cons, Nat.succ_mul]
    have h1 := h f List.mem_cons_self
    have h2 := flat_bound q n r fun g hg => h g (List.mem_cons_of_mem _ hg)
    omega
theorem works_f : sallyportlaw13_works.f 40 = some true := by kernel_rfl
end Go.Proofs.YtkheejjpidbniaaDoor.E


namespace Go.Proofs.YtkheejjpidbniaaDoor.E
open Go.RowKit Go.Proofs.YtkheejjpidbniaaDoorW.PrintWords Go.Proofs.YtkheejjpidbniaaDoorW.PrintLast Go.Proofs.YtkheejjpidbniaaDoor.XK Go.Proofs.YtkheejjpidbniaaDoor.XA Go.Proofs.YtkheejjpidbniaaDoor.XL
set_option linter.unusedVariables false
set_option linter.unusedSimpArgs false
def isHop (l : List S24) (f : S24) : Bool := Fd.hop (l.map toF) (lowS f.f0).data.toList
theorem part_filter (S : List UInt8 → Bool) (hp : Bool) : ∀ l : List S24, l.flatMap (part1 S hp) = l.filter fun f => S (lowS f.f0).data.toList == hp
  | [] => rfl
  | f :: r => by
    rw [List.flatMap_cons, part_filter S hp r, List.filter_cons]
    unfold part1
    cases (S (lowS f.f0).data.toList == hp) <;> rfl
theorem someA_true (l : List S24) : someA l true = l.filter (isHop l) := by
  unfold someA
  rw [part_filter]
  congr 1
  funext f
  show (isHop l f == true) = isHop l f
  cases isHop l f <;> rfl
theorem someA_false (l : List S24) : someA l false = l.filter fun f => !isHop l f := by
  unfold someA
  rw [part_filter]
  congr 1
  funext f
  show (isHop l f == false) = !isHop l f
  cases isHop l f <;> rfl
theorem someA_toF (l : List S24) : (someA l false).map toF = Fd.someF (l.map toF) false := by
  unfold someA Fd.someF
  rw [part_filter, List.filter_map]
  rfl
theorem keep_same (l : List S24) : someA (someA l false) false = someA l false := by
  have h := Fd.keep_keep (l.map toF)
  rw [← someA_toF] at h
  rw [someA_false (someA l false), List.filter_eq_self]
  intro f hf
  have h2 : toF f ∈ (someA l false).map toF := List.mem_map.2 ⟨f, hf, rfl⟩
  rw [show Fd.someF ((someA l false).map toF) false = ((someA l false).map toF).filter (fun f => Fd.hop ((someA l false).map toF) (Fd.low f.1) == false) from rfl, List.filter_eq_self] at h
  have h3 := h _ h2
  have h4 : (isHop (someA l false) f == false) = true := h3
  cases hb : isHop (someA l false) f
  · rfl
  · rw [hb] at h4; cases h4
theorem conn1_len (f : S24) : (conn1A f).length ≤ f.f1.size + 1 := by
  unfold conn1A
  split
  · rw [List.length_map]; exact commas_len f.f1
  · exact Nat.zero_le _
theorem small_okP {l : List S24} (h : smallL l) : okP l = true := by
  unfold okP
  rw [small_okL h, Bool.true_and, decide_eq_true_eq]
  have := flat_bound conn1A 1048577 l fun f hf => Nat.le_trans (conn1_len f) (by have := (h.2 f hf).2; omega)
  have h2 : l.length * 1048577 ≤ 1048577 * 1048577 := Nat.mul_le_mul_right _ h.1
  omega
theorem small_sub {l m : List S24} (h : smallL l) (hm : ∀ f ∈ m, f ∈ l) (hl : m.length ≤ l.length) : smallL m := ⟨Nat.le_trans hl h.1, fun f hf => h.2 f (hm f hf)⟩
def eqF (f g : S24) : Bool := (f.f0.toList == g.f0.toList) && (f.f1.toList == g.f1.toList)
theorem eqF_self (f : S24) : eqF f f = true := by unfold eqF; simp
theorem bytes_eq {a b : ByteArray} (h : a.toList = b.toList) : a = b := data_inj (by rw [← ByteArray.toList_eq, ← ByteArray.toList_eq]; exact h)
theorem eqF_ne {f g : S24} (h : f ≠ g) : eqF f g = false := by
  cases he : eqF f g
  · rfl
  · exfalso
    apply h
    unfold eqF at he
    simp only [Bool.and_eq_true, beq_iff_eq] at he
    obtain ⟨a, b⟩ := f
    obtain ⟨c, d⟩ := g
    have h1 := bytes_eq he.1
    have h2 := bytes_eq he.2
    simp only at h1 h2
    rw [h1, h2]
theorem rd_at (l : List S24) (n : Nat) (h : n < l.length) : rd_T24 l (n : Int) = l[n] := by
  unfold rd_T24
  rw [Int.toNat_natCast, List.getD_eq_getElem?_getD, List.getElem?_eq_getElem h]; rfl
theorem w64 (n : Nat) (h : n ≤ 1000) : wrap64 ((n : Int) + 1) = ((n + 1 : Nat) : Int) := by unfold wrap64; omega
theorem same_loop (l : List S24) (hl : l.length ≤ 64) : ∀ (m k i : Nat), i + m = l.length → m < k → sallyportbase_SameFields.l0 k l l (i : Int) = some true := by
  intro m
  induction m with
  | zero =>
    intro k i hi hk
    obtain ⟨k, rfl⟩ : ∃ j, k = j + 1 := ⟨k - 1, by omega⟩
    simp only [sallyportbase_SameFields.l0]
    rw [if_neg (by omega)]
  | succ m ih =>
    intro k i hi hk
    obtain ⟨k, rfl⟩ : ∃ j, k = j + 1 := ⟨k - 1, by omega⟩
    simp only [sallyportbase_SameFields.l0]
    rw [if_pos (by omega), if_pos (by omega), if_pos (by omega), if_neg (by simp), w64 i (by omega)]
    exact ih k (i + 1) (by omega) (by omega)
theorem same_f (l : List S24) (hl : l.length ≤ 64) (k : Nat) (hk : 64 < k) : sallyportbase_SameFields.f k l l = some true := by
  unfold sallyportbase_SameFields.f
  rw [if_pos rfl]
  exact same_loop l hl l.length k 0 (by omega) (by omega)
theorem part_loop (l : List S24) (hs : smallL l) (hl : l.length ≤ 64) (P : S24 → Bool) (a b : List S24) (hfin : Keep.f b = some (b, 0)) (hb64 : b.length ≤ 64) (ha64 : a.length ≤ 64) : ∀ (m k n i j : Nat), n + m = l.length → 2 * m + 66 < k → i ≤ a.length → j ≤ b.length →
    a.drop i = (l.drop n).filter P → b.drop j = (l.drop n).filter (fun f => !P f) → sallyportlaw13_FieldsParted.l0 k l a b (i : Int) (j : Int) (n : Int) = some true := by
  intro m
  induction m with
  | zero =>
    intro k n i j hn hk hi hj h1 h2
    obtain ⟨k, rfl⟩ : ∃ q, k = q + 1 := ⟨k - 1, by omega⟩
    simp only [sallyportlaw13_FieldsParted.l0]
    rw [if_neg (by omega), hfin, Option.bind_some, if_pos rfl, same_f b hb64 k (by omega)]
    rfl
  | succ m ih =>
    intro k n i j hn hk hi hj h1 h2
    obtain ⟨k, rfl⟩ : ∃ q, k = q + 2 := ⟨k - 2, by omega⟩
    have hlt : n < l.length := by omega
    rw [List.drop_eq_getElem_cons hlt, List.filter_cons] at h1 h2
    have rl := rd_at l n hlt
    have hdrop : ∀ (c : List S24) (q : Nat) (x : S24) (r : List S24), c.drop q = x :: r → ∃ h : q < c.length, c[q] = x ∧ c.drop (q + 1) = r := by
      intro c q x r h
      have hq : q < c.length := by
        rcases Nat.lt_or_ge q c.length with h' | h'
        · exact h'
        · rw [List.drop_of_length_le h'] at h; cases h
      rw [List.drop_eq_getElem_cons hq] at h
      injection h with e1 e2
      exact ⟨hq, e1, e2⟩
    have hmemA : ∀ (q : Nat) (h : q < a.length), i ≤ q → P a[q] = true ∨ q < i := fun q h hq => by
      left
      have : a[q] ∈ a.drop i := by
        rw [List.mem_iff_getElem]
        exact ⟨q - i, by rw [List.length_drop]; omega, by rw [List.getElem_drop]; congr 1; omega⟩
      rw [h1] at this
      split at this
      · rename_i hp
        rcases List.mem_cons.1 this with e | e
        · rw [e]; exact hp
        · exact (List.mem_filter.1 e).2
      · exact (List.mem_filter.1 this).2
    have hmemB : ∀ (q : Nat) (h : q < b.length), j ≤ q → P b[q] = false := fun q h hq => by
      have : b[q] ∈ b.drop j := by
        rw [List.mem_iff_getElem]
        exact ⟨q - j, by rw [List.length_drop]; omega, by rw [List.getElem_drop]; congr 1; omega⟩
      rw [h2] at this
      split at this
      · rename_i hp
        rcases List.mem_cons.1 this with e | e
        · rw [e]; simpa using hp
        · simpa using (List.mem_filter.1 e).2
      · simpa using (List.mem_filter.1 this).2
    simp only [sallyportlaw13_FieldsParted.l0]
    rw [if_pos (by omega)]
    cases hP : P l[n]
    · 
      rw [hP, if_neg (by decide)] at h1
      rw [hP, if_pos (by decide)] at h2
      obtain ⟨hj', e1, e2⟩ := hdrop b j _ _ h2
      have hj2 : sallyportlaw13_FieldsParted.j2 (k + 1) l a b (i : Int) (j : Int) (n : Int) false = some true := by
        simp only [sallyportlaw13_FieldsParted.j2]
        rw [if_neg (by decide), if_pos (by omega), if_pos (by omega), if_pos (by omega), if_pos (by omega), rl, rd_at b j hj', e1]
        rw [show ((l[n].f0.toList == l[n].f0.toList) && (l[n].f1.toList == l[n].f1.toList)) = true from eqF_self _, if_pos rfl, w64 j (by omega), w64 n (by omega)]
        exact ih k (n + 1) i (j + 1) (by omega) (by omega) hi (by omega) h1 e2
      by_cases hia : i < a.length
      · have hne : a[i] ≠ l[n] := fun e => by
          rcases hmemA i hia (Nat.le_refl _) with h | h
          · rw [e, hP] at h; cases h
          · omega
        rw [if_pos (by omega), if_pos (by omega), if_pos (by omega), rl, rd_at a i hia]
        rw [show ((a[i].f0.toList == l[n].f0.toList) && (a[i].f1.toList == l[n].f1.toList)) = false from eqF_ne hne, if_neg (by decide)]
        exact hj2
      · rw [if_neg (by omega)]
        exact hj2
    · 
      rw [hP, if_pos rfl] at h1
      rw [hP, if_neg (by decide)] at h2
      obtain ⟨hi', e1, e2⟩ := hdrop a i _ _ h1
      have hj2 : sallyportlaw13_FieldsParted.j2 (k + 1) l a b (i : Int) (j : Int) (n : Int) true = some true := by
        simp only [sallyportlaw13_FieldsParted.j2]
        rw [if_pos trivial, w64 i (by omega), w64 n (by omega)]
        exact ih k (n + 1) (i + 1) j (by omega) (by omega) (by omega) hj e2 h2
      rw [if_pos (by omega), if_pos (by omega), if_pos (by omega), rl, rd_at a i hi', e1]
      rw [show ((l[n].f0.toList == l[n].f0.toList) && (l[n].f1.toList == l[n].f1.toList)) = true from eqF_self _, if_pos rfl]
      by_cases hjb : j < b.length
      · have hne : b[j] ≠ l[n] := fun e => by
          have := hmemB j hjb (Nat.le_refl _)
          rw [e, hP] at this; cases this
        rw [if_neg (by omega), if_pos (by omega), if_pos (by omega), rd_at b j hjb]
        have hx : ((!(b[j].f0.toList == l[n].f0.toList)) || !(b[j].f1.toList == l[n].f1.toList)) = true := by
          have := eqF_ne hne
          unfold eqF at this
          rw [← Bool.not_and, this]; rfl
        rw [hx]
        exact hj2
      · rw [if_pos (by omega)]
        exact hj2
theorem filter_sum (P : S24 → Bool) : ∀ l : List S24, (l.filter P).length + (l.filter fun f => !P f).length = l.length
  | [] => rfl
  | f :: r => by
    have ih := filter_sum P r
    rw [List.filter_cons, List.filter_cons]
    cases h : P f
    · simp only [Bool.false_eq_true, if_false, Bool.not_false, if_true, List.length_cons]; omega
    · simp only [Bool.not_true, Bool.false_eq_true, if_false, if_true, List.length_cons]; omega
theorem fieldsParted_law (l : List S24) (hs : smallL l) (_ : l.length ≤ 1048576) : sallyportlaw13_FieldsParted.f 400 l = some true := by
  unfold sallyportlaw13_FieldsParted.f
  have hw : sallyportlaw13_works.f 400 = some true := by
    have : ∀ j, sallyportlaw13_works.f (40 + j) = some true := by
      intro j
      induction j with
      | zero => exact works_f
      | succ j ih => exact sallyportlaw13_works.mono (40 + j) _ ih
    exact this 360
  have hok := small_okP hs
  rw [hw, Option.bind_some, if_pos rfl, show Hops.f l = some (partB true l) by unfold Hops.f; rw [if_pos hok], Option.bind_some, show Keep.f l = some (partB false l) by unfold Keep.f; rw [if_pos hok], Option.bind_some]
  unfold partB
  by_cases h : 64 < l.length
  · rw [if_pos h, if_pos h]
    simp only []
    rw [if_neg (by decide)]
    simp only [sallyportlaw13_FieldsParted.j0, if_true]
    rw [if_pos (by omega)]
    simp [wrap64]
  · rw [if_neg h, if_neg h]
    simp only []
    rw [if_pos trivial]
    simp only [sallyportlaw13_FieldsParted.j0]
    have hA := someA_true l
    have hB := someA_false l
    have la : (someA l true).length ≤ l.length := by rw [hA]; exact List.length_filter_le _ _
    have lb : (someA l false).length ≤ l.length := by rw [hB]; exact List.length_filter_le _ _
    have hsum : (someA l true).length + (someA l false).length = l.length := by
      rw [hA, hB]
      exact filter_sum (isHop l) l
    have hsub : smallL (someA l false) := small_sub hs (fun f hf => by rw [hB] at hf; exact (List.mem_filter.1 hf).1) lb
    have hfin : Keep.f (someA l false) = some (someA l false, 0) := by
      unfold Keep.f
      rw [if_pos (small_okP hsub)]
      unfold partB
      rw [if_neg (by omega), keep_same]
    have hwl : wrap64 (((someA l true).length : Int) + ((someA l false).length : Int)) = (l.length : Int) := by unfold wrap64; omega
    rw [if_neg (by decide), if_pos hwl]
    exact part_loop l hs (by omega) (isHop l) _ _ hfin (by omega) (by omega) l.length 399 0 0 0 (by omega) (by omega) (Nat.zero_le _) (Nat.zero_le _) (by simpa using hA) (by simpa using hB)
end Go.Proofs.YtkheejjpidbniaaDoor.E


namespace Go.Proofs.YtkheejjpidbniaaDoor.E
open Go.RowKit Go.ChangeShapes Go.WideShapes Go.Deep Go.Proofs.YtkheejjpidbniaaDoorW.PrintWords Go.Proofs.YtkheejjpidbniaaDoorW.PrintLast Go.Proofs.YtkheejjpidbniaaDoor.XK
set_option linter.unusedVariables false
set_option linter.unusedSimpArgs false
section
variable {H : Type} {enc : TypeId × Value → H} {w : World} {base : Nat} {spare : Nat → Bool} {held : Bool}
theorem cellsFld : Tryd.prog.cellsOf 24 = 2 := by kernel_rfl
theorem cellsStr : Tryd.prog.cellsOf 9 = 1 := by kernel_rfl
theorem bulk_pos (d : DataW H) : 1 ≤ Rows.uptoBulk d := by
  cases d with
  | lit l => cases l <;> simp [Rows.uptoBulk]
  | _ => simp [Rows.uptoBulk]
theorem bulk_mem : ∀ {ds : List (DataW H)} {d : DataW H}, d ∈ ds → Rows.uptoBulk d ≤ Rows.uptoBulkAll ds
  | d0 :: ds, d, h => by
    simp only [Rows.uptoBulkAll]
    rcases List.mem_cons.1 h with rfl | h
    · omega
    · have := bulk_mem h; omega
theorem bulk_len : ∀ ds : List (DataW H), ds.length ≤ Rows.uptoBulkAll ds
  | [] => Nat.zero_le _
  | d :: ds => by
    simp only [Rows.uptoBulkAll, List.length_cons]
    have := bulk_pos d; have := bulk_len ds; omega
theorem two_of {α : Type} {l : List α} (h : l.length = 2) : ∃ a b, l = [a, b] := by
  match l, h with
  | [a, b], _ => exact ⟨a, b, rfl⟩
theorem open_field {fuel : Nat} {cs : List Value} {x : DataW H × List MemPlace} (h : DataW.trod enc Tryd.prog w base spare held fuel 24 cs = some x) :
    ∃ r : S24, cs = [.string r.f0, .string r.f1] ∧ r.f0.size ≤ Rows.uptoBulk x.1 ∧ r.f1.size ≤ Rows.uptoBulk x.1 := by
  obtain ⟨xs, n, -, hx, hl, hxl, hf⟩ := DataW.trod_struct Tryd.underlying24 h
  obtain ⟨v0, v1, rfl⟩ := two_of (hl.trans cellsFld)
  obtain ⟨y0, y1, rfl⟩ := two_of (show xs.length = 2 from hxl)
  have g0 : DataW.trod enc Tryd.prog w base spare held n 9 ((([v0, v1] : List Value).drop 0).take (Tryd.prog.cellsOf 9)) = some y0 := hf 0 _ rfl
  have g1 : DataW.trod enc Tryd.prog w base spare held n 9 ((([v0, v1] : List Value).drop 1).take (Tryd.prog.cellsOf 9)) = some y1 := hf 1 _ rfl
  simp only [cellsStr, List.drop_zero, List.drop_succ_cons, List.take_succ_cons, List.take_zero] at g0 g1
  obtain ⟨a, ea, ha, -⟩ := DataW.trod_string Tryd.underlying9 g0
  obtain ⟨b, eb, hb, -⟩ := DataW.trod_string Tryd.underlying9 g1
  cases ea; cases eb
  refine ⟨⟨a, b⟩, rfl, ?_⟩
  have e0 : Rows.uptoBulk y0.1 = a.size + 1 := by rw [ha]; simp only [Rows.uptoBulk]; rw [Lib.size_eq]
  have e1 : Rows.uptoBulk y1.1 = b.size + 1 := by rw [hb]; simp only [Rows.uptoBulk]; rw [Lib.size_eq]
  rw [hx]
  simp only [Rows.uptoBulk, Rows.uptoBulkAll, List.map_cons, List.map_nil, e0, e1]
  omega
theorem open_fields {t : TypeId} (ht : Tryd.prog.underlying t = some (.slice 24)) {fuel : Nat} {cs : List Value} {x : DataW H × List MemPlace} (h : DataW.trod enc Tryd.prog w base spare held fuel t cs = some x) :
    ∃ (A : Option Addr) (c : Nat) (l : List S24), cs = [.slice A l.length c] ∧ l.length ≤ c ∧ Kd.C k24 w A l.length l ∧ l.length ≤ Rows.uptoBulk x.1 ∧ ∀ r ∈ l, r.f0.size ≤ Rows.uptoBulk x.1 ∧ r.f1.size ≤ Rows.uptoBulk x.1 := by
  rcases open_slice ht h with ⟨rfl, rfl⟩ | ⟨a, len, cap, m, n, D, Pl, rfl, hb, hl, hm, hmm, hx, hi⟩
  · exact ⟨none, 0, [], rfl, Nat.le_refl _, Kd.C_nil _ _, Nat.zero_le _, fun r hr => by cases hr⟩
  · have hlm : len ≤ m := by rw [hmm]; split <;> omega
    have hi' : ∀ i : Fin len, ∃ r : S24, (r.f0.size ≤ Rows.uptoBulk (D i.1) ∧ r.f1.size ≤ Rows.uptoBulk (D i.1)) ∧ ∀ j, j < 2 → w.cell? (a.add (i.1 * 2 + j)) = ([.string r.f0, .string r.f1] : List Value)[j]? := by
      intro i
      obtain ⟨cs', hc, ht2⟩ := hi i.1 (by omega)
      obtain ⟨r, rfl, hw⟩ := open_field ht2
      obtain ⟨_, _, hat⟩ := World.cells?_some hc
      rw [cellsFld] at hat
      exact ⟨r, hw, fun j hj => by rw [← Go.Deep.add_add]; exact hat j hj⟩
    have hlen : (List.ofFn fun i : Fin len => (hi' i).choose).length = len := List.length_ofFn
    have hbk : ∀ i : Fin len, Rows.uptoBulk (D i.1) ≤ Rows.uptoBulk x.1 := fun i => by
      rw [hx]
      simp only [Rows.uptoBulk]
      have := bulk_mem (ds := (List.range len).map D) (d := D i.1) (List.mem_map.2 ⟨i.1, List.mem_range.2 i.2, rfl⟩)
      omega
    refine ⟨some a, cap, List.ofFn fun i : Fin len => (hi' i).choose, by rw [hlen], by rw [hlen]; exact hl, ?_, ?_, ?_⟩
    · refine ⟨rfl, by rw [hlen]; unfold maxLen at hm; omega, fun _ => ⟨a, rfl, fun j p hj => ?_⟩⟩
      have hjl : j < len := by rw [← hlen]; exact (List.getElem?_eq_some_iff.1 hj).1
      have hp : (hi' ⟨j, hjl⟩).choose = p := by
        rw [List.getElem?_ofFn, dif_pos hjl] at hj
        exact Option.some.inj hj
      subst hp
      refine ⟨_, rfl, k24_mk w _, fun i u hu => ?_⟩
      have hi9 : i < 2 := (List.getElem?_eq_some_iff.1 hu).1
      exact ((hi' ⟨j, hjl⟩).choose_spec.2 i hi9).trans hu
    · rw [hlen, hx]
      simp only [Rows.uptoBulk]
      have := bulk_len ((List.range len).map D)
      rw [List.length_map, List.length_range] at this
      omega
    · intro r hr
      obtain ⟨i, rfl⟩ := List.mem_ofFn.1 hr
      have h1 := (hi' i).choose_spec.1
      have h2 := hbk i
      exact ⟨Nat.le_trans h1.1 h2, Nat.le_trans h1.2 h2⟩
end
end Go.Proofs.YtkheejjpidbniaaDoor.E


namespace Go.Proofs.YtkheejjpidbniaaDoor
open Go.RowKit Go.Lib
set_option linter.unusedVariables false
theorem laidMet_tail {P : Program} {x : String × DataW Unit} {r : List (String × DataW Unit)} {W : World} (h : laidMet P (x :: r) W) : laidMet P r W := by
  obtain ⟨ps, ⟨g, t, cs, fuel, p, q, _, _, _, _, hr, rfl⟩, hn, hh⟩ := h
  exact ⟨q, hr, (List.nodup_append.1 hn).2.1, fun b off hb => hh b off (List.mem_append_right _ hb)⟩
theorem gSyn : Tryd.prog.globalNamed "strconv.ErrSyntax" = some 1 := by kernel_rfl
theorem gRng : Tryd.prog.globalNamed "strconv.ErrRange" = some 2 := by kernel_rfl
theorem gPowT : (Tryd.prog.globals[3]?).map (·.type) = some 109 := by kernel_rfl
theorem gSynT : (Tryd.prog.globals[1]?).map (·.type) = some 52 := by kernel_rfl
theorem gRngT : (Tryd.prog.globals[2]?).map (·.type) = some 52 := by kernel_rfl
theorem cellsTab : Tryd.prog.cellsOf 109 = 20 := by kernel_rfl
theorem cellsU64 : Tryd.prog.cellsOf 38 = 1 := by kernel_rfl
theorem cellsES : Tryd.prog.cellsOf 107 = 1 := by kernel_rfl
theorem cellsSt : Tryd.prog.cellsOf 9 = 1 := by kernel_rfl
theorem starES : "*" ++ "errors.errorString" = "*errors.errorString" := by decide
theorem rowES (u : TypeId) (h : Tryd.prog.typeName? 3 u = some "*errors.errorString") : u = 105 :=
  typeName_ptr_named (nm := "errors.errorString") (by rw [starES]; kernel_rfl) (by kernel_rfl) (by decide) u (by rw [starES]; exact h)
def lTab : String × DataW Unit := ("internal/strconv.uint64pow10", Rows.laid_internal_strconv_uint64pow10)
def lAcc : String × DataW Unit := ("unicode/utf8.acceptRanges", Rows.laid_unicode_utf8_acceptRanges)
def lRng : String × DataW Unit := ("strconv.ErrRange", Rows.laid_strconv_ErrRange)
def lSyn : String × DataW Unit := ("strconv.ErrSyntax", Rows.laid_strconv_ErrSyntax)
theorem stdW_of {x0 x1 : String × DataW Unit} {r : List (String × DataW Unit)} {W : World} (hL : laidMet Tryd.prog (x0 :: x1 :: lTab :: lAcc :: lRng :: lSyn :: r) W) (hsh : W.ShapedOpen Tryd.prog) : StdW W := by
  have h2 := laidMet_tail (laidMet_tail hL)
  have ht : TabIs Tryd.prog W "internal/strconv.uint64pow10" .u64 pow10Tab := tabIs_of_head gPow gPowT Tryd.underlying109 Tryd.underlying38 cellsU64 cellsTab h2
  have h4 := laidMet_tail (laidMet_tail h2)
  obtain ⟨a0, s0, hr, -, -, -⟩ := laid_sentinel h4 gRng gRngT Tryd.underlying52 rowES Tryd.underlying105 Tryd.underlying107 rfl rfl Tryd.underlying9 cellsES cellsSt
  obtain ⟨a1, s1, hs, -, -, -⟩ := laid_sentinel (laidMet_tail h4) gSyn gSynT Tryd.underlying52 rowES Tryd.underlying105 Tryd.underlying107 rfl rfl Tryd.underlying9 cellsES cellsSt
  have cr := World.var?_cell gRng hr 0
  have cs := World.var?_cell gSyn hs 0
  refine ⟨Go.Proofs.cell_of_shapedOpen_int (zero := #[.int .i64 0]) (t := 3) hsh (of_decide_eq_true (by kernel_rfl)) (by kernel_rfl) rfl (by kernel_rfl) (by kernel_rfl) Tryd.underlying3, ht, ⟨_, _, by simpa using cs⟩, ⟨_, _, by simpa using cr⟩, ?_⟩
  have c0 := ht.cell gPow 0 (by decide)
  exact World.block_lt_of_cell? _ _ c0
end Go.Proofs.YtkheejjpidbniaaDoor


namespace Go.Proofs.YtkheejjpidbniaaDoor
open Go
section
variable {H : Type} {enc : TypeId × Value → H}
theorem witness_zip {C : Checked} {os : Os} {f : FuncId} {fn : Func} {s : OpenSpec} {conds : List PathCond} {apart : Bool} {laid : List (String × DataW Unit)} (w0 : World) (args : Array Value) (hos : w0.os = os)
    (hsh : (w0.forCall (fun _ _ => 0) ⟨#[], args, []⟩).Shaped C.prog)
    (hok : Input.okWideB C.prog (w0.forCall (fun _ _ => 0) ⟨#[], args, []⟩) f ⟨#[], args, []⟩ = true)
    (hrow : s.preRow enc C.prog fn conds apart laid (w0.forCall (fun _ _ => 0) ⟨#[], args, []⟩).memory args) :
    ∃ (w : World) (tape : Tape) (i : Input), w.os = os ∧ (w.forCall tape i).Shaped C.prog ∧ i.vars = [] ∧ Input.okWide C.prog (w.forCall tape i) .any w.heap.size f i ∧
      s.preRow enc C.prog fn conds apart laid (w.forCall tape i).memory i.args ∧ ({} : Assume).holds C.prog (lone (Frame.enter C.prog f i.args .normal) [] (w.forCall tape i)) :=
  ⟨w0, fun _ _ => 0, ⟨#[], args, []⟩, hos, hsh, (Input.okWide_of_okWideB (base := 0) hok).1, (Input.okWide_of_okWideB hok).2, hrow, by
    simp only [Assume.holds]
    exact ⟨by simp, by simp, fun _ => Modest.zero, by simp, by simp⟩⟩
end
end Go.Proofs.YtkheejjpidbniaaDoor


namespace Go.Proofs.YtkheejjpidbniaaDoor.fieldsParted
open Go.ChangeShapes Go.WideShapes Go.ChangeAt Go.RowKit Go.Proofs.YtkheejjpidbniaaDoor.E Go.Proofs.YtkheejjpidbniaaDoor.XK
open Go.ChangeMaps (open_string shut_string)
set_option linter.unusedVariables false
theorem own : ownKnob Tryd.prog.godebug = none := by kernel_rfl
theorem laidOut : laidOutB Tryd.prog = true := by kernel_rfl
theorem reads (os : Os) {H : Type} (enc : TypeId × Value → H) : DataW.whole enc Tryd.prog ((World.laidAll Tryd.prog os Rows.fieldsPartedRow.laid).forCall (fun _ _ => 0) ⟨#[], #[.slice none 0 0], []⟩).memory Tryd.f4.params.toList Rows.fieldsPartedSpec.vars false (#[Value.slice none 0 0] : Array Value).toList 8 = some ([.nil], [], []) := by kernel_rfl
theorem shaped (os : Os) : ((World.laidAll Tryd.prog os Rows.fieldsPartedRow.laid).forCall (fun _ _ => 0) ⟨#[], #[.slice none 0 0], []⟩).Shaped Tryd.prog := World.shaped_of_ZipB (by kernel_rfl) (by kernel_rfl)
theorem laidMet0 (os : Os) : laidMetH Tryd.prog Rows.fieldsPartedRow.laid ((World.laidAll Tryd.prog os Rows.fieldsPartedRow.laid).forCall (fun _ _ => 0) ⟨#[], #[.slice none 0 0], []⟩).memory := by
  rw [MakeChecks.laidMetH_plain _ _ _ (by kernel_rfl)]
  exact laidMet_laidAll _ (by kernel_rfl) (by kernel_rfl)
set_option maxRecDepth 100000 in
theorem contract (H : Type) (enc : TypeId × Value → H) (W : World) (base : Nat) (args : Array Value) (ds gs : List (DataW H)) (before : List MemPlace)
    (hval0 : ∀ (j : Nat) t v, Tryd.f4.params[j]? = some t → args[j]? = some v → Value.okWide Tryd.prog W .any base t v)
    (hW : DataW.Whole enc Tryd.prog Tryd.f4.params.toList Rows.fieldsPartedSpec.vars false W args.toList ds gs before)
    (hsz0 : (DataW.weightsEach Tryd.prog (Tryd.f4.params.toList ++ Rows.fieldsPartedSpec.plain.varTypes Tryd.prog) (ds ++ gs)).all (· ≤ reachBytes) = true)
    (hco : Rows.uptoSmall H (ds ++ gs) = true)
    (hL : laidMetH Tryd.prog Rows.fieldsPartedRow.laid W) (hsh : W.ShapedOpen Tryd.prog) :
    Calls Tryd.prog 4 args W fun e W' => ∃ v, e = .returned v ∧ Rows.fieldsPartedSpec.post enc Tryd.prog Tryd.f4 false true false false W args v W' := by
  have hval : ∀ (j : Nat) t v, Tryd.f4.params[j]? = some t → args[j]? = some v → Value.okWide Tryd.prog W .any base t v := hval0
  have hsz := hsz0
  have hW' := hW
  obtain ⟨p, q, hA0, hV, rfl, hfz, hnd⟩ := hW
  have hA : DataW.TrodAll enc Tryd.prog W 0 (fun _ => true) true Tryd.f4.params.toList args.toList ds p := hA0
  rw [Tryd.params4] at hA hval hsz
  obtain ⟨v0, vs0, d0, ds0, p0, q0, hargs, rfl, rfl, h0, r0⟩ := trodAll_cons hA
  obtain ⟨rfl, rfl, rfl⟩ := trodAll_nil r0
  obtain rfl : args = #[v0] := by cases args; simp_all
  obtain ⟨rfl, rfl⟩ := trodVars_none hV
  have k0 := h0
  have lt0 : ∀ x ∈ p0, x.block < W.heap.size := by obtain ⟨m, hm⟩ := k0; exact DataW.trod_lt m _ _ _ hm
  obtain ⟨fuel0, hf0⟩ := h0
  obtain ⟨a0, len0, cap0, rfl⟩ := okWide_slice Tryd.underlying22 (hval 0 22 v0 rfl rfl)
  obtain ⟨A0, c0, l0, e0, hc0, hr0, hn0, hm0⟩ := open_fields Tryd.underlying22 hf0
  simp only [Value.cells, List.cons.injEq, Value.slice.injEq, and_true] at e0
  obtain ⟨rfl, rfl, rfl⟩ := e0
  try dsimp only at hn0 hm0
  have hbk := of_decide_eq_true hco
  simp only [List.append_nil, Rows.uptoBulkAll] at hbk
  have hbk0 : Rows.uptoBulk d0 ≤ 1048576 := by omega
  rw [MakeChecks.laidMetH_plain _ _ _ (by kernel_rfl)] at hL
  have hS : StdW W := stdW_of hL hsh
  clear hA0 hval0 hval hsz0
  refine (Go.Proofs.YtkheejjpidbniaaDoor.XL.sallyportlaw13_FieldsParted.calls 400 a0 cap0 l0 true W hr0 hc0 hS (fieldsParted_law l0 ⟨by omega, fun r hr => by have := hm0 r hr; omega⟩ (by omega))).mono fun e W' ⟨he, bel⟩ => ?_
  subst he
  exact ⟨_, rfl, _, _, _, [], _, [], hW', trodAll_mk1 (shut_bool Tryd.underlying4 _), (trodAll_cons_mk (Below.trod laidOut (by kernel_rfl) (of_decide_eq_true (by kernel_rfl)) k0 bel lt0) trodAll_mk0), rfl, bel.frame _, fun h => by cases h⟩
set_option maxRecDepth 100000 in
theorem liftedUpto (os : Os) (started : os.Started) (H : Type) (enc : TypeId × Value → H) (F : Stop.Interp) :
    ReturnsInHanded {} Tryd.checked os 4 .any ((Rows.OpenSpec.upto Rows.fieldsPartedSpec).preRow enc Tryd.prog Tryd.f4 Rows.fieldsPartedUptoRow.domain false Rows.fieldsPartedUptoRow.laid) (((Rows.OpenSpec.upto Rows.fieldsPartedSpec).at F).post enc Tryd.prog Tryd.f4 false true false false) := by
  refine returnsInHanded_of_row (C := Tryd.checked) (s := Rows.OpenSpec.upto Rows.fieldsPartedSpec) own started (by kernel_rfl) Tryd.func4
    (witness_zip (enc := enc) (C := Tryd.checked) (World.laidAll Tryd.prog os Rows.fieldsPartedUptoRow.laid) #[.slice none 0 0] (World.laidAll_os _ _ _) (shaped os) (by kernel_rfl)
      (OpenSpec.preRow_of_cond 8 (reads os enc) (by kernel_rfl) (fun k hk => by cases hk; kernel_rfl) (by kernel_rfl) (laidMet0 os))) ?_
  intro W base args ds gs before hval hW _ hco hsz hL hsh _
  exact contract H enc W base args ds gs before hval hW hsz (hco _ rfl) hL hsh
theorem saidUpto : Rows.FieldsPartedUptoSaid :=
  OpenClaim.holds_of_cond 4 Tryd.f4 rfl rfl rfl rfl rfl rfl rfl ⟨rfl, rfl, rfl, rfl, rfl⟩ rfl rfl rfl rfl rfl (by kernel_rfl) Tryd.func4 (by kernel_rfl)
    (of_decide_eq_true (by kernel_rfl)) (by unfold Func.isWrapper; first | (rw [if_pos (by decide +kernel)]; kernel_rfl) | (rw [if_neg (by decide +kernel)]; exact ⟨rfl, rfl⟩))
    (fun os started H enc _ F => by rw [OpenClaim.pre_eq_preRow]; exact liftedUpto os started H enc F)
theorem plain (f : FuncId) (fn : Func) (hf : Tryd.pinned.checked.prog.funcNamed "sallyport/sallyportlaw13.FieldsParted" = some f) (hfn : Tryd.pinned.checked.prog.funcs[f]? = some fn) :
    true = Tryd.pinned.checked.prog.looks [] ∧ ∀ (j : Nat) t, fn.params[j]? = some t → Tryd.pinned.checked.prog.wantsStandIn t = false := by
  obtain rfl : f = 4 := Option.some.inj ((show Tryd.prog.funcNamed "sallyport/sallyportlaw13.FieldsParted" = some 4 by kernel_rfl).symm.trans hf) |>.symm
  obtain rfl : fn = Tryd.f4 := (Option.some.inj (Tryd.func4.symm.trans hfn)).symm
  refine ⟨by kernel_rfl, fun j t ht => ?_⟩
  rw [Tryd.params4] at ht
  have hm := Array.mem_of_getElem? ht
  simp only [List.mem_toArray, List.mem_cons, List.not_mem_nil, or_false] at hm
  rcases hm with rfl
  · exact (show Tryd.prog.wantsStandIn 22 = false by kernel_rfl)
theorem cardUpto : Rows.FieldsPartedUptoCardSaid :=
  Claim7.holds_tied_plain_at .later [] _ _ _ _ saidUpto (fun _ h => by cases h) (by kernel_rfl) (fun _ h => by cases h) fieldsPartedUpto_row_tie rfl ⟨rfl, rfl⟩ (by kernel_rfl) rfl plain (by kernel_rfl)
end Go.Proofs.YtkheejjpidbniaaDoor.fieldsParted
namespace Go.Proofs.YtkheejjpidbniaaDoor
theorem fieldsParted_cardUpto : Rows.FieldsPartedUptoCardSaid := fieldsParted.cardUpto
end Go.Proofs.YtkheejjpidbniaaDoor
