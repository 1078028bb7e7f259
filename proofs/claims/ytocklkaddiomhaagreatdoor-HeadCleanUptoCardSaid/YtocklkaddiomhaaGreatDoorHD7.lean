/- What the cards of this seat rest on: the walks and plain laws, part 7. -/
import Derived.Test.YtocklkaddiomhaaGreatDoorProg
import Derived.Below
import Derived.Deep.Draws
import Derived.Deep.AppendLies
import Derived.Maps.AppendAt
import Derived.OwnWalk
import Derived.Laws.BytesArg
import Derived.Laws.MakeOwn
import Derived.Laws.OwnMore
import Derived.Deep.OwnRows
import Derived.Tactics
import Derived.Lib.ConvBytes
import Derived.Laws.Slices
import Derived.WalkKit
import Derived.KernelRfl
import Derived.RowKit3
import Derived.Deep.LoopGhost
import Derived.Deep.QuietTactic
import Derived.BigQuiet
import Derived.WideLaws
import Derived.Deep.DeepCutAuto
import Derived.Deep.CutBlock
import Derived.Deep.RegionHeld3
import Derived.Laws.Rows
import Derived.Lib.AppendStr
import Derived.ArgAppend
import Derived.Laws.IdiomCopy
import Derived.OrdersHeld
import Derived.Laws.BitsLemmas
import Derived.RowKit
import Derived.Test.YtocklkaddiomhaaGreatDoorHD2
import Derived.Test.YtocklkaddiomhaaGreatDoorHD6
import Derived.Test.YtocklkaddiomhaaGreatDoorHD3
import Derived.Test.YtocklkaddiomhaaGreatDoorHD5
import Derived.Test.YtocklkaddiomhaaGreatDoorHD4
import Derived.Shelf.Strings.SlTrimAscii
import Derived.WalkMore


namespace Go.Proofs.YtocklkaddiomhaaGreatDoor.XK
open Go.RowKit Go.Proofs.YtocklkaddiomhaaGreatDoorW.PrintWords Go.Proofs.YtocklkaddiomhaaGreatDoorW.PrintLast Go.Proofs.YtocklkaddiomhaaGreatDoorW.PrintMore
attribute [local go_sem] max2_int min2_int max_two min_two max_three min_three max_four min_four
set_option linter.unusedVariables false
set_option linter.unusedSimpArgs false
def errW : Option Int → Value
 | none => .nilIface
 | some c => .iface 0 (.int .i64 c)
theorem errW_none : errW none = .nilIface := rfl
theorem errW_some (c : Int) : errW (some c) = .iface 0 (.int .i64 c) := rfl
theorem info72 : (Tryz.prog.info? 72).map (fun i => (i.zero, i.size, i.bytes)) = some (some (.agg #[(.string ⟨#[]⟩), (.string ⟨#[]⟩)]), 2, 32) := by kernel_rfl
structure S72 where
 f0 : ByteArray
 f1 : ByteArray
def z72 : S72 := ⟨(⟨#[]⟩ : ByteArray), (⟨#[]⟩ : ByteArray)⟩
def k72 : Kd S72 := Kd.iso (Kd.pair Kd.string Kd.string) (fun x : S72 => (x.f0, x.f1))
theorem k72_open {w : World} {x : S72} {cs : List Value} (h : k72.K w x cs) : cs = [.string x.f0, .string x.f1] := by
 obtain ⟨_, _, rfl, rfl, rfl⟩ := h
 exact rfl
theorem k72_mk (w : World) (x : S72)  : k72.K w x [.string x.f0, .string x.f1] := ⟨[.string x.f0], [.string x.f1], rfl, rfl, rfl⟩
theorem k72_mkM (w : World) (base : Nat) (ok : Nat → Prop) (x : S72)  : k72.M w base ok x [.string x.f0, .string x.f1] := ⟨[.string x.f0], [.string x.f1], rfl, rfl, rfl⟩
def rd_T72 (xs : List S72) (i : Int) : S72 := xs.getD i.toNat z72
theorem at_T72 {w : World} {A : Option Addr} {n : Nat} {xs : List S72} (h : Kd.C k72 w A n xs) (i : Int) (h0 : 0 ≤ i) (h1 : i < n) : ∃ ad , A = some ad ∧ w.cell? (ad.add (i.toNat * 2)) = some (.string (rd_T72 xs i).f0) ∧ w.cell? ⟨(ad.add (i.toNat * 2)).block, (ad.add (i.toNat * 2)).off + 1, none⟩ = some (.string (rd_T72 xs i).f1) := by
 obtain ⟨ad, c, e, _, hK, hc0⟩ := Kd.C_get h z72 i h0 h1
 have hc : ∀ j u, c[j]? = some u → w.cell? (ad.add (i.toNat * 2 + j)) = some u := hc0
 obtain rfl := k72_open hK
 exact ⟨ad, e, hc 0 _ rfl, by rw [← add_field _ _ 1 (by omega)]; exact hc 1 _ rfl⟩
end Go.Proofs.YtocklkaddiomhaaGreatDoor.XK


namespace Go.Proofs.YtocklkaddiomhaaGreatDoor.XK
open Go.RowKit Go.Proofs.YtocklkaddiomhaaGreatDoorW.PrintWords Go.Proofs.YtocklkaddiomhaaGreatDoorW.PrintLast Go.Proofs.YtocklkaddiomhaaGreatDoorW.PrintMore
attribute [local go_sem] max2_int min2_int max_two min_two max_three min_three max_four min_four
set_option linter.unusedVariables false
set_option linter.unusedSimpArgs false
theorem eqA72 (d : Nat) (w : World) (x0 y0 : ByteArray) (x1 y1 : ByteArray) :
  (Op.equalIn (d + 2) 72 (.agg #[.string x0, .string x1]) (.agg #[.string y0, .string y1])).run Tryz.prog w = .ok (x0.toList == y0.toList && (x1.toList == y1.toList)) w := by
 refine eqA_of Tryz.underlying72 (by kernel_rfl) ?_
 refine eqf_cons (by rfl) (by go_simp; rfl) (by go_simp; rfl) (by go_simp) ?_
 exact eqf_last (by rfl) (by go_simp; rfl) (by go_simp; rfl) (by go_simp)
end Go.Proofs.YtocklkaddiomhaaGreatDoor.XK


namespace Go.Proofs.YtocklkaddiomhaaGreatDoor.XK
open Go.RowKit Go.Proofs.YtocklkaddiomhaaGreatDoorW.PrintWords Go.Proofs.YtocklkaddiomhaaGreatDoorW.PrintLast Go.Proofs.YtocklkaddiomhaaGreatDoorW.PrintMore
attribute [local go_sem] max2_int min2_int max_two min_two max_three min_three max_four min_four
set_option linter.unusedVariables false
set_option linter.unusedSimpArgs false
attribute [local go_sem high] eqA72
def sallyportbase_Fields.f (l0 : List (S72)) : Option ((List (S72))) := (some (([] : List (S72)) : List (S72))).bind fun y101 => (if y101.length + l0.length < 4398046511104 then (some (y101 ++ l0)) else (none))
set_option maxHeartbeats 8000000 in
set_option maxRecDepth 100000 in
theorem sallyportbase_Fields.calls (A0 : Option Addr) (c0 : Nat) (l0 : List (S72)) (r : List (S72)) (w : World) (hr0 : Kd.C k72 w A0 l0.length l0) (hc0 : l0.length ≤ c0) (h : sallyportbase_Fields.f l0 = some r) :
  Calls Tryz.prog 28 #[.slice A0 l0.length c0] w fun e w' => ∃ v0_ : Value, e = .returned (v0_) ∧ Kd.R k72 72 w' w.heap.size (fun _ => True) v0_ r ∧ Below w.heap.size w w' := by
 have HR0 := Aside0.mk hr0
 have HC0 := Aside0.mk hc0
 clear hr0 hc0
 have HB := Aside0.mk (Below.refl w.heap.size w)
 have H : ((some (([] : List (S72)) : List (S72))).bind fun y101 => (if y101.length + l0.length < 4398046511104 then (some (y101 ++ l0)) else (none))) = some r := h
 clear h
 obtain ⟨y101, hy101⟩ : ∃ y_ : List (S72), y_ = (([] : List (S72))) := ⟨_, rfl⟩
 replace H : (if y101.length + l0.length < 4398046511104 then (some (y101 ++ l0)) else (none)) = some r := by first | (rw [hy101]; with_reducible exact H) | (have H2_ := (Option.bind_some _ _).symm.trans H; rw [hy101]; with_reducible exact H2_) | (have H2_ := (Option.bind_some _ _).symm.trans H; with_reducible exact H2_) | with_reducible exact H | (rw [hy101]; exact H) | exact H
 have Ny101 := Aside0.mk hy101
 clear hy101
 by_cases c2 : y101.length + l0.length < 4398046511104
 ·rw [if_pos c2] at H
  have LMc2 := Aside0.mk c2
  clear c2
  obtain ⟨y104, hy104⟩ : ∃ y_ : List (S72), y_ = (y101 ++ l0) := ⟨_, rfl⟩
  replace H : (some y104) = some r := by first | (rw [hy104]; with_reducible exact H) | (have H2_ := (Option.bind_some _ _).symm.trans H; rw [hy104]; with_reducible exact H2_) | (have H2_ := (Option.bind_some _ _).symm.trans H; with_reducible exact H2_) | with_reducible exact H | (rw [hy104]; exact H) | exact H
  have Ny104 := Aside0.mk hy104
  clear hy104
  obtain rfl := Option.some.inj H
  go_enter Tryz.func28, Tryz.ntmps28
  go_wp2_with (first | ((with_reducible refine gate_dst (N := 3) rfl ?_); refine Kd.R_lit k72 _ 72 ?hg (N := 3) ?hd (xs := ([] : List (S72))) (inner := []) (ok := fun _ => True) (okp := fun _ => True) ?hr ?hp (fun _ hk => hk) trivial (Below.refl _ _) (Nat.le_refl _) (by simp) ?_; (case hd => rfl); (case hg => rfl); (case hr => first | (go_simp; done) | (go_simp; rfl)); (case hp => exact (Reps.none _ _)); intro v102 w3 ho4 hb hg_ hnew_; clear hg_ hnew_; (first | rw [← Ny101.out] at ho4 | (simp only [Int.reduceToNat] at ho4; rw [← Ny101.out] at ho4)); have n0_ := Aside0.mk (Kd.R_lower ho4 (below_size (by repeat (first | (with_reducible first | exact HB.out | apply below_alloc | apply pw_below_drewN | apply below_drew1) | exact HB.out)))); have n1_ := Aside0.mk (below_step (by repeat (first | (with_reducible first | exact HB.out | apply below_alloc | apply pw_below_drewN | apply below_drew1) | exact HB.out)) hb); clear HB; have HO103 := n0_; have HB := n1_; clear n0_ n1_; clear hb ho4) | ((with_reducible refine gate_builtin (b := .append) (xs := #[.tmp 3, .tmp 4]) rfl ?_); at_builtin; refine Kd.R_append_rows k72 (w0 := w) w.heap.size rfl (.tmp 3) (.tmp 4) 34 72 (.agg #[(.string ⟨#[]⟩), (.string ⟨#[]⟩)]) 32 rfl Tryz.underlying34 info72 rfl (by decide) (by omega) v102 y101 l0 _ _ _ (fun _ => True) (fun _ => False) rfl rfl ?aO ?aR (fun _ _ h => h) (fun _ h => h.elim) ?aF ?aB ?aS ?aL ?_; (case aR => repeat (first | exact (Kd.C_below HR0.out HB.out) | (with_reducible refine Kd.C_alloc ?_ _) | (with_reducible refine Kd.C_drewN ?_ _) | (with_reducible refine Kd.C_drew ?_))); (case aB => exact (by repeat (first | (with_reducible first | exact HB.out | apply below_alloc | apply pw_below_drewN | apply below_drew1) | exact HB.out))); (case aF => exact (fun _ _ => trivial)); (case aO => exact (by (with_reducible repeat (first | apply Kd.R_alloc | apply Kd.R_drewN | apply Kd.R_drew)); exact HO103.out)); (case aS => exact (below_size (by repeat (first | (with_reducible first | exact HB.out | apply below_alloc | apply pw_below_drewN | apply below_drew1) | exact HB.out)))); (case aL => have := LMc2.out; omega); intro v105 w5 ho hb hg hat; rw [← Ny104.out] at ho; have n0_ := Aside0.mk (hb); have n1_ := Aside0.mk (ho); clear HB; clear HO103; have HB := n0_; have HO106 := n1_; clear n0_ n1_; clear ho hb hg hat))
  go_ret
  exact ⟨_, by first | rfl | (simp [errW_none, errW_some] <;> rfl) | (simp [*, errW_none, errW_some] <;> rfl), by (with_reducible repeat (first | apply Kd.R_alloc | apply Kd.R_drewN | apply Kd.R_drew)); exact HO106.out, by repeat (first | (with_reducible first | exact HB.out | apply below_alloc | apply pw_below_drewN | apply below_drew1) | exact HB.out)⟩
 ·rw [if_neg c2] at H
  exact absurd H (by simp)
end Go.Proofs.YtocklkaddiomhaaGreatDoor.XK


namespace Go.Proofs.YtocklkaddiomhaaGreatDoor.XK
open Go.RowKit Go.Proofs.YtocklkaddiomhaaGreatDoorW.PrintWords Go.Proofs.YtocklkaddiomhaaGreatDoorW.PrintLast Go.Proofs.YtocklkaddiomhaaGreatDoorW.PrintMore
attribute [local go_sem] max2_int min2_int max_two min_two max_three min_three max_four min_four
set_option linter.unusedVariables false
set_option linter.unusedSimpArgs false
end Go.Proofs.YtocklkaddiomhaaGreatDoor.XK


namespace Go.Proofs.YtocklkaddiomhaaGreatDoor.XA
open Go.Proofs.YtocklkaddiomhaaGreatDoor.XK
open Go.RowKit Go.Proofs.YtocklkaddiomhaaGreatDoorW.PrintWords Go.Proofs.YtocklkaddiomhaaGreatDoorW.PrintLast Go.Proofs.YtocklkaddiomhaaGreatDoorW.PrintMore
attribute [local go_sem] max2_int min2_int max_two min_two max_three min_three max_four min_four
set_option linter.unusedVariables false
set_option linter.unusedSimpArgs false
end Go.Proofs.YtocklkaddiomhaaGreatDoor.XA


namespace Go.Proofs.YtocklkaddiomhaaGreatDoor.XA
open Go.Proofs.YtocklkaddiomhaaGreatDoor.XK
open Go.RowKit Go.Proofs.YtocklkaddiomhaaGreatDoorW.PrintWords Go.Proofs.YtocklkaddiomhaaGreatDoorW.PrintLast Go.Proofs.YtocklkaddiomhaaGreatDoorW.PrintMore
attribute [local go_sem] max2_int min2_int max_two min_two max_three min_three max_four min_four
set_option linter.unusedVariables false
set_option linter.unusedSimpArgs false
def head_sign.f (a0 : Int) : Option (Bool) := if a0 ≥ 97 then (if a0 ≤ 122 then (some true) else (if a0 ≥ 65 then (if a0 ≤ 90 then (some true) else (if a0 ≥ 48 then (if a0 ≤ 57 then (some true) else (if a0 > 32 then ((E.IndexByte.f (⟨#[33, 35, 36, 37, 38, 39, 42, 43, 45, 46, 94, 95, 96, 124, 126]⟩ : ByteArray) a0).bind fun t101 => (some (decide (t101 ≥ 0)))) else (some false))) else (if a0 > 32 then ((E.IndexByte.f (⟨#[33, 35, 36, 37, 38, 39, 42, 43, 45, 46, 94, 95, 96, 124, 126]⟩ : ByteArray) a0).bind fun t102 => (some (decide (t102 ≥ 0)))) else (some false)))) else (if a0 ≥ 48 then (if a0 ≤ 57 then (some true) else (if a0 > 32 then ((E.IndexByte.f (⟨#[33, 35, 36, 37, 38, 39, 42, 43, 45, 46, 94, 95, 96, 124, 126]⟩ : ByteArray) a0).bind fun t103 => (some (decide (t103 ≥ 0)))) else (some false))) else (if a0 > 32 then ((E.IndexByte.f (⟨#[33, 35, 36, 37, 38, 39, 42, 43, 45, 46, 94, 95, 96, 124, 126]⟩ : ByteArray) a0).bind fun t104 => (some (decide (t104 ≥ 0)))) else (some false))))) else (if a0 ≥ 65 then (if a0 ≤ 90 then (some true) else (if a0 ≥ 48 then (if a0 ≤ 57 then (some true) else (if a0 > 32 then ((E.IndexByte.f (⟨#[33, 35, 36, 37, 38, 39, 42, 43, 45, 46, 94, 95, 96, 124, 126]⟩ : ByteArray) a0).bind fun t105 => (some (decide (t105 ≥ 0)))) else (some false))) else (if a0 > 32 then ((E.IndexByte.f (⟨#[33, 35, 36, 37, 38, 39, 42, 43, 45, 46, 94, 95, 96, 124, 126]⟩ : ByteArray) a0).bind fun t106 => (some (decide (t106 ≥ 0)))) else (some false)))) else (if a0 ≥ 48 then (if a0 ≤ 57 then (some true) else (if a0 > 32 then ((E.IndexByte.f (⟨#[33, 35, 36, 37, 38, 39, 42, 43, 45, 46, 94, 95, 96, 124, 126]⟩ : ByteArray) a0).bind fun t107 => (some (decide (t107 ≥ 0)))) else (some false))) else (if a0 > 32 then ((E.IndexByte.f (⟨#[33, 35, 36, 37, 38, 39, 42, 43, 45, 46, 94, 95, 96, 124, 126]⟩ : ByteArray) a0).bind fun t108 => (some (decide (t108 ≥ 0)))) else (some false))))
set_option maxHeartbeats 8000000 in
set_option maxRecDepth 100000 in
theorem head_sign.calls (a0 : Int) (r : Bool) (w : World) (hS_ : StdW w) (h : head_sign.f a0 = some r) :
  Calls Tryz.prog 45 #[.int .u8 a0] w fun e w' => e = .returned (.bool r) ∧ Below w.heap.size w w' := by
 have HS_ := Aside0.mk hS_
 clear hS_
 have HB := Aside0.mk (Below.refl w.heap.size w)
 have H : (if a0 ≥ 97 then (if a0 ≤ 122 then (some true) else (if a0 ≥ 65 then (if a0 ≤ 90 then (some true) else (if a0 ≥ 48 then (if a0 ≤ 57 then (some true) else (if a0 > 32 then ((E.IndexByte.f (⟨#[33, 35, 36, 37, 38, 39, 42, 43, 45, 46, 94, 95, 96, 124, 126]⟩ : ByteArray) a0).bind fun t101 => (some (decide (t101 ≥ 0)))) else (some false))) else (if a0 > 32 then ((E.IndexByte.f (⟨#[33, 35, 36, 37, 38, 39, 42, 43, 45, 46, 94, 95, 96, 124, 126]⟩ : ByteArray) a0).bind fun t102 => (some (decide (t102 ≥ 0)))) else (some false)))) else (if a0 ≥ 48 then (if a0 ≤ 57 then (some true) else (if a0 > 32 then ((E.IndexByte.f (⟨#[33, 35, 36, 37, 38, 39, 42, 43, 45, 46, 94, 95, 96, 124, 126]⟩ : ByteArray) a0).bind fun t103 => (some (decide (t103 ≥ 0)))) else (some false))) else (if a0 > 32 then ((E.IndexByte.f (⟨#[33, 35, 36, 37, 38, 39, 42, 43, 45, 46, 94, 95, 96, 124, 126]⟩ : ByteArray) a0).bind fun t104 => (some (decide (t104 ≥ 0)))) else (some false))))) else (if a0 ≥ 65 then (if a0 ≤ 90 then (some true) else (if a0 ≥ 48 then (if a0 ≤ 57 then (some true) else (if a0 > 32 then ((E.IndexByte.f (⟨#[33, 35, 36, 37, 38, 39, 42, 43, 45, 46, 94, 95, 96, 124, 126]⟩ : ByteArray) a0).bind fun t105 => (some (decide (t105 ≥ 0)))) else (some false))) else (if a0 > 32 then ((E.IndexByte.f (⟨#[33, 35, 36, 37, 38, 39, 42, 43, 45, 46, 94, 95, 96, 124, 126]⟩ : ByteArray) a0).bind fun t106 => (some (decide (t106 ≥ 0)))) else (some false)))) else (if a0 ≥ 48 then (if a0 ≤ 57 then (some true) else (if a0 > 32 then ((E.IndexByte.f (⟨#[33, 35, 36, 37, 38, 39, 42, 43, 45, 46, 94, 95, 96, 124, 126]⟩ : ByteArray) a0).bind fun t107 => (some (decide (t107 ≥ 0)))) else (some false))) else (if a0 > 32 then ((E.IndexByte.f (⟨#[33, 35, 36, 37, 38, 39, 42, 43, 45, 46, 94, 95, 96, 124, 126]⟩ : ByteArray) a0).bind fun t108 => (some (decide (t108 ≥ 0)))) else (some false))))) = some r := h
 clear h
 by_cases c2 : a0 ≥ 97
 ·rw [if_pos c2] at H
  have c2b0 : decide (97 ≤ a0) = true := decide_eq_true c2
  clear c2
  by_cases c3 : a0 ≤ 122
  ·rw [if_pos c3] at H
   have c3b0 : decide (a0 ≤ 122) = true := decide_eq_true c3
   clear c3
   obtain rfl := Option.some.inj H
   go_enter Tryz.func45, Tryz.ntmps45
   go_wp2
   go_ret
   exact ⟨by first | rfl | (simp [errW_none, errW_some] <;> rfl) | (simp [*, errW_none, errW_some] <;> rfl), by repeat (first | (with_reducible first | exact HB.out | apply below_alloc | apply pw_below_drewN | apply below_drew1) | exact HB.out)⟩
  ·rw [if_neg c3] at H
   have c3b0 : decide (a0 ≤ 122) = false := decide_eq_false c3
   clear c3
   by_cases c4 : a0 ≥ 65
   ·rw [if_pos c4] at H
    have c4b0 : decide (65 ≤ a0) = true := decide_eq_true c4
    clear c4
    by_cases c5 : a0 ≤ 90
    ·rw [if_pos c5] at H
     have c5b0 : decide (a0 ≤ 90) = true := decide_eq_true c5
     clear c5
     obtain rfl := Option.some.inj H
     go_enter Tryz.func45, Tryz.ntmps45
     go_wp2
     go_ret
     exact ⟨by first | rfl | (simp [errW_none, errW_some] <;> rfl) | (simp [*, errW_none, errW_some] <;> rfl), by repeat (first | (with_reducible first | exact HB.out | apply below_alloc | apply pw_below_drewN | apply below_drew1) | exact HB.out)⟩
    ·rw [if_neg c5] at H
     have c5b0 : decide (a0 ≤ 90) = false := decide_eq_false c5
     clear c5
     by_cases c6 : a0 ≥ 48
     ·rw [if_pos c6] at H
      have c6b0 : decide (48 ≤ a0) = true := decide_eq_true c6
      clear c6
      by_cases c7 : a0 ≤ 57
      ·rw [if_pos c7] at H
       have c7b0 : decide (a0 ≤ 57) = true := decide_eq_true c7
       clear c7
       obtain rfl := Option.some.inj H
       go_enter Tryz.func45, Tryz.ntmps45
       go_wp2
       go_ret
       exact ⟨by first | rfl | (simp [errW_none, errW_some] <;> rfl) | (simp [*, errW_none, errW_some] <;> rfl), by repeat (first | (with_reducible first | exact HB.out | apply below_alloc | apply pw_below_drewN | apply below_drew1) | exact HB.out)⟩
      ·rw [if_neg c7] at H
       have c7b0 : decide (a0 ≤ 57) = false := decide_eq_false c7
       clear c7
       by_cases c8 : a0 > 32
       ·rw [if_pos c8] at H
        have c8b0 : decide (32 < a0) = true := decide_eq_true c8
        clear c8
        replace H := Option.bind_eq_some_iff.mp H
        obtain ⟨t101, A90, H⟩ := H
        replace H : (some (decide (t101 ≥ 0))) = some r := H
        have A9 := Aside0.mk A90
        clear A90
        obtain rfl := Option.some.inj H
        go_enter Tryz.func45, Tryz.ntmps45
        go_wp2_with (first | (go_at_call 78; (with_reducible refine (E.IndexByte.calls (⟨#[33, 35, 36, 37, 38, 39, 42, 43, 45, 46, 94, 95, 96, 124, 126]⟩ : ByteArray) a0 t101 _ ?side1 A9.out).mono ?_); (case side1 => exact StdW.below HS_.out (by repeat (first | (with_reducible first | exact HB.out | apply below_alloc | apply pw_below_drewN | apply below_drew1) | exact HB.out))); rintro e w10 ⟨rfl, hb⟩; have n0_ := Aside0.mk (below_step (by repeat (first | (with_reducible first | exact HB.out | apply below_alloc | apply pw_below_drewN | apply below_drew1) | exact HB.out)) hb); clear HB; have HB := n0_; clear n0_; (try clear hb); (try clear hb2); (try clear hk); (try clear hi)))
        go_ret
        exact ⟨by first | rfl | (simp [errW_none, errW_some] <;> rfl) | (simp [*, errW_none, errW_some] <;> rfl), by repeat (first | (with_reducible first | exact HB.out | apply below_alloc | apply pw_below_drewN | apply below_drew1) | exact HB.out)⟩
       ·rw [if_neg c8] at H
        have c8b0 : decide (32 < a0) = false := decide_eq_false c8
        clear c8
        obtain rfl := Option.some.inj H
        go_enter Tryz.func45, Tryz.ntmps45
        go_wp2
        go_ret
        exact ⟨by first | rfl | (simp [errW_none, errW_some] <;> rfl) | (simp [*, errW_none, errW_some] <;> rfl), by repeat (first | (with_reducible first | exact HB.out | apply below_alloc | apply pw_below_drewN | apply below_drew1) | exact HB.out)⟩
     ·rw [if_neg c6] at H
      have c6b0 : decide (48 ≤ a0) = false := decide_eq_false c6
      clear c6
      by_cases c11 : a0 > 32
      ·rw [if_pos c11] at H
       have c11b0 : decide (32 < a0) = true := decide_eq_true c11
       clear c11
       replace H := Option.bind_eq_some_iff.mp H
       obtain ⟨t102, A120, H⟩ := H
       replace H : (some (decide (t102 ≥ 0))) = some r := H
       have A12 := Aside0.mk A120
       clear A120
       obtain rfl := Option.some.inj H
       go_enter Tryz.func45, Tryz.ntmps45
       go_wp2_with (first | (go_at_call 78; (with_reducible refine (E.IndexByte.calls (⟨#[33, 35, 36, 37, 38, 39, 42, 43, 45, 46, 94, 95, 96, 124, 126]⟩ : ByteArray) a0 t102 _ ?side1 A12.out).mono ?_); (case side1 => exact StdW.below HS_.out (by repeat (first | (with_reducible first | exact HB.out | apply below_alloc | apply pw_below_drewN | apply below_drew1) | exact HB.out))); rintro e w13 ⟨rfl, hb⟩; have n0_ := Aside0.mk (below_step (by repeat (first | (with_reducible first | exact HB.out | apply below_alloc | apply pw_below_drewN | apply below_drew1) | exact HB.out)) hb); clear HB; have HB := n0_; clear n0_; (try clear hb); (try clear hb2); (try clear hk); (try clear hi)))
       go_ret
       exact ⟨by first | rfl | (simp [errW_none, errW_some] <;> rfl) | (simp [*, errW_none, errW_some] <;> rfl), by repeat (first | (with_reducible first | exact HB.out | apply below_alloc | apply pw_below_drewN | apply below_drew1) | exact HB.out)⟩
      ·rw [if_neg c11] at H
       have c11b0 : decide (32 < a0) = false := decide_eq_false c11
       clear c11
       obtain rfl := Option.some.inj H
       go_enter Tryz.func45, Tryz.ntmps45
       go_wp2
       go_ret
       exact ⟨by first | rfl | (simp [errW_none, errW_some] <;> rfl) | (simp [*, errW_none, errW_some] <;> rfl), by repeat (first | (with_reducible first | exact HB.out | apply below_alloc | apply pw_below_drewN | apply below_drew1) | exact HB.out)⟩
   ·rw [if_neg c4] at H
    have c4b0 : decide (65 ≤ a0) = false := decide_eq_false c4
    clear c4
    by_cases c14 : a0 ≥ 48
    ·rw [if_pos c14] at H
     have c14b0 : decide (48 ≤ a0) = true := decide_eq_true c14
     clear c14
     by_cases c15 : a0 ≤ 57
     ·rw [if_pos c15] at H
      have c15b0 : decide (a0 ≤ 57) = true := decide_eq_true c15
      clear c15
      obtain rfl := Option.some.inj H
      go_enter Tryz.func45, Tryz.ntmps45
      go_wp2
      go_ret
      exact ⟨by first | rfl | (simp [errW_none, errW_some] <;> rfl) | (simp [*, errW_none, errW_some] <;> rfl), by repeat (first | (with_reducible first | exact HB.out | apply below_alloc | apply pw_below_drewN | apply below_drew1) | exact HB.out)⟩
     ·rw [if_neg c15] at H
      have c15b0 : decide (a0 ≤ 57) = false := decide_eq_false c15
      clear c15
      by_cases c16 : a0 > 32
      ·rw [if_pos c16] at H
       have c16b0 : decide (32 < a0) = true := decide_eq_true c16
       clear c16
       replace H := Option.bind_eq_some_iff.mp H
       obtain ⟨t103, A170, H⟩ := H
       replace H : (some (decide (t103 ≥ 0))) = some r := H
       have A17 := Aside0.mk A170
       clear A170
       obtain rfl := Option.some.inj H
       go_enter Tryz.func45, Tryz.ntmps45
       go_wp2_with (first | (go_at_call 78; (with_reducible refine (E.IndexByte.calls (⟨#[33, 35, 36, 37, 38, 39, 42, 43, 45, 46, 94, 95, 96, 124, 126]⟩ : ByteArray) a0 t103 _ ?side1 A17.out).mono ?_); (case side1 => exact StdW.below HS_.out (by repeat (first | (with_reducible first | exact HB.out | apply below_alloc | apply pw_below_drewN | apply below_drew1) | exact HB.out))); rintro e w18 ⟨rfl, hb⟩; have n0_ := Aside0.mk (below_step (by repeat (first | (with_reducible first | exact HB.out | apply below_alloc | apply pw_below_drewN | apply below_drew1) | exact HB.out)) hb); clear HB; have HB := n0_; clear n0_; (try clear hb); (try clear hb2); (try clear hk); (try clear hi)))
       go_ret
       exact ⟨by first | rfl | (simp [errW_none, errW_some] <;> rfl) | (simp [*, errW_none, errW_some] <;> rfl), by repeat (first | (with_reducible first | exact HB.out | apply below_alloc | apply pw_below_drewN | apply below_drew1) | exact HB.out)⟩
      ·rw [if_neg c16] at H
       have c16b0 : decide (32 < a0) = false := decide_eq_false c16
       clear c16
       obtain rfl := Option.some.inj H
       go_enter Tryz.func45, Tryz.ntmps45
       go_wp2
       go_ret
       exact ⟨by first | rfl | (simp [errW_none, errW_some] <;> rfl) | (simp [*, errW_none, errW_some] <;> rfl), by repeat (first | (with_reducible first | exact HB.out | apply below_alloc | apply pw_below_drewN | apply below_drew1) | exact HB.out)⟩
    ·rw [if_neg c14] at H
     have c14b0 : decide (48 ≤ a0) = false := decide_eq_false c14
     clear c14
     by_cases c19 : a0 > 32
     ·rw [if_pos c19] at H
      have c19b0 : decide (32 < a0) = true := decide_eq_true c19
      clear c19
      replace H := Option.bind_eq_some_iff.mp H
      obtain ⟨t104, A200, H⟩ := H
      replace H : (some (decide (t104 ≥ 0))) = some r := H
      have A20 := Aside0.mk A200
      clear A200
      obtain rfl := Option.some.inj H
      go_enter Tryz.func45, Tryz.ntmps45
      go_wp2_with (first | (go_at_call 78; (with_reducible refine (E.IndexByte.calls (⟨#[33, 35, 36, 37, 38, 39, 42, 43, 45, 46, 94, 95, 96, 124, 126]⟩ : ByteArray) a0 t104 _ ?side1 A20.out).mono ?_); (case side1 => exact StdW.below HS_.out (by repeat (first | (with_reducible first | exact HB.out | apply below_alloc | apply pw_below_drewN | apply below_drew1) | exact HB.out))); rintro e w21 ⟨rfl, hb⟩; have n0_ := Aside0.mk (below_step (by repeat (first | (with_reducible first | exact HB.out | apply below_alloc | apply pw_below_drewN | apply below_drew1) | exact HB.out)) hb); clear HB; have HB := n0_; clear n0_; (try clear hb); (try clear hb2); (try clear hk); (try clear hi)))
      go_ret
      exact ⟨by first | rfl | (simp [errW_none, errW_some] <;> rfl) | (simp [*, errW_none, errW_some] <;> rfl), by repeat (first | (with_reducible first | exact HB.out | apply below_alloc | apply pw_below_drewN | apply below_drew1) | exact HB.out)⟩
     ·rw [if_neg c19] at H
      have c19b0 : decide (32 < a0) = false := decide_eq_false c19
      clear c19
      obtain rfl := Option.some.inj H
      go_enter Tryz.func45, Tryz.ntmps45
      go_wp2
      go_ret
      exact ⟨by first | rfl | (simp [errW_none, errW_some] <;> rfl) | (simp [*, errW_none, errW_some] <;> rfl), by repeat (first | (with_reducible first | exact HB.out | apply below_alloc | apply pw_below_drewN | apply below_drew1) | exact HB.out)⟩
 ·rw [if_neg c2] at H
  have c2b0 : decide (97 ≤ a0) = false := decide_eq_false c2
  clear c2
  by_cases c22 : a0 ≥ 65
  ·rw [if_pos c22] at H
   have c22b0 : decide (65 ≤ a0) = true := decide_eq_true c22
   clear c22
   by_cases c23 : a0 ≤ 90
   ·rw [if_pos c23] at H
    have c23b0 : decide (a0 ≤ 90) = true := decide_eq_true c23
    clear c23
    obtain rfl := Option.some.inj H
    go_enter Tryz.func45, Tryz.ntmps45
    go_wp2
    go_ret
    exact ⟨by first | rfl | (simp [errW_none, errW_some] <;> rfl) | (simp [*, errW_none, errW_some] <;> rfl), by repeat (first | (with_reducible first | exact HB.out | apply below_alloc | apply pw_below_drewN | apply below_drew1) | exact HB.out)⟩
   ·rw [if_neg c23] at H
    have c23b0 : decide (a0 ≤ 90) = false := decide_eq_false c23
    clear c23
    by_cases c24 : a0 ≥ 48
    ·rw [if_pos c24] at H
     have c24b0 : decide (48 ≤ a0) = true := decide_eq_true c24
     clear c24
     by_cases c25 : a0 ≤ 57
     ·rw [if_pos c25] at H
      have c25b0 : decide (a0 ≤ 57) = true := decide_eq_true c25
      clear c25
      obtain rfl := Option.some.inj H
      go_enter Tryz.func45, Tryz.ntmps45
      go_wp2
      go_ret
      exact ⟨by first | rfl | (simp [errW_none, errW_some] <;> rfl) | (simp [*, errW_none, errW_some] <;> rfl), by repeat (first | (with_reducible first | exact HB.out | apply below_alloc | apply pw_below_drewN | apply below_drew1) | exact HB.out)⟩
     ·rw [if_neg c25] at H
      have c25b0 : decide (a0 ≤ 57) = false := decide_eq_false c25
      clear c25
      by_cases c26 : a0 > 32
      ·rw [if_pos c26] at H
       have c26b0 : decide (32 < a0) = true := decide_eq_true c26
       clear c26
       replace H := Option.bind_eq_some_iff.mp H
       obtain ⟨t105, A270, H⟩ := H
       replace H : (some (decide (t105 ≥ 0))) = some r := H
       have A27 := Aside0.mk A270
       clear A270
       obtain rfl := Option.some.inj H
       go_enter Tryz.func45, Tryz.ntmps45
       go_wp2_with (first | (go_at_call 78; (with_reducible refine (E.IndexByte.calls (⟨#[33, 35, 36, 37, 38, 39, 42, 43, 45, 46, 94, 95, 96, 124, 126]⟩ : ByteArray) a0 t105 _ ?side1 A27.out).mono ?_); (case side1 => exact StdW.below HS_.out (by repeat (first | (with_reducible first | exact HB.out | apply below_alloc | apply pw_below_drewN | apply below_drew1) | exact HB.out))); rintro e w28 ⟨rfl, hb⟩; have n0_ := Aside0.mk (below_step (by repeat (first | (with_reducible first | exact HB.out | apply below_alloc | apply pw_below_drewN | apply below_drew1) | exact HB.out)) hb); clear HB; have HB := n0_; clear n0_; (try clear hb); (try clear hb2); (try clear hk); (try clear hi)))
       go_ret
       exact ⟨by first | rfl | (simp [errW_none, errW_some] <;> rfl) | (simp [*, errW_none, errW_some] <;> rfl), by repeat (first | (with_reducible first | exact HB.out | apply below_alloc | apply pw_below_drewN | apply below_drew1) | exact HB.out)⟩
      ·rw [if_neg c26] at H
       have c26b0 : decide (32 < a0) = false := decide_eq_false c26
       clear c26
       obtain rfl := Option.some.inj H
       go_enter Tryz.func45, Tryz.ntmps45
       go_wp2
       go_ret
       exact ⟨by first | rfl | (simp [errW_none, errW_some] <;> rfl) | (simp [*, errW_none, errW_some] <;> rfl), by repeat (first | (with_reducible first | exact HB.out | apply below_alloc | apply pw_below_drewN | apply below_drew1) | exact HB.out)⟩
    ·rw [if_neg c24] at H
     have c24b0 : decide (48 ≤ a0) = false := decide_eq_false c24
     clear c24
     by_cases c29 : a0 > 32
     ·rw [if_pos c29] at H
      have c29b0 : decide (32 < a0) = true := decide_eq_true c29
      clear c29
      replace H := Option.bind_eq_some_iff.mp H
      obtain ⟨t106, A300, H⟩ := H
      replace H : (some (decide (t106 ≥ 0))) = some r := H
      have A30 := Aside0.mk A300
      clear A300
      obtain rfl := Option.some.inj H
      go_enter Tryz.func45, Tryz.ntmps45
      go_wp2_with (first | (go_at_call 78; (with_reducible refine (E.IndexByte.calls (⟨#[33, 35, 36, 37, 38, 39, 42, 43, 45, 46, 94, 95, 96, 124, 126]⟩ : ByteArray) a0 t106 _ ?side1 A30.out).mono ?_); (case side1 => exact StdW.below HS_.out (by repeat (first | (with_reducible first | exact HB.out | apply below_alloc | apply pw_below_drewN | apply below_drew1) | exact HB.out))); rintro e w31 ⟨rfl, hb⟩; have n0_ := Aside0.mk (below_step (by repeat (first | (with_reducible first | exact HB.out | apply below_alloc | apply pw_below_drewN | apply below_drew1) | exact HB.out)) hb); clear HB; have HB := n0_; clear n0_; (try clear hb); (try clear hb2); (try clear hk); (try clear hi)))
      go_ret
      exact ⟨by first | rfl | (simp [errW_none, errW_some] <;> rfl) | (simp [*, errW_none, errW_some] <;> rfl), by repeat (first | (with_reducible first | exact HB.out | apply below_alloc | apply pw_below_drewN | apply below_drew1) | exact HB.out)⟩
     ·rw [if_neg c29] at H
      have c29b0 : decide (32 < a0) = false := decide_eq_false c29
      clear c29
      obtain rfl := Option.some.inj H
      go_enter Tryz.func45, Tryz.ntmps45
      go_wp2
      go_ret
      exact ⟨by first | rfl | (simp [errW_none, errW_some] <;> rfl) | (simp [*, errW_none, errW_some] <;> rfl), by repeat (first | (with_reducible first | exact HB.out | apply below_alloc | apply pw_below_drewN | apply below_drew1) | exact HB.out)⟩
  ·rw [if_neg c22] at H
   have c22b0 : decide (65 ≤ a0) = false := decide_eq_false c22
   clear c22
   by_cases c32 : a0 ≥ 48
   ·rw [if_pos c32] at H
    have c32b0 : decide (48 ≤ a0) = true := decide_eq_true c32
    clear c32
    by_cases c33 : a0 ≤ 57
    ·rw [if_pos c33] at H
     have c33b0 : decide (a0 ≤ 57) = true := decide_eq_true c33
     clear c33
     obtain rfl := Option.some.inj H
     go_enter Tryz.func45, Tryz.ntmps45
     go_wp2
     go_ret
     exact ⟨by first | rfl | (simp [errW_none, errW_some] <;> rfl) | (simp [*, errW_none, errW_some] <;> rfl), by repeat (first | (with_reducible first | exact HB.out | apply below_alloc | apply pw_below_drewN | apply below_drew1) | exact HB.out)⟩
    ·rw [if_neg c33] at H
     have c33b0 : decide (a0 ≤ 57) = false := decide_eq_false c33
     clear c33
     by_cases c34 : a0 > 32
     ·rw [if_pos c34] at H
      have c34b0 : decide (32 < a0) = true := decide_eq_true c34
      clear c34
      replace H := Option.bind_eq_some_iff.mp H
      obtain ⟨t107, A350, H⟩ := H
      replace H : (some (decide (t107 ≥ 0))) = some r := H
      have A35 := Aside0.mk A350
      clear A350
      obtain rfl := Option.some.inj H
      go_enter Tryz.func45, Tryz.ntmps45
      go_wp2_with (first | (go_at_call 78; (with_reducible refine (E.IndexByte.calls (⟨#[33, 35, 36, 37, 38, 39, 42, 43, 45, 46, 94, 95, 96, 124, 126]⟩ : ByteArray) a0 t107 _ ?side1 A35.out).mono ?_); (case side1 => exact StdW.below HS_.out (by repeat (first | (with_reducible first | exact HB.out | apply below_alloc | apply pw_below_drewN | apply below_drew1) | exact HB.out))); rintro e w36 ⟨rfl, hb⟩; have n0_ := Aside0.mk (below_step (by repeat (first | (with_reducible first | exact HB.out | apply below_alloc | apply pw_below_drewN | apply below_drew1) | exact HB.out)) hb); clear HB; have HB := n0_; clear n0_; (try clear hb); (try clear hb2); (try clear hk); (try clear hi)))
      go_ret
      exact ⟨by first | rfl | (simp [errW_none, errW_some] <;> rfl) | (simp [*, errW_none, errW_some] <;> rfl), by repeat (first | (with_reducible first | exact HB.out | apply below_alloc | apply pw_below_drewN | apply below_drew1) | exact HB.out)⟩
     ·rw [if_neg c34] at H
      have c34b0 : decide (32 < a0) = false := decide_eq_false c34
      clear c34
      obtain rfl := Option.some.inj H
      go_enter Tryz.func45, Tryz.ntmps45
      go_wp2
      go_ret
      exact ⟨by first | rfl | (simp [errW_none, errW_some] <;> rfl) | (simp [*, errW_none, errW_some] <;> rfl), by repeat (first | (with_reducible first | exact HB.out | apply below_alloc | apply pw_below_drewN | apply below_drew1) | exact HB.out)⟩
   ·rw [if_neg c32] at H
    have c32b0 : decide (48 ≤ a0) = false := decide_eq_false c32
    clear c32
    by_cases c37 : a0 > 32
    ·rw [if_pos c37] at H
     have c37b0 : decide (32 < a0) = true := decide_eq_true c37
     clear c37
     replace H := Option.bind_eq_some_iff.mp H
     obtain ⟨t108, A380, H⟩ := H
     replace H : (some (decide (t108 ≥ 0))) = some r := H
     have A38 := Aside0.mk A380
     clear A380
     obtain rfl := Option.some.inj H
     go_enter Tryz.func45, Tryz.ntmps45
     go_wp2_with (first | (go_at_call 78; (with_reducible refine (E.IndexByte.calls (⟨#[33, 35, 36, 37, 38, 39, 42, 43, 45, 46, 94, 95, 96, 124, 126]⟩ : ByteArray) a0 t108 _ ?side1 A38.out).mono ?_); (case side1 => exact StdW.below HS_.out (by repeat (first | (with_reducible first | exact HB.out | apply below_alloc | apply pw_below_drewN | apply below_drew1) | exact HB.out))); rintro e w39 ⟨rfl, hb⟩; have n0_ := Aside0.mk (below_step (by repeat (first | (with_reducible first | exact HB.out | apply below_alloc | apply pw_below_drewN | apply below_drew1) | exact HB.out)) hb); clear HB; have HB := n0_; clear n0_; (try clear hb); (try clear hb2); (try clear hk); (try clear hi)))
     go_ret
     exact ⟨by first | rfl | (simp [errW_none, errW_some] <;> rfl) | (simp [*, errW_none, errW_some] <;> rfl), by repeat (first | (with_reducible first | exact HB.out | apply below_alloc | apply pw_below_drewN | apply below_drew1) | exact HB.out)⟩
    ·rw [if_neg c37] at H
     have c37b0 : decide (32 < a0) = false := decide_eq_false c37
     clear c37
     obtain rfl := Option.some.inj H
     go_enter Tryz.func45, Tryz.ntmps45
     go_wp2
     go_ret
     exact ⟨by first | rfl | (simp [errW_none, errW_some] <;> rfl) | (simp [*, errW_none, errW_some] <;> rfl), by repeat (first | (with_reducible first | exact HB.out | apply below_alloc | apply pw_below_drewN | apply below_drew1) | exact HB.out)⟩
def head_Token.l0 : Nat → ByteArray → Int → Int → Option (Bool)
 | 0, _, _, _ => none
 | k + 1, x0, x5, x6 => if x6 < x5 then (if 0 ≤ x6 then (if x6 < (x0.size : Int) then ((head_sign.f (bt x0 x6)).bind fun t109 => (if t109 = true then (head_Token.l0 k x0 x5 (wrap64 (x6 + 1))) else (some false))) else (none)) else (none)) else (if x0.toList = ([] : List UInt8) then (some false) else (some (decide ((x0.size : Int) ≤ 64))))
def head_Token.f (k : Nat) (a0 : ByteArray) : Option (Bool) := head_Token.l0 k a0 (a0.size : Int) 0
theorem head_Token.mono_l : ∀ k, (∀ y0 y1 y2, LeO (head_Token.l0 k y0 y1 y2) (head_Token.l0 (k + 1) y0 y1 y2))
 | 0 => fun _ _ _ r h => by simp [head_Token.l0] at h
 | k + 1 => by
  have ih0 := head_Token.mono_l k
  ·intro y0 y1 y2
   unfold head_Token.l0
   repeat' first
   | (with_reducible exact ih0 _ _ _)
   | (with_reducible exact LeO.refl _)
   | (with_reducible exact LeO.none _)
   | (with_reducible refine LeO.ite ?_ ?_)
   | (with_reducible refine LeO.bind ?_ (fun _ => ?_))
   | exact ih0 _ _ _
   | exact LeO.none _
   | refine LeO.ite ?_ ?_
   | refine LeO.bind ?_ (fun _ => ?_)
theorem head_Token.mono : ∀ a0 k, LeO (head_Token.f k a0) (head_Token.f (k + 1) a0) := by
 intro a0 k
 have ih0 := head_Token.mono_l k
 unfold head_Token.f
 repeat' first
   | (with_reducible exact ih0 _ _ _)
   | (with_reducible exact LeO.refl _)
   | (with_reducible exact LeO.none _)
   | (with_reducible refine LeO.ite ?_ ?_)
   | (with_reducible refine LeO.bind ?_ (fun _ => ?_))
   | exact ih0 _ _ _
   | exact LeO.none _
   | refine LeO.ite ?_ ?_
   | refine LeO.bind ?_ (fun _ => ?_)
set_option maxHeartbeats 8000000 in
set_option maxRecDepth 100000 in
theorem head_Token.calls (k : Nat) (a0 : ByteArray) (r : Bool) (w : World) (hS_ : StdW w) (h : head_Token.f k a0 = some r) :
  Calls Tryz.prog 18 #[.string a0] w fun e w' => e = .returned (.bool r) ∧ Below w.heap.size w w' := by
 have HS_ := Aside0.mk hS_
 clear hS_
 have HB := Aside0.mk (Below.refl w.heap.size w)
 have H : (head_Token.l0 k a0 (a0.size : Int) 0) = some r := h
 clear h
 have H' := Aside0.mk H
 clear H
 go_enter Tryz.func18, Tryz.ntmps18
 go_wp2
 go_loopg [6] k (fun kq v6 w' => ∃ (x6_1 : Int), v6 = .int .i64 x6_1 ∧ Aside0 (head_Token.l0 kq a0 (a0.size : Int) x6_1 = some r) ∧ Aside0 (kq ≤ k) ∧ Aside0 (Below w.heap.size w w'))
 case atStart => exact ⟨(0), (by first | rfl | (simp; done) | (simp [*]; done)), H', ⟨Nat.le_refl _⟩, ⟨by repeat (first | (with_reducible first | exact HB.out | apply below_alloc | apply pw_below_drewN | apply below_drew1) | exact HB.out)⟩⟩
 case round =>
  clear H'
  try clear c1
  obtain ⟨x6_1, rfl, HA, HK1, HB⟩ := hrel
  cases gk with
  | zero => exact absurd HA.out (by simp [head_Token.l0])
  | succ k1 =>
   have H := HA.out
   clear HA
   simp only [head_Token.l0] at H
   by_cases c2 : x6_1 < (a0.size : Int)
   ·rw [if_pos c2] at H
    have c2b0 : decide (x6_1 < (a0.size : Int)) = true := decide_eq_true c2
    clear c2
    by_cases c3 : 0 ≤ x6_1
    ·rw [if_pos c3] at H
     have c3b0 : decide (0 ≤ x6_1) = true := decide_eq_true c3
     clear c3
     by_cases c4 : x6_1 < (a0.size : Int)
     ·rw [if_pos c4] at H
      have c4b0 : decide (x6_1 < (a0.size : Int)) = true := decide_eq_true c4
      clear c4
      replace H := Option.bind_eq_some_iff.mp H
      obtain ⟨t109, A60, H⟩ := H
      replace H : (if t109 = true then (head_Token.l0 k1 a0 (a0.size : Int) (wrap64 (x6_1 + 1))) else (some false)) = some r := H
      have A6 := Aside0.mk A60
      clear A60
      by_cases c7 : t109 = true
      ·subst c7
       have H1 : (head_Token.l0 k1 a0 (a0.size : Int) (wrap64 (x6_1 + 1))) = some r := by rw [if_pos rfl] at H; exact H
       clear H
       have H := H1
       clear H1
       have H' := Aside0.mk H
       clear H
       have p5 : 0 ≤ (x6_1 : Int) := of_decide_eq_true (by first | (with_reducible assumption) | assumption)
       have q5 : x6_1 < (a0.size : Int) := of_decide_eq_true (by first | (with_reducible assumption) | assumption)
       have hx5 := bt_at a0 x6_1
       replace p5 := eq_true p5
       replace q5 := eq_true q5
       go_wp2_with (first | ((with_reducible refine gate_callee (f := 45) rfl ?_); refine goesL_ (some 12) rfl rfl Tryz.func45 (by kernel_rfl) rfl #[.int .u8 (bt a0 x6_1)] rfl (by (try simp only [List.map_toArray, List.map_cons, List.map_nil]); first | done | rfl | (simp only [List.length_drop, List.length_take]; rfl)) ?_; (with_reducible refine (head_sign.calls (bt a0 x6_1) true _ ?side1 A6.out).mono ?_); (case side1 => exact StdW.below HS_.out (by repeat (first | (with_reducible first | exact HB.out | apply below_alloc | apply pw_below_drewN | apply below_drew1) | exact HB.out))); rintro e w8 ⟨rfl, hb⟩; refine ⟨_, rfl, ?_⟩; have n0_ := Aside0.mk (below_step (by repeat (first | (with_reducible first | exact HB.out | apply below_alloc | apply pw_below_drewN | apply below_drew1) | exact HB.out)) hb); clear HB; have HB := n0_; clear n0_; (try clear hb); (try clear hb2); (try clear hk); (try clear hi)))
       go_roundg k1
       case measure => have := HK1.out; omega
       case rel => exact ⟨(wrap64 (x6_1 + 1)), (by first | rfl | (simp; done) | (simp [*]; done)), H', ⟨by have := HK1.out; omega⟩, ⟨by repeat (first | (with_reducible first | exact HB.out | apply below_alloc | apply pw_below_drewN | apply below_drew1) | exact HB.out)⟩⟩
      ·replace c7 := Bool.eq_false_iff.mpr c7
       subst c7
       have H1 : (some false) = some r := by rw [if_neg (show ¬ (false = true) by decide)] at H; exact H
       clear H
       have H := H1
       clear H1
       obtain rfl := Option.some.inj H
       have p5 : 0 ≤ (x6_1 : Int) := of_decide_eq_true (by first | (with_reducible assumption) | assumption)
       have q5 : x6_1 < (a0.size : Int) := of_decide_eq_true (by first | (with_reducible assumption) | assumption)
       have hx5 := bt_at a0 x6_1
       replace p5 := eq_true p5
       replace q5 := eq_true q5
       go_wp2_with (first | ((with_reducible refine gate_callee (f := 45) rfl ?_); refine goesL_ (some 12) rfl rfl Tryz.func45 (by kernel_rfl) rfl #[.int .u8 (bt a0 x6_1)] rfl (by (try simp only [List.map_toArray, List.map_cons, List.map_nil]); first | done | rfl | (simp only [List.length_drop, List.length_take]; rfl)) ?_; (with_reducible refine (head_sign.calls (bt a0 x6_1) false _ ?side1 A6.out).mono ?_); (case side1 => exact StdW.below HS_.out (by repeat (first | (with_reducible first | exact HB.out | apply below_alloc | apply pw_below_drewN | apply below_drew1) | exact HB.out))); rintro e w9 ⟨rfl, hb⟩; refine ⟨_, rfl, ?_⟩; have n0_ := Aside0.mk (below_step (by repeat (first | (with_reducible first | exact HB.out | apply below_alloc | apply pw_below_drewN | apply below_drew1) | exact HB.out)) hb); clear HB; have HB := n0_; clear n0_; (try clear hb); (try clear hb2); (try clear hk); (try clear hi)))
       go_ret
       exact ⟨by first | rfl | (simp [errW_none, errW_some] <;> rfl) | (simp [*, errW_none, errW_some] <;> rfl), by repeat (first | (with_reducible first | exact HB.out | apply below_alloc | apply pw_below_drewN | apply below_drew1) | exact HB.out)⟩
     ·rw [if_neg c4] at H
      exact absurd H (by simp)
    ·rw [if_neg c3] at H
     exact absurd H (by simp)
   ·rw [if_neg c2] at H
    have c2b0 : decide (x6_1 < (a0.size : Int)) = false := decide_eq_false c2
    clear c2
    by_cases c10 : a0.toList = ([] : List UInt8)
    ·rw [if_pos c10] at H
     have c10b0 : (a0.toList == ([] : List UInt8)) = true := beq_iff_eq.mpr c10
     have c10b6 : a0.toList.isEmpty = true := by rw [List.isEmpty_iff]; exact c10
     have c10b1 : (a0.toList != ([] : List UInt8)) = false := bne_eq_false_iff_eq.mpr c10
     clear c10
     obtain rfl := Option.some.inj H
     go_wp2
     go_ret
     exact ⟨by first | rfl | (simp [errW_none, errW_some] <;> rfl) | (simp [*, errW_none, errW_some] <;> rfl), by repeat (first | (with_reducible first | exact HB.out | apply below_alloc | apply pw_below_drewN | apply below_drew1) | exact HB.out)⟩
    ·rw [if_neg c10] at H
     have c10b0 : (a0.toList == ([] : List UInt8)) = false := beq_eq_false_iff_ne.mpr c10
     have c10b6 : a0.toList.isEmpty = false := by rw [← Bool.not_eq_true, List.isEmpty_iff]; exact c10
     have c10b1 : (a0.toList != ([] : List UInt8)) = true := bne_iff_ne.mpr c10
     obtain rfl := Option.some.inj H
     go_wp2
     go_ret
     exact ⟨by first | rfl | (simp [errW_none, errW_some] <;> rfl) | (simp [*, errW_none, errW_some] <;> rfl), by repeat (first | (with_reducible first | exact HB.out | apply below_alloc | apply pw_below_drewN | apply below_drew1) | exact HB.out)⟩
end Go.Proofs.YtocklkaddiomhaaGreatDoor.XA


namespace Go.Proofs.YtocklkaddiomhaaGreatDoor.XA
open Go.Proofs.YtocklkaddiomhaaGreatDoor.XK
open Go.RowKit Go.Proofs.YtocklkaddiomhaaGreatDoorW.PrintWords Go.Proofs.YtocklkaddiomhaaGreatDoorW.PrintLast Go.Proofs.YtocklkaddiomhaaGreatDoorW.PrintMore
attribute [local go_sem] max2_int min2_int max_two min_two max_three min_three max_four min_four
set_option linter.unusedVariables false
set_option linter.unusedSimpArgs false
end Go.Proofs.YtocklkaddiomhaaGreatDoor.XA


namespace Go.Proofs.YtocklkaddiomhaaGreatDoor.E
open Go.RowKit Go.Proofs.YtocklkaddiomhaaGreatDoorW.PrintWords Go.Proofs.YtocklkaddiomhaaGreatDoorW.PrintLast Go.Proofs.YtocklkaddiomhaaGreatDoor.XK Go.Proofs.YtocklkaddiomhaaGreatDoor.XA
set_option linter.unusedVariables false
set_option linter.unusedSimpArgs false
theorem sign_f (c : UInt8) : head_sign.f (c.toNat : Int) = some (Fd.sign c) := by
  have h : ∀ n : Fin 256, head_sign.f ((UInt8.ofNat n.1).toNat : Int) = some (Fd.sign (UInt8.ofNat n.1)) := by decide +kernel
  have := h ⟨c.toNat, c.toNat_lt⟩
  simp only [UInt8.ofNat_toNat] at this
  exact this
def tokB (p : ByteArray) : Bool := Fd.token p.data.toList
theorem wrap64_nat (k n : Nat) (h : k < n) (hn : n ≤ 281474976710656) : wrap64 ((k : Int) + 1) = ((k + 1 : Nat) : Int) := by unfold wrap64; omega
theorem token_loop (s : ByteArray) (hs : s.size ≤ 281474976710656) : ∀ (m k i : Nat), i + m = s.size → m < k → head_Token.l0 k s (s.size : Int) (i : Int) = some ((s.data.toList.drop i).all Fd.sign && (!s.data.toList.isEmpty && decide (s.data.toList.length ≤ 64))) := by
  intro m
  induction m with
  | zero =>
    intro k i hi hk
    obtain ⟨k, rfl⟩ : ∃ j, k = j + 1 := ⟨k - 1, by omega⟩
    have hl : s.data.toList.length = s.size := (Lib.size_eq s).symm
    simp only [head_Token.l0]
    rw [if_neg (by omega), List.drop_of_length_le (by omega), hl, ByteArray.toList_eq]
    cases hd : s.data.toList with
    | nil => rfl
    | cons x r =>
      rw [if_neg (by simp)]
      simp only [List.all_nil, Bool.true_and, List.isEmpty_cons, Bool.not_false]
      congr 1
      rw [Bool.eq_iff_iff, decide_eq_true_eq, decide_eq_true_eq]; omega
  | succ m ih =>
    intro k i hi hk
    obtain ⟨k, rfl⟩ : ∃ j, k = j + 1 := ⟨k - 1, by omega⟩
    have hl : s.data.toList.length = s.size := (Lib.size_eq s).symm
    have hlt : i < s.data.toList.length := by omega
    have hb : bt s (i : Int) = ((s.data.toList[i]).toNat : Int) := by
      have hlt' : i < s.size := by omega
      first | (unfold bt; rw [Int.toNat_natCast, dif_pos hlt']; rfl) | (unfold bt; simp [hlt']; rfl)
    simp only [head_Token.l0]
    rw [if_pos (by omega), if_pos (by omega), if_pos (by omega), hb, sign_f, Option.bind_some, wrap64_nat i s.size (by omega) hs, ih k (i + 1) (by omega) (by omega), List.drop_eq_getElem_cons hlt, List.all_cons]
    cases Fd.sign s.data.toList[i] <;> rfl
theorem token_f (s : ByteArray) (hs : s.size ≤ 281474976710656) : head_Token.f (s.size + 1) s = some (tokB s) := by
  unfold head_Token.f
  have := token_loop s hs s.size (s.size + 1) 0 (by omega) (by omega)
  rw [List.drop_zero] at this
  exact this
theorem token_any (s : ByteArray) (hs : s.size ≤ 281474976710656) (w : World) (hS : StdW w) : Calls Tryz.prog 18 #[.string s] w fun e w' => e = .returned (.bool (tokB s)) ∧ Below w.heap.size w w' :=
  head_Token.calls (s.size + 1) s (tokB s) w hS (token_f s hs)
def toF (f : S72) : Fd.F := (f.f0.data.toList, f.f1.data.toList)
theorem below_of_drew {b : Nat} {w w1 : World} (h : Below b w.drew w1) : Below b w w1 := ⟨h.os, h.tape, h.output, h.size, h.block⟩
end Go.Proofs.YtocklkaddiomhaaGreatDoor.E


namespace Go.Proofs.YtocklkaddiomhaaGreatDoor.E
open Go.RowKit Go.Proofs.YtocklkaddiomhaaGreatDoorW.PrintWords Go.Proofs.YtocklkaddiomhaaGreatDoorW.PrintLast
set_option linter.unusedVariables false
set_option linter.unusedSimpArgs false
def HasPrefix.f (s p : ByteArray) : Option Bool := some (Lib.hasPrefix s.data.toList p.data.toList)
theorem HasPrefix.calls (s p : ByteArray) (r : Bool) (w : World) (hS_ : StdW w) (h : HasPrefix.f s p = some r) :
    Calls Tryz.prog 63 #[.string s, .string p] w fun e w' => e = .returned (.bool r) ∧ Below w.heap.size w w' := by
  obtain rfl := Option.some.inj h
  exact (Tryz.strings_HasPrefix s p w).mono (fun e w' ⟨he, hw⟩ => ⟨he, hw ▸ Below.refl _ _⟩)
def Trim.f (s cs : ByteArray) : Option ByteArray := if s.size ≤ 281474976710656 ∧ cs = ⟨#[32, 9]⟩ then some ⟨(Fd.trimB s.data.toList).toArray⟩ else none
theorem Trim.calls (s cs r : ByteArray) (w : World) (hS_ : StdW w) (h : Trim.f s cs = some r) :
    Calls Tryz.prog 49 #[.string s, .string cs] w fun e w' => e = .returned (.string r) ∧ Below w.heap.size w w' := by
  unfold Trim.f at h
  split at h
  · rename_i hc
    obtain ⟨hs, rfl⟩ := hc
    obtain rfl := Option.some.inj h
    exact Any.strings_Trim_laid Tryz.lays160 (by kernel_rfl) s ⟨#[32, 9]⟩ w (by omega) (by decide) (ascii_of_all (by decide))
  · cases h
def RepTab.f (s o n : ByteArray) : Option ByteArray := if s.size < 4294967281 ∧ o = ⟨#[9]⟩ ∧ n = ⟨#[32]⟩ then some ⟨(Hd.spc s.data.toList).toArray⟩ else none
theorem RepTab.calls (s o n r : ByteArray) (w : World) (hS_ : StdW w) (h : RepTab.f s o n = some r) :
    Calls Tryz.prog 48 #[.string s, .string o, .string n] w fun e w' => e = .returned (.string r) ∧ Below w.heap.size w w' := by
  unfold RepTab.f at h
  split at h
  · rename_i hc
    obtain ⟨hs, rfl, rfl⟩ := hc
    obtain rfl := Option.some.inj h
    obtain ⟨m, hm⟩ := hS_.max
    have := Tryz.strings_ReplaceAll s ⟨#[9]⟩ ⟨#[32]⟩ m w hs hm (by decide) (by
      have := Lib.countB_le ⟨#[9]⟩ (Nat.le_refl _) s.size s (Nat.le_refl _)
      show s.size + Lib.countB s ⟨#[9]⟩ * 1 ≤ _
      omega)
    rw [show (⟨#[9]⟩ : ByteArray).data.toList = [9] from rfl, show (⟨#[32]⟩ : ByteArray).data.toList = [32] from rfl, Hd.replaceAll_spc] at this
    exact this
  · cases h
end Go.Proofs.YtocklkaddiomhaaGreatDoor.E


namespace Go.Proofs.YtocklkaddiomhaaGreatDoor.XD
open Go.Proofs.YtocklkaddiomhaaGreatDoor.XK Go.Proofs.YtocklkaddiomhaaGreatDoor.XA
open Go.RowKit Go.Proofs.YtocklkaddiomhaaGreatDoorW.PrintWords Go.Proofs.YtocklkaddiomhaaGreatDoorW.PrintLast Go.Proofs.YtocklkaddiomhaaGreatDoorW.PrintMore
attribute [local go_sem] max2_int min2_int max_two min_two max_three min_three max_four min_four
set_option linter.unusedVariables false
set_option linter.unusedSimpArgs false
end Go.Proofs.YtocklkaddiomhaaGreatDoor.XD


namespace Go.Proofs.YtocklkaddiomhaaGreatDoor.XD
open Go.Proofs.YtocklkaddiomhaaGreatDoor.XK Go.Proofs.YtocklkaddiomhaaGreatDoor.XA
open Go.RowKit Go.Proofs.YtocklkaddiomhaaGreatDoorW.PrintWords Go.Proofs.YtocklkaddiomhaaGreatDoorW.PrintLast Go.Proofs.YtocklkaddiomhaaGreatDoorW.PrintMore
attribute [local go_sem] max2_int min2_int max_two min_two max_three min_three max_four min_four
set_option linter.unusedVariables false
set_option linter.unusedSimpArgs false
def head_within.l0 : Nat → ByteArray → Int → Int → Int → Int → Option (Bool)
 | 0, _, _, _, _, _ => none
 | k + 1, x0, x1, x2, x9, x10 => if x10 < x9 then (if 0 ≤ x10 then (if x10 < (x0.size : Int) then (if (bt x0 x10) < x1 then (some false) else (if (bt x0 x10) > 126 then (some false) else (head_within.l0 k x0 x1 x2 x9 (wrap64 (x10 + 1))))) else (none)) else (none)) else (some (decide ((x0.size : Int) ≤ x2)))
def head_within.f (k : Nat) (a0 : ByteArray) (a1 : Int) (a2 : Int) : Option (Bool) := head_within.l0 k a0 a1 a2 (a0.size : Int) 0
theorem head_within.mono_l : ∀ k, (∀ y0 y1 y2 y3 y4, LeO (head_within.l0 k y0 y1 y2 y3 y4) (head_within.l0 (k + 1) y0 y1 y2 y3 y4))
 | 0 => fun _ _ _ _ _ r h => by simp [head_within.l0] at h
 | k + 1 => by
  have ih0 := head_within.mono_l k
  ·intro y0 y1 y2 y3 y4
   unfold head_within.l0
   repeat' first
   | (with_reducible exact ih0 _ _ _ _ _)
   | (with_reducible exact LeO.refl _)
   | (with_reducible exact LeO.none _)
   | (with_reducible refine LeO.ite ?_ ?_)
   | (with_reducible refine LeO.bind ?_ (fun _ => ?_))
   | exact ih0 _ _ _ _ _
   | exact LeO.none _
   | refine LeO.ite ?_ ?_
   | refine LeO.bind ?_ (fun _ => ?_)
theorem head_within.mono : ∀ a0 a1 a2 k, LeO (head_within.f k a0 a1 a2) (head_within.f (k + 1) a0 a1 a2) := by
 intro a0 a1 a2 k
 have ih0 := head_within.mono_l k
 unfold head_within.f
 repeat' first
   | (with_reducible exact ih0 _ _ _ _ _)
   | (with_reducible exact LeO.refl _)
   | (with_reducible exact LeO.none _)
   | (with_reducible refine LeO.ite ?_ ?_)
   | (with_reducible refine LeO.bind ?_ (fun _ => ?_))
   | exact ih0 _ _ _ _ _
   | exact LeO.none _
   | refine LeO.ite ?_ ?_
   | refine LeO.bind ?_ (fun _ => ?_)
set_option maxHeartbeats 8000000 in
set_option maxRecDepth 100000 in
theorem head_within.calls (k : Nat) (a0 : ByteArray) (a1 : Int) (a2 : Int) (r : Bool) (w : World) (h : head_within.f k a0 a1 a2 = some r) :
  Calls Tryz.prog 47 #[.string a0, .int .u8 a1, .int .i64 a2] w fun e w' => e = .returned (.bool r) ∧ Drawn0 w w' := by
 have H : (head_within.l0 k a0 a1 a2 (a0.size : Int) 0) = some r := h
 clear h
 have H' := Aside0.mk H
 clear H
 go_enter Tryz.func47, Tryz.ntmps47
 go_wp2
 go_loopg [10] k (fun kq v10 w' => ∃ (x10_1 : Int), v10 = .int .i64 x10_1 ∧ Aside0 (head_within.l0 kq a0 a1 a2 (a0.size : Int) x10_1 = some r) ∧ Aside0 (kq ≤ k) ∧ Drawn0 w w')
 case atStart => exact ⟨(0), (by first | rfl | (simp; done) | (simp [*]; done)), H', ⟨Nat.le_refl _⟩, by repeat (first | exact Drawn0.refl _ | apply Drawn0.step)⟩
 case round =>
  clear H'
  try clear p2
  obtain ⟨x10_1, rfl, HA, HK1, ⟨m1, rfl⟩⟩ := hrel
  cases gk with
  | zero => exact absurd HA.out (by simp [head_within.l0])
  | succ k1 =>
   have H := HA.out
   clear HA
   simp only [head_within.l0] at H
   by_cases c4 : x10_1 < (a0.size : Int)
   ·rw [if_pos c4] at H
    have c4b0 : decide (x10_1 < (a0.size : Int)) = true := decide_eq_true c4
    clear c4
    by_cases c5 : 0 ≤ x10_1
    ·rw [if_pos c5] at H
     have c5b0 : decide (0 ≤ x10_1) = true := decide_eq_true c5
     clear c5
     by_cases c6 : x10_1 < (a0.size : Int)
     ·rw [if_pos c6] at H
      have c6b0 : decide (x10_1 < (a0.size : Int)) = true := decide_eq_true c6
      clear c6
      by_cases c8 : (bt a0 x10_1) < a1
      ·rw [if_pos c8] at H
       have c8b0 : decide ((bt a0 x10_1) < a1) = true := decide_eq_true c8
       clear c8
       obtain rfl := Option.some.inj H
       have p7 : 0 ≤ (x10_1 : Int) := of_decide_eq_true (by first | (with_reducible assumption) | assumption)
       have q7 : x10_1 < (a0.size : Int) := of_decide_eq_true (by first | (with_reducible assumption) | assumption)
       have hx7 := bt_at a0 x10_1
       replace p7 := eq_true p7
       replace q7 := eq_true q7
       go_wp2
       go_ret
       exact ⟨by first | rfl | (simp; done) | (simp [*]; done), by repeat (first | exact Drawn0.refl _ | apply Drawn0.step)⟩
      ·rw [if_neg c8] at H
       have c8b0 : decide ((bt a0 x10_1) < a1) = false := decide_eq_false c8
       clear c8
       by_cases c10 : (bt a0 x10_1) > 126
       ·rw [if_pos c10] at H
        have c10b0 : decide (126 < (bt a0 x10_1)) = true := decide_eq_true c10
        clear c10
        obtain rfl := Option.some.inj H
        have p7 : 0 ≤ (x10_1 : Int) := of_decide_eq_true (by first | (with_reducible assumption) | assumption)
        have q7 : x10_1 < (a0.size : Int) := of_decide_eq_true (by first | (with_reducible assumption) | assumption)
        have hx7 := bt_at a0 x10_1
        replace p7 := eq_true p7
        replace q7 := eq_true q7
        have p9 : 0 ≤ (x10_1 : Int) := of_decide_eq_true (by first | (with_reducible assumption) | assumption)
        have q9 : x10_1 < (a0.size : Int) := of_decide_eq_true (by first | (with_reducible assumption) | assumption)
        have hx9 := bt_at a0 x10_1
        replace p9 := eq_true p9
        replace q9 := eq_true q9
        go_wp2
        go_ret
        exact ⟨by first | rfl | (simp; done) | (simp [*]; done), by repeat (first | exact Drawn0.refl _ | apply Drawn0.step)⟩
       ·rw [if_neg c10] at H
        have c10b0 : decide (126 < (bt a0 x10_1)) = false := decide_eq_false c10
        clear c10
        have H' := Aside0.mk H
        clear H
        have p7 : 0 ≤ (x10_1 : Int) := of_decide_eq_true (by first | (with_reducible assumption) | assumption)
        have q7 : x10_1 < (a0.size : Int) := of_decide_eq_true (by first | (with_reducible assumption) | assumption)
        have hx7 := bt_at a0 x10_1
        replace p7 := eq_true p7
        replace q7 := eq_true q7
        have p9 : 0 ≤ (x10_1 : Int) := of_decide_eq_true (by first | (with_reducible assumption) | assumption)
        have q9 : x10_1 < (a0.size : Int) := of_decide_eq_true (by first | (with_reducible assumption) | assumption)
        have hx9 := bt_at a0 x10_1
        replace p9 := eq_true p9
        replace q9 := eq_true q9
        go_wp2
        go_roundg k1
        case measure => have := HK1.out; omega
        case rel => exact ⟨(wrap64 (x10_1 + 1)), (by first | rfl | (simp; done) | (simp [*]; done)), H', ⟨by have := HK1.out; omega⟩, by repeat (first | exact Drawn0.refl _ | apply Drawn0.step)⟩
     ·rw [if_neg c6] at H
      exact absurd H (by simp)
    ·rw [if_neg c5] at H
     exact absurd H (by simp)
   ·rw [if_neg c4] at H
    have c4b0 : decide (x10_1 < (a0.size : Int)) = false := decide_eq_false c4
    clear c4
    obtain rfl := Option.some.inj H
    go_wp2
    go_ret
    exact ⟨by first | rfl | (simp; done) | (simp [*]; done), by repeat (first | exact Drawn0.refl _ | apply Drawn0.step)⟩
def head_Value.f (k : Nat) (a0 : ByteArray) : Option (Bool) := (E.RepTab.f a0 (⟨#[9]⟩ : ByteArray) (⟨#[32]⟩ : ByteArray)).bind fun t101 => ((head_within.f k t101 32 4096).bind fun t102 => (if t102 = true then ((E.Trim.f a0 (⟨#[32, 9]⟩ : ByteArray)).bind fun t103 => (some (t103.toList == a0.toList))) else (some false)))
theorem head_Value.mono : ∀ a0 k, LeO (head_Value.f k a0) (head_Value.f (k + 1) a0) := by
 intro a0 k
 unfold head_Value.f
 repeat' first
   | (with_reducible exact head_within.mono _ _ _ _)
   | (with_reducible exact LeO.refl _)
   | (with_reducible exact LeO.none _)
   | (with_reducible refine LeO.ite ?_ ?_)
   | (with_reducible refine LeO.bind ?_ (fun _ => ?_))
   | exact head_within.mono _ _ _ _
   | exact LeO.none _
   | refine LeO.ite ?_ ?_
   | refine LeO.bind ?_ (fun _ => ?_)
set_option maxHeartbeats 8000000 in
set_option maxRecDepth 100000 in
theorem head_Value.calls (k : Nat) (a0 : ByteArray) (r : Bool) (w : World) (hS_ : StdW w) (h : head_Value.f k a0 = some r) :
  Calls Tryz.prog 20 #[.string a0] w fun e w' => e = .returned (.bool r) ∧ Below w.heap.size w w' := by
 have HS_ := Aside0.mk hS_
 clear hS_
 have HB := Aside0.mk (Below.refl w.heap.size w)
 have H : ((E.RepTab.f a0 (⟨#[9]⟩ : ByteArray) (⟨#[32]⟩ : ByteArray)).bind fun t101 => ((head_within.f k t101 32 4096).bind fun t102 => (if t102 = true then ((E.Trim.f a0 (⟨#[32, 9]⟩ : ByteArray)).bind fun t103 => (some (t103.toList == a0.toList))) else (some false)))) = some r := h
 clear h
 replace H := Option.bind_eq_some_iff.mp H
 obtain ⟨t101, A20, H⟩ := H
 replace H : ((head_within.f k t101 32 4096).bind fun t102 => (if t102 = true then ((E.Trim.f a0 (⟨#[32, 9]⟩ : ByteArray)).bind fun t103 => (some (t103.toList == a0.toList))) else (some false))) = some r := H
 have A2 := Aside0.mk A20
 clear A20
 replace H := Option.bind_eq_some_iff.mp H
 obtain ⟨t102, A30, H⟩ := H
 replace H : (if t102 = true then ((E.Trim.f a0 (⟨#[32, 9]⟩ : ByteArray)).bind fun t103 => (some (t103.toList == a0.toList))) else (some false)) = some r := H
 have A3 := Aside0.mk A30
 clear A30
 by_cases c4 : t102 = true
 ·subst c4
  have H1 : ((E.Trim.f a0 (⟨#[32, 9]⟩ : ByteArray)).bind fun t103 => (some (t103.toList == a0.toList))) = some r := by rw [if_pos rfl] at H; exact H
  clear H
  have H := H1
  clear H1
  replace H := Option.bind_eq_some_iff.mp H
  obtain ⟨t103, A50, H⟩ := H
  replace H : (some (t103.toList == a0.toList)) = some r := H
  have A5 := Aside0.mk A50
  clear A50
  obtain rfl := Option.some.inj H
  go_enter Tryz.func20, Tryz.ntmps20
  go_wp2_with (first | ((with_reducible refine gate_callee (f := 48) rfl ?_); refine goesL_ (some 4) rfl rfl Tryz.func48 (by kernel_rfl) rfl #[.string a0, .string (⟨#[9]⟩ : ByteArray), .string (⟨#[32]⟩ : ByteArray)] rfl (by (try simp only [List.map_toArray, List.map_cons, List.map_nil]); first | done | rfl | (simp only [List.length_drop, List.length_take]; rfl)) ?_; (with_reducible refine (E.RepTab.calls a0 (⟨#[9]⟩ : ByteArray) (⟨#[32]⟩ : ByteArray) t101 _ ?side1 A2.out).mono ?_); (case side1 => exact StdW.below HS_.out (by repeat (first | (with_reducible first | exact HB.out | apply below_alloc | apply pw_below_drewN | apply below_drew1) | exact HB.out))); rintro e w6 ⟨rfl, hb⟩; refine ⟨_, rfl, ?_⟩; have n0_ := Aside0.mk (below_step (by repeat (first | (with_reducible first | exact HB.out | apply below_alloc | apply pw_below_drewN | apply below_drew1) | exact HB.out)) hb); clear HB; have HB := n0_; clear n0_; (try clear hb); (try clear hb2); (try clear hk); (try clear hi)) | ((with_reducible refine gate_callee (f := 47) rfl ?_); refine goesL_ (some 5) rfl rfl Tryz.func47 (by kernel_rfl) rfl #[.string t101, .int .u8 32, .int .i64 4096] rfl (by (try simp only [List.map_toArray, List.map_cons, List.map_nil]); first | done | rfl | (simp only [List.length_drop, List.length_take]; rfl)) ?_; (with_reducible refine (head_within.calls k t101 32 4096 true _ A3.out).mono ?_); rintro e w' ⟨rfl, ⟨nd, rfl⟩⟩; refine ⟨_, rfl, ?_⟩) | (go_at_call 49; (with_reducible refine (E.Trim.calls a0 (⟨#[32, 9]⟩ : ByteArray) t103 _ ?side1 A5.out).mono ?_); (case side1 => exact StdW.below HS_.out (by repeat (first | (with_reducible first | exact HB.out | apply below_alloc | apply pw_below_drewN | apply below_drew1) | exact HB.out))); rintro e w7 ⟨rfl, hb⟩; have n0_ := Aside0.mk (below_step (by repeat (first | (with_reducible first | exact HB.out | apply below_alloc | apply pw_below_drewN | apply below_drew1) | exact HB.out)) hb); clear HB; have HB := n0_; clear n0_; (try clear hb); (try clear hb2); (try clear hk); (try clear hi)))
  go_ret
  exact ⟨by first | rfl | (simp [errW_none, errW_some] <;> rfl) | (simp [*, errW_none, errW_some] <;> rfl), by repeat (first | (with_reducible first | exact HB.out | apply below_alloc | apply pw_below_drewN | apply below_drew1) | exact HB.out)⟩
 ·replace c4 := Bool.eq_false_iff.mpr c4
  subst c4
  have H1 : (some false) = some r := by rw [if_neg (show ¬ (false = true) by decide)] at H; exact H
  clear H
  have H := H1
  clear H1
  obtain rfl := Option.some.inj H
  go_enter Tryz.func20, Tryz.ntmps20
  go_wp2_with (first | ((with_reducible refine gate_callee (f := 48) rfl ?_); refine goesL_ (some 4) rfl rfl Tryz.func48 (by kernel_rfl) rfl #[.string a0, .string (⟨#[9]⟩ : ByteArray), .string (⟨#[32]⟩ : ByteArray)] rfl (by (try simp only [List.map_toArray, List.map_cons, List.map_nil]); first | done | rfl | (simp only [List.length_drop, List.length_take]; rfl)) ?_; (with_reducible refine (E.RepTab.calls a0 (⟨#[9]⟩ : ByteArray) (⟨#[32]⟩ : ByteArray) t101 _ ?side1 A2.out).mono ?_); (case side1 => exact StdW.below HS_.out (by repeat (first | (with_reducible first | exact HB.out | apply below_alloc | apply pw_below_drewN | apply below_drew1) | exact HB.out))); rintro e w8 ⟨rfl, hb⟩; refine ⟨_, rfl, ?_⟩; have n0_ := Aside0.mk (below_step (by repeat (first | (with_reducible first | exact HB.out | apply below_alloc | apply pw_below_drewN | apply below_drew1) | exact HB.out)) hb); clear HB; have HB := n0_; clear n0_; (try clear hb); (try clear hb2); (try clear hk); (try clear hi)) | ((with_reducible refine gate_callee (f := 47) rfl ?_); refine goesL_ (some 5) rfl rfl Tryz.func47 (by kernel_rfl) rfl #[.string t101, .int .u8 32, .int .i64 4096] rfl (by (try simp only [List.map_toArray, List.map_cons, List.map_nil]); first | done | rfl | (simp only [List.length_drop, List.length_take]; rfl)) ?_; (with_reducible refine (head_within.calls k t101 32 4096 false _ A3.out).mono ?_); rintro e w' ⟨rfl, ⟨nd, rfl⟩⟩; refine ⟨_, rfl, ?_⟩))
  go_ret
  exact ⟨by first | rfl | (simp [errW_none, errW_some] <;> rfl) | (simp [*, errW_none, errW_some] <;> rfl), by repeat (first | (with_reducible first | exact HB.out | apply below_alloc | apply pw_below_drewN | apply below_drew1) | exact HB.out)⟩
end Go.Proofs.YtocklkaddiomhaaGreatDoor.XD


namespace Go.Proofs.YtocklkaddiomhaaGreatDoor.XD
open Go.Proofs.YtocklkaddiomhaaGreatDoor.XK Go.Proofs.YtocklkaddiomhaaGreatDoor.XA
open Go.RowKit Go.Proofs.YtocklkaddiomhaaGreatDoorW.PrintWords Go.Proofs.YtocklkaddiomhaaGreatDoorW.PrintLast Go.Proofs.YtocklkaddiomhaaGreatDoorW.PrintMore
attribute [local go_sem] max2_int min2_int max_two min_two max_three min_three max_four min_four
set_option linter.unusedVariables false
set_option linter.unusedSimpArgs false
end Go.Proofs.YtocklkaddiomhaaGreatDoor.XD


namespace Go.Proofs.YtocklkaddiomhaaGreatDoor.E
open Go.RowKit Go.Proofs.YtocklkaddiomhaaGreatDoorW.PrintWords Go.Proofs.YtocklkaddiomhaaGreatDoorW.PrintLast Go.Proofs.YtocklkaddiomhaaGreatDoor.XK Go.Proofs.YtocklkaddiomhaaGreatDoor.XA Go.Proofs.YtocklkaddiomhaaGreatDoor.XD
set_option linter.unusedVariables false
set_option linter.unusedSimpArgs false
def valB (p : ByteArray) : Bool := Hd.value p.data.toList
theorem within_loop (s : ByteArray) (hs : s.size ≤ 281474976710656) (least most : Nat) : ∀ (m k i : Nat), i + m = s.size → m < k → head_within.l0 k s (least : Int) (most : Int) (s.size : Int) (i : Int) = some ((s.data.toList.drop i).all (fun c => decide (least ≤ c.toNat) && decide (c.toNat ≤ 126)) && decide (s.data.toList.length ≤ most)) := by
  intro m
  induction m with
  | zero =>
    intro k i hi hk
    obtain ⟨k, rfl⟩ : ∃ j, k = j + 1 := ⟨k - 1, by omega⟩
    have hl : s.data.toList.length = s.size := (Lib.size_eq s).symm
    simp only [head_within.l0]
    rw [if_neg (by omega), List.drop_of_length_le (by omega), hl]
    simp only [List.all_nil, Bool.true_and]
    congr 1
    rw [Bool.eq_iff_iff, decide_eq_true_eq, decide_eq_true_eq]; omega
  | succ m ih =>
    intro k i hi hk
    obtain ⟨k, rfl⟩ : ∃ j, k = j + 1 := ⟨k - 1, by omega⟩
    have hl : s.data.toList.length = s.size := (Lib.size_eq s).symm
    have hlt : i < s.data.toList.length := by omega
    have hb : bt s (i : Int) = ((s.data.toList[i]).toNat : Int) := by
      have hlt' : i < s.size := by omega
      first | (unfold bt; rw [Int.toNat_natCast, dif_pos hlt']; rfl) | (unfold bt; simp [hlt']; rfl)
    simp only [head_within.l0]
    rw [if_pos (by omega), if_pos (by omega), if_pos (by omega), hb, List.drop_eq_getElem_cons hlt, List.all_cons]
    generalize (s.data.toList[i]).toNat = c
    by_cases h1 : c < least
    · rw [if_pos (by omega), decide_eq_false (show ¬ least ≤ c by omega)]; rfl
    · by_cases h2 : 126 < c
      · rw [if_neg (by omega), if_pos (by omega), decide_eq_false (show ¬ c ≤ 126 by omega), Bool.and_false]; rfl
      · rw [if_neg (by omega), if_neg (by omega), wrap64_nat i s.size (by omega) hs, ih k (i + 1) (by omega) (by omega), decide_eq_true (show least ≤ c by omega), decide_eq_true (show c ≤ 126 by omega)]; rfl
theorem within_f (s : ByteArray) (hs : s.size ≤ 281474976710656) (least most k : Nat) (hk : s.size < k) : head_within.f k s (least : Int) (most : Int) = some (Hd.plain s.data.toList least most) := by
  unfold head_within.f
  have := within_loop s hs least most s.size k 0 (by omega) hk
  rw [List.drop_zero] at this
  exact this
theorem within_any (s : ByteArray) (hs : s.size ≤ 281474976710656) (least most : Nat) (w : World) : Calls Tryz.prog 47 #[.string s, .int .u8 least, .int .i64 most] w fun e w' => e = .returned (.bool (Hd.plain s.data.toList least most)) ∧ Below w.heap.size w w' :=
  (head_within.calls (s.size + 1) s least most _ w (within_f s hs least most _ (Nat.lt_succ_self _))).mono fun e w' ⟨he, hd⟩ => ⟨he, by obtain ⟨n, rfl⟩ := hd.out; exact below_drewN w n⟩
theorem value_f (s : ByteArray) (hs : s.size < 4294967281) (k : Nat) (hk : s.size < k) : head_Value.f k s = some (valB s) := by
  unfold head_Value.f RepTab.f Trim.f
  rw [if_pos ⟨hs, rfl, rfl⟩, Option.bind_some]
  have hz : (⟨(Hd.spc s.data.toList).toArray⟩ : ByteArray).size = s.size := by
    show (Hd.spc s.data.toList).toArray.size = _
    rw [List.size_toArray, Hd.spc_len, ← Lib.size_eq]
  have := within_f ⟨(Hd.spc s.data.toList).toArray⟩ (by omega) 32 4096 k (by omega)
  rw [show head_within.f k ⟨(Hd.spc s.data.toList).toArray⟩ 32 4096 = some (Hd.plain (Hd.spc s.data.toList) 32 4096) from this, Option.bind_some]
  unfold valB Hd.value
  cases Hd.plain (Hd.spc s.data.toList) 32 4096
  · rfl
  · rw [if_pos rfl, if_pos ⟨by omega, rfl⟩, Option.bind_some, Bool.true_and, ByteArray.toList_eq, ByteArray.toList_eq]
theorem value_any (s : ByteArray) (hs : s.size < 4294967281) (w : World) (hS : StdW w) : Calls Tryz.prog 20 #[.string s] w fun e w' => e = .returned (.bool (valB s)) ∧ Below w.heap.size w w' :=
  head_Value.calls (s.size + 1) s (valB s) w hS (value_f s hs _ (Nat.lt_succ_self _))
end Go.Proofs.YtocklkaddiomhaaGreatDoor.E


namespace Go.Proofs.YtocklkaddiomhaaGreatDoor.E
open Go.RowKit Go.Proofs.YtocklkaddiomhaaGreatDoorW.PrintWords Go.Proofs.YtocklkaddiomhaaGreatDoorW.PrintLast Go.Proofs.YtocklkaddiomhaaGreatDoor.XK Go.Proofs.YtocklkaddiomhaaGreatDoor.XA Go.Proofs.YtocklkaddiomhaaGreatDoor.XD
set_option linter.unusedVariables false
set_option linter.unusedSimpArgs false
theorem info_fld : (Tryz.prog.info? 72).map (fun i => (i.zero, i.size, i.bytes)) = some (some (.agg #[.string ⟨#[]⟩, .string ⟨#[]⟩]), 2, 32) := by kernel_rfl
abbrev RF (wb w0 w : World) (v : Value) (l : List S72) : Prop := Kd.R k72 72 w wb.heap.size (fun k => w0.heap.size ≤ k) v l
theorem cut_both (s sep : List UInt8) (h : 1 ≤ sep.length) : (Lib.cut s sep).1.length + (Lib.cut s sep).2.1.length ≤ s.length := by
  unfold Lib.cut
  split
  · simp only [List.length_take, List.length_drop]; omega
  · simp
theorem cutLR_size (s : ByteArray) : (cutL s).size + (cutR2 s).size ≤ s.size := by
  have h := cut_both s.data.toList [13, 10] (by decide)
  rw [← Lib.size_eq] at h
  exact h
def KeptR (R : Nat) (w0 w : World) : Prop := w0.heap.size ≤ w.heap.size ∧ ∀ k, k < w0.heap.size → k ≠ R → w.heap[k]? = w0.heap[k]?
theorem KeptR.refl (R : Nat) (w : World) : KeptR R w w := ⟨Nat.le_refl _, fun _ _ _ => rfl⟩
theorem KeptR.below {R : Nat} {w0 w w' : World} (h : KeptR R w0 w) (hb : Below w.heap.size w w') : KeptR R w0 w' :=
  ⟨Nat.le_trans h.1 hb.size, fun k hk hne => (hb.block k (Nat.lt_of_lt_of_le hk h.1)).trans (h.2 k hk hne)⟩
theorem KeptR.setCell {R : Nat} {w0 w : World} (h : KeptR R w0 w) (j : Nat) (v : Value) : KeptR R w0 (w.setCell ⟨R, j, none⟩ v) :=
  ⟨by simp; exact h.1, fun k hk hne => (Below.heap_setCell w ⟨R, j, none⟩ v k hne).trans (h.2 k hk hne)⟩
theorem KeptR.grown {R : Nat} {w0 w w' : World} {row : Option Nat} (h : KeptR R w0 w) (hg : w.grownBy w' row) (hr : ∀ k, row = some k → w0.heap.size ≤ k) : KeptR R w0 w' :=
  ⟨Nat.le_trans h.1 hg.size, fun k hk hne => (hg.block k (Nat.lt_of_lt_of_le hk h.1) (fun e => by have := hr k e.symm; omega)).trans (h.2 k hk hne)⟩
theorem Blk.keptR {R S : Nat} {w0 w : World} {C : Array Value} {T : TypeId} (h : Blk w0 S C T) (hk : KeptR R w0 w) (hne : S ≠ R) : Blk w S C T := (hk.2 S h.lt hne).trans h
theorem line_at (rest : ByteArray) (p R : Nat) (wb w0 w : World) (v : Value) (l : List S72) (hS : StdW w) (hz : rest.size ≤ 8192) (hp : p ≤ 1000000) (h : Blk w R (rdC rest (p : Int)) 120) (hR : RF wb w0 w v l) (hB : Below wb.heap.size wb w) (hK : KeptR R w0 w) (hlt : R < w0.heap.size) (hbR : wb.heap.size ≤ R) :
    Calls Tryz.prog 35 #[.pointer (some ⟨R, 0, none⟩)] w fun e w' => e = .returned (.tuple #[.string (cutL rest), .int .i64 p]) ∧ Blk w' R (rdC (cutR2 rest) ((p + (cutL rest).size + 2 : Nat) : Int)) 120 ∧ RF wb w0 w' v l ∧ Below wb.heap.size wb w' ∧ KeptR R w0 w' := by
  refine (line_any rest p R w hS (by omega) (by omega) h).mono ?_
  rintro e w' ⟨rfl, w1, hb, rfl⟩
  have hbw : wb.heap.size ≤ w.heap.size := hB.size
  refine ⟨rfl, ((h.below hb).set 0 (.string (cutR2 rest))).set 1 _, Kd.R_far (Kd.R_far (Kd.R_below hR hb) (fun k hk e => by simp only at e; omega) _) (fun k hk e => by simp only at e; omega) _, ((below_then hB hB.size hb).setCell hbR _).setCell hbR _, ((hK.below hb).setCell 0 _).setCell 1 _⟩
def ofF (f : Fd.F) : S72 := ⟨⟨f.1.toArray⟩, ⟨f.2.toArray⟩⟩
def FldPost (r : (Nat × Nat) ⊕ List Fd.F) (R : Nat) (wb w : World) (e : Ending) (w' : World) : Prop :=
  Below wb.heap.size wb w' ∧ KeptR R w w' ∧ match r with
    | .inl (a, c) => ∃ v, e = .returned (.tuple #[.slice none 0 0, v]) ∧ ErrIs w' v [(headS, (a : Int))] (c : Int)
    | .inr l => ∃ v, e = .returned (.tuple #[v, .nilIface]) ∧ RF wb w w' v (l.map ofF)
theorem fieldR_eq (l nm v0 : ByteArray) (co bk tk vl : Bool) (h1 : nm = ⟨(Lib.cut l.data.toList [58]).1.toArray⟩) (h2 : v0 = ⟨(Lib.cut l.data.toList [58]).2.1.toArray⟩) (h3 : co = (Lib.cut l.data.toList [58]).2.2) (h4 : bk = Hd.broken l.data.toList) (h5 : tk = Fd.token nm.data.toList) (h6 : vl = Hd.value (Fd.trimB v0.data.toList)) :
    Hd.fieldR l.data.toList = if !co || bk then .inl 80 else if !tk then .inl 81 else if !vl then .inl 83 else .inr (nm.data.toList, Fd.trimB v0.data.toList) := by
  subst h1 h2 h3 h4 h5 h6
  rfl
set_option maxRecDepth 100000 in
set_option maxHeartbeats 40000000 in
theorem fields_any (rest0 : ByteArray) (p0 R : Nat) (wb w : World) (hSb : StdW wb) (hB0 : Below wb.heap.size wb w) (hbR : wb.heap.size ≤ R) (h : Blk w R (rdC rest0 (p0 : Int)) 120) (hz0 : rest0.size ≤ 8192) (hp0 : p0 ≤ 10000) :
    Calls Tryz.prog 40 #[.pointer (some ⟨R, 0, none⟩)] w (FldPost (Hd.fieldsR 66 rest0.data.toList p0 []) R wb w) := by
  have hlt := h.lt
  have HSX := Lib.hid (fun W (hb : Below wb.heap.size wb W) => StdW.below hSb hb)
  have HK0 := Lib.hid h
  have HB0 := Lib.hid hB0
  have HW := Lib.hid hdwrong_no
  generalize hRES : Hd.fieldsR 66 rest0.data.toList p0 [] = RES
  have HR0 := Lib.hid hRES
  clear hSb h hB0 hRES
  go_enter Tryz.func40, Tryz.ntmps40
  go_wp2
  go_step3
  go_wp2
  go_step3
  go_wp2
  go_loopg [4] 66 (fun g v wr => ∃ (rest : ByteArray) (p : Nat) (out : List Fd.F), g + out.length = 66 ∧ out.length ≤ 64 ∧ rest.size ≤ 8192 ∧ p + rest.size ≤ 20000 + 2 * out.length ∧ Hid (Blk wr R (rdC rest (p : Int)) 120) ∧ Hid (RF wb w wr v (out.map ofF)) ∧ Hid (Below wb.heap.size wb wr) ∧ Hid (KeptR R w wr) ∧ Hid (Hd.fieldsR g rest.data.toList p out = RES))
  case atStart => exact ⟨rest0, p0, [], rfl, by simp, hz0, by show p0 + rest0.size ≤ 20000 + 2 * 0; omega, HK0, Lib.hid (Kd.R_nil _ _ _ _ _), HB0, Lib.hid (KeptR.refl R w), HR0⟩
  case round =>
    obtain ⟨rest, p, out, hg, ho64, hz, hpz, HK, HRR, HB, HKP, HF⟩ := hrel
    clear HK0 HB0 HR0 hz0 hp0
    cases gk with
    | zero => omega
    | succ k =>
      obtain ⟨A, c, rfl, hlc, hC⟩ := Kd.R_reads HRR.out
      clear hC
      rw [List.length_map] at HRR hlc
      have HL := Lib.hid (line_at rest p R wb w _ _ _ (HSX.out _ HB.out) hz (by omega) HK.out HRR.out HB.out HKP.out hlt hbR)
      have hLR := cutLR_size rest
      have HFF : Hid (RES = if (cutL rest).data.toList = [] then .inr out else if out.length = 64 then .inl (p, 3) else match Hd.fieldR (cutL rest).data.toList with
        | .inl c => .inl (p, c)
        | .inr f => Hd.fieldsR k (cutR2 rest).data.toList (p + (cutL rest).size + 2) (out ++ [f])) := Lib.hid (by
          rw [← HF.out, show (cutL rest).size = (Lib.cut rest.data.toList Hd.crlf).1.length from Lib.size_eq _]
          conv => lhs; unfold Hd.fieldsR
          rfl)
      clear HF
      generalize cutL rest = l at HL HFF hLR
      generalize cutR2 rest = r at HL HFF hLR
      obtain ⟨nm, hnm⟩ : ∃ nm, nm = (⟨(Lib.cut l.data.toList [58]).1.toArray⟩ : ByteArray) := ⟨_, rfl⟩
      obtain ⟨v0, hv0⟩ : ∃ nm, nm = (⟨(Lib.cut l.data.toList [58]).2.1.toArray⟩ : ByteArray) := ⟨_, rfl⟩
      obtain ⟨co, hco⟩ : ∃ co, co = (Lib.cut l.data.toList [58]).2.2 := ⟨_, rfl⟩
      obtain ⟨bk, hbk⟩ : ∃ bk, bk = Hd.broken l.data.toList := ⟨_, rfl⟩
      obtain ⟨tk, htk⟩ : ∃ tk, tk = Fd.token nm.data.toList := ⟨_, rfl⟩
      obtain ⟨vl, hvl⟩ : ∃ vl, vl = Hd.value (Fd.trimB v0.data.toList) := ⟨_, rfl⟩
      have HFR := Lib.hid (fieldR_eq l nm v0 co bk tk vl hnm hv0 hco hbk htk hvl)
      have hnz : nm.size ≤ 8192 := by
        have := cut_both l.data.toList [58] (by decide)
        rw [← Lib.size_eq] at this
        rw [hnm]; show (Lib.cut l.data.toList [58]).1.length ≤ _; omega
      have hvz : v0.size ≤ 8192 := by
        have := cut_both l.data.toList [58] (by decide)
        rw [← Lib.size_eq] at this
        rw [hv0]; show (Lib.cut l.data.toList [58]).2.1.length ≤ _; omega
      have HC := Lib.hid (fun W h => Cut.calls l ⟨#[58]⟩ nm v0 co W h (by unfold Cut.f; rw [if_pos (by omega), hnm, hv0, hco]))
      have HTM := Lib.hid (fun W h => Trim.calls v0 ⟨#[32, 9]⟩ ⟨(Fd.trimB v0.data.toList).toArray⟩ W h (by unfold Trim.f; rw [if_pos ⟨by omega, rfl⟩]))
      have HBK := Lib.hid (fun W => broken_any l (by omega) W)
      have HTK := Lib.hid (fun W h => token_any nm (by omega) W h)
      have htz := Fd.trimB_len v0.data.toList
      rw [← Lib.size_eq] at htz
      have HVL := Lib.hid (fun W h => value_any ⟨(Fd.trimB v0.data.toList).toArray⟩ (by show (Fd.trimB v0.data.toList).length < _; omega) W h)
      rw [← hbk] at HBK
      rw [show tokB nm = tk from htk.symm] at HTK
      rw [show valB ⟨(Fd.trimB v0.data.toList).toArray⟩ = vl from hvl.symm] at HVL
      clear hnm hv0 hco hbk htk hvl
      have hvt : (⟨(Fd.trimB v0.data.toList).toArray⟩ : ByteArray).data.toList = Fd.trimB v0.data.toList := rfl
      rw [← hvt] at HFR
      clear hvt
      generalize (⟨(Fd.trimB v0.data.toList).toArray⟩ : ByteArray) = va at HTM HVL HFR htz
      by_cases hl0 : l.data.toList = []
      · have h1 : l.toList.isEmpty = true := by rw [ByteArray.toList_eq, hl0]; rfl
        have HE : Hid (RES = .inr out) := Lib.hid (by rw [HFF.out, if_pos hl0])
        clear HFF HFR
        go_wp2_with (first | (go_at_call 35; (with_reducible refine HL.out.mono ?_); rintro e wn ⟨rfl, hk, hr, hb, ho⟩; have HK := Lib.hid hk; have HRR := Lib.hid hr; have HB := Lib.hid hb; have HKP := Lib.hid ho; clear hk hr hb ho) | (go_at_call 70; (with_reducible refine (HC.out _ (HSX.out _ HB.out)).mono ?_); rintro e wn ⟨rfl, hb⟩; have HK := Lib.hid (HK.out.below hb); have HRR := Lib.hid (Kd.R_below HRR.out hb); have HKP := Lib.hid (KeptR.below HKP.out hb); have HB := Lib.hid (below_then HB.out HB.out.size hb); clear hb) | (go_at_call 49; (with_reducible refine (HTM.out _ (HSX.out _ HB.out)).mono ?_); rintro e wn ⟨rfl, hb⟩; have HK := Lib.hid (HK.out.below hb); have HRR := Lib.hid (Kd.R_below HRR.out hb); have HKP := Lib.hid (KeptR.below HKP.out hb); have HB := Lib.hid (below_then HB.out HB.out.size hb); clear hb) | (go_at_call 37; (with_reducible refine (HBK.out _).mono ?_); rintro e wn ⟨rfl, hb⟩; have HK := Lib.hid (HK.out.below hb); have HRR := Lib.hid (Kd.R_below HRR.out hb); have HKP := Lib.hid (KeptR.below HKP.out hb); have HB := Lib.hid (below_then HB.out HB.out.size hb); clear hb) | (go_at_call 18; (with_reducible refine (HTK.out _ (HSX.out _ HB.out)).mono ?_); rintro e wn ⟨rfl, hb⟩; have HK := Lib.hid (HK.out.below hb); have HRR := Lib.hid (Kd.R_below HRR.out hb); have HKP := Lib.hid (KeptR.below HKP.out hb); have HB := Lib.hid (below_then HB.out HB.out.size hb); clear hb) | (go_at_call 20; (with_reducible refine (HVL.out _ (HSX.out _ HB.out)).mono ?_); rintro e wn ⟨rfl, hb⟩; have HK := Lib.hid (HK.out.below hb); have HRR := Lib.hid (Kd.R_below HRR.out hb); have HKP := Lib.hid (KeptR.below HKP.out hb); have HB := Lib.hid (below_then HB.out HB.out.size hb); clear hb) | (go_at_call 33; (with_reducible refine (HW.out _ _ _).mono ?_); rintro e wn ⟨ve, rfl, he, hb⟩; have HK := Lib.hid (HK.out.below hb); have HRR := Lib.hid (Kd.R_below HRR.out hb); have HKP := Lib.hid (KeptR.below HKP.out hb); have HB := Lib.hid (below_then HB.out HB.out.size hb); clear hb))
        try rw [Exit.noGoto_ret]
        go_ret2
        rw [HE.out]
        exact ⟨HB.out, HKP.out, _, rfl, HRR.out⟩
      have h1 : l.toList.isEmpty = false := by rw [ByteArray.toList_eq]; cases hh : l.data.toList with | nil => exact absurd hh hl0 | cons _ _ => rfl
      by_cases h64 : out.length = 64
      · have hn : ((out.length : Int) == 64) = true := by rw [h64]; rfl
        have HE : Hid (RES = .inl (p, 3)) := Lib.hid (by rw [HFF.out, if_neg hl0, if_pos h64])
        clear HFF HFR
        go_wp2_with (first | (go_at_call 35; (with_reducible refine HL.out.mono ?_); rintro e wn ⟨rfl, hk, hr, hb, ho⟩; have HK := Lib.hid hk; have HRR := Lib.hid hr; have HB := Lib.hid hb; have HKP := Lib.hid ho; clear hk hr hb ho) | (go_at_call 70; (with_reducible refine (HC.out _ (HSX.out _ HB.out)).mono ?_); rintro e wn ⟨rfl, hb⟩; have HK := Lib.hid (HK.out.below hb); have HRR := Lib.hid (Kd.R_below HRR.out hb); have HKP := Lib.hid (KeptR.below HKP.out hb); have HB := Lib.hid (below_then HB.out HB.out.size hb); clear hb) | (go_at_call 49; (with_reducible refine (HTM.out _ (HSX.out _ HB.out)).mono ?_); rintro e wn ⟨rfl, hb⟩; have HK := Lib.hid (HK.out.below hb); have HRR := Lib.hid (Kd.R_below HRR.out hb); have HKP := Lib.hid (KeptR.below HKP.out hb); have HB := Lib.hid (below_then HB.out HB.out.size hb); clear hb) | (go_at_call 37; (with_reducible refine (HBK.out _).mono ?_); rintro e wn ⟨rfl, hb⟩; have HK := Lib.hid (HK.out.below hb); have HRR := Lib.hid (Kd.R_below HRR.out hb); have HKP := Lib.hid (KeptR.below HKP.out hb); have HB := Lib.hid (below_then HB.out HB.out.size hb); clear hb) | (go_at_call 18; (with_reducible refine (HTK.out _ (HSX.out _ HB.out)).mono ?_); rintro e wn ⟨rfl, hb⟩; have HK := Lib.hid (HK.out.below hb); have HRR := Lib.hid (Kd.R_below HRR.out hb); have HKP := Lib.hid (KeptR.below HKP.out hb); have HB := Lib.hid (below_then HB.out HB.out.size hb); clear hb) | (go_at_call 20; (with_reducible refine (HVL.out _ (HSX.out _ HB.out)).mono ?_); rintro e wn ⟨rfl, hb⟩; have HK := Lib.hid (HK.out.below hb); have HRR := Lib.hid (Kd.R_below HRR.out hb); have HKP := Lib.hid (KeptR.below HKP.out hb); have HB := Lib.hid (below_then HB.out HB.out.size hb); clear hb) | (go_at_call 33; (with_reducible refine (HW.out _ _ _).mono ?_); rintro e wn ⟨ve, rfl, he, hb⟩; have HK := Lib.hid (HK.out.below hb); have HRR := Lib.hid (Kd.R_below HRR.out hb); have HKP := Lib.hid (KeptR.below HKP.out hb); have HB := Lib.hid (below_then HB.out HB.out.size hb); clear hb))
        try rw [Exit.noGoto_ret]
        go_ret2
        rw [HE.out]
        exact ⟨HB.out, HKP.out, ve, rfl, he⟩
      have hn : ((out.length : Int) == 64) = false := by rw [beq_eq_false_iff_ne]; omega
      have HFG : Hid (RES = match (if !co || bk then .inl 80 else if !tk then .inl 81 else if !vl then .inl 83 else .inr (nm.data.toList, va.data.toList) : Nat ⊕ Fd.F) with
        | .inl c => .inl (p, c)
        | .inr f => Hd.fieldsR k r.data.toList (p + l.size + 2) (out ++ [f])) := Lib.hid (by rw [HFF.out, if_neg hl0, if_neg h64, HFR.out])
      have h63 : out.length ≤ 63 := by omega
      clear HFF HFR hl0 h64

      cases co
      · have HE : Hid (RES = .inl (p, 80)) := Lib.hid HFG.out
        clear HFG
        go_wp2_with (first | (go_at_call 35; (with_reducible refine HL.out.mono ?_); rintro e wn ⟨rfl, hk, hr, hb, ho⟩; have HK := Lib.hid hk; have HRR := Lib.hid hr; have HB := Lib.hid hb; have HKP := Lib.hid ho; clear hk hr hb ho) | (go_at_call 70; (with_reducible refine (HC.out _ (HSX.out _ HB.out)).mono ?_); rintro e wn ⟨rfl, hb⟩; have HK := Lib.hid (HK.out.below hb); have HRR := Lib.hid (Kd.R_below HRR.out hb); have HKP := Lib.hid (KeptR.below HKP.out hb); have HB := Lib.hid (below_then HB.out HB.out.size hb); clear hb) | (go_at_call 49; (with_reducible refine (HTM.out _ (HSX.out _ HB.out)).mono ?_); rintro e wn ⟨rfl, hb⟩; have HK := Lib.hid (HK.out.below hb); have HRR := Lib.hid (Kd.R_below HRR.out hb); have HKP := Lib.hid (KeptR.below HKP.out hb); have HB := Lib.hid (below_then HB.out HB.out.size hb); clear hb) | (go_at_call 37; (with_reducible refine (HBK.out _).mono ?_); rintro e wn ⟨rfl, hb⟩; have HK := Lib.hid (HK.out.below hb); have HRR := Lib.hid (Kd.R_below HRR.out hb); have HKP := Lib.hid (KeptR.below HKP.out hb); have HB := Lib.hid (below_then HB.out HB.out.size hb); clear hb) | (go_at_call 18; (with_reducible refine (HTK.out _ (HSX.out _ HB.out)).mono ?_); rintro e wn ⟨rfl, hb⟩; have HK := Lib.hid (HK.out.below hb); have HRR := Lib.hid (Kd.R_below HRR.out hb); have HKP := Lib.hid (KeptR.below HKP.out hb); have HB := Lib.hid (below_then HB.out HB.out.size hb); clear hb) | (go_at_call 20; (with_reducible refine (HVL.out _ (HSX.out _ HB.out)).mono ?_); rintro e wn ⟨rfl, hb⟩; have HK := Lib.hid (HK.out.below hb); have HRR := Lib.hid (Kd.R_below HRR.out hb); have HKP := Lib.hid (KeptR.below HKP.out hb); have HB := Lib.hid (below_then HB.out HB.out.size hb); clear hb) | (go_at_call 33; (with_reducible refine (HW.out _ _ _).mono ?_); rintro e wn ⟨ve, rfl, he, hb⟩; have HK := Lib.hid (HK.out.below hb); have HRR := Lib.hid (Kd.R_below HRR.out hb); have HKP := Lib.hid (KeptR.below HKP.out hb); have HB := Lib.hid (below_then HB.out HB.out.size hb); clear hb))
        try rw [Exit.noGoto_ret]
        go_ret2
        rw [HE.out]
        exact ⟨HB.out, HKP.out, ve, rfl, he⟩
      cases bk
      rotate_left
      · have HE : Hid (RES = .inl (p, 80)) := Lib.hid HFG.out
        clear HFG
        go_wp2_with (first | (go_at_call 35; (with_reducible refine HL.out.mono ?_); rintro e wn ⟨rfl, hk, hr, hb, ho⟩; have HK := Lib.hid hk; have HRR := Lib.hid hr; have HB := Lib.hid hb; have HKP := Lib.hid ho; clear hk hr hb ho) | (go_at_call 70; (with_reducible refine (HC.out _ (HSX.out _ HB.out)).mono ?_); rintro e wn ⟨rfl, hb⟩; have HK := Lib.hid (HK.out.below hb); have HRR := Lib.hid (Kd.R_below HRR.out hb); have HKP := Lib.hid (KeptR.below HKP.out hb); have HB := Lib.hid (below_then HB.out HB.out.size hb); clear hb) | (go_at_call 49; (with_reducible refine (HTM.out _ (HSX.out _ HB.out)).mono ?_); rintro e wn ⟨rfl, hb⟩; have HK := Lib.hid (HK.out.below hb); have HRR := Lib.hid (Kd.R_below HRR.out hb); have HKP := Lib.hid (KeptR.below HKP.out hb); have HB := Lib.hid (below_then HB.out HB.out.size hb); clear hb) | (go_at_call 37; (with_reducible refine (HBK.out _).mono ?_); rintro e wn ⟨rfl, hb⟩; have HK := Lib.hid (HK.out.below hb); have HRR := Lib.hid (Kd.R_below HRR.out hb); have HKP := Lib.hid (KeptR.below HKP.out hb); have HB := Lib.hid (below_then HB.out HB.out.size hb); clear hb) | (go_at_call 18; (with_reducible refine (HTK.out _ (HSX.out _ HB.out)).mono ?_); rintro e wn ⟨rfl, hb⟩; have HK := Lib.hid (HK.out.below hb); have HRR := Lib.hid (Kd.R_below HRR.out hb); have HKP := Lib.hid (KeptR.below HKP.out hb); have HB := Lib.hid (below_then HB.out HB.out.size hb); clear hb) | (go_at_call 20; (with_reducible refine (HVL.out _ (HSX.out _ HB.out)).mono ?_); rintro e wn ⟨rfl, hb⟩; have HK := Lib.hid (HK.out.below hb); have HRR := Lib.hid (Kd.R_below HRR.out hb); have HKP := Lib.hid (KeptR.below HKP.out hb); have HB := Lib.hid (below_then HB.out HB.out.size hb); clear hb) | (go_at_call 33; (with_reducible refine (HW.out _ _ _).mono ?_); rintro e wn ⟨ve, rfl, he, hb⟩; have HK := Lib.hid (HK.out.below hb); have HRR := Lib.hid (Kd.R_below HRR.out hb); have HKP := Lib.hid (KeptR.below HKP.out hb); have HB := Lib.hid (below_then HB.out HB.out.size hb); clear hb))
        try rw [Exit.noGoto_ret]
        go_ret2
        rw [HE.out]
        exact ⟨HB.out, HKP.out, ve, rfl, he⟩
      cases tk
      · have HE : Hid (RES = .inl (p, 81)) := Lib.hid HFG.out
        clear HFG
        go_wp2_with (first | (go_at_call 35; (with_reducible refine HL.out.mono ?_); rintro e wn ⟨rfl, hk, hr, hb, ho⟩; have HK := Lib.hid hk; have HRR := Lib.hid hr; have HB := Lib.hid hb; have HKP := Lib.hid ho; clear hk hr hb ho) | (go_at_call 70; (with_reducible refine (HC.out _ (HSX.out _ HB.out)).mono ?_); rintro e wn ⟨rfl, hb⟩; have HK := Lib.hid (HK.out.below hb); have HRR := Lib.hid (Kd.R_below HRR.out hb); have HKP := Lib.hid (KeptR.below HKP.out hb); have HB := Lib.hid (below_then HB.out HB.out.size hb); clear hb) | (go_at_call 49; (with_reducible refine (HTM.out _ (HSX.out _ HB.out)).mono ?_); rintro e wn ⟨rfl, hb⟩; have HK := Lib.hid (HK.out.below hb); have HRR := Lib.hid (Kd.R_below HRR.out hb); have HKP := Lib.hid (KeptR.below HKP.out hb); have HB := Lib.hid (below_then HB.out HB.out.size hb); clear hb) | (go_at_call 37; (with_reducible refine (HBK.out _).mono ?_); rintro e wn ⟨rfl, hb⟩; have HK := Lib.hid (HK.out.below hb); have HRR := Lib.hid (Kd.R_below HRR.out hb); have HKP := Lib.hid (KeptR.below HKP.out hb); have HB := Lib.hid (below_then HB.out HB.out.size hb); clear hb) | (go_at_call 18; (with_reducible refine (HTK.out _ (HSX.out _ HB.out)).mono ?_); rintro e wn ⟨rfl, hb⟩; have HK := Lib.hid (HK.out.below hb); have HRR := Lib.hid (Kd.R_below HRR.out hb); have HKP := Lib.hid (KeptR.below HKP.out hb); have HB := Lib.hid (below_then HB.out HB.out.size hb); clear hb) | (go_at_call 20; (with_reducible refine (HVL.out _ (HSX.out _ HB.out)).mono ?_); rintro e wn ⟨rfl, hb⟩; have HK := Lib.hid (HK.out.below hb); have HRR := Lib.hid (Kd.R_below HRR.out hb); have HKP := Lib.hid (KeptR.below HKP.out hb); have HB := Lib.hid (below_then HB.out HB.out.size hb); clear hb) | (go_at_call 33; (with_reducible refine (HW.out _ _ _).mono ?_); rintro e wn ⟨ve, rfl, he, hb⟩; have HK := Lib.hid (HK.out.below hb); have HRR := Lib.hid (Kd.R_below HRR.out hb); have HKP := Lib.hid (KeptR.below HKP.out hb); have HB := Lib.hid (below_then HB.out HB.out.size hb); clear hb))
        try rw [Exit.noGoto_ret]
        go_ret2
        rw [HE.out]
        exact ⟨HB.out, HKP.out, ve, rfl, he⟩
      cases vl
      · have HE : Hid (RES = .inl (p, 83)) := Lib.hid HFG.out
        clear HFG
        go_wp2_with (first | (go_at_call 35; (with_reducible refine HL.out.mono ?_); rintro e wn ⟨rfl, hk, hr, hb, ho⟩; have HK := Lib.hid hk; have HRR := Lib.hid hr; have HB := Lib.hid hb; have HKP := Lib.hid ho; clear hk hr hb ho) | (go_at_call 70; (with_reducible refine (HC.out _ (HSX.out _ HB.out)).mono ?_); rintro e wn ⟨rfl, hb⟩; have HK := Lib.hid (HK.out.below hb); have HRR := Lib.hid (Kd.R_below HRR.out hb); have HKP := Lib.hid (KeptR.below HKP.out hb); have HB := Lib.hid (below_then HB.out HB.out.size hb); clear hb) | (go_at_call 49; (with_reducible refine (HTM.out _ (HSX.out _ HB.out)).mono ?_); rintro e wn ⟨rfl, hb⟩; have HK := Lib.hid (HK.out.below hb); have HRR := Lib.hid (Kd.R_below HRR.out hb); have HKP := Lib.hid (KeptR.below HKP.out hb); have HB := Lib.hid (below_then HB.out HB.out.size hb); clear hb) | (go_at_call 37; (with_reducible refine (HBK.out _).mono ?_); rintro e wn ⟨rfl, hb⟩; have HK := Lib.hid (HK.out.below hb); have HRR := Lib.hid (Kd.R_below HRR.out hb); have HKP := Lib.hid (KeptR.below HKP.out hb); have HB := Lib.hid (below_then HB.out HB.out.size hb); clear hb) | (go_at_call 18; (with_reducible refine (HTK.out _ (HSX.out _ HB.out)).mono ?_); rintro e wn ⟨rfl, hb⟩; have HK := Lib.hid (HK.out.below hb); have HRR := Lib.hid (Kd.R_below HRR.out hb); have HKP := Lib.hid (KeptR.below HKP.out hb); have HB := Lib.hid (below_then HB.out HB.out.size hb); clear hb) | (go_at_call 20; (with_reducible refine (HVL.out _ (HSX.out _ HB.out)).mono ?_); rintro e wn ⟨rfl, hb⟩; have HK := Lib.hid (HK.out.below hb); have HRR := Lib.hid (Kd.R_below HRR.out hb); have HKP := Lib.hid (KeptR.below HKP.out hb); have HB := Lib.hid (below_then HB.out HB.out.size hb); clear hb) | (go_at_call 33; (with_reducible refine (HW.out _ _ _).mono ?_); rintro e wn ⟨ve, rfl, he, hb⟩; have HK := Lib.hid (HK.out.below hb); have HRR := Lib.hid (Kd.R_below HRR.out hb); have HKP := Lib.hid (KeptR.below HKP.out hb); have HB := Lib.hid (below_then HB.out HB.out.size hb); clear hb))
        try rw [Exit.noGoto_ret]
        go_ret2
        rw [HE.out]
        exact ⟨HB.out, HKP.out, ve, rfl, he⟩

      have HE : Hid (Hd.fieldsR k r.data.toList (p + l.size + 2) (out ++ [(nm.data.toList, va.data.toList)]) = RES) := Lib.hid HFG.out.symm
      clear HFG
      have u5 := Tryz.underlying72
      go_wp2_with (first | (first | (go_at_call 35; (with_reducible refine HL.out.mono ?_); rintro e wn ⟨rfl, hk, hr, hb, ho⟩; have HK := Lib.hid hk; have HRR := Lib.hid hr; have HB := Lib.hid hb; have HKP := Lib.hid ho; clear hk hr hb ho) | (go_at_call 70; (with_reducible refine (HC.out _ (HSX.out _ HB.out)).mono ?_); rintro e wn ⟨rfl, hb⟩; have HK := Lib.hid (HK.out.below hb); have HRR := Lib.hid (Kd.R_below HRR.out hb); have HKP := Lib.hid (KeptR.below HKP.out hb); have HB := Lib.hid (below_then HB.out HB.out.size hb); clear hb) | (go_at_call 49; (with_reducible refine (HTM.out _ (HSX.out _ HB.out)).mono ?_); rintro e wn ⟨rfl, hb⟩; have HK := Lib.hid (HK.out.below hb); have HRR := Lib.hid (Kd.R_below HRR.out hb); have HKP := Lib.hid (KeptR.below HKP.out hb); have HB := Lib.hid (below_then HB.out HB.out.size hb); clear hb) | (go_at_call 37; (with_reducible refine (HBK.out _).mono ?_); rintro e wn ⟨rfl, hb⟩; have HK := Lib.hid (HK.out.below hb); have HRR := Lib.hid (Kd.R_below HRR.out hb); have HKP := Lib.hid (KeptR.below HKP.out hb); have HB := Lib.hid (below_then HB.out HB.out.size hb); clear hb) | (go_at_call 18; (with_reducible refine (HTK.out _ (HSX.out _ HB.out)).mono ?_); rintro e wn ⟨rfl, hb⟩; have HK := Lib.hid (HK.out.below hb); have HRR := Lib.hid (Kd.R_below HRR.out hb); have HKP := Lib.hid (KeptR.below HKP.out hb); have HB := Lib.hid (below_then HB.out HB.out.size hb); clear hb) | (go_at_call 20; (with_reducible refine (HVL.out _ (HSX.out _ HB.out)).mono ?_); rintro e wn ⟨rfl, hb⟩; have HK := Lib.hid (HK.out.below hb); have HRR := Lib.hid (Kd.R_below HRR.out hb); have HKP := Lib.hid (KeptR.below HKP.out hb); have HB := Lib.hid (below_then HB.out HB.out.size hb); clear hb) | (go_at_call 33; (with_reducible refine (HW.out _ _ _).mono ?_); rintro e wn ⟨ve, rfl, he, hb⟩; have HK := Lib.hid (HK.out.below hb); have HRR := Lib.hid (Kd.R_below HRR.out hb); have HKP := Lib.hid (KeptR.below HKP.out hb); have HB := Lib.hid (below_then HB.out HB.out.size hb); clear hb)) | (at_builtin; refine Kd.R_append k72 (w0 := wb) wb.heap.size rfl (.tmp 57) (.tmp 61) 34 72 (.agg #[.string ⟨#[]⟩, .string ⟨#[]⟩]) 32 rfl Tryz.underlying34 info_fld rfl (by decide) (by omega) _ (out.map ofF) (⟨nm, va⟩ : S72) [.string nm, .string va] (fun k => w.heap.size ≤ k) (fun _ => False) rfl rfl (k72_mkM _ _ _ _) (fun _ hk => hk.elim) (fun k hk => Nat.le_trans HKP.out.1 hk) HRR.out HB.out HB.out.size (by rw [List.length_map]; omega) ?_; intro v3 w3 ho hb3 hg3 hat3))
      go_roundg k
      case measure => omega
      case rel => exact ⟨r, p + l.size + 2, out ++ [(nm.data.toList, va.data.toList)], by simp; omega, by simp; omega, by omega, by simp; omega, Lib.hid ((hg3.block R HK.out.lt (fun e => by have := HRR.out.1 R e.symm; omega)).trans HK.out), Lib.hid (by rw [List.map_append]; exact ho), Lib.hid hb3, Lib.hid (KeptR.grown HKP.out hg3 (fun k e => HRR.out.1 k e)), HE⟩
end Go.Proofs.YtocklkaddiomhaaGreatDoor.E


namespace Go.Proofs.YtocklkaddiomhaaGreatDoor.E
open Go.RowKit Go.Proofs.YtocklkaddiomhaaGreatDoorW.PrintWords Go.Proofs.YtocklkaddiomhaaGreatDoorW.PrintLast
set_option linter.unusedVariables false
set_option linter.unusedSimpArgs false
set_option maxRecDepth 100000 in
set_option maxHeartbeats 4000000 in
theorem fail_any (s : ByteArray) (at_ co : Int) (w : World) :
    Calls Tryz.prog 14 #[.string s, .int .i64 at_, .int .i64 co] w fun e w' => e = .returned (.agg #[.int .i64 1, .string s, .string ⟨#[]⟩, .string ⟨#[]⟩, .string ⟨#[]⟩, .int .i64 at_, .int .i64 0, .int .i64 0, .int .i64 0, .int .i64 co]) ∧ Below w.heap.size w w' := by
  go_enter Tryz.func14, Tryz.ntmps14
  go_wp2
  refine bodyPost_ret (v := .agg #[.int .i64 1, .string s, .string ⟨#[]⟩, .string ⟨#[]⟩, .string ⟨#[]⟩, .int .i64 at_, .int .i64 0, .int .i64 0, .int .i64 0, .int .i64 co]) (by simp [results, Tryz.results14, go_sem]) rfl ⟨rfl, below_alloc (below_alloc (Below.refl _ _) _) _⟩
end Go.Proofs.YtocklkaddiomhaaGreatDoor.E
