/- What the cards of this seat rest on: the walks and plain laws, part 6. -/
import Derived.Test.YtaakgjbdknobbaaGreatDoorFA5
import Derived.Deep.RegionWith
import Derived.Deep.RegionHeld3


namespace Go.Proofs.YtaakgjbdknobbaaGreatDoor.E
open Go.RowKit Go.Proofs.YtaakgjbdknobbaaGreatDoorW.PrintWords Go.Proofs.YtaakgjbdknobbaaGreatDoorW.PrintLast Go.Proofs.YtaakgjbdknobbaaGreatDoor.XK Go.Proofs.YtaakgjbdknobbaaGreatDoor.XA Go.Maps
set_option linter.unusedVariables false
set_option linter.unusedSimpArgs false
theorem SetM.drew {w : World} {b n : Nat} {S : List UInt8 → Bool} (h : SetM w b n S) : SetM w.drew b n S := h
structure Held2 (w : World) (B6 B3 bm n : Nat) (S : List UInt8 → Bool) (hp : Bool) : Prop where
  c6 : w.cell? ⟨B6, 0, none⟩ = some (.map (some bm))
  c3 : w.cell? ⟨B3, 0, none⟩ = some (.bool hp)
  m : SetM w bm n S
theorem Held2.below {w w1 : World} {B6 B3 bm n : Nat} {S : List UInt8 → Bool} {hp : Bool} (h : Held2 w B6 B3 bm n S hp) (hb : Below w.heap.size w w1) : Held2 w1 B6 B3 bm n S hp :=
  ⟨pw_cell_below hb h.c6, pw_cell_below hb h.c3, h.m.below hb⟩
def part1 (S : List UInt8 → Bool) (hp : Bool) (f : S78) : List S78 := if S (lowS f.f0).data.toList == hp then [f] else []
def TellsF (q : List S78) (W : World) (e : Ending) (w' : World) : Prop := ∃ A c, e = .returned (.slice A q.length c) ∧ q.length ≤ c ∧ Kd.C k78 w' A q.length q ∧ Below W.heap.size W w'
theorem below_of_drew {b : Nat} {w w1 : World} (h : Below b w.drew w1) : Below b w w1 := ⟨h.os, h.tape, h.output, h.size, h.block⟩
theorem C_one (w : World) (nm va : ByteArray) : Kd.C k78 (w.alloc (.cells #[.string nm, .string va] 78)) (some ⟨w.heap.size, 0, none⟩) 1 [⟨nm, va⟩] := by
  refine ⟨rfl, by decide, fun _ => ⟨_, rfl, fun j p hj => ?_⟩⟩
  match j, hj with
  | 0, hj =>
    simp only [List.getElem?_cons_zero, Option.some.injEq] at hj
    subst hj
    refine ⟨[.string nm, .string va], rfl, k78_mk _ _, fun i u hu => ?_⟩
    rw [addAt, Nat.zero_mul, Nat.zero_add, Nat.zero_add, World.cell?_alloc_new]
    simpa using hu
set_option maxRecDepth 100000 in
set_option maxHeartbeats 8000000 in
theorem somec_any (f : S78) (hf : f.f0.size ≤ 281474976710656) (B6 B3 bm n : Nat) (S : List UInt8 → Bool) (hp : Bool) (w : World) (hS : StdW w) (hH : Held2 w B6 B3 bm n S hp) (hz : (lowS f.f0).size ≤ 70368744177664) :
    Calls Tryz.prog 156 #[.agg #[.string f.f0, .string f.f1], .pointer (some ⟨B6, 0, none⟩), .pointer (some ⟨B3, 0, none⟩)] w (TellsF (part1 S hp f) w) := by
  obtain ⟨nm, va⟩ := f
  have HV := Lib.hid (small_lowS nm hf)
  obtain ⟨q, hq⟩ : ∃ q, part1 S hp ⟨nm, va⟩ = q := ⟨_, rfl⟩
  rw [hq]
  have HQ : Hid (q = if S (lowS nm).data.toList == hp then [⟨nm, va⟩] else []) := Lib.hid hq.symm
  clear hq hf
  have hb0 : Below w.heap.size w (w.alloc (.cells #[.string nm, .string va] 78)) := below_alloc (Below.refl _ _) _
  have HH0 := Lib.hid (hH.below hb0)
  have d6 := HH0.out.c6
  have d3 := HH0.out.c3
  have hLz : (lowS nm).size ≤ maxLen := maxLen_le hz
  have HS := Lib.hid hS
  clear hH hS hz
  generalize lowS nm = t at HV HQ hLz
  have HLK := Lib.hid (fun W (h : SetM W bm n S) => h.look t hLz)
  clear hLz
  generalize hb : S t.data.toList = b at HLK HQ
  clear hb
  cases b <;> cases hp
  all_goals
    go_enter Tryz.func156, Tryz.ntmps156
    go_wp2
    go_region_with (first | (go_at_call 157; refine (HV.out _).mono ?_; rintro e w2 ⟨rfl, hb2d⟩; have hb2 := below_of_drew hb2d; have hH2 := HH0.out.below hb2; have e6 := hH2.c6; have e3 := hH2.c3; have hlk := HLK.out w2 hH2.m; have n0 := boxCell hb2 0 _ rfl; have n1 := boxCell hb2 1 _ rfl; have HB2 : Hid (Below w.heap.size w w2) := Lib.hid (below_then (below_alloc (Below.refl _ _) _) (below_alloc (Below.refl _ _) _).size hb2); clear hb2d hb2 hH2))
    all_goals
      go_wp2
      go_ret
      rw [HQ.out]
      first
        | exact ⟨none, 0, rfl, Nat.le_refl _, Kd.C_nil _ _, HB2.out⟩
        | exact ⟨some ⟨w2.heap.size, 0, none⟩, 1, rfl, Nat.le_refl _, C_one _ _ _, below_alloc HB2.out _⟩
end Go.Proofs.YtaakgjbdknobbaaGreatDoor.E
