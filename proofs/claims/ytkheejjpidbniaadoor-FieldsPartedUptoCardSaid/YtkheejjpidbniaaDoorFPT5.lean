/- What the cards of this seat rest on: the walks and plain laws, part 5. -/
import Derived.Test.YtkheejjpidbniaaDoorFPT4
import Derived.Test.YtkheejjpidbniaaDoorProg
import Derived.Below
import Derived.Deep.Draws
import Derived.Deep.AppendLies
import Derived.Maps.AppendAt
import Derived.OwnWalk
import Derived.Laws.BytesArg
import Derived.Laws.MakeOwn
import Derived.Laws.OwnMore
import Derived.Deep.OwnRows
import Derived.Tactics
import Derived.Lib.ConvBytes
import Derived.Laws.Slices
import Derived.WalkKit
import Derived.KernelRfl
import Derived.RowKit3
import Derived.Deep.LoopGhost
import Derived.Deep.QuietTactic
import Derived.BigQuiet
import Derived.WideLaws
import Derived.Deep.DeepCutAuto
import Derived.Deep.CutBlock
import Derived.Deep.RegionHeld3
import Derived.Laws.Rows
import Derived.Lib.AppendStr
import Derived.ArgAppend
import Derived.Laws.IdiomCopy
import Derived.OrdersHeld
import Derived.Laws.BitsLemmas
import Derived.RowKit
import Derived.Test.YtkheejjpidbniaaDoorFPT1


namespace Go.Proofs.YtkheejjpidbniaaDoor.E
open Go.RowKit Go.Proofs.YtkheejjpidbniaaDoorW.PrintWords Go.Proofs.YtkheejjpidbniaaDoorW.PrintLast Go.Proofs.YtkheejjpidbniaaDoor.XK Go.Proofs.YtkheejjpidbniaaDoor.XA Go.Maps
set_option linter.unusedVariables false
set_option linter.unusedSimpArgs false
theorem info_fld : (Tryd.prog.info? 24).map (fun i => (i.zero, i.size, i.bytes)) = some (some (.agg #[.string ⟨#[]⟩, .string ⟨#[]⟩]), 2, 32) := by kernel_rfl
theorem part_len (S : List UInt8 → Bool) (hp : Bool) : ∀ l : List S24, (l.flatMap (part1 S hp)).length ≤ l.length
  | [] => Nat.le_refl _
  | f :: r => by
    have ih := part_len S hp r
    rw [List.flatMap_cons, List.length_append, List.length_cons]
    have : (part1 S hp f).length ≤ 1 := by unfold part1; split <;> simp
    omega
set_option maxRecDepth 100000 in
set_option maxHeartbeats 4000000 in
theorem each_some (A0 : Option Addr) (c0 : Nat) (l : List S24) (B6 B3 bm n : Nat) (S : List UInt8 → Bool) (hp : Bool) (w : World) (hS : StdW w) (hH : Held2 w B6 B3 bm n S hp) (hR : Kd.C k24 w A0 l.length l) (hok : okL l = true) :
    Calls Tryd.prog 28 #[.slice A0 l.length c0, .func (.func 29) #[] #[.pointer (some ⟨B6, 0, none⟩), .pointer (some ⟨B3, 0, none⟩)]] w fun e w' => ∃ v, e = .returned v ∧ Kd.R k24 24 w' w.heap.size (fun _ => True) v (l.flatMap (part1 S hp)) ∧ Below w.heap.size w w' := by
  have HS := Lib.hid hS
  have HR := Lib.hid hR
  have HH := Lib.hid hH
  have hlen := (okL_mem hok).2
  have HC := Lib.hid (fun f (hf : f ∈ l) W h hh => somec_any f (Nat.le_trans ((okL_mem hok).1 f hf).1 (by decide)) B6 B3 bm n S hp W h hh (by rw [lowS_size]; exact Nat.le_trans ((okL_mem hok).1 f hf).1 (by decide)))
  have HT := Lib.hid (fun k => Nat.le_trans (flat_take (part1 S hp) l k) (Nat.le_trans (part_len S hp l) hlen))
  clear hS hR hH hok
  go_enter Tryd.func28, Tryd.ntmps28
  go_wp2
  go_loopw [5, 10] (fun v i wr => ∃ k : Nat, k ≤ l.length ∧ i = .int .i64 k ∧ Hid (Kd.R k24 24 wr w.heap.size (fun _ => True) v ((l.take k).flatMap (part1 S hp))) ∧ Hid (Below w.heap.size w wr)) (fun _ i _ => l.length - (intOf i).toNat)
  case atStart => exact ⟨0, Nat.zero_le _, rfl, Lib.hid (by simpa using Kd.R_nil _ _ _ _ _), Lib.hid (Below.refl _ _)⟩
  case round =>
    obtain ⟨k, hk, rfl, HM, HB⟩ := hrel
    by_cases hlt : k < l.length
    · have hk0 : (0 : Int) ≤ (k : Int) := Int.natCast_nonneg _
      have hk1 : (k : Int) < (l.length : Int) := by omega
      have hrd : rd_T24 l (k : Int) = l[k] := by
        unfold rd_T24
        rw [show ((k : Int)).toNat = k by omega, List.getD_eq_getElem?_getD, List.getElem?_eq_getElem hlt]; rfl
      obtain ⟨ad, ea, x0, x1⟩ := at_T24 HR.out (k : Int) hk0 hk1
      cases ea
      rw [hrd] at x0 x1
      have HCk := Lib.hid (HC.out l[k] (List.getElem_mem _))
      have HNX := Lib.hid (flat_succ (part1 S hp) l k hlt)
      have HL := Lib.hid (HT.out k)
      generalize l[k] = r at x0 x1 HCk HNX hrd
      obtain ⟨nm, va⟩ := r
      simp only [Int.toNat_natCast] at x0 x1
      clear hrd
      replace x0 := (HB.out.cell (World.block_lt_of_cell? w _ x0)).trans x0
      replace x1 := (HB.out.cell (World.block_lt_of_cell? w _ x1)).trans x1
      have hq1 : (part1 S hp ⟨nm, va⟩).length ≤ 1 := by unfold part1; split <;> simp
      generalize hqv : part1 S hp ⟨nm, va⟩ = qv at HCk HNX hq1
      clear hqv
      generalize hpv : (l.take k).flatMap (part1 S hp) = pv at HM HNX HL
      clear hpv
      go_wp2_with (first | (go_at_call 29; (with_reducible refine (HCk.out _ (StdW.below HS.out (below_alloc HB.out _)) (Held2.below HH.out (below_alloc HB.out _))).mono ?_); rintro e w2 ⟨A, c, rfl, hlc, hC, hb2⟩; have HC2 := Lib.hid hC; have HB2 : Hid (Below w.heap.size w w2) := Lib.hid (below_then (below_alloc HB.out _) (below_alloc HB.out _).size hb2); have HM2 := Lib.hid (Kd.R_below (Kd.R_below HM.out (below_alloc (Below.refl _ _) _)) hb2); clear hC hb2) | (at_builtin; refine Kd.R_append_rows k24 (Rr := k24.K w2) (w0 := w) w.heap.size rfl (.tmp 14) (.tmp 17) 22 24 (.agg #[.string ⟨#[]⟩, .string ⟨#[]⟩]) 32 rfl Tryd.underlying22 info_fld rfl (by decide) (by decide) u5 pv qv A qv.length c (fun _ => True) (fun _ => False) rfl rfl HM2.out HC2.out (fun x cs h => by obtain rfl := k24_open h; exact k24_mkM _ _ _ x) (fun _ hk => hk.elim) (fun _ _ => trivial) HB2.out HB2.out.size (by have := HL.out; omega) ?_; intro v3 w3 ho hb3 hg3 hat3))
      go_roundw
      case rel => exact ⟨k + 1, by omega, by go_num, Lib.hid (by rw [HNX.out]; exact ho), Lib.hid hb3⟩
      case measure => simp [intOf]; omega
    · have hkl : k = l.length := by omega
      subst hkl
      have HF := Lib.hid HM.out
      rw [List.take_length] at HF
      go_wp2
      go_ret
      exact ⟨_, rfl, HF.out, HB.out⟩
theorem hops_at (A0 : Option Addr) (c0 : Nat) (l : List S24) (W : World) (b : Nat) (hb : W.heap.size = b) (hS : StdW W) (hR : Kd.C k24 W A0 l.length l) (hok : okL l = true) (htot : (l.flatMap conn1A).length ≤ 8796093022207) :
    Calls Tryd.prog 27 #[.slice A0 l.length c0] W fun e w' => ∃ n, e = .returned (.map (some b)) ∧ SetM w' b n (fun x => Fd.hop (l.map toF) x) ∧ Below b W w' := by
  subst hb
  exact hops_any A0 c0 l W hS hR hok htot
def someA (l : List S24) (hp : Bool) : List S24 := l.flatMap (part1 (fun x => Fd.hop (l.map toF) x) hp)
set_option maxHeartbeats 4000000 in
theorem some_long (A0 : Option Addr) (c0 : Nat) (l : List S24) (hp : Bool) (w : World) (hl : 64 < l.length) (hlen : l.length ≤ 4294967296) :
    Calls Tryd.prog 16 #[.slice A0 l.length c0, .bool hp] w fun e w' => e = .returned (.tuple #[.slice none 0 0, .int .i64 3]) ∧ Below w.heap.size w w' := by
  have hl' : (64 : Int) < (l.length : Int) := by omega
  generalize l.length = n at hl' ⊢
  go_enter Tryd.func16, Tryd.ntmps16
  go_wp2
  go_ret2
  exact ⟨rfl, below_alloc (Below.refl _ _) _⟩
set_option maxHeartbeats 4000000 in
theorem some_any (A0 : Option Addr) (c0 : Nat) (l : List S24) (hp : Bool) (w : World) (hS : StdW w) (hR : Kd.C k24 w A0 l.length l) (hok : okL l = true) (htot : (l.flatMap conn1A).length ≤ 8796093022207) (hl : l.length ≤ 64) :
    Calls Tryd.prog 16 #[.slice A0 l.length c0, .bool hp] w fun e w' => ∃ v, e = .returned (.tuple #[v, .int .i64 0]) ∧ Kd.R k24 24 w' w.heap.size (fun _ => True) v (someA l hp) ∧ Below w.heap.size w w' := by
  have hmf : ∀ (fn : Fn) (first cap : Array Value) (w : World), (Instr.makeFunc fn first cap).run Tryd.prog w = .ok (.func fn first cap) w := fun _ _ _ _ => rfl
  have HHP := Lib.hid (fun (W : World) (b : Nat) (hb : W.heap.size = b) (h1 : StdW W) (h2 : Kd.C k24 W A0 l.length l) => hops_at A0 c0 l W b hb h1 h2 hok htot)
  have HES := Lib.hid (fun B6 B3 bm n W h1 h2 h3 => each_some A0 c0 l B6 B3 bm n (fun x => Fd.hop (l.map toF) x) hp W h1 h2 h3 hok)
  have HS := Lib.hid hS
  have HR := Lib.hid hR
  have hl' : (l.length : Int) ≤ 64 := by omega
  clear hS hR hok htot hl
  unfold someA
  generalize (fun x => Fd.hop (l.map toF) x) = S at HHP HES ⊢
  generalize l.flatMap (part1 S hp) = q at HES ⊢
  have hb0 : Below w.heap.size w (w.alloc (.cells #[.bool hp] 4)) := below_alloc (Below.refl _ _) _
  have HB0 := Lib.hid hb0
  clear hb0
  go_enter Tryd.func16, Tryd.ntmps16
  go_wp2_with (first | (go_at_call 27; (with_reducible refine (HHP.out _ (w.heap.size + 1) (by simp) (StdW.below HS.out HB0.out) (Kd.C_below HR.out HB0.out)).mono ?_); rintro e w1 ⟨n1, rfl, hm1, hb1⟩; have HB1 : Hid (Below w.heap.size w w1) := Lib.hid (HB0.out.trans (hb1.mono (by omega))); have hb1' : Below (w.alloc (.cells #[.bool hp] 4)).heap.size (w.alloc (.cells #[.bool hp] 4)) w1 := (by first | exact hb1 | (rw [World.size_alloc]; exact hb1)); have HH := Lib.hid (Held2.mk (World.cell?_alloc_new ..) (pw_cell_below (below_alloc (Below.refl _ _) (.cells #[.map (some (w.heap.size + 1))] 56)) (boxCell hb1' 0 _ rfl)) (hm1.below (below_alloc (Below.refl _ _) (.cells #[.map (some (w.heap.size + 1))] 56))) : Held2 (w1.alloc (.cells #[.map (some (w.heap.size + 1))] 56)) w1.heap.size w.heap.size (w.heap.size + 1) n1 S hp); clear hb1 hb1' hm1) | (go_at_call 28; (with_reducible refine (HES.out _ _ _ _ _ (StdW.below HS.out (below_alloc HB1.out _)) HH.out (Kd.C_below HR.out (below_alloc HB1.out _))).mono ?_); rintro e w2 ⟨v2, rfl, hr2, hb2⟩; have HB2 : Hid (Below w.heap.size w w2) := Lib.hid (below_then (below_alloc HB1.out _) (below_alloc HB1.out _).size hb2); have HR2 := Lib.hid (Kd.R_lower hr2 (below_alloc HB1.out (.cells #[.map (some (w.heap.size + 1))] 56)).size); clear hr2 hb2))
  go_ret2
  exact ⟨v2, rfl, HR2.out, HB2.out⟩
end Go.Proofs.YtkheejjpidbniaaDoor.E


namespace Go.Proofs.YtkheejjpidbniaaDoor.E
open Go.RowKit Go.Proofs.YtkheejjpidbniaaDoorW.PrintWords Go.Proofs.YtkheejjpidbniaaDoorW.PrintLast Go.Proofs.YtkheejjpidbniaaDoor.XK Go.Proofs.YtkheejjpidbniaaDoor.XA Go.Maps
set_option linter.unusedVariables false
set_option linter.unusedSimpArgs false
def okP (l : List S24) : Bool := okL l && decide ((l.flatMap conn1A).length ≤ 8796093022207)
def partB (hp : Bool) (l : List S24) : List S24 × Int := if 64 < l.length then ([], 3) else (someA l hp, 0)
def Hops.f (l : List S24) : Option (List S24 × Int) := if okP l then some (partB true l) else none
def Keep.f (l : List S24) : Option (List S24 × Int) := if okP l then some (partB false l) else none
def TellsP (r : List S24 × Int) (w : World) (e : Ending) (w' : World) : Prop := ∃ v0_ : Value, e = .returned (.tuple #[v0_, .int .i64 r.2]) ∧ Kd.R k24 24 w' w.heap.size (fun _ => True) v0_ r.1 ∧ Below w.heap.size w w'
theorem some_both (hp : Bool) (A0 : Option Addr) (c0 : Nat) (l : List S24) (w : World) (hS : StdW w) (hR : Kd.C k24 w A0 l.length l) (hok : okP l = true) :
    Calls Tryd.prog 16 #[.slice A0 l.length c0, .bool hp] w (TellsP (partB hp l) w) := by
  unfold okP at hok
  rw [Bool.and_eq_true, decide_eq_true_eq] at hok
  unfold partB
  by_cases h : 64 < l.length
  · rw [if_pos h]
    exact (some_long A0 c0 l hp w h (okL_mem hok.1).2).mono fun e w' ⟨he, hb⟩ => ⟨_, he, Kd.R_nil _ _ _ _ _, hb⟩
  · rw [if_neg h]
    exact some_any A0 c0 l hp w hS hR hok.1 hok.2 (by omega)
set_option maxHeartbeats 1000000 in
theorem hopsE (A0 : Option Addr) (c0 : Nat) (l : List S24) (w : World) (hS : StdW w) (hR : Kd.C k24 w A0 l.length l) (hok : okP l = true) :
    Calls Tryd.prog 10 #[.slice A0 l.length c0] w (TellsP (partB true l) w) := by
  have HE := Lib.hid (some_both true A0 c0 l w hS hR hok)
  clear hS hR hok
  generalize partB true l = r at HE ⊢
  obtain ⟨r1, r2⟩ := r
  generalize l.length = n at HE ⊢
  go_enter Tryd.func10, Tryd.ntmps10
  go_wp2_with (go_at_call 16; (with_reducible refine HE.out.mono ?_); rintro e w1 ⟨v, rfl, hr, hb⟩)
  go_ret2
  exact ⟨v, rfl, hr, hb⟩
set_option maxHeartbeats 1000000 in
theorem keepE (A0 : Option Addr) (c0 : Nat) (l : List S24) (w : World) (hS : StdW w) (hR : Kd.C k24 w A0 l.length l) (hok : okP l = true) :
    Calls Tryd.prog 11 #[.slice A0 l.length c0] w (TellsP (partB false l) w) := by
  have HE := Lib.hid (some_both false A0 c0 l w hS hR hok)
  clear hS hR hok
  generalize partB false l = r at HE ⊢
  obtain ⟨r1, r2⟩ := r
  generalize l.length = n at HE ⊢
  go_enter Tryd.func11, Tryd.ntmps11
  go_wp2_with (go_at_call 16; (with_reducible refine HE.out.mono ?_); rintro e w1 ⟨v, rfl, hr, hb⟩)
  go_ret2
  exact ⟨v, rfl, hr, hb⟩
theorem Hops.calls (A0 : Option Addr) (c0 : Nat) (l0 : List S24) (r1 : List S24) (r2 : Int) (w : World) (hr0 : Kd.C k24 w A0 l0.length l0) (hc0 : l0.length ≤ c0) (hS_ : StdW w) (h : Hops.f l0 = some (r1, r2)) :
    Calls Tryd.prog 10 #[.slice A0 l0.length c0] w fun e w' => ∃ v0_ : Value, e = .returned (.tuple #[v0_, .int .i64 r2]) ∧ Kd.R k24 24 w' w.heap.size (fun _ => True) v0_ r1 ∧ Below w.heap.size w w' := by
  unfold Hops.f at h
  split at h
  · rename_i hc
    have := hopsE A0 c0 l0 w hS_ hr0 hc
    rw [Option.some.inj h] at this
    exact this
  · cases h
theorem Keep.calls (A0 : Option Addr) (c0 : Nat) (l0 : List S24) (r1 : List S24) (r2 : Int) (w : World) (hr0 : Kd.C k24 w A0 l0.length l0) (hc0 : l0.length ≤ c0) (hS_ : StdW w) (h : Keep.f l0 = some (r1, r2)) :
    Calls Tryd.prog 11 #[.slice A0 l0.length c0] w fun e w' => ∃ v0_ : Value, e = .returned (.tuple #[v0_, .int .i64 r2]) ∧ Kd.R k24 24 w' w.heap.size (fun _ => True) v0_ r1 ∧ Below w.heap.size w w' := by
  unfold Keep.f at h
  split at h
  · rename_i hc
    have := keepE A0 c0 l0 w hS_ hr0 hc
    rw [Option.some.inj h] at this
    exact this
  · cases h
end Go.Proofs.YtkheejjpidbniaaDoor.E


namespace Go.Proofs.YtkheejjpidbniaaDoor.XL
open Go.Proofs.YtkheejjpidbniaaDoor.XK Go.Proofs.YtkheejjpidbniaaDoor.XA
open Go.RowKit Go.Proofs.YtkheejjpidbniaaDoorW.PrintWords Go.Proofs.YtkheejjpidbniaaDoorW.PrintLast Go.Proofs.YtkheejjpidbniaaDoorW.PrintMore
attribute [local go_sem] max2_int min2_int max_two min_two max_three min_three max_four min_four
set_option linter.unusedVariables false
set_option linter.unusedSimpArgs false
end Go.Proofs.YtkheejjpidbniaaDoor.XL


namespace Go.Proofs.YtkheejjpidbniaaDoor.XL
open Go.Proofs.YtkheejjpidbniaaDoor.XK Go.Proofs.YtkheejjpidbniaaDoor.XA
open Go.RowKit Go.Proofs.YtkheejjpidbniaaDoorW.PrintWords Go.Proofs.YtkheejjpidbniaaDoorW.PrintLast Go.Proofs.YtkheejjpidbniaaDoorW.PrintMore
attribute [local go_sem] max2_int min2_int max_two min_two max_three min_three max_four min_four
set_option linter.unusedVariables false
set_option linter.unusedSimpArgs false
end Go.Proofs.YtkheejjpidbniaaDoor.XL
