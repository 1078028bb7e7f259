/- What the cards of this seat rest on: the walks and plain laws, part 12. -/
import Derived.Test.YtocklkaddiomhaaGreatDoorHD11
import Derived.Test.YtocklkaddiomhaaGreatDoorProg
import Derived.Below
import Derived.Deep.Draws
import Derived.Deep.AppendLies
import Derived.Maps.AppendAt
import Derived.OwnWalk
import Derived.Laws.BytesArg
import Derived.Laws.MakeOwn
import Derived.Laws.OwnMore
import Derived.Deep.OwnRows
import Derived.Tactics
import Derived.Lib.ConvBytes
import Derived.Laws.Slices
import Derived.WalkKit
import Derived.KernelRfl
import Derived.RowKit3
import Derived.Deep.LoopGhost
import Derived.Deep.QuietTactic
import Derived.BigQuiet
import Derived.WideLaws
import Derived.Deep.DeepCutAuto
import Derived.Deep.CutBlock
import Derived.Deep.RegionHeld3
import Derived.Laws.Rows
import Derived.Lib.AppendStr
import Derived.ArgAppend
import Derived.Laws.IdiomCopy
import Derived.OrdersHeld
import Derived.Laws.BitsLemmas
import Derived.RowKit
import Derived.Test.YtocklkaddiomhaaGreatDoorHD2
import Derived.Test.YtocklkaddiomhaaGreatDoorHD6
import Derived.Test.YtocklkaddiomhaaGreatDoorHD7
import Derived.Test.YtocklkaddiomhaaGreatDoorHD4
import Derived.Test.YtocklkaddiomhaaGreatDoorHD8
import Derived.WalkMore
import Derived.ChangeKeysEq
import Derived.IntWalk


namespace Go.Proofs.YtocklkaddiomhaaGreatDoor.E
open Go.RowKit Go.Proofs.YtocklkaddiomhaaGreatDoorW.PrintWords Go.Proofs.YtocklkaddiomhaaGreatDoorW.PrintLast Go.Proofs.YtocklkaddiomhaaGreatDoor.XK Go.Proofs.YtocklkaddiomhaaGreatDoor.XA Go.Proofs.YtocklkaddiomhaaGreatDoor.XD
set_option linter.unusedVariables false
set_option linter.unusedSimpArgs false
def rpC (st : Int) (re : ByteArray) (fs : Value) : Array Value := #[.int .i64 st, .string re, fs]
def rpZ : Array Value := rpC 0 ⟨#[]⟩ (.slice none 0 0)
theorem Blk.rpz {w : World} {R : Nat} {T : TypeId} (h : Blk w R rpZ T) : (w.cell? ⟨R, 0, none⟩ = some (.int .i64 0) ∧ w.cell? ⟨R, 1, none⟩ = some (.string ⟨#[]⟩) ∧ w.cell? ⟨R, 2, none⟩ = some (.slice none 0 0)) ∧ (w.frozen? ⟨R, 0, none⟩ = false ∧ w.frozen? ⟨R, 1, none⟩ = false ∧ w.frozen? ⟨R, 2, none⟩ = false) ∧ w.setCell ⟨R, 0, none⟩ (.int .i64 0) = w ∧ w.setCell ⟨R, 1, none⟩ (.string ⟨#[]⟩) = w ∧ w.setCell ⟨R, 2, none⟩ (.slice none 0 0) = w :=
  ⟨⟨h.cell 0 _ rfl, h.cell 1 _ rfl, h.cell 2 _ rfl⟩, ⟨h.free 0, h.free 1, h.free 2⟩, setCell_id _ _ _ _ (h.cell 0 _ rfl), setCell_id _ _ _ _ (h.cell 1 _ rfl), setCell_id _ _ _ _ (h.cell 2 _ rfl)⟩
abbrev RpT : Type := Int × ByteArray × List Fd.F × Nat
def RpPost (r : (Int × Int) ⊕ RpT) (w : World) (e : Ending) (w' : World) : Prop :=
  Below w.heap.size w w' ∧ match r with
    | .inl (a, k) => ∃ v, e = .returned (.tuple #[.agg rpZ, .int .i64 0, v]) ∧ ErrIs w' v [(headS, a)] k
    | .inr (st, re, fs, k) => ∃ v, e = .returned (.tuple #[.agg (rpC st re v), .int .i64 (k : Int), .nilIface]) ∧ RF w w w' v (fs.map ofF)
theorem rp_res (A : Array Value) (W : World) (R : Nat) (st : Int) (re : ByteArray) (fs x3 x4 : Value) (T : TypeId) (h2 : A.getD 2 undef = .pointer (some ⟨R, 0, none⟩)) (h3 : A.getD 3 undef = x3) (h4 : A.getD 4 undef = x4) (hB : Blk W R (rpC st re fs) T) :
    (results Tryz.f24 A).run Tryz.prog W = .ok (.tuple #[.agg #[.int .i64 st, .string re, fs], x3, x4]) W := by
  have e0 : W.cell? ⟨R, 0, none⟩ = some (.int .i64 st) := hB.cell 0 _ rfl
  have e1 : W.cell? ⟨R, 1, none⟩ = some (.string re) := hB.cell 1 _ rfl
  have e2 : W.cell? ⟨R, 2, none⟩ = some fs := hB.cell 2 _ rfl
  rw [Array.getD_eq_getD_getElem?] at h2 h3 h4
  simp [results, Tryz.results24, go_sem, h2, h3, h4, e0, e1, e2]
abbrev SnC (l : ByteArray) (ps : List ByteArray) (w : World) : Prop := ∀ W, Below w.heap.size w W → Calls Tryz.prog 58 #[.string l, .string ⟨#[32]⟩, .int .i64 3] W fun e w' => ∃ PB cp, W.heap.size ≤ PB ∧ e = .returned (.slice (some ⟨PB, 0, none⟩) ps.length cp) ∧ (ps.length = 3 → Blk w' PB (ps.map Value.string).toArray 9) ∧ Below W.heap.size W w'
abbrev WiC (p : ByteArray) (wi : Bool) : Prop := ∀ W, Calls Tryz.prog 47 #[.string p, .int .u8 32, .int .i64 256] W fun e w' => e = .returned (.bool wi) ∧ Below W.heap.size W w'
abbrev CoC (p : ByteArray) (st : Int) (co : Bool) (w : World) : Prop := ∀ W, Below w.heap.size w W → Calls Tryz.prog 59 #[.string p] W fun e w' => e = .returned (.tuple #[.int .i64 st, .bool co]) ∧ Below W.heap.size W w'
def wordsN (s : ByteArray) : List ByteArray := Lib.splitB ⟨#[32]⟩ 0 (min 3 (s.size + 1) - 1) s
theorem splitn_calls (s : ByteArray) (hs : s.size < 4294967281) (w : World) (hS : StdW w) : SnC s (wordsN s) w := fun W hb => by
  obtain ⟨m, hm⟩ := (StdW.below hS hb).max
  refine (Tryz.strings_SplitN s ⟨#[32]⟩ 3 m W hs hm (Nat.le_refl _) (by decide) (by decide)).mono ?_
  rintro e w' ⟨rfl, rfl⟩
  refine ⟨W.heap.size, min 3 (s.size + 1), Nat.le_refl _, rfl, fun h3 => ?_, below_alloc (Below.refl _ _) _⟩
  have hle := Lib.splitB_length_le ⟨#[32]⟩ 0 (min 3 (s.size + 1) - 1) s
  have hc : min 3 (s.size + 1) = 3 := by unfold wordsN at h3; omega
  have hl : (wordsN s).length = 3 := h3
  have hcells : Lib.cellsOf (Lib.splitB ⟨#[32]⟩ 0 (min 3 (s.size + 1) - 1) s) (min 3 (s.size + 1)) = ((wordsN s).map Value.string).toArray := by
    rw [hc]
    have e : Lib.splitB ⟨#[32]⟩ 0 (3 - 1) s = wordsN s := by unfold wordsN; rw [hc]
    rw [e]
    unfold Lib.cellsOf
    simp [hl]
  rw [hcells]
  exact Blk.new _ _ _
end Go.Proofs.YtocklkaddiomhaaGreatDoor.E


namespace Go.Proofs.YtocklkaddiomhaaGreatDoor.E
open Go.RowKit Go.Proofs.YtocklkaddiomhaaGreatDoorW.PrintWords Go.Proofs.YtocklkaddiomhaaGreatDoorW.PrintLast Go.Proofs.YtocklkaddiomhaaGreatDoor.XK Go.Proofs.YtocklkaddiomhaaGreatDoor.XA Go.Proofs.YtocklkaddiomhaaGreatDoor.XD
set_option linter.unusedVariables false
set_option linter.unusedSimpArgs false
set_option maxRecDepth 100000 in
set_option maxHeartbeats 40000000 in
theorem rp_open (A : Option Addr) (n c : Nat) (w : World) (a k : Int) (HOP0 : OpE A n c a k w) :
    Calls Tryz.prog 24 #[.slice A n c] w (RpPost (.inl (a, k)) w) := by
  have HOP := Lib.hid HOP0
  clear HOP0
  have HZ := Lib.hid (Blk.new w rpZ 60)
  have HB := Lib.hid (below_alloc (Below.refl w.heap.size w) (.cells rpZ 60))
  have HW := Lib.hid hdwrong_no
  unfold rpZ rpC at *
  go_enter Tryz.func24, Tryz.ntmps24
  go_wp2_with (first | (go_at_call 34; (with_reducible refine (HOP.out _ HB.out).mono ?_); rintro e wn ⟨v, rfl, he, hb⟩; obtain ⟨t, x, rfl⟩ := he.iface; have HE := Lib.hid he; have HZ := Lib.hid (HZ.out.below hb); have HB := Lib.hid (below_then HB.out HB.out.size hb); clear he hb; obtain ⟨⟨c0, c1, c2⟩, ⟨f0, f1, f2⟩, s0, s1, s2⟩ := HZ.out.rpz))
  refine bodyPost_ret (v := .tuple #[.agg #[.int .i64 0, .string ⟨#[]⟩, .slice none 0 0], .int .i64 0, _]) ?_ rfl ⟨HB.out, _, rfl, HE.out⟩
  exact rp_res _ _ _ _ _ _ _ _ _ rfl rfl rfl (show Blk _ _ rpZ _ from HZ.out)
set_option maxRecDepth 100000 in
set_option maxHeartbeats 40000000 in
theorem rp_words (A : Option Addr) (n c : Nat) (w : World) (S l S2 : ByteArray) (mm : Nat) (pe : Nat) (ps : List ByteArray) (hn0 : ps.length ≠ 3) (HOP0 : OpC A n c S (mm : Int) w) (HLN0 : LnC S l S2 pe w) (HSP0 : SnC l ps w) :
    Calls Tryz.prog 24 #[.slice A n c] w (RpPost (.inl (0, 80)) w) := by
  have HOP := Lib.hid HOP0
  have HLN := Lib.hid HLN0
  have HSP := Lib.hid HSP0
  clear HOP0 HLN0 HSP0
  have HZ := Lib.hid (Blk.new w rpZ 60)
  have HB := Lib.hid (below_alloc (Below.refl w.heap.size w) (.cells rpZ 60))
  have HW := Lib.hid hdwrong_no
  unfold rpZ rpC at *
  have hn : ((ps.length : Int) == 3) = false := by rw [beq_eq_false_iff_ne]; omega
  have hn2 : ((ps.length : Int) != 3) = true := by unfold bne; rw [hn]; rfl
  clear hn0
  go_enter Tryz.func24, Tryz.ntmps24
  go_wp2_with (first | (go_at_call 34; (with_reducible refine (HOP.out _ HB.out).mono ?_); rintro e wn ⟨R, hR, rfl, hk, hb⟩; have HRW := Lib.hid (show w.heap.size < R from Nat.lt_of_lt_of_le (by simp) hR); have HZ := Lib.hid (HZ.out.below hb); have HK := Lib.hid hk; have HB := Lib.hid (below_then HB.out HB.out.size hb); clear hk hb hR) | (go_at_call 35; (with_reducible refine (HLN.out _ R HB.out (Nat.le_of_lt HRW.out) HK.out).mono ?_); rintro e wn ⟨rfl, hk, hkp, hb⟩; have HZ := Lib.hid (HZ.out.keptR hkp (Nat.ne_of_lt HRW.out)); have HK := Lib.hid hk; have HB := Lib.hid hb; clear hk hkp hb) | (go_at_call 58; (with_reducible refine (HSP.out _ HB.out).mono ?_); rintro e wn ⟨PB, cp, hPB, rfl, hq, hb⟩; have HZ := Lib.hid (HZ.out.below hb); have HK := Lib.hid (HK.out.below hb); have HB := Lib.hid (below_then HB.out HB.out.size hb); clear hq hb) | (go_at_call 33; (with_reducible refine (HW.out _ _ _).mono ?_); rintro e wn ⟨v, rfl, he, hb⟩; have HE := Lib.hid he; have HZ := Lib.hid (HZ.out.below hb); have HB := Lib.hid (below_then HB.out HB.out.size hb); clear he hb; obtain ⟨⟨c0, c1, c2⟩, ⟨f0, f1, f2⟩, s0, s1, s2⟩ := HZ.out.rpz))
  refine bodyPost_ret (v := .tuple #[.agg #[.int .i64 0, .string ⟨#[]⟩, .slice none 0 0], .int .i64 0, _]) ?_ rfl ⟨HB.out, _, rfl, HE.out⟩
  exact rp_res _ _ _ _ _ _ _ _ _ rfl rfl rfl (show Blk _ _ rpZ _ from HZ.out)
set_option maxRecDepth 100000 in
set_option maxHeartbeats 40000000 in
theorem rp_broken (A : Option Addr) (n c : Nat) (w : World) (S l S2 : ByteArray) (mm : Nat) (pe : Nat) (p0 p1 p2 : ByteArray) (HOP0 : OpC A n c S (mm : Int) w) (HLN0 : LnC S l S2 pe w) (HSP0 : SnC l [p0, p1, p2] w) (HBK0 : BkC l true) :
    Calls Tryz.prog 24 #[.slice A n c] w (RpPost (.inl (0, 80)) w) := by
  have HOP := Lib.hid HOP0
  have HLN := Lib.hid HLN0
  have HSP := Lib.hid HSP0
  have HBK := Lib.hid HBK0
  clear HOP0 HLN0 HSP0 HBK0
  have HZ := Lib.hid (Blk.new w rpZ 60)
  have HB := Lib.hid (below_alloc (Below.refl w.heap.size w) (.cells rpZ 60))
  have HW := Lib.hid hdwrong_no
  unfold rpZ rpC at *
  go_enter Tryz.func24, Tryz.ntmps24
  go_wp2_with (first | (go_at_call 34; (with_reducible refine (HOP.out _ HB.out).mono ?_); rintro e wn ⟨R, hR, rfl, hk, hb⟩; have HRW := Lib.hid (show w.heap.size < R from Nat.lt_of_lt_of_le (by simp) hR); have HZ := Lib.hid (HZ.out.below hb); have HK := Lib.hid hk; have HB := Lib.hid (below_then HB.out HB.out.size hb); clear hk hb hR) | (go_at_call 35; (with_reducible refine (HLN.out _ R HB.out (Nat.le_of_lt HRW.out) HK.out).mono ?_); rintro e wn ⟨rfl, hk, hkp, hb⟩; have HZ := Lib.hid (HZ.out.keptR hkp (Nat.ne_of_lt HRW.out)); have HK := Lib.hid hk; have HB := Lib.hid hb; clear hk hkp hb) | (go_at_call 58; (with_reducible refine (HSP.out _ HB.out).mono ?_); rintro e wn ⟨PB, cp, hPB, rfl, hq, hb⟩; have HRQ := Lib.hid (Nat.lt_of_lt_of_le HK.out.lt hPB); clear hPB; have HQ := Lib.hid (hq rfl); have HZ := Lib.hid (HZ.out.below hb); have HK := Lib.hid (HK.out.below hb); have HB := Lib.hid (below_then HB.out HB.out.size hb); clear hq hb; obtain ⟨q0, q1, q2⟩ := HQ.out.words3) | (go_at_call 37; (with_reducible refine (HBK.out _).mono ?_); rintro e wn ⟨rfl, hb⟩; have HQ := Lib.hid (HQ.out.below hb); have HZ := Lib.hid (HZ.out.below hb); have HK := Lib.hid (HK.out.below hb); have HB := Lib.hid (below_then HB.out HB.out.size hb); clear q0 q1 q2 hb; obtain ⟨q0, q1, q2⟩ := HQ.out.words3) | (go_at_call 33; (with_reducible refine (HW.out _ _ _).mono ?_); rintro e wn ⟨v, rfl, he, hb⟩; have HE := Lib.hid he; have HZ := Lib.hid (HZ.out.below hb); have HB := Lib.hid (below_then HB.out HB.out.size hb); clear he hb; obtain ⟨⟨c0, c1, c2⟩, ⟨f0, f1, f2⟩, s0, s1, s2⟩ := HZ.out.rpz))
  refine bodyPost_ret (v := .tuple #[.agg #[.int .i64 0, .string ⟨#[]⟩, .slice none 0 0], .int .i64 0, _]) ?_ rfl ⟨HB.out, _, rfl, HE.out⟩
  exact rp_res _ _ _ _ _ _ _ _ _ rfl rfl rfl (show Blk _ _ rpZ _ from HZ.out)
set_option maxRecDepth 100000 in
set_option maxHeartbeats 40000000 in
theorem rp_version (A : Option Addr) (n c : Nat) (w : World) (S l S2 : ByteArray) (mm : Nat) (pe : Nat) (p0 p1 p2 : ByteArray) (HOP0 : OpC A n c S (mm : Int) w) (HLN0 : LnC S l S2 pe w) (HSP0 : SnC l [p0, p1, p2] w) (HBK0 : BkC l false) (HVE0 : VeC p0 false) :
    Calls Tryz.prog 24 #[.slice A n c] w (RpPost (.inl (0, 80)) w) := by
  have HOP := Lib.hid HOP0
  have HLN := Lib.hid HLN0
  have HSP := Lib.hid HSP0
  have HBK := Lib.hid HBK0
  have HVE := Lib.hid HVE0
  clear HOP0 HLN0 HSP0 HBK0 HVE0
  have HZ := Lib.hid (Blk.new w rpZ 60)
  have HB := Lib.hid (below_alloc (Below.refl w.heap.size w) (.cells rpZ 60))
  have HW := Lib.hid hdwrong_no
  unfold rpZ rpC at *
  go_enter Tryz.func24, Tryz.ntmps24
  go_wp2_with (first | (go_at_call 34; (with_reducible refine (HOP.out _ HB.out).mono ?_); rintro e wn ⟨R, hR, rfl, hk, hb⟩; have HRW := Lib.hid (show w.heap.size < R from Nat.lt_of_lt_of_le (by simp) hR); have HZ := Lib.hid (HZ.out.below hb); have HK := Lib.hid hk; have HB := Lib.hid (below_then HB.out HB.out.size hb); clear hk hb hR) | (go_at_call 35; (with_reducible refine (HLN.out _ R HB.out (Nat.le_of_lt HRW.out) HK.out).mono ?_); rintro e wn ⟨rfl, hk, hkp, hb⟩; have HZ := Lib.hid (HZ.out.keptR hkp (Nat.ne_of_lt HRW.out)); have HK := Lib.hid hk; have HB := Lib.hid hb; clear hk hkp hb) | (go_at_call 58; (with_reducible refine (HSP.out _ HB.out).mono ?_); rintro e wn ⟨PB, cp, hPB, rfl, hq, hb⟩; have HRQ := Lib.hid (Nat.lt_of_lt_of_le HK.out.lt hPB); clear hPB; have HQ := Lib.hid (hq rfl); have HZ := Lib.hid (HZ.out.below hb); have HK := Lib.hid (HK.out.below hb); have HB := Lib.hid (below_then HB.out HB.out.size hb); clear hq hb; obtain ⟨q0, q1, q2⟩ := HQ.out.words3) | (go_at_call 37; (with_reducible refine (HBK.out _).mono ?_); rintro e wn ⟨rfl, hb⟩; have HQ := Lib.hid (HQ.out.below hb); have HZ := Lib.hid (HZ.out.below hb); have HK := Lib.hid (HK.out.below hb); have HB := Lib.hid (below_then HB.out HB.out.size hb); clear q0 q1 q2 hb; obtain ⟨q0, q1, q2⟩ := HQ.out.words3) | (go_at_call 38; (with_reducible refine (HVE.out _).mono ?_); rintro e wn ⟨rfl, hb⟩; have HQ := Lib.hid (HQ.out.below hb); have HZ := Lib.hid (HZ.out.below hb); have HK := Lib.hid (HK.out.below hb); have HB := Lib.hid (below_then HB.out HB.out.size hb); clear q0 q1 q2 hb; obtain ⟨q0, q1, q2⟩ := HQ.out.words3) | (go_at_call 33; (with_reducible refine (HW.out _ _ _).mono ?_); rintro e wn ⟨v, rfl, he, hb⟩; have HE := Lib.hid he; have HZ := Lib.hid (HZ.out.below hb); have HB := Lib.hid (below_then HB.out HB.out.size hb); clear he hb; obtain ⟨⟨c0, c1, c2⟩, ⟨f0, f1, f2⟩, s0, s1, s2⟩ := HZ.out.rpz))
  refine bodyPost_ret (v := .tuple #[.agg #[.int .i64 0, .string ⟨#[]⟩, .slice none 0 0], .int .i64 0, _]) ?_ rfl ⟨HB.out, _, rfl, HE.out⟩
  exact rp_res _ _ _ _ _ _ _ _ _ rfl rfl rfl (show Blk _ _ rpZ _ from HZ.out)
set_option maxRecDepth 100000 in
set_option maxHeartbeats 40000000 in
theorem rp_within (A : Option Addr) (n c : Nat) (w : World) (S l S2 : ByteArray) (mm : Nat) (pe : Nat) (p0 p1 p2 : ByteArray) (HOP0 : OpC A n c S (mm : Int) w) (HLN0 : LnC S l S2 pe w) (HSP0 : SnC l [p0, p1, p2] w) (HBK0 : BkC l false) (HVE0 : VeC p0 true) (HWI0 : WiC p2 false) :
    Calls Tryz.prog 24 #[.slice A n c] w (RpPost (.inl (0, 80)) w) := by
  have HOP := Lib.hid HOP0
  have HLN := Lib.hid HLN0
  have HSP := Lib.hid HSP0
  have HBK := Lib.hid HBK0
  have HVE := Lib.hid HVE0
  have HWI := Lib.hid HWI0
  clear HOP0 HLN0 HSP0 HBK0 HVE0 HWI0
  have HZ := Lib.hid (Blk.new w rpZ 60)
  have HB := Lib.hid (below_alloc (Below.refl w.heap.size w) (.cells rpZ 60))
  have HW := Lib.hid hdwrong_no
  unfold rpZ rpC at *
  go_enter Tryz.func24, Tryz.ntmps24
  go_wp2_with (first | (go_at_call 34; (with_reducible refine (HOP.out _ HB.out).mono ?_); rintro e wn ⟨R, hR, rfl, hk, hb⟩; have HRW := Lib.hid (show w.heap.size < R from Nat.lt_of_lt_of_le (by simp) hR); have HZ := Lib.hid (HZ.out.below hb); have HK := Lib.hid hk; have HB := Lib.hid (below_then HB.out HB.out.size hb); clear hk hb hR) | (go_at_call 35; (with_reducible refine (HLN.out _ R HB.out (Nat.le_of_lt HRW.out) HK.out).mono ?_); rintro e wn ⟨rfl, hk, hkp, hb⟩; have HZ := Lib.hid (HZ.out.keptR hkp (Nat.ne_of_lt HRW.out)); have HK := Lib.hid hk; have HB := Lib.hid hb; clear hk hkp hb) | (go_at_call 58; (with_reducible refine (HSP.out _ HB.out).mono ?_); rintro e wn ⟨PB, cp, hPB, rfl, hq, hb⟩; have HRQ := Lib.hid (Nat.lt_of_lt_of_le HK.out.lt hPB); clear hPB; have HQ := Lib.hid (hq rfl); have HZ := Lib.hid (HZ.out.below hb); have HK := Lib.hid (HK.out.below hb); have HB := Lib.hid (below_then HB.out HB.out.size hb); clear hq hb; obtain ⟨q0, q1, q2⟩ := HQ.out.words3) | (go_at_call 37; (with_reducible refine (HBK.out _).mono ?_); rintro e wn ⟨rfl, hb⟩; have HQ := Lib.hid (HQ.out.below hb); have HZ := Lib.hid (HZ.out.below hb); have HK := Lib.hid (HK.out.below hb); have HB := Lib.hid (below_then HB.out HB.out.size hb); clear q0 q1 q2 hb; obtain ⟨q0, q1, q2⟩ := HQ.out.words3) | (go_at_call 38; (with_reducible refine (HVE.out _).mono ?_); rintro e wn ⟨rfl, hb⟩; have HQ := Lib.hid (HQ.out.below hb); have HZ := Lib.hid (HZ.out.below hb); have HK := Lib.hid (HK.out.below hb); have HB := Lib.hid (below_then HB.out HB.out.size hb); clear q0 q1 q2 hb; obtain ⟨q0, q1, q2⟩ := HQ.out.words3) | (go_at_call 47; (with_reducible refine (HWI.out _).mono ?_); rintro e wn ⟨rfl, hb⟩; have HQ := Lib.hid (HQ.out.below hb); have HZ := Lib.hid (HZ.out.below hb); have HK := Lib.hid (HK.out.below hb); have HB := Lib.hid (below_then HB.out HB.out.size hb); clear q0 q1 q2 hb; obtain ⟨q0, q1, q2⟩ := HQ.out.words3) | (go_at_call 33; (with_reducible refine (HW.out _ _ _).mono ?_); rintro e wn ⟨v, rfl, he, hb⟩; have HE := Lib.hid he; have HZ := Lib.hid (HZ.out.below hb); have HB := Lib.hid (below_then HB.out HB.out.size hb); clear he hb; obtain ⟨⟨c0, c1, c2⟩, ⟨f0, f1, f2⟩, s0, s1, s2⟩ := HZ.out.rpz))
  refine bodyPost_ret (v := .tuple #[.agg #[.int .i64 0, .string ⟨#[]⟩, .slice none 0 0], .int .i64 0, _]) ?_ rfl ⟨HB.out, _, rfl, HE.out⟩
  exact rp_res _ _ _ _ _ _ _ _ _ rfl rfl rfl (show Blk _ _ rpZ _ from HZ.out)
set_option maxRecDepth 100000 in
set_option maxHeartbeats 40000000 in
theorem rp_code (A : Option Addr) (n c : Nat) (w : World) (S l S2 : ByteArray) (mm : Nat) (pe : Nat) (p0 p1 p2 : ByteArray) (st : Int) (HOP0 : OpC A n c S (mm : Int) w) (HLN0 : LnC S l S2 pe w) (HSP0 : SnC l [p0, p1, p2] w) (HBK0 : BkC l false) (HVE0 : VeC p0 true) (HWI0 : WiC p2 true) (HCO0 : CoC p1 st false w) :
    Calls Tryz.prog 24 #[.slice A n c] w (RpPost (.inl (0, 80)) w) := by
  have HOP := Lib.hid HOP0
  have HLN := Lib.hid HLN0
  have HSP := Lib.hid HSP0
  have HBK := Lib.hid HBK0
  have HVE := Lib.hid HVE0
  have HWI := Lib.hid HWI0
  have HCO := Lib.hid HCO0
  clear HOP0 HLN0 HSP0 HBK0 HVE0 HWI0 HCO0
  have HZ := Lib.hid (Blk.new w rpZ 60)
  have HB := Lib.hid (below_alloc (Below.refl w.heap.size w) (.cells rpZ 60))
  have HW := Lib.hid hdwrong_no
  unfold rpZ rpC at *
  go_enter Tryz.func24, Tryz.ntmps24
  go_wp2_with (first | (go_at_call 34; (with_reducible refine (HOP.out _ HB.out).mono ?_); rintro e wn ⟨R, hR, rfl, hk, hb⟩; have HRW := Lib.hid (show w.heap.size < R from Nat.lt_of_lt_of_le (by simp) hR); have HZ := Lib.hid (HZ.out.below hb); have HK := Lib.hid hk; have HB := Lib.hid (below_then HB.out HB.out.size hb); clear hk hb hR) | (go_at_call 35; (with_reducible refine (HLN.out _ R HB.out (Nat.le_of_lt HRW.out) HK.out).mono ?_); rintro e wn ⟨rfl, hk, hkp, hb⟩; have HZ := Lib.hid (HZ.out.keptR hkp (Nat.ne_of_lt HRW.out)); have HK := Lib.hid hk; have HB := Lib.hid hb; clear hk hkp hb) | (go_at_call 58; (with_reducible refine (HSP.out _ HB.out).mono ?_); rintro e wn ⟨PB, cp, hPB, rfl, hq, hb⟩; have HRQ := Lib.hid (Nat.lt_of_lt_of_le HK.out.lt hPB); clear hPB; have HQ := Lib.hid (hq rfl); have HZ := Lib.hid (HZ.out.below hb); have HK := Lib.hid (HK.out.below hb); have HB := Lib.hid (below_then HB.out HB.out.size hb); clear hq hb; obtain ⟨q0, q1, q2⟩ := HQ.out.words3) | (go_at_call 37; (with_reducible refine (HBK.out _).mono ?_); rintro e wn ⟨rfl, hb⟩; have HQ := Lib.hid (HQ.out.below hb); have HZ := Lib.hid (HZ.out.below hb); have HK := Lib.hid (HK.out.below hb); have HB := Lib.hid (below_then HB.out HB.out.size hb); clear q0 q1 q2 hb; obtain ⟨q0, q1, q2⟩ := HQ.out.words3) | (go_at_call 38; (with_reducible refine (HVE.out _).mono ?_); rintro e wn ⟨rfl, hb⟩; have HQ := Lib.hid (HQ.out.below hb); have HZ := Lib.hid (HZ.out.below hb); have HK := Lib.hid (HK.out.below hb); have HB := Lib.hid (below_then HB.out HB.out.size hb); clear q0 q1 q2 hb; obtain ⟨q0, q1, q2⟩ := HQ.out.words3) | (go_at_call 47; (with_reducible refine (HWI.out _).mono ?_); rintro e wn ⟨rfl, hb⟩; have HQ := Lib.hid (HQ.out.below hb); have HZ := Lib.hid (HZ.out.below hb); have HK := Lib.hid (HK.out.below hb); have HB := Lib.hid (below_then HB.out HB.out.size hb); clear q0 q1 q2 hb; obtain ⟨q0, q1, q2⟩ := HQ.out.words3) | (go_at_call 59; (with_reducible refine (HCO.out _ HB.out).mono ?_); rintro e wn ⟨rfl, hb⟩; have HQ := Lib.hid (HQ.out.below hb); have HZ := Lib.hid (HZ.out.below hb); have HK := Lib.hid (HK.out.below hb); have HB := Lib.hid (below_then HB.out HB.out.size hb); clear q0 q1 q2 hb; obtain ⟨q0, q1, q2⟩ := HQ.out.words3) | (go_at_call 33; (with_reducible refine (HW.out _ _ _).mono ?_); rintro e wn ⟨v, rfl, he, hb⟩; have HE := Lib.hid he; have HZ := Lib.hid (HZ.out.below hb); have HB := Lib.hid (below_then HB.out HB.out.size hb); clear he hb; obtain ⟨⟨c0, c1, c2⟩, ⟨f0, f1, f2⟩, s0, s1, s2⟩ := HZ.out.rpz))
  refine bodyPost_ret (v := .tuple #[.agg #[.int .i64 0, .string ⟨#[]⟩, .slice none 0 0], .int .i64 0, _]) ?_ rfl ⟨HB.out, _, rfl, HE.out⟩
  exact rp_res _ _ _ _ _ _ _ _ _ rfl rfl rfl (show Blk _ _ rpZ _ from HZ.out)
set_option maxRecDepth 100000 in
set_option maxHeartbeats 40000000 in
theorem rp_fields (A : Option Addr) (n c : Nat) (w : World) (S l S2 : ByteArray) (mm : Nat) (pe : Nat) (p0 p1 p2 : ByteArray) (st a k : Int) (HOP0 : OpC A n c S (mm : Int) w) (HLN0 : LnC S l S2 pe w) (HSP0 : SnC l [p0, p1, p2] w) (HBK0 : BkC l false) (HVE0 : VeC p0 true) (HWI0 : WiC p2 true) (HCO0 : CoC p1 st true w) (HFL0 : FlE S2 pe a k w) :
    Calls Tryz.prog 24 #[.slice A n c] w (RpPost (.inl (a, k)) w) := by
  have HOP := Lib.hid HOP0
  have HLN := Lib.hid HLN0
  have HSP := Lib.hid HSP0
  have HBK := Lib.hid HBK0
  have HVE := Lib.hid HVE0
  have HWI := Lib.hid HWI0
  have HCO := Lib.hid HCO0
  have HFL := Lib.hid HFL0
  clear HOP0 HLN0 HSP0 HBK0 HVE0 HWI0 HCO0 HFL0
  have HZ := Lib.hid (Blk.new w rpZ 60)
  have HB := Lib.hid (below_alloc (Below.refl w.heap.size w) (.cells rpZ 60))
  have HW := Lib.hid hdwrong_no
  unfold rpZ rpC at *
  go_enter Tryz.func24, Tryz.ntmps24
  go_wp2_with (first | (go_at_call 34; (with_reducible refine (HOP.out _ HB.out).mono ?_); rintro e wn ⟨R, hR, rfl, hk, hb⟩; have HRW := Lib.hid (show w.heap.size < R from Nat.lt_of_lt_of_le (by simp) hR); have HZ := Lib.hid (HZ.out.below hb); have HK := Lib.hid hk; have HB := Lib.hid (below_then HB.out HB.out.size hb); clear hk hb hR) | (go_at_call 35; (with_reducible refine (HLN.out _ R HB.out (Nat.le_of_lt HRW.out) HK.out).mono ?_); rintro e wn ⟨rfl, hk, hkp, hb⟩; have HZ := Lib.hid (HZ.out.keptR hkp (Nat.ne_of_lt HRW.out)); have HK := Lib.hid hk; have HB := Lib.hid hb; clear hk hkp hb) | (go_at_call 58; (with_reducible refine (HSP.out _ HB.out).mono ?_); rintro e wn ⟨PB, cp, hPB, rfl, hq, hb⟩; have HRQ := Lib.hid (Nat.lt_of_lt_of_le HK.out.lt hPB); clear hPB; have HQ := Lib.hid (hq rfl); have HZ := Lib.hid (HZ.out.below hb); have HK := Lib.hid (HK.out.below hb); have HB := Lib.hid (below_then HB.out HB.out.size hb); clear hq hb; obtain ⟨q0, q1, q2⟩ := HQ.out.words3) | (go_at_call 37; (with_reducible refine (HBK.out _).mono ?_); rintro e wn ⟨rfl, hb⟩; have HQ := Lib.hid (HQ.out.below hb); have HZ := Lib.hid (HZ.out.below hb); have HK := Lib.hid (HK.out.below hb); have HB := Lib.hid (below_then HB.out HB.out.size hb); clear q0 q1 q2 hb; obtain ⟨q0, q1, q2⟩ := HQ.out.words3) | (go_at_call 38; (with_reducible refine (HVE.out _).mono ?_); rintro e wn ⟨rfl, hb⟩; have HQ := Lib.hid (HQ.out.below hb); have HZ := Lib.hid (HZ.out.below hb); have HK := Lib.hid (HK.out.below hb); have HB := Lib.hid (below_then HB.out HB.out.size hb); clear q0 q1 q2 hb; obtain ⟨q0, q1, q2⟩ := HQ.out.words3) | (go_at_call 47; (with_reducible refine (HWI.out _).mono ?_); rintro e wn ⟨rfl, hb⟩; have HQ := Lib.hid (HQ.out.below hb); have HZ := Lib.hid (HZ.out.below hb); have HK := Lib.hid (HK.out.below hb); have HB := Lib.hid (below_then HB.out HB.out.size hb); clear q0 q1 q2 hb; obtain ⟨q0, q1, q2⟩ := HQ.out.words3) | (go_at_call 59; (with_reducible refine (HCO.out _ HB.out).mono ?_); rintro e wn ⟨rfl, hb⟩; have HQ := Lib.hid (HQ.out.below hb); have HZ := Lib.hid (HZ.out.below hb); have HK := Lib.hid (HK.out.below hb); have HB := Lib.hid (below_then HB.out HB.out.size hb); clear q0 q1 q2 hb; obtain ⟨q0, q1, q2⟩ := HQ.out.words3) | (go_at_call 40; (with_reducible refine (HFL.out _ R HB.out (Nat.le_of_lt HRW.out) HK.out).mono ?_); rintro e wn ⟨v, rfl, he, hkp, hb⟩; obtain ⟨et, ex, rfl⟩ := he.iface; have HE := Lib.hid he; clear he; have HZ := Lib.hid (HZ.out.keptR hkp (Nat.ne_of_lt HRW.out)); have HQ := Lib.hid (HQ.out.keptR hkp (Nat.ne_of_gt HRQ.out)); have HB := Lib.hid hb; clear hkp hb q0 q1 q2; obtain ⟨⟨c0, c1, c2⟩, ⟨f0, f1, f2⟩, s0, s1, s2⟩ := HZ.out.rpz))
  refine bodyPost_ret (v := .tuple #[.agg #[.int .i64 0, .string ⟨#[]⟩, .slice none 0 0], .int .i64 0, _]) ?_ rfl ⟨HB.out, _, rfl, HE.out⟩
  exact rp_res _ _ _ _ _ _ _ _ _ rfl rfl rfl (show Blk _ _ rpZ _ from HZ.out)
set_option maxRecDepth 100000 in
set_option maxHeartbeats 40000000 in
theorem rp_whole (A : Option Addr) (n c : Nat) (w : World) (S l S2 : ByteArray) (mm : Nat) (pe : Nat) (p0 p1 p2 : ByteArray) (st : Int) (fs : List Fd.F) (HOP0 : OpC A n c S (mm : Int) w) (HLN0 : LnC S l S2 pe w) (HSP0 : SnC l [p0, p1, p2] w) (HBK0 : BkC l false) (HVE0 : VeC p0 true) (HWI0 : WiC p2 true) (HCO0 : CoC p1 st true w) (HFL0 : FlC S2 pe fs w) :
    Calls Tryz.prog 24 #[.slice A n c] w (RpPost (.inr (st, p2, fs, mm)) w) := by
  have HOP := Lib.hid HOP0
  have HLN := Lib.hid HLN0
  have HSP := Lib.hid HSP0
  have HBK := Lib.hid HBK0
  have HVE := Lib.hid HVE0
  have HWI := Lib.hid HWI0
  have HCO := Lib.hid HCO0
  have HFL := Lib.hid HFL0
  clear HOP0 HLN0 HSP0 HBK0 HVE0 HWI0 HCO0 HFL0
  have HZ := Lib.hid (Blk.new w rpZ 60)
  have HB := Lib.hid (below_alloc (Below.refl w.heap.size w) (.cells rpZ 60))
  have HW := Lib.hid hdwrong_no
  unfold rpZ rpC at *
  go_enter Tryz.func24, Tryz.ntmps24
  go_wp2_with (first | (go_at_call 34; (with_reducible refine (HOP.out _ HB.out).mono ?_); rintro e wn ⟨R, hR, rfl, hk, hb⟩; have HRW := Lib.hid (show w.heap.size < R from Nat.lt_of_lt_of_le (by simp) hR); have HZ := Lib.hid (HZ.out.below hb); have HK := Lib.hid hk; have HB := Lib.hid (below_then HB.out HB.out.size hb); clear hk hb hR) | (go_at_call 35; (with_reducible refine (HLN.out _ R HB.out (Nat.le_of_lt HRW.out) HK.out).mono ?_); rintro e wn ⟨rfl, hk, hkp, hb⟩; have HZ := Lib.hid (HZ.out.keptR hkp (Nat.ne_of_lt HRW.out)); have HK := Lib.hid hk; have HB := Lib.hid hb; clear hk hkp hb) | (go_at_call 58; (with_reducible refine (HSP.out _ HB.out).mono ?_); rintro e wn ⟨PB, cp, hPB, rfl, hq, hb⟩; have HRQ := Lib.hid (Nat.lt_of_lt_of_le HK.out.lt hPB); clear hPB; have HQ := Lib.hid (hq rfl); have HZ := Lib.hid (HZ.out.below hb); have HK := Lib.hid (HK.out.below hb); have HB := Lib.hid (below_then HB.out HB.out.size hb); clear hq hb; obtain ⟨q0, q1, q2⟩ := HQ.out.words3) | (go_at_call 37; (with_reducible refine (HBK.out _).mono ?_); rintro e wn ⟨rfl, hb⟩; have HQ := Lib.hid (HQ.out.below hb); have HZ := Lib.hid (HZ.out.below hb); have HK := Lib.hid (HK.out.below hb); have HB := Lib.hid (below_then HB.out HB.out.size hb); clear q0 q1 q2 hb; obtain ⟨q0, q1, q2⟩ := HQ.out.words3) | (go_at_call 38; (with_reducible refine (HVE.out _).mono ?_); rintro e wn ⟨rfl, hb⟩; have HQ := Lib.hid (HQ.out.below hb); have HZ := Lib.hid (HZ.out.below hb); have HK := Lib.hid (HK.out.below hb); have HB := Lib.hid (below_then HB.out HB.out.size hb); clear q0 q1 q2 hb; obtain ⟨q0, q1, q2⟩ := HQ.out.words3) | (go_at_call 47; (with_reducible refine (HWI.out _).mono ?_); rintro e wn ⟨rfl, hb⟩; have HQ := Lib.hid (HQ.out.below hb); have HZ := Lib.hid (HZ.out.below hb); have HK := Lib.hid (HK.out.below hb); have HB := Lib.hid (below_then HB.out HB.out.size hb); clear q0 q1 q2 hb; obtain ⟨q0, q1, q2⟩ := HQ.out.words3) | (go_at_call 59; (with_reducible refine (HCO.out _ HB.out).mono ?_); rintro e wn ⟨rfl, hb⟩; have HQ := Lib.hid (HQ.out.below hb); have HZ := Lib.hid (HZ.out.below hb); have HK := Lib.hid (HK.out.below hb); have HB := Lib.hid (below_then HB.out HB.out.size hb); clear q0 q1 q2 hb; obtain ⟨q0, q1, q2⟩ := HQ.out.words3) | (go_at_call 40; (with_reducible refine (HFL.out _ R HB.out (Nat.le_of_lt HRW.out) HK.out).mono ?_); rintro e wn ⟨v, rfl, hrf, hkp, hb⟩; obtain ⟨fA, fc, rfl, flc, fC⟩ := Kd.R_reads hrf; clear flc fC; rw [List.length_map] at hrf; have HF := Lib.hid hrf; clear hrf; have HWL := Lib.hid HZ.out.lt; have HZ := Lib.hid (HZ.out.keptR hkp (Nat.ne_of_lt HRW.out)); have HQ := Lib.hid (HQ.out.keptR hkp (Nat.ne_of_gt HRQ.out)); have HB := Lib.hid hb; clear hkp hb q0 q1 q2; obtain ⟨q0, q1, q2⟩ := HQ.out.words3; obtain ⟨⟨c0, c1, c2⟩, ⟨f0, f1, f2⟩, s0, s1, s2⟩ := HZ.out.rpz))
  refine bodyPost_ret (v := .tuple #[.agg #[.int .i64 st, .string p2, .slice fA fs.length fc], .int .i64 (mm : Int), .nilIface]) (rp_res _ _ w.heap.size st p2 (.slice fA fs.length fc) (.int .i64 (mm : Int)) .nilIface 60 rfl rfl rfl (show Blk _ _ (rpC st p2 (.slice fA fs.length fc)) _ from (((HZ.out.set 0 (.int .i64 st)).set 1 (.string p2)).set 2 (.slice fA fs.length fc)))) rfl ⟨?_, _, rfl, ?_⟩
  · exact (Below.setCell (p := ⟨w.heap.size, 2, none⟩) (Below.setCell (p := ⟨w.heap.size, 1, none⟩) (Below.setCell (p := ⟨w.heap.size, 0, none⟩) HB.out (Nat.le_refl _) (.int .i64 st)) (Nat.le_refl _) (.string p2)) (Nat.le_refl _) (.slice fA fs.length fc))
  · have hwl := HWL.out
    exact Kd.R_mono (Kd.R_far (p := ⟨w.heap.size, 2, none⟩) (Kd.R_far (p := ⟨w.heap.size, 1, none⟩) (Kd.R_far (p := ⟨w.heap.size, 0, none⟩) HF.out (fun k hk => by show k ≠ w.heap.size; omega) (.int .i64 st)) (fun k hk => by show k ≠ w.heap.size; omega) (.string p2)) (fun k hk => by show k ≠ w.heap.size; omega) (.slice fA fs.length fc)) (fun k hk => by omega)
end Go.Proofs.YtocklkaddiomhaaGreatDoor.E


namespace Go.Proofs.YtocklkaddiomhaaGreatDoor.E
open Go.RowKit Go.Proofs.YtocklkaddiomhaaGreatDoorW.PrintWords Go.Proofs.YtocklkaddiomhaaGreatDoorW.PrintLast Go.Proofs.YtocklkaddiomhaaGreatDoor.XK Go.Proofs.YtocklkaddiomhaaGreatDoor.XA Go.Proofs.YtocklkaddiomhaaGreatDoor.XD
set_option linter.unusedVariables false
set_option linter.unusedSimpArgs false
theorem splitB_size (sep : ByteArray) (save : Nat) : ∀ (k : Nat) (s p : ByteArray), p ∈ Lib.splitB sep save k s → p.size ≤ s.size
  | 0, s, p, h => by
    rw [Lib.splitB_zero] at h
    rw [List.mem_singleton.1 h]; exact Nat.le_refl _
  | k + 1, s, p, h => by
    unfold Lib.splitB at h
    split at h
    · rw [List.mem_singleton.1 h]; exact Nat.le_refl _
    · rcases List.mem_cons.1 h with rfl | h
      · rw [ByteArray.size_extract]; omega
      · have := splitB_size sep save k _ p h
        rw [ByteArray.size_extract] at this; omega
def headRp (S : ByteArray) (n : Nat) : (Int × Int) ⊕ RpT :=
  match wordsN (cutL S) with
  | [p0, p1, p2] =>
    if Hd.broken (cutL S).data.toList then .inl (0, 80) else if !verB p0 then .inl (0, 80) else if !Hd.plain p2.data.toList 32 256 then .inl (0, 80) else if !codeOk p1.data.toList then .inl (0, 80) else
      match Hd.fieldsR 66 (cutR2 S).data.toList ((cutL S).size + 2) [] with
      | .inl (a, k) => .inl ((a : Int), (k : Int))
      | .inr fs => .inr (atoiV p1.data.toList, p2, fs, n)
  | _ => .inl (0, 80)
def repR (b : List UInt8) : (Int × Int) ⊕ RpT := match Hd.endR b with
  | .inl (a, k) => .inl ((a : Int), (k : Int))
  | .inr n => headRp ⟨(b.take n).toArray⟩ n
theorem headRp_no (S : ByteArray) (n : Nat) (h : (wordsN (cutL S)).length ≠ 3) : headRp S n = .inl (0, 80) := by
  unfold headRp
  split
  · rename_i e; rw [e] at h; exact absurd rfl h
  · rfl
theorem headRp_yes (S : ByteArray) (n : Nat) (p0 p1 p2 : ByteArray) (h : wordsN (cutL S) = [p0, p1, p2]) : headRp S n = if Hd.broken (cutL S).data.toList then .inl (0, 80) else if !verB p0 then .inl (0, 80) else if !Hd.plain p2.data.toList 32 256 then .inl (0, 80) else if !codeOk p1.data.toList then .inl (0, 80) else
      match Hd.fieldsR 66 (cutR2 S).data.toList ((cutL S).size + 2) [] with
      | .inl (a, k) => .inl ((a : Int), (k : Int))
      | .inr fs => .inr (atoiV p1.data.toList, p2, fs, n) := by
  unfold headRp; rw [h]
theorem reply_any (A : Option Addr) (n c : Nat) (xs : List Int) (w : World) (hS : StdW w) (hx : xs.length = n) (hr : ∀ x ∈ xs, 0 ≤ x ∧ x < 256) (h : Lib.BytesIn w A n xs) (hA : A = none → c = 0) (hcap : n ≤ c) (hc63 : c ≤ 9223372036854775807) :
    Calls Tryz.prog 24 #[.slice A n c] w (RpPost (repR (Lib.bytesOf xs)) w) := by
  have HOP := fun W (hb : Below w.heap.size w W) => opened_any A n c xs W (StdW.below hS hb) hx hr (bytesIn_below h hb) hA hcap hc63
  unfold repR
  cases hR : Hd.endR (Lib.bytesOf xs) with
  | inl x =>
    obtain ⟨a, k⟩ := x
    rw [hR] at HOP
    exact rp_open A n c w a k (fun W hb => (HOP W hb).mono fun e w' ⟨h1, v, h2, h3⟩ => ⟨v, h2, h3, h1⟩)
  | inr m =>
    rw [hR] at HOP
    have hle := Hd.endR_le hR
    dsimp only
    have hz : (⟨((Lib.bytesOf xs).take m).toArray⟩ : ByteArray).size ≤ 8192 := by show ((Lib.bytesOf xs).take m).toArray.size ≤ _; rw [List.size_toArray, List.length_take]; omega
    have HO : OpC A n c ⟨((Lib.bytesOf xs).take m).toArray⟩ (m : Int) w := fun W hb => (HOP W hb).mono fun e w' ⟨h1, R, h2, h3, h4⟩ => ⟨R, h2, h3, h4, h1⟩
    clear HOP
    generalize (⟨((Lib.bytesOf xs).take m).toArray⟩ : ByteArray) = S at HO hz ⊢
    have HL := line_c S hz w hS
    have hlz := cutL_size S
    have hlr := cutLR_size S
    have HSP : SnC (cutL S) (wordsN (cutL S)) w := splitn_calls (cutL S) (by omega) w hS
    rcases three_words (wordsN (cutL S)) with ⟨p0, p1, p2, hp⟩ | hp
    · rw [headRp_yes S m p0 p1 p2 hp]
      have hz1 : p1.size ≤ (cutL S).size := splitB_size _ _ _ _ p1 (show p1 ∈ wordsN (cutL S) by rw [hp]; exact List.mem_cons_of_mem _ List.mem_cons_self)
      have hz2 : p2.size ≤ (cutL S).size := splitB_size _ _ _ _ p2 (show p2 ∈ wordsN (cutL S) by rw [hp]; exact List.mem_cons_of_mem _ (List.mem_cons_of_mem _ List.mem_cons_self))
      rw [hp] at HSP
      have HBK : BkC (cutL S) (Hd.broken (cutL S).data.toList) := fun W => broken_any (cutL S) (by omega) W
      have HVE : VeC p0 (verB p0) := fun W => version_any p0 W
      have HWI : WiC p2 (Hd.plain p2.data.toList 32 256) := fun W => within_any p2 (by omega) 32 256 W
      have HCO : CoC p1 (atoiV p1.data.toList) (codeOk p1.data.toList) w := fun W hb => hcode_any p1 (by omega) W (StdW.below hS hb)
      have HFL := fun W R (hb : Below w.heap.size w W) (hR : w.heap.size ≤ R) (hK : Blk W R (rdC (cutR2 S) (((cutL S).size + 2 : Nat) : Int)) TRd) => fields_any (cutR2 S) ((cutL S).size + 2) R w W hS hb hR hK (by omega) (by omega)
      cases hbk : Hd.broken (cutL S).data.toList
      · rw [hbk] at HBK
        rw [if_neg Bool.false_ne_true]
        cases hve : verB p0
        · rw [hve] at HVE
          rw [if_pos (show (!false) = true from rfl)]
          exact rp_version A n c w S (cutL S) (cutR2 S) m _ p0 p1 p2 HO HL HSP HBK HVE
        · rw [hve] at HVE
          rw [if_neg (show ¬ (!true) = true by decide)]
          cases hwi : Hd.plain p2.data.toList 32 256
          · rw [hwi] at HWI
            rw [if_pos (show (!false) = true from rfl)]
            exact rp_within A n c w S (cutL S) (cutR2 S) m _ p0 p1 p2 HO HL HSP HBK HVE HWI
          · rw [hwi] at HWI
            rw [if_neg (show ¬ (!true) = true by decide)]
            cases hco : codeOk p1.data.toList
            · rw [hco] at HCO
              rw [if_pos (show (!false) = true from rfl)]
              exact rp_code A n c w S (cutL S) (cutR2 S) m _ p0 p1 p2 _ HO HL HSP HBK HVE HWI HCO
            · rw [hco] at HCO
              rw [if_neg (show ¬ (!true) = true by decide)]
              cases hfl : Hd.fieldsR 66 (cutR2 S).data.toList ((cutL S).size + 2) [] with
              | inl x =>
                obtain ⟨a, k⟩ := x
                rw [hfl] at HFL
                exact rp_fields A n c w S (cutL S) (cutR2 S) m _ p0 p1 p2 _ a k HO HL HSP HBK HVE HWI HCO (fun W R hb hR hK => (HFL W R hb hR hK).mono fun e w' ⟨h1, h2, v, h3, h4⟩ => ⟨v, h3, h4, h2, h1⟩)
              | inr fs =>
                rw [hfl] at HFL
                exact rp_whole A n c w S (cutL S) (cutR2 S) m _ p0 p1 p2 _ fs HO HL HSP HBK HVE HWI HCO (fun W R hb hR hK => (HFL W R hb hR hK).mono fun e w' ⟨h1, h2, v, h3, h4⟩ => ⟨v, h3, h4, h2, h1⟩)
      · rw [hbk] at HBK
        rw [if_pos rfl]
        exact rp_broken A n c w S (cutL S) (cutR2 S) m _ p0 p1 p2 HO HL HSP HBK
    · rw [headRp_no S m hp]
      exact rp_words A n c w S (cutL S) (cutR2 S) m _ (wordsN (cutL S)) hp HO HL HSP
end Go.Proofs.YtocklkaddiomhaaGreatDoor.E


namespace Go.Proofs.YtocklkaddiomhaaGreatDoor.XBy
open Go.Proofs.YtocklkaddiomhaaGreatDoor.XK
open Go.RowKit Go.Proofs.YtocklkaddiomhaaGreatDoorW.PrintWords Go.Proofs.YtocklkaddiomhaaGreatDoorW.PrintLast Go.Proofs.YtocklkaddiomhaaGreatDoorW.PrintMore
attribute [local go_sem] max2_int min2_int max_two min_two max_three min_three max_four min_four
set_option linter.unusedVariables false
set_option linter.unusedSimpArgs false
end Go.Proofs.YtocklkaddiomhaaGreatDoor.XBy


namespace Go.Proofs.YtocklkaddiomhaaGreatDoor.XBy
open Go.Proofs.YtocklkaddiomhaaGreatDoor.XK
open Go.RowKit Go.Proofs.YtocklkaddiomhaaGreatDoorW.PrintWords Go.Proofs.YtocklkaddiomhaaGreatDoorW.PrintLast Go.Proofs.YtocklkaddiomhaaGreatDoorW.PrintMore
attribute [local go_sem] max2_int min2_int max_two min_two max_three min_three max_four min_four
set_option linter.unusedVariables false
set_option linter.unusedSimpArgs false
theorem eqA29 (d : Nat) (w : World) (x0 y0 : Int) (x1 y1 : Int) (x2 y2 : Int) (x3 y3 : Int) :
  (Op.equalIn (d + 2) 29 (.agg #[.int .u8 x0, .int .u8 x1, .int .u8 x2, .int .u8 x3]) (.agg #[.int .u8 y0, .int .u8 y1, .int .u8 y2, .int .u8 y3])).run Tryz.prog w = .ok (x0 == y0 && (x1 == y1 && (x2 == y2 && (x3 == y3)))) w := by
 refine eqA_of Tryz.underlying29 (by kernel_rfl) ?_
 refine eqf_cons (by rfl) (by go_simp; rfl) (by go_simp; rfl) (by go_simp) ?_
 refine eqf_cons (by rfl) (by go_simp; rfl) (by go_simp; rfl) (by go_simp) ?_
 refine eqf_cons (by rfl) (by go_simp; rfl) (by go_simp; rfl) (by go_simp) ?_
 exact eqf_last (by rfl) (by go_simp; rfl) (by go_simp; rfl) (by go_simp)
theorem eqA31 (d : Nat) (w : World) (x0 y0 : Int) (x1 y1 : Int) (x2 y2 : Int) (x3 y3 : Int) (x4 y4 : ByteArray) :
  (Op.equalIn (d + 3) 31 (.agg #[.int .u8 x0, .int .u8 x1, .int .u8 x2, .int .u8 x3, .string x4]) (.agg #[.int .u8 y0, .int .u8 y1, .int .u8 y2, .int .u8 y3, .string y4])).run Tryz.prog w = .ok ((x0 == y0 && (x1 == y1 && (x2 == y2 && (x3 == y3)))) && (x4.toList == y4.toList)) w := by
 refine eqA_of Tryz.underlying31 (by kernel_rfl) ?_
 refine eqf_cons (by rfl) (by go_simp) (by go_simp) (eqA29 (d + 0) w _ _ _ _ _ _ _ _) ?_
 exact eqf_last (by rfl) (by go_simp; rfl) (by go_simp; rfl) (by go_simp)
theorem eqA33 (d : Nat) (w : World) (x0 y0 : Int) (x1 y1 : Int) (x2 y2 : Int) (x3 y3 : Int) (x4 y4 : ByteArray) (x5 y5 : Int) :
  (Op.equalIn (d + 4) 33 (.agg #[.int .u8 x0, .int .u8 x1, .int .u8 x2, .int .u8 x3, .string x4, .int .i64 x5]) (.agg #[.int .u8 y0, .int .u8 y1, .int .u8 y2, .int .u8 y3, .string y4, .int .i64 y5])).run Tryz.prog w = .ok (((x0 == y0 && (x1 == y1 && (x2 == y2 && (x3 == y3)))) && (x4.toList == y4.toList)) && (x5 == y5)) w := by
 refine eqA_of Tryz.underlying33 (by kernel_rfl) ?_
 refine eqf_cons (by rfl) (by go_simp) (by go_simp) (eqA31 (d + 0) w _ _ _ _ _ _ _ _ _ _) ?_
 exact eqf_last (by rfl) (by go_simp; rfl) (by go_simp; rfl) (by go_simp)
end Go.Proofs.YtocklkaddiomhaaGreatDoor.XBy


namespace Go.Proofs.YtocklkaddiomhaaGreatDoor.XBy
open Go.Proofs.YtocklkaddiomhaaGreatDoor.XK
open Go.RowKit Go.Proofs.YtocklkaddiomhaaGreatDoorW.PrintWords Go.Proofs.YtocklkaddiomhaaGreatDoorW.PrintLast Go.Proofs.YtocklkaddiomhaaGreatDoorW.PrintMore
attribute [local go_sem] max2_int min2_int max_two min_two max_three min_three max_four min_four
set_option linter.unusedVariables false
set_option linter.unusedSimpArgs false
attribute [local go_sem high] eqA33
end Go.Proofs.YtocklkaddiomhaaGreatDoor.XBy


namespace Go.Proofs.YtocklkaddiomhaaGreatDoor.XBy
open Go.Proofs.YtocklkaddiomhaaGreatDoor.XK
open Go.RowKit Go.Proofs.YtocklkaddiomhaaGreatDoorW.PrintWords Go.Proofs.YtocklkaddiomhaaGreatDoorW.PrintLast Go.Proofs.YtocklkaddiomhaaGreatDoorW.PrintMore
attribute [local go_sem] max2_int min2_int max_two min_two max_three min_three max_four min_four
set_option linter.unusedVariables false
set_option linter.unusedSimpArgs false
end Go.Proofs.YtocklkaddiomhaaGreatDoor.XBy


namespace Go.Proofs.YtocklkaddiomhaaGreatDoor.E
open Go.RowKit Go.Proofs.YtocklkaddiomhaaGreatDoorW.PrintWords Go.Proofs.YtocklkaddiomhaaGreatDoorW.PrintLast Go.Proofs.YtocklkaddiomhaaGreatDoor.XK Go.Proofs.YtocklkaddiomhaaGreatDoor.XA Go.Proofs.YtocklkaddiomhaaGreatDoor.XD Go.Proofs.YtocklkaddiomhaaGreatDoor.XBy
set_option linter.unusedVariables false
set_option linter.unusedSimpArgs false
theorem bytesIn_C {w : World} {A : Option Addr} {xs : List Int} {n : Nat} (hn : n = xs.length) (h : Kd.C (Kd.int .u8) w A n xs) : Lib.BytesIn w A n xs := by
  rcases Nat.eq_zero_or_pos n with h0 | h0
  · intro h1; omega
  obtain ⟨ad, rfl, hc⟩ := Kd.at_int h 0 (Int.le_refl _) (by omega)
  have hsp := World.cell?_spot hc
  refine Lib.BytesIn.of_cells fun i hi => ?_
  obtain ⟨ad2, e2, h2⟩ := Kd.at_int h (i : Int) (by omega) (by omega)
  cases e2
  rw [Int.toNat_natCast] at h2
  exact h2
def okB (xs : List Int) : Prop := ∀ x ∈ xs, 0 ≤ x ∧ x < 256
structure RqD where
  m : ByteArray
  x : Int
  y : Int
  z : Int
  u : Int
  nm : ByteArray
  po : Int
  pa : ByteArray
  l : List S72
  i : Int
  o : Option (List (ByteArray × Int) × Int)
def rqD : FaultT ⊕ RqT → RqD
  | .inl (a, ch, k) => ⟨⟨#[]⟩, 0, 0, 0, 0, ⟨#[]⟩, 0, ⟨#[]⟩, [], 0, some ((headS, a) :: ch, k)⟩
  | .inr (m, (x, y, z, u, nm, po), pa, fs, k) => ⟨m, x, y, z, u, nm, po, pa, fs.map ofF, (k : Int), none⟩
abbrev RqG (d : RqD) (W : World) (e : Ending) (w' : World) : Prop := ∃ fA fc v, e = .returned (.tuple #[.agg #[.string d.m, .int .u8 d.x, .int .u8 d.y, .int .u8 d.z, .int .u8 d.u, .string d.nm, .int .i64 d.po, .string d.pa, .slice fA d.l.length fc], .int .i64 d.i, v]) ∧ d.l.length ≤ fc ∧ Kd.C k72 w' fA d.l.length d.l ∧ EOr d.o w' v ∧ Below W.heap.size W w'
theorem request_c (A : Option Addr) (n c : Nat) (xs : List Int) (w : World) (hS : StdE w) (hn : n = xs.length) (hr : okB xs) (hC : Kd.C (Kd.int .u8) w A n xs) (hA : A = none → c = 0) (hcap : n ≤ c) (hc63 : c ≤ 9223372036854775807) :
    Calls Tryz.prog 9 #[.slice A n c] w (RqG (rqD (reqR (Lib.bytesOf xs))) w) := by
  refine (request_any A n c xs w hS hn.symm hr (bytesIn_C hn hC) hA hcap hc63).mono ?_
  generalize reqR (Lib.bytesOf xs) = r
  rintro e w' ⟨hb, h⟩
  rcases r with ⟨a, ch, k⟩ | ⟨m, ⟨x, y, z, u, nm, po⟩, pa, fs, k⟩
  · obtain ⟨v, rfl, he⟩ := h
    exact ⟨none, 0, v, rfl, Nat.le_refl _, Kd.C_nil _ _, he, hb⟩
  · obtain ⟨v, rfl, hf⟩ := h
    obtain ⟨fA, fc, rfl, hl, hC2⟩ := Kd.R_reads hf
    exact ⟨fA, fc, .nilIface, rfl, hl, hC2, rfl, hb⟩
end Go.Proofs.YtocklkaddiomhaaGreatDoor.E


namespace Go.Proofs.YtocklkaddiomhaaGreatDoor.E
open Go.RowKit Go.Proofs.YtocklkaddiomhaaGreatDoorW.PrintWords Go.Proofs.YtocklkaddiomhaaGreatDoorW.PrintLast Go.Proofs.YtocklkaddiomhaaGreatDoor.XK Go.Proofs.YtocklkaddiomhaaGreatDoor.XA Go.Proofs.YtocklkaddiomhaaGreatDoor.XD
set_option linter.unusedVariables false
set_option linter.unusedSimpArgs false
theorem bytes_new (W : World) (xs : List Int) (T : TypeId) (y : Nat × Nat) : Lib.BytesIn (W.alloc (.cells (xs.map (Value.int .u8)).toArray T y)) (some ⟨W.heap.size, 0, none⟩) xs.length xs := fun _ => by
  refine ⟨W.heap.size, 0, rfl, fun i hi => ?_⟩
  rw [Nat.zero_add, World.cell?_alloc_mark, List.getElem?_toArray, List.getElem?_map, List.getElem?_eq_getElem hi, List.getD_eq_getElem?_getD, List.getElem?_eq_getElem hi]; rfl
theorem request_new (xs : List Int) (hr : ∀ x ∈ xs, 0 ≤ x ∧ x < 256) (hl : xs.length ≤ 1000000) (T : TypeId) (r : FaultT ⊕ RqT) (he : reqR (Lib.bytesOf xs) = r) (W : World) (y : Nat × Nat) (hS : StdE W) :
    Calls Tryz.prog 9 #[.slice (some ⟨W.heap.size, 0, none⟩) xs.length xs.length] (W.alloc (.cells (xs.map (Value.int .u8)).toArray T y)) (RqPost r (W.alloc (.cells (xs.map (Value.int .u8)).toArray T y))) := by
  subst he
  exact request_any _ xs.length xs.length xs _ (StdE.below hS (below_alloc (Below.refl _ _) _)) rfl hr (bytes_new W xs T y) (fun h => by cases h) (Nat.le_refl _) (by omega)
def ex80 : List Int := [71, 69, 84, 32, 104, 116, 116, 112, 58, 47, 47, 97, 46, 98, 47, 120, 32, 72, 84, 84, 80, 47, 49, 46, 49, 13, 10, 72, 111, 115, 116, 58, 32, 97, 46, 98, 13, 10, 13, 10, 109, 111, 114, 101]
theorem ex80_ok : ∀ x ∈ ex80, 0 ≤ x ∧ x < 256 := by unfold ex80; decide
def ex81 : List Int := [71, 69, 84, 32, 47, 120, 32, 72, 84, 84, 80, 47, 49, 46, 49, 13, 10, 13, 10]
theorem ex81_ok : ∀ x ∈ ex81, 0 ≤ x ∧ x < 256 := by unfold ex81; decide
def ex82 : List Int := [71, 69, 84, 32, 104, 116, 116, 112, 58, 47, 47, 45, 47, 32, 72, 84, 84, 80, 47, 49, 46, 49, 13, 10, 13, 10]
theorem ex82_ok : ∀ x ∈ ex82, 0 ≤ x ∧ x < 256 := by unfold ex82; decide
theorem ex80_r : reqR (Lib.bytesOf ex80) = .inr (⟨#[71, 69, 84]⟩, (0, 0, 0, 0, ⟨#[97, 46, 98]⟩, 80), ⟨#[47, 120]⟩, [([72, 111, 115, 116], [97, 46, 98])], 40) := by kernel_rfl
theorem ex81_r : reqR (Lib.bytesOf ex81) = .inl (4, [], 82) := by kernel_rfl
theorem ex82_r : reqR (Lib.bytesOf ex82) = .inl (11, [(hostS, 0)], 61) := by kernel_rfl
theorem ex80_c : ∀ W (y : Nat × Nat) (g : Nat), g = W.heap.size → StdE W → Calls Tryz.prog 9 #[.slice (some ⟨g, 0, none⟩) 44 44] (W.alloc (.cells #[.int .u8 71, .int .u8 69, .int .u8 84, .int .u8 32, .int .u8 104, .int .u8 116, .int .u8 116, .int .u8 112, .int .u8 58, .int .u8 47, .int .u8 47, .int .u8 97, .int .u8 46, .int .u8 98, .int .u8 47, .int .u8 120, .int .u8 32, .int .u8 72, .int .u8 84, .int .u8 84, .int .u8 80, .int .u8 47, .int .u8 49, .int .u8 46, .int .u8 49, .int .u8 13, .int .u8 10, .int .u8 72, .int .u8 111, .int .u8 115, .int .u8 116, .int .u8 58, .int .u8 32, .int .u8 97, .int .u8 46, .int .u8 98, .int .u8 13, .int .u8 10, .int .u8 13, .int .u8 10, .int .u8 109, .int .u8 111, .int .u8 114, .int .u8 101] 5 y)) fun e w' => ∃ fA fc, e = .returned (.tuple #[.agg #[.string ⟨#[71, 69, 84]⟩, .int .u8 0, .int .u8 0, .int .u8 0, .int .u8 0, .string ⟨#[97, 46, 98]⟩, .int .i64 80, .string ⟨#[47, 120]⟩, .slice fA 1 fc], .int .i64 40, .nilIface]) ∧ Below W.heap.size W w' := fun W y g hg hS => by
  subst hg
  refine (request_new ex80 ex80_ok (by decide) 5 _ ex80_r W y hS).mono ?_
  rintro e w' ⟨hb, v, rfl, hf⟩
  obtain ⟨fA, fc, rfl, -, -⟩ := Kd.R_reads hf
  exact ⟨fA, fc, rfl, below_then (below_alloc (Below.refl _ _) _) (below_alloc (Below.refl _ _) _).size hb⟩
theorem ex81_c : ∀ W (y : Nat × Nat) (g : Nat), g = W.heap.size → StdE W → Calls Tryz.prog 9 #[.slice (some ⟨g, 0, none⟩) 19 19] (W.alloc (.cells #[.int .u8 71, .int .u8 69, .int .u8 84, .int .u8 32, .int .u8 47, .int .u8 120, .int .u8 32, .int .u8 72, .int .u8 84, .int .u8 84, .int .u8 80, .int .u8 47, .int .u8 49, .int .u8 46, .int .u8 49, .int .u8 13, .int .u8 10, .int .u8 13, .int .u8 10] 5 y)) fun e w' => ∃ v, e = .returned (.tuple #[.agg #[.string ⟨#[]⟩, .int .u8 0, .int .u8 0, .int .u8 0, .int .u8 0, .string ⟨#[]⟩, .int .i64 0, .string ⟨#[]⟩, .slice none 0 0], .int .i64 0, v]) ∧ ErrIs w' v [(headS, 4)] 82 ∧ Below W.heap.size W w' := fun W y g hg hS => by
  subst hg
  refine (request_new ex81 ex81_ok (by decide) 5 _ ex81_r W y hS).mono ?_
  rintro e w' ⟨hb, v, rfl, he⟩
  exact ⟨v, rfl, he, below_then (below_alloc (Below.refl _ _) _) (below_alloc (Below.refl _ _) _).size hb⟩
theorem ex82_c : ∀ W (y : Nat × Nat) (g : Nat), g = W.heap.size → StdE W → Calls Tryz.prog 9 #[.slice (some ⟨g, 0, none⟩) 26 26] (W.alloc (.cells #[.int .u8 71, .int .u8 69, .int .u8 84, .int .u8 32, .int .u8 104, .int .u8 116, .int .u8 116, .int .u8 112, .int .u8 58, .int .u8 47, .int .u8 47, .int .u8 45, .int .u8 47, .int .u8 32, .int .u8 72, .int .u8 84, .int .u8 84, .int .u8 80, .int .u8 47, .int .u8 49, .int .u8 46, .int .u8 49, .int .u8 13, .int .u8 10, .int .u8 13, .int .u8 10] 5 y)) fun e w' => ∃ v, e = .returned (.tuple #[.agg #[.string ⟨#[]⟩, .int .u8 0, .int .u8 0, .int .u8 0, .int .u8 0, .string ⟨#[]⟩, .int .i64 0, .string ⟨#[]⟩, .slice none 0 0], .int .i64 0, v]) ∧ ErrIs w' v [(headS, 11), (hostS, 0)] 61 ∧ Below W.heap.size W w' := fun W y g hg hS => by
  subst hg
  refine (request_new ex82 ex82_ok (by decide) 5 _ ex82_r W y hS).mono ?_
  rintro e w' ⟨hb, v, rfl, he⟩
  exact ⟨v, rfl, he, below_then (below_alloc (Below.refl _ _) _) (below_alloc (Below.refl _ _) _).size hb⟩
end Go.Proofs.YtocklkaddiomhaaGreatDoor.E
