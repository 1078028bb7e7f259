/- What the cards of this seat rest on: the walks and plain laws, part 11. -/
import Derived.Test.YtocklkaddiomhaaGreatDoorHC9
import Derived.IntWalk
import Derived.Deep.RegionHeld3
import Derived.Test.YtocklkaddiomhaaGreatDoorHC10
import Derived.Test.YtocklkaddiomhaaGreatDoorHC3
import Derived.Test.YtocklkaddiomhaaGreatDoorProg
import Derived.Below
import Derived.Deep.Draws
import Derived.Deep.AppendLies
import Derived.Maps.AppendAt
import Derived.OwnWalk
import Derived.Laws.BytesArg
import Derived.Laws.MakeOwn
import Derived.Laws.OwnMore
import Derived.Deep.OwnRows
import Derived.Tactics
import Derived.Lib.ConvBytes
import Derived.Laws.Slices
import Derived.WalkKit
import Derived.KernelRfl
import Derived.RowKit3
import Derived.Deep.LoopGhost
import Derived.Deep.QuietTactic
import Derived.BigQuiet
import Derived.WideLaws
import Derived.Deep.DeepCutAuto
import Derived.Deep.CutBlock
import Derived.Laws.Rows
import Derived.Lib.AppendStr
import Derived.ArgAppend
import Derived.Laws.IdiomCopy
import Derived.OrdersHeld
import Derived.Laws.BitsLemmas
import Derived.RowKit
import Derived.Test.YtocklkaddiomhaaGreatDoorHC2
import Derived.Test.YtocklkaddiomhaaGreatDoorHC6
import Derived.Test.YtocklkaddiomhaaGreatDoorHC7
import Derived.Test.YtocklkaddiomhaaGreatDoorHC4


namespace Go.Proofs.YtocklkaddiomhaaGreatDoor.E
open Go.RowKit Go.Proofs.YtocklkaddiomhaaGreatDoorW.PrintWords Go.Proofs.YtocklkaddiomhaaGreatDoorW.PrintLast Go.Proofs.YtocklkaddiomhaaGreatDoor.XK Go.Proofs.YtocklkaddiomhaaGreatDoor.XA Go.Proofs.YtocklkaddiomhaaGreatDoor.XD
set_option linter.unusedVariables false
set_option linter.unusedSimpArgs false
set_option maxRecDepth 100000 in
set_option maxHeartbeats 40000000 in
theorem rq_target (A : Option Addr) (n c : Nat) (w : World) (S l S2 : ByteArray) (mm : Int) (pe : Nat) (p0 p1 p2 : ByteArray) (hz : p0.size ≤ 100000) (a : Int) (ch : List (ByteArray × Int)) (k : Int) (HOP0 : OpC A n c S mm w) (HLN0 : LnC S l S2 pe w) (HSP0 : SpC l [p0, p1, p2] w) (HBK0 : BkC l false) (HVE0 : VeC p2 true) (HTK0 : TkC p0 true w) (HTG0 : TgE p0 p1 ((p0.size : Int) + 1) a ch k w) :
    Calls Tryz.prog 9 #[.slice A n c] w (RqPost (.inl (a, ch, k)) w) := by
  have HOP := Lib.hid HOP0
  have HLN := Lib.hid HLN0
  have HSP := Lib.hid HSP0
  have HBK := Lib.hid HBK0
  have HVE := Lib.hid HVE0
  have HTK := Lib.hid HTK0
  have HTG := Lib.hid HTG0
  clear HOP0 HLN0 HSP0 HBK0 HVE0 HTK0 HTG0
  have HZ := Lib.hid (Blk.new w rqZ 36)
  have HB := Lib.hid (below_alloc (Below.refl w.heap.size w) (.cells rqZ 36))
  have HW := Lib.hid hdwrong_no
  unfold rqZ rqC at *
  go_enter Tryz.func9, Tryz.ntmps9
  go_wp2_with (first | (go_at_call 34; (with_reducible refine (HOP.out _ HB.out).mono ?_); rintro e wn ⟨R, hR, rfl, hk, hb⟩; have HRW := Lib.hid (show w.heap.size < R from Nat.lt_of_lt_of_le (by simp) hR); have HZ := Lib.hid (HZ.out.below hb); have HK := Lib.hid hk; have HB := Lib.hid (below_then HB.out HB.out.size hb); clear hk hb hR) | (go_at_call 35; (with_reducible refine (HLN.out _ R HB.out (Nat.le_of_lt HRW.out) HK.out).mono ?_); rintro e wn ⟨rfl, hk, hkp, hb⟩; have HZ := Lib.hid (HZ.out.keptR hkp (Nat.ne_of_lt HRW.out)); have HK := Lib.hid hk; have HB := Lib.hid hb; clear hk hkp hb) | (go_at_call 36; (with_reducible refine (HSP.out _ HB.out).mono ?_); rintro e wn ⟨PB, hPB, rfl, hq, hb⟩; have HRQ := Lib.hid (Nat.lt_of_lt_of_le HK.out.lt hPB); clear hPB; have HQ := Lib.hid hq; have HZ := Lib.hid (HZ.out.below hb); have HK := Lib.hid (HK.out.below hb); have HB := Lib.hid (below_then HB.out HB.out.size hb); clear hq hb; obtain ⟨q0, q1, q2⟩ := HQ.out.words3) | (go_at_call 37; (with_reducible refine (HBK.out _).mono ?_); rintro e wn ⟨rfl, hb⟩; have HQ := Lib.hid (HQ.out.below hb); have HZ := Lib.hid (HZ.out.below hb); have HK := Lib.hid (HK.out.below hb); have HB := Lib.hid (below_then HB.out HB.out.size hb); clear q0 q1 q2 hb; obtain ⟨q0, q1, q2⟩ := HQ.out.words3) | (go_at_call 38; (with_reducible refine (HVE.out _).mono ?_); rintro e wn ⟨rfl, hb⟩; have HQ := Lib.hid (HQ.out.below hb); have HZ := Lib.hid (HZ.out.below hb); have HK := Lib.hid (HK.out.below hb); have HB := Lib.hid (below_then HB.out HB.out.size hb); clear q0 q1 q2 hb; obtain ⟨q0, q1, q2⟩ := HQ.out.words3) | (go_at_call 18; (with_reducible refine (HTK.out _ HB.out).mono ?_); rintro e wn ⟨rfl, hb⟩; have HQ := Lib.hid (HQ.out.below hb); have HZ := Lib.hid (HZ.out.below hb); have HK := Lib.hid (HK.out.below hb); have HB := Lib.hid (below_then HB.out HB.out.size hb); clear q0 q1 q2 hb; obtain ⟨q0, q1, q2⟩ := HQ.out.words3))
  have hql := HQ.out.lt
  have hrl := HK.out.lt
  have hne0 := Nat.ne_of_gt hql
  have hzl := HZ.out.lt
  have hwr : IntKind.i64.wrap ((p0.size : Int) + 1) = (p0.size : Int) + 1 := IntWalk.i64_in _ (by omega)
  have hwr0 : wrap64 ((p0.size : Int) + 1) = (p0.size : Int) + 1 := by unfold wrap64; omega
  have hp1 : (0 : Int) ≤ (p0.size : Int) + 1 := by omega
  go_region_held3 (fun w' => w'.cell? ⟨PB, 0, none⟩ = some (.string p0) ∧ w'.cell? ⟨PB, 1, none⟩ = some (.string p1)) (first | (simp only [World.cell?_drew, q0, q1, and_self]; done) | (simp only [World.cell?_drew, World.cell?_alloc_some, World.cell?_setCell_far, q0, q1, Option.isSome_some, ne_eq, not_false_eq_true, and_self, hne0]; done) | (simp only [World.cell?_drew, World.cell?_alloc_some, World.cell?_setCell_far, q0, q1, Option.isSome_some, ne_eq, not_false_eq_true, and_self, hne0, hne1]; done)) ((first | (go_at_call 39; (with_reducible refine (HTG.out _ (below_drew1 HB.out)).mono ?_); rintro e wm ⟨tx, ty, tz, tu, tn, tp, tq, v, rfl, he, hbd⟩; have hb := below_of_drew hbd; obtain ⟨et, ex, rfl⟩ := he.iface; have HE := Lib.hid he; clear he; have HZ := Lib.hid (HZ.out.below hb); have HK := Lib.hid (HK.out.below hb); have HQ := Lib.hid (HQ.out.below hb); have HB := Lib.hid (below_then HB.out HB.out.size hb); clear hb hbd q0 q1 q2; obtain ⟨q0, q1, q2⟩ := HQ.out.words3; have hne1 := Nat.ne_of_gt HQ.out.lt) | (go_at_call 39; (with_reducible refine (HTG.out _ (below_drew1 (below_alloc HB.out _))).mono ?_); rintro e wm ⟨tx, ty, tz, tu, tn, tp, tq, v, rfl, he, hbd⟩; have hb := below_of_drew hbd; obtain ⟨et, ex, rfl⟩ := he.iface; have HE := Lib.hid he; clear he; have HD := Lib.hid ((Blk.new _ _ _).below hb); have HZ := Lib.hid ((HZ.out.old _).below hb); have HK := Lib.hid ((HK.out.old _).below hb); have HQ := Lib.hid ((HQ.out.old _).below hb); have HB := Lib.hid (below_then (below_alloc HB.out _) (below_alloc HB.out _).size hb); obtain ⟨d0, d1, d2, d3, d4, d5, g0, g1, g2, g3, g4, g5⟩ := Blk.dix HD.out; clear hb hbd q0 q1 q2; obtain ⟨q0, q1, q2⟩ := HQ.out.words3; have hne1 := Nat.ne_of_gt HQ.out.lt)))
  · have HRD := Lib.hid HK.out.lt
    have HD := Lib.hid (Blk.new wm #[.int .u8 tx, .int .u8 ty, .int .u8 tz, .int .u8 tu, .string tn, .int .i64 tp] 33)
    have HZ := Lib.hid (HZ.out.old (.cells #[.int .u8 tx, .int .u8 ty, .int .u8 tz, .int .u8 tu, .string tn, .int .i64 tp] 33))
    have HK := Lib.hid (HK.out.old (.cells #[.int .u8 tx, .int .u8 ty, .int .u8 tz, .int .u8 tu, .string tn, .int .i64 tp] 33))
    have HQ := Lib.hid (HQ.out.old (.cells #[.int .u8 tx, .int .u8 ty, .int .u8 tz, .int .u8 tu, .string tn, .int .i64 tp] 33))
    have HB := Lib.hid (below_alloc HB.out (.cells #[.int .u8 tx, .int .u8 ty, .int .u8 tz, .int .u8 tu, .string tn, .int .i64 tp] 33))
    have HE := Lib.hid (ErrIs.below (below_alloc (Below.refl wm.heap.size wm) (.cells #[.int .u8 tx, .int .u8 ty, .int .u8 tz, .int .u8 tu, .string tn, .int .i64 tp] 33)) HE.out)
    clear q0 q1 q2 hne1 hne0 hql hzl hrl
    generalize wm.heap.size = DB at HRD HD ⊢
    generalize (wm.alloc (.cells #[.int .u8 tx, .int .u8 ty, .int .u8 tz, .int .u8 tu, .string tn, .int .i64 tp] 33)) = W7 at HD HZ HK HQ HB HE ⊢
    have HZL := Lib.hid HZ.out.lt
    obtain ⟨c0, c1, c2, c3, c4, c5, c6, c7, c8, f0, f1, f2, f3, f4, f5, f6, f7, f8, s0, s1, s2, s3, s4, s5, s6, s7, s8⟩ := HZ.out.rqz
    go_wp2
    refine bodyPost_ret (v := .tuple #[.agg #[.string ⟨#[]⟩, .int .u8 0, .int .u8 0, .int .u8 0, .int .u8 0, .string ⟨#[]⟩, .int .i64 0, .string ⟨#[]⟩, .slice none 0 0], .int .i64 0, _]) ?_ rfl ⟨HB.out, _, rfl, HE.out⟩
    exact rq_res _ _ _ _ _ _ _ _ _ _ _ _ _ _ _ rfl rfl rfl (show Blk _ _ rqZ _ from HZ.out)
  · have HRD := Lib.hid hrl
    have HE := Lib.hid (show ErrIs _ _ _ _ from EOr.put6 (o := some ((headS, a) :: ch, k)) (a := tx) (b := ty) (c := tz) (d := tu) (n := tn) (po := tp) HD.out HE.out)
    have HD := Lib.hid (show Blk _ _ (#[.int .u8 tx, .int .u8 ty, .int .u8 tz, .int .u8 tu, .string tn, .int .i64 tp] : Array Value) _ from ((((((HD.out.set 0 (.int .u8 tx)).set 1 (.int .u8 ty)).set 2 (.int .u8 tz)).set 3 (.int .u8 tu)).set 4 (.string tn)).set 5 (.int .i64 tp)))
    have HZ := Lib.hid (oth (oth (oth (oth (oth (oth HZ.out 0 hzl (.int .u8 tx)) 1 hzl (.int .u8 ty)) 2 hzl (.int .u8 tz)) 3 hzl (.int .u8 tu)) 4 hzl (.string tn)) 5 hzl (.int .i64 tp))
    have HK := Lib.hid (oth (oth (oth (oth (oth (oth HK.out 0 hrl (.int .u8 tx)) 1 hrl (.int .u8 ty)) 2 hrl (.int .u8 tz)) 3 hrl (.int .u8 tu)) 4 hrl (.string tn)) 5 hrl (.int .i64 tp))
    have HQ := Lib.hid (oth (oth (oth (oth (oth (oth HQ.out 0 hql (.int .u8 tx)) 1 hql (.int .u8 ty)) 2 hql (.int .u8 tz)) 3 hql (.int .u8 tu)) 4 hql (.string tn)) 5 hql (.int .i64 tp))
    have HB := Lib.hid (bset (bset (bset (bset (bset (bset HB.out 0 hzl (.int .u8 tx)) 1 hzl (.int .u8 ty)) 2 hzl (.int .u8 tz)) 3 hzl (.int .u8 tu)) 4 hzl (.string tn)) 5 hzl (.int .i64 tp))
    clear q0 q1 q2 hne1 hne0 hql hzl hrl d0 d1 d2 d3 d4 d5 g0 g1 g2 g3 g4 g5
    generalize ((((((wm.setCell ⟨wn.heap.size, 0, none⟩ (.int .u8 tx)).setCell ⟨wn.heap.size, 1, none⟩ (.int .u8 ty)).setCell ⟨wn.heap.size, 2, none⟩ (.int .u8 tz)).setCell ⟨wn.heap.size, 3, none⟩ (.int .u8 tu)).setCell ⟨wn.heap.size, 4, none⟩ (.string tn)).setCell ⟨wn.heap.size, 5, none⟩ (.int .i64 tp)) = W7 at HD HZ HK HQ HB HE ⊢
    generalize wn.heap.size = DB at HRD HD ⊢
    have HZL := Lib.hid HZ.out.lt
    obtain ⟨c0, c1, c2, c3, c4, c5, c6, c7, c8, f0, f1, f2, f3, f4, f5, f6, f7, f8, s0, s1, s2, s3, s4, s5, s6, s7, s8⟩ := HZ.out.rqz
    go_wp2
    refine bodyPost_ret (v := .tuple #[.agg #[.string ⟨#[]⟩, .int .u8 0, .int .u8 0, .int .u8 0, .int .u8 0, .string ⟨#[]⟩, .int .i64 0, .string ⟨#[]⟩, .slice none 0 0], .int .i64 0, _]) ?_ rfl ⟨HB.out, _, rfl, HE.out⟩
    exact rq_res _ _ _ _ _ _ _ _ _ _ _ _ _ _ _ rfl rfl rfl (show Blk _ _ rqZ _ from HZ.out)
set_option maxRecDepth 100000 in
set_option maxHeartbeats 40000000 in
theorem rq_fields (A : Option Addr) (n c : Nat) (w : World) (S l S2 : ByteArray) (mm : Int) (pe : Nat) (p0 p1 p2 : ByteArray) (hz : p0.size ≤ 100000) (tx ty tz tu : Int) (tn : ByteArray) (tp : Int) (tq : ByteArray) (a k : Int) (HOP0 : OpC A n c S mm w) (HLN0 : LnC S l S2 pe w) (HSP0 : SpC l [p0, p1, p2] w) (HBK0 : BkC l false) (HVE0 : VeC p2 true) (HTK0 : TkC p0 true w) (HTG0 : TgC p0 p1 ((p0.size : Int) + 1) tx ty tz tu tn tp tq w) (HFL0 : FlE S2 pe a k w) :
    Calls Tryz.prog 9 #[.slice A n c] w (RqPost (.inl (a, [], k)) w) := by
  have HOP := Lib.hid HOP0
  have HLN := Lib.hid HLN0
  have HSP := Lib.hid HSP0
  have HBK := Lib.hid HBK0
  have HVE := Lib.hid HVE0
  have HTK := Lib.hid HTK0
  have HTG := Lib.hid HTG0
  have HFL := Lib.hid HFL0
  clear HOP0 HLN0 HSP0 HBK0 HVE0 HTK0 HTG0 HFL0
  have HZ := Lib.hid (Blk.new w rqZ 36)
  have HB := Lib.hid (below_alloc (Below.refl w.heap.size w) (.cells rqZ 36))
  have HW := Lib.hid hdwrong_no
  unfold rqZ rqC at *
  go_enter Tryz.func9, Tryz.ntmps9
  go_wp2_with (first | (go_at_call 34; (with_reducible refine (HOP.out _ HB.out).mono ?_); rintro e wn ⟨R, hR, rfl, hk, hb⟩; have HRW := Lib.hid (show w.heap.size < R from Nat.lt_of_lt_of_le (by simp) hR); have HZ := Lib.hid (HZ.out.below hb); have HK := Lib.hid hk; have HB := Lib.hid (below_then HB.out HB.out.size hb); clear hk hb hR) | (go_at_call 35; (with_reducible refine (HLN.out _ R HB.out (Nat.le_of_lt HRW.out) HK.out).mono ?_); rintro e wn ⟨rfl, hk, hkp, hb⟩; have HZ := Lib.hid (HZ.out.keptR hkp (Nat.ne_of_lt HRW.out)); have HK := Lib.hid hk; have HB := Lib.hid hb; clear hk hkp hb) | (go_at_call 36; (with_reducible refine (HSP.out _ HB.out).mono ?_); rintro e wn ⟨PB, hPB, rfl, hq, hb⟩; have HRQ := Lib.hid (Nat.lt_of_lt_of_le HK.out.lt hPB); clear hPB; have HQ := Lib.hid hq; have HZ := Lib.hid (HZ.out.below hb); have HK := Lib.hid (HK.out.below hb); have HB := Lib.hid (below_then HB.out HB.out.size hb); clear hq hb; obtain ⟨q0, q1, q2⟩ := HQ.out.words3) | (go_at_call 37; (with_reducible refine (HBK.out _).mono ?_); rintro e wn ⟨rfl, hb⟩; have HQ := Lib.hid (HQ.out.below hb); have HZ := Lib.hid (HZ.out.below hb); have HK := Lib.hid (HK.out.below hb); have HB := Lib.hid (below_then HB.out HB.out.size hb); clear q0 q1 q2 hb; obtain ⟨q0, q1, q2⟩ := HQ.out.words3) | (go_at_call 38; (with_reducible refine (HVE.out _).mono ?_); rintro e wn ⟨rfl, hb⟩; have HQ := Lib.hid (HQ.out.below hb); have HZ := Lib.hid (HZ.out.below hb); have HK := Lib.hid (HK.out.below hb); have HB := Lib.hid (below_then HB.out HB.out.size hb); clear q0 q1 q2 hb; obtain ⟨q0, q1, q2⟩ := HQ.out.words3) | (go_at_call 18; (with_reducible refine (HTK.out _ HB.out).mono ?_); rintro e wn ⟨rfl, hb⟩; have HQ := Lib.hid (HQ.out.below hb); have HZ := Lib.hid (HZ.out.below hb); have HK := Lib.hid (HK.out.below hb); have HB := Lib.hid (below_then HB.out HB.out.size hb); clear q0 q1 q2 hb; obtain ⟨q0, q1, q2⟩ := HQ.out.words3))
  have hql := HQ.out.lt
  have hrl := HK.out.lt
  have hne0 := Nat.ne_of_gt hql
  have hzl := HZ.out.lt
  have hwr : IntKind.i64.wrap ((p0.size : Int) + 1) = (p0.size : Int) + 1 := IntWalk.i64_in _ (by omega)
  have hwr0 : wrap64 ((p0.size : Int) + 1) = (p0.size : Int) + 1 := by unfold wrap64; omega
  have hp1 : (0 : Int) ≤ (p0.size : Int) + 1 := by omega
  go_region_held3 (fun w' => w'.cell? ⟨PB, 0, none⟩ = some (.string p0) ∧ w'.cell? ⟨PB, 1, none⟩ = some (.string p1)) (first | (simp only [World.cell?_drew, q0, q1, and_self]; done) | (simp only [World.cell?_drew, World.cell?_alloc_some, World.cell?_setCell_far, q0, q1, Option.isSome_some, ne_eq, not_false_eq_true, and_self, hne0]; done) | (simp only [World.cell?_drew, World.cell?_alloc_some, World.cell?_setCell_far, q0, q1, Option.isSome_some, ne_eq, not_false_eq_true, and_self, hne0, hne1]; done)) ((first | (go_at_call 39; (with_reducible refine (HTG.out _ (below_drew1 HB.out)).mono ?_); rintro e wm ⟨rfl, hbd⟩; have hb := below_of_drew hbd; have HZ := Lib.hid (HZ.out.below hb); have HK := Lib.hid (HK.out.below hb); have HQ := Lib.hid (HQ.out.below hb); have HB := Lib.hid (below_then HB.out HB.out.size hb); clear hb hbd q0 q1 q2; obtain ⟨q0, q1, q2⟩ := HQ.out.words3; have hne1 := Nat.ne_of_gt HQ.out.lt) | (go_at_call 39; (with_reducible refine (HTG.out _ (below_drew1 (below_alloc HB.out _))).mono ?_); rintro e wm ⟨rfl, hbd⟩; have hb := below_of_drew hbd; have HD := Lib.hid ((Blk.new _ _ _).below hb); have HZ := Lib.hid ((HZ.out.old _).below hb); have HK := Lib.hid ((HK.out.old _).below hb); have HQ := Lib.hid ((HQ.out.old _).below hb); have HB := Lib.hid (below_then (below_alloc HB.out _) (below_alloc HB.out _).size hb); obtain ⟨d0, d1, d2, d3, d4, d5, g0, g1, g2, g3, g4, g5⟩ := Blk.dix HD.out; clear hb hbd q0 q1 q2; obtain ⟨q0, q1, q2⟩ := HQ.out.words3; have hne1 := Nat.ne_of_gt HQ.out.lt)))
  · have HRD := Lib.hid HK.out.lt
    have HD := Lib.hid (Blk.new wm #[.int .u8 tx, .int .u8 ty, .int .u8 tz, .int .u8 tu, .string tn, .int .i64 tp] 33)
    have HZ := Lib.hid (HZ.out.old (.cells #[.int .u8 tx, .int .u8 ty, .int .u8 tz, .int .u8 tu, .string tn, .int .i64 tp] 33))
    have HK := Lib.hid (HK.out.old (.cells #[.int .u8 tx, .int .u8 ty, .int .u8 tz, .int .u8 tu, .string tn, .int .i64 tp] 33))
    have HQ := Lib.hid (HQ.out.old (.cells #[.int .u8 tx, .int .u8 ty, .int .u8 tz, .int .u8 tu, .string tn, .int .i64 tp] 33))
    have HB := Lib.hid (below_alloc HB.out (.cells #[.int .u8 tx, .int .u8 ty, .int .u8 tz, .int .u8 tu, .string tn, .int .i64 tp] 33))
    clear q0 q1 q2 hne1 hne0 hql hzl hrl
    generalize wm.heap.size = DB at HRD HD ⊢
    generalize (wm.alloc (.cells #[.int .u8 tx, .int .u8 ty, .int .u8 tz, .int .u8 tu, .string tn, .int .i64 tp] 33)) = W7 at HD HZ HK HQ HB ⊢
    have HZL := Lib.hid HZ.out.lt
    go_wp2_with (first | (go_at_call 40; (with_reducible refine (HFL.out _ R HB.out (Nat.le_of_lt HRW.out) HK.out).mono ?_); rintro e wn ⟨v, rfl, he, hkp, hb⟩; obtain ⟨et, ex, rfl⟩ := he.iface; have HE := Lib.hid he; clear he; have HZ := Lib.hid (HZ.out.keptR hkp (Nat.ne_of_lt HRW.out)); have HQ := Lib.hid (HQ.out.keptR hkp (Nat.ne_of_gt HRQ.out)); have HD := Lib.hid (HD.out.keptR hkp (Nat.ne_of_gt HRD.out)); have HB := Lib.hid hb; clear hkp hb; obtain ⟨c0, c1, c2, c3, c4, c5, c6, c7, c8, f0, f1, f2, f3, f4, f5, f6, f7, f8, s0, s1, s2, s3, s4, s5, s6, s7, s8⟩ := HZ.out.rqz))
    refine bodyPost_ret (v := .tuple #[.agg #[.string ⟨#[]⟩, .int .u8 0, .int .u8 0, .int .u8 0, .int .u8 0, .string ⟨#[]⟩, .int .i64 0, .string ⟨#[]⟩, .slice none 0 0], .int .i64 0, _]) ?_ rfl ⟨HB.out, _, rfl, HE.out⟩
    exact rq_res _ _ _ _ _ _ _ _ _ _ _ _ _ _ _ rfl rfl rfl (show Blk _ _ rqZ _ from HZ.out)
  · have HRD := Lib.hid hrl
    have HD := Lib.hid (show Blk _ _ (#[.int .u8 tx, .int .u8 ty, .int .u8 tz, .int .u8 tu, .string tn, .int .i64 tp] : Array Value) _ from ((((((HD.out.set 0 (.int .u8 tx)).set 1 (.int .u8 ty)).set 2 (.int .u8 tz)).set 3 (.int .u8 tu)).set 4 (.string tn)).set 5 (.int .i64 tp)))
    have HZ := Lib.hid (oth (oth (oth (oth (oth (oth HZ.out 0 hzl (.int .u8 tx)) 1 hzl (.int .u8 ty)) 2 hzl (.int .u8 tz)) 3 hzl (.int .u8 tu)) 4 hzl (.string tn)) 5 hzl (.int .i64 tp))
    have HK := Lib.hid (oth (oth (oth (oth (oth (oth HK.out 0 hrl (.int .u8 tx)) 1 hrl (.int .u8 ty)) 2 hrl (.int .u8 tz)) 3 hrl (.int .u8 tu)) 4 hrl (.string tn)) 5 hrl (.int .i64 tp))
    have HQ := Lib.hid (oth (oth (oth (oth (oth (oth HQ.out 0 hql (.int .u8 tx)) 1 hql (.int .u8 ty)) 2 hql (.int .u8 tz)) 3 hql (.int .u8 tu)) 4 hql (.string tn)) 5 hql (.int .i64 tp))
    have HB := Lib.hid (bset (bset (bset (bset (bset (bset HB.out 0 hzl (.int .u8 tx)) 1 hzl (.int .u8 ty)) 2 hzl (.int .u8 tz)) 3 hzl (.int .u8 tu)) 4 hzl (.string tn)) 5 hzl (.int .i64 tp))
    clear q0 q1 q2 hne1 hne0 hql hzl hrl d0 d1 d2 d3 d4 d5 g0 g1 g2 g3 g4 g5
    generalize ((((((wm.setCell ⟨wn.heap.size, 0, none⟩ (.int .u8 tx)).setCell ⟨wn.heap.size, 1, none⟩ (.int .u8 ty)).setCell ⟨wn.heap.size, 2, none⟩ (.int .u8 tz)).setCell ⟨wn.heap.size, 3, none⟩ (.int .u8 tu)).setCell ⟨wn.heap.size, 4, none⟩ (.string tn)).setCell ⟨wn.heap.size, 5, none⟩ (.int .i64 tp)) = W7 at HD HZ HK HQ HB ⊢
    generalize wn.heap.size = DB at HRD HD ⊢
    have HZL := Lib.hid HZ.out.lt
    go_wp2_with (first | (go_at_call 40; (with_reducible refine (HFL.out _ R HB.out (Nat.le_of_lt HRW.out) HK.out).mono ?_); rintro e wn ⟨v, rfl, he, hkp, hb⟩; obtain ⟨et, ex, rfl⟩ := he.iface; have HE := Lib.hid he; clear he; have HZ := Lib.hid (HZ.out.keptR hkp (Nat.ne_of_lt HRW.out)); have HQ := Lib.hid (HQ.out.keptR hkp (Nat.ne_of_gt HRQ.out)); have HD := Lib.hid (HD.out.keptR hkp (Nat.ne_of_gt HRD.out)); have HB := Lib.hid hb; clear hkp hb; obtain ⟨c0, c1, c2, c3, c4, c5, c6, c7, c8, f0, f1, f2, f3, f4, f5, f6, f7, f8, s0, s1, s2, s3, s4, s5, s6, s7, s8⟩ := HZ.out.rqz))
    refine bodyPost_ret (v := .tuple #[.agg #[.string ⟨#[]⟩, .int .u8 0, .int .u8 0, .int .u8 0, .int .u8 0, .string ⟨#[]⟩, .int .i64 0, .string ⟨#[]⟩, .slice none 0 0], .int .i64 0, _]) ?_ rfl ⟨HB.out, _, rfl, HE.out⟩
    exact rq_res _ _ _ _ _ _ _ _ _ _ _ _ _ _ _ rfl rfl rfl (show Blk _ _ rqZ _ from HZ.out)
end Go.Proofs.YtocklkaddiomhaaGreatDoor.E


namespace Go.Proofs.YtocklkaddiomhaaGreatDoor.E
open Go.RowKit Go.Proofs.YtocklkaddiomhaaGreatDoorW.PrintWords Go.Proofs.YtocklkaddiomhaaGreatDoorW.PrintLast Go.Proofs.YtocklkaddiomhaaGreatDoor.XK Go.Proofs.YtocklkaddiomhaaGreatDoor.XA Go.Proofs.YtocklkaddiomhaaGreatDoor.XD
set_option linter.unusedVariables false
set_option linter.unusedSimpArgs false
set_option maxRecDepth 100000 in
set_option maxHeartbeats 40000000 in
theorem rq_whole (A : Option Addr) (n c : Nat) (w : World) (S l S2 : ByteArray) (mn : Nat) (pe : Nat) (p0 p1 p2 : ByteArray) (hz : p0.size ≤ 100000) (tx ty tz tu : Int) (tn : ByteArray) (tp : Int) (tq : ByteArray) (fs : List Fd.F) (HOP0 : OpC A n c S (mn : Int) w) (HLN0 : LnC S l S2 pe w) (HSP0 : SpC l [p0, p1, p2] w) (HBK0 : BkC l false) (HVE0 : VeC p2 true) (HTK0 : TkC p0 true w) (HTG0 : TgC p0 p1 ((p0.size : Int) + 1) tx ty tz tu tn tp tq w) (HFL0 : FlC S2 pe fs w) :
    Calls Tryz.prog 9 #[.slice A n c] w (RqPost (.inr (p0, (tx, ty, tz, tu, tn, tp), tq, fs, mn)) w) := by
  have HOP := Lib.hid HOP0
  have HLN := Lib.hid HLN0
  have HSP := Lib.hid HSP0
  have HBK := Lib.hid HBK0
  have HVE := Lib.hid HVE0
  have HTK := Lib.hid HTK0
  have HTG := Lib.hid HTG0
  have HFL := Lib.hid HFL0
  clear HOP0 HLN0 HSP0 HBK0 HVE0 HTK0 HTG0 HFL0
  have HZ := Lib.hid (Blk.new w rqZ 36)
  have HB := Lib.hid (below_alloc (Below.refl w.heap.size w) (.cells rqZ 36))
  have HW := Lib.hid hdwrong_no
  unfold rqZ rqC at *
  go_enter Tryz.func9, Tryz.ntmps9
  go_wp2_with (first | (go_at_call 34; (with_reducible refine (HOP.out _ HB.out).mono ?_); rintro e wn ⟨R, hR, rfl, hk, hb⟩; have HRW := Lib.hid (show w.heap.size < R from Nat.lt_of_lt_of_le (by simp) hR); have HZ := Lib.hid (HZ.out.below hb); have HK := Lib.hid hk; have HB := Lib.hid (below_then HB.out HB.out.size hb); clear hk hb hR) | (go_at_call 35; (with_reducible refine (HLN.out _ R HB.out (Nat.le_of_lt HRW.out) HK.out).mono ?_); rintro e wn ⟨rfl, hk, hkp, hb⟩; have HZ := Lib.hid (HZ.out.keptR hkp (Nat.ne_of_lt HRW.out)); have HK := Lib.hid hk; have HB := Lib.hid hb; clear hk hkp hb) | (go_at_call 36; (with_reducible refine (HSP.out _ HB.out).mono ?_); rintro e wn ⟨PB, hPB, rfl, hq, hb⟩; have HRQ := Lib.hid (Nat.lt_of_lt_of_le HK.out.lt hPB); clear hPB; have HQ := Lib.hid hq; have HZ := Lib.hid (HZ.out.below hb); have HK := Lib.hid (HK.out.below hb); have HB := Lib.hid (below_then HB.out HB.out.size hb); clear hq hb; obtain ⟨q0, q1, q2⟩ := HQ.out.words3) | (go_at_call 37; (with_reducible refine (HBK.out _).mono ?_); rintro e wn ⟨rfl, hb⟩; have HQ := Lib.hid (HQ.out.below hb); have HZ := Lib.hid (HZ.out.below hb); have HK := Lib.hid (HK.out.below hb); have HB := Lib.hid (below_then HB.out HB.out.size hb); clear q0 q1 q2 hb; obtain ⟨q0, q1, q2⟩ := HQ.out.words3) | (go_at_call 38; (with_reducible refine (HVE.out _).mono ?_); rintro e wn ⟨rfl, hb⟩; have HQ := Lib.hid (HQ.out.below hb); have HZ := Lib.hid (HZ.out.below hb); have HK := Lib.hid (HK.out.below hb); have HB := Lib.hid (below_then HB.out HB.out.size hb); clear q0 q1 q2 hb; obtain ⟨q0, q1, q2⟩ := HQ.out.words3) | (go_at_call 18; (with_reducible refine (HTK.out _ HB.out).mono ?_); rintro e wn ⟨rfl, hb⟩; have HQ := Lib.hid (HQ.out.below hb); have HZ := Lib.hid (HZ.out.below hb); have HK := Lib.hid (HK.out.below hb); have HB := Lib.hid (below_then HB.out HB.out.size hb); clear q0 q1 q2 hb; obtain ⟨q0, q1, q2⟩ := HQ.out.words3))
  have hql := HQ.out.lt
  have hrl := HK.out.lt
  have hne0 := Nat.ne_of_gt hql
  have hzl := HZ.out.lt
  have hwr : IntKind.i64.wrap ((p0.size : Int) + 1) = (p0.size : Int) + 1 := IntWalk.i64_in _ (by omega)
  have hwr0 : wrap64 ((p0.size : Int) + 1) = (p0.size : Int) + 1 := by unfold wrap64; omega
  have hp1 : (0 : Int) ≤ (p0.size : Int) + 1 := by omega
  go_region_held3 (fun w' => w'.cell? ⟨PB, 0, none⟩ = some (.string p0) ∧ w'.cell? ⟨PB, 1, none⟩ = some (.string p1)) (first | (simp only [World.cell?_drew, q0, q1, and_self]; done) | (simp only [World.cell?_drew, World.cell?_alloc_some, World.cell?_setCell_far, q0, q1, Option.isSome_some, ne_eq, not_false_eq_true, and_self, hne0]; done) | (simp only [World.cell?_drew, World.cell?_alloc_some, World.cell?_setCell_far, q0, q1, Option.isSome_some, ne_eq, not_false_eq_true, and_self, hne0, hne1]; done)) ((first | (go_at_call 39; (with_reducible refine (HTG.out _ (below_drew1 HB.out)).mono ?_); rintro e wm ⟨rfl, hbd⟩; have hb := below_of_drew hbd; have HZ := Lib.hid (HZ.out.below hb); have HK := Lib.hid (HK.out.below hb); have HQ := Lib.hid (HQ.out.below hb); have HB := Lib.hid (below_then HB.out HB.out.size hb); clear hb hbd q0 q1 q2; obtain ⟨q0, q1, q2⟩ := HQ.out.words3; have hne1 := Nat.ne_of_gt HQ.out.lt) | (go_at_call 39; (with_reducible refine (HTG.out _ (below_drew1 (below_alloc HB.out _))).mono ?_); rintro e wm ⟨rfl, hbd⟩; have hb := below_of_drew hbd; have HD := Lib.hid ((Blk.new _ _ _).below hb); have HZ := Lib.hid ((HZ.out.old _).below hb); have HK := Lib.hid ((HK.out.old _).below hb); have HQ := Lib.hid ((HQ.out.old _).below hb); have HB := Lib.hid (below_then (below_alloc HB.out _) (below_alloc HB.out _).size hb); obtain ⟨d0, d1, d2, d3, d4, d5, g0, g1, g2, g3, g4, g5⟩ := Blk.dix HD.out; clear hb hbd q0 q1 q2; obtain ⟨q0, q1, q2⟩ := HQ.out.words3; have hne1 := Nat.ne_of_gt HQ.out.lt)))
  · have HRD := Lib.hid HK.out.lt
    have HD := Lib.hid (Blk.new wm #[.int .u8 tx, .int .u8 ty, .int .u8 tz, .int .u8 tu, .string tn, .int .i64 tp] 33)
    have HZ := Lib.hid (HZ.out.old (.cells #[.int .u8 tx, .int .u8 ty, .int .u8 tz, .int .u8 tu, .string tn, .int .i64 tp] 33))
    have HK := Lib.hid (HK.out.old (.cells #[.int .u8 tx, .int .u8 ty, .int .u8 tz, .int .u8 tu, .string tn, .int .i64 tp] 33))
    have HQ := Lib.hid (HQ.out.old (.cells #[.int .u8 tx, .int .u8 ty, .int .u8 tz, .int .u8 tu, .string tn, .int .i64 tp] 33))
    have HB := Lib.hid (below_alloc HB.out (.cells #[.int .u8 tx, .int .u8 ty, .int .u8 tz, .int .u8 tu, .string tn, .int .i64 tp] 33))
    clear q0 q1 q2 hne1 hne0 hql hzl hrl
    generalize wm.heap.size = DB at HRD HD ⊢
    generalize (wm.alloc (.cells #[.int .u8 tx, .int .u8 ty, .int .u8 tz, .int .u8 tu, .string tn, .int .i64 tp] 33)) = W7 at HD HZ HK HQ HB ⊢
    have HZL := Lib.hid HZ.out.lt
    go_wp2_with (first | (go_at_call 40; (with_reducible refine (HFL.out _ R HB.out (Nat.le_of_lt HRW.out) HK.out).mono ?_); rintro e wn ⟨v, rfl, hrf, hkp, hb⟩; obtain ⟨fA, fc, rfl, flc, fC⟩ := Kd.R_reads hrf; clear flc fC; rw [List.length_map] at hrf; have HF := Lib.hid hrf; clear hrf; have HZ := Lib.hid (HZ.out.keptR hkp (Nat.ne_of_lt HRW.out)); have HQ := Lib.hid (HQ.out.keptR hkp (Nat.ne_of_gt HRQ.out)); have HD := Lib.hid (HD.out.keptR hkp (Nat.ne_of_gt HRD.out)); have HB := Lib.hid hb; clear hkp hb; obtain ⟨q0, q1, q2⟩ := HQ.out.words3; obtain ⟨d0, d1, d2, d3, d4, d5, -⟩ := Blk.dix (show Blk _ _ (dC tx ty tz tu tn tp) _ from HD.out); obtain ⟨c0, c1, c2, c3, c4, c5, c6, c7, c8, f0, f1, f2, f3, f4, f5, f6, f7, f8, s0, s1, s2, s3, s4, s5, s6, s7, s8⟩ := HZ.out.rqz))
    go_region
    go_wp2
    have hzl := HZL.out
    exact bodyPost_ret (v := .tuple #[.agg #[.string p0, .int .u8 tx, .int .u8 ty, .int .u8 tz, .int .u8 tu, .string tn, .int .i64 tp, .string tq, .slice fA fs.length fc], .int .i64 (mn : Int), .nilIface]) (rq_res _ _ w.heap.size p0 tx ty tz tu tn tp tq (.slice fA fs.length fc) (.int .i64 (mn : Int)) .nilIface 36 rfl rfl rfl (setRq_blk p0 tx ty tz tu tn tp tq (.slice fA fs.length fc) HZ.out)) rfl ⟨setRq_below HB.out (Nat.le_refl _) p0 tx ty tz tu tn tp tq (.slice fA fs.length fc), _, rfl, setRq_rows HF.out (Nat.le_refl _) hzl p0 tx ty tz tu tn tp tq (.slice fA fs.length fc)⟩
  · have HRD := Lib.hid hrl
    have HD := Lib.hid (show Blk _ _ (#[.int .u8 tx, .int .u8 ty, .int .u8 tz, .int .u8 tu, .string tn, .int .i64 tp] : Array Value) _ from ((((((HD.out.set 0 (.int .u8 tx)).set 1 (.int .u8 ty)).set 2 (.int .u8 tz)).set 3 (.int .u8 tu)).set 4 (.string tn)).set 5 (.int .i64 tp)))
    have HZ := Lib.hid (oth (oth (oth (oth (oth (oth HZ.out 0 hzl (.int .u8 tx)) 1 hzl (.int .u8 ty)) 2 hzl (.int .u8 tz)) 3 hzl (.int .u8 tu)) 4 hzl (.string tn)) 5 hzl (.int .i64 tp))
    have HK := Lib.hid (oth (oth (oth (oth (oth (oth HK.out 0 hrl (.int .u8 tx)) 1 hrl (.int .u8 ty)) 2 hrl (.int .u8 tz)) 3 hrl (.int .u8 tu)) 4 hrl (.string tn)) 5 hrl (.int .i64 tp))
    have HQ := Lib.hid (oth (oth (oth (oth (oth (oth HQ.out 0 hql (.int .u8 tx)) 1 hql (.int .u8 ty)) 2 hql (.int .u8 tz)) 3 hql (.int .u8 tu)) 4 hql (.string tn)) 5 hql (.int .i64 tp))
    have HB := Lib.hid (bset (bset (bset (bset (bset (bset HB.out 0 hzl (.int .u8 tx)) 1 hzl (.int .u8 ty)) 2 hzl (.int .u8 tz)) 3 hzl (.int .u8 tu)) 4 hzl (.string tn)) 5 hzl (.int .i64 tp))
    clear q0 q1 q2 hne1 hne0 hql hzl hrl d0 d1 d2 d3 d4 d5 g0 g1 g2 g3 g4 g5
    generalize ((((((wm.setCell ⟨wn.heap.size, 0, none⟩ (.int .u8 tx)).setCell ⟨wn.heap.size, 1, none⟩ (.int .u8 ty)).setCell ⟨wn.heap.size, 2, none⟩ (.int .u8 tz)).setCell ⟨wn.heap.size, 3, none⟩ (.int .u8 tu)).setCell ⟨wn.heap.size, 4, none⟩ (.string tn)).setCell ⟨wn.heap.size, 5, none⟩ (.int .i64 tp)) = W7 at HD HZ HK HQ HB ⊢
    generalize wn.heap.size = DB at HRD HD ⊢
    have HZL := Lib.hid HZ.out.lt
    go_wp2_with (first | (go_at_call 40; (with_reducible refine (HFL.out _ R HB.out (Nat.le_of_lt HRW.out) HK.out).mono ?_); rintro e wn ⟨v, rfl, hrf, hkp, hb⟩; obtain ⟨fA, fc, rfl, flc, fC⟩ := Kd.R_reads hrf; clear flc fC; rw [List.length_map] at hrf; have HF := Lib.hid hrf; clear hrf; have HZ := Lib.hid (HZ.out.keptR hkp (Nat.ne_of_lt HRW.out)); have HQ := Lib.hid (HQ.out.keptR hkp (Nat.ne_of_gt HRQ.out)); have HD := Lib.hid (HD.out.keptR hkp (Nat.ne_of_gt HRD.out)); have HB := Lib.hid hb; clear hkp hb; obtain ⟨q0, q1, q2⟩ := HQ.out.words3; obtain ⟨d0, d1, d2, d3, d4, d5, -⟩ := Blk.dix (show Blk _ _ (dC tx ty tz tu tn tp) _ from HD.out); obtain ⟨c0, c1, c2, c3, c4, c5, c6, c7, c8, f0, f1, f2, f3, f4, f5, f6, f7, f8, s0, s1, s2, s3, s4, s5, s6, s7, s8⟩ := HZ.out.rqz))
    go_region
    go_wp2
    have hzl := HZL.out
    exact bodyPost_ret (v := .tuple #[.agg #[.string p0, .int .u8 tx, .int .u8 ty, .int .u8 tz, .int .u8 tu, .string tn, .int .i64 tp, .string tq, .slice fA fs.length fc], .int .i64 (mn : Int), .nilIface]) (rq_res _ _ w.heap.size p0 tx ty tz tu tn tp tq (.slice fA fs.length fc) (.int .i64 (mn : Int)) .nilIface 36 rfl rfl rfl (setRq_blk p0 tx ty tz tu tn tp tq (.slice fA fs.length fc) HZ.out)) rfl ⟨setRq_below HB.out (Nat.le_refl _) p0 tx ty tz tu tn tp tq (.slice fA fs.length fc), _, rfl, setRq_rows HF.out (Nat.le_refl _) hzl p0 tx ty tz tu tn tp tq (.slice fA fs.length fc)⟩
end Go.Proofs.YtocklkaddiomhaaGreatDoor.E


namespace Go.Proofs.YtocklkaddiomhaaGreatDoor.E
open Go.RowKit Go.Proofs.YtocklkaddiomhaaGreatDoorW.PrintWords Go.Proofs.YtocklkaddiomhaaGreatDoorW.PrintLast Go.Proofs.YtocklkaddiomhaaGreatDoor.XK Go.Proofs.YtocklkaddiomhaaGreatDoor.XA Go.Proofs.YtocklkaddiomhaaGreatDoor.XD
set_option linter.unusedVariables false
set_option linter.unusedSimpArgs false
theorem words_data (s : ByteArray) : (wordsB s).map (·.data.toList) = Pt.cutOn 32 s.data.toList := by
  unfold wordsB
  rw [Lib.splitB_data, ← Pt.splitK_cutOn]
  first | done | rfl
theorem words_size (s p : ByteArray) (h : p ∈ wordsB s) : p.size ≤ s.size := by
  have h1 := size_mem (wordsB s) p h
  rw [sumAt_eq, words_data, Pt.tot_cutOn, ← Lib.size_eq] at h1
  omega
def headRq (S : ByteArray) (n : Nat) : FaultT ⊕ RqT :=
  match wordsB (cutL S) with
  | [p0, p1, p2] =>
    if Hd.broken (cutL S).data.toList then .inl (0, [], 80) else if !verB p2 then .inl (0, [], 80) else if !tokB p0 then .inl (0, [], 81) else
      match targetR p0 p1 ((p0.size : Int) + 1) with
      | .inl x => .inl x
      | .inr (d, q) => match Hd.fieldsR 66 (cutR2 S).data.toList ((cutL S).size + 2) [] with
        | .inl (a, k) => .inl ((a : Int), [], (k : Int))
        | .inr fs => .inr (p0, d, q, fs, n)
  | _ => .inl (0, [], 80)
def reqR (b : List UInt8) : FaultT ⊕ RqT := match Hd.endR b with
  | .inl (a, k) => .inl ((a : Int), [], (k : Int))
  | .inr n => headRq ⟨(b.take n).toArray⟩ n
theorem three_words (ps : List ByteArray) : (∃ p0 p1 p2, ps = [p0, p1, p2]) ∨ ps.length ≠ 3 := by
  match ps with
  | [] => exact .inr (by decide)
  | [_] => exact .inr (by simp)
  | [_, _] => exact .inr (by simp)
  | [a, b, c] => exact .inl ⟨a, b, c, rfl⟩
  | _ :: _ :: _ :: _ :: _ => exact .inr (by simp)
theorem headRq_no (S : ByteArray) (n : Nat) (h : (wordsB (cutL S)).length ≠ 3) : headRq S n = .inl (0, [], 80) := by
  unfold headRq
  split
  · rename_i e; rw [e] at h; exact absurd rfl h
  · rfl
theorem headRq_yes (S : ByteArray) (n : Nat) (p0 p1 p2 : ByteArray) (h : wordsB (cutL S) = [p0, p1, p2]) : headRq S n = if Hd.broken (cutL S).data.toList then .inl (0, [], 80) else if !verB p2 then .inl (0, [], 80) else if !tokB p0 then .inl (0, [], 81) else
      match targetR p0 p1 ((p0.size : Int) + 1) with
      | .inl x => .inl x
      | .inr (d, q) => match Hd.fieldsR 66 (cutR2 S).data.toList ((cutL S).size + 2) [] with
        | .inl (a, k) => .inl ((a : Int), [], (k : Int))
        | .inr fs => .inr (p0, d, q, fs, n) := by
  unfold headRq; rw [h]
theorem line_c (S : ByteArray) (hz : S.size ≤ 8192) (w : World) (hS : StdW w) : LnC S (cutL S) (cutR2 S) ((cutL S).size + 2) w := fun W R hB hR hK => by
  refine (line_any S 0 R W (StdW.below hS hB) (by omega) (by omega) hK).mono ?_
  rintro e w' ⟨rfl, w1, hb, rfl⟩
  rw [show 0 + (cutL S).size + 2 = (cutL S).size + 2 by omega]
  exact ⟨rfl, ((hK.below hb).set 0 (.string (cutR2 S))).set 1 _, ((((KeptR.refl R W).below hb).setCell 0 _).setCell 1 _), ((below_then hB hB.size hb).setCell hR _).setCell hR _⟩
theorem request_any (A : Option Addr) (n c : Nat) (xs : List Int) (w : World) (hS : StdE w) (hx : xs.length = n) (hr : ∀ x ∈ xs, 0 ≤ x ∧ x < 256) (h : Lib.BytesIn w A n xs) (hA : A = none → c = 0) (hcap : n ≤ c) (hc63 : c ≤ 9223372036854775807) :
    Calls Tryz.prog 9 #[.slice A n c] w (RqPost (reqR (Lib.bytesOf xs)) w) := by
  have HOP := fun W (hb : Below w.heap.size w W) => opened_any A n c xs W (StdW.below hS.std hb) hx hr (bytesIn_below h hb) hA hcap hc63
  unfold reqR
  cases hR : Hd.endR (Lib.bytesOf xs) with
  | inl x =>
    obtain ⟨a, k⟩ := x
    rw [hR] at HOP
    exact rq_open A n c w a k (fun W hb => (HOP W hb).mono fun e w' ⟨h1, v, h2, h3⟩ => ⟨v, h2, h3, h1⟩)
  | inr m =>
    rw [hR] at HOP
    have hle := Hd.endR_le hR
    dsimp only
    have hz : (⟨((Lib.bytesOf xs).take m).toArray⟩ : ByteArray).size ≤ 8192 := by show ((Lib.bytesOf xs).take m).toArray.size ≤ _; rw [List.size_toArray, List.length_take]; omega
    have HO : OpC A n c ⟨((Lib.bytesOf xs).take m).toArray⟩ (m : Int) w := fun W hb => (HOP W hb).mono fun e w' ⟨h1, R, h2, h3, h4⟩ => ⟨R, h2, h3, h4, h1⟩
    clear HOP
    generalize (⟨((Lib.bytesOf xs).take m).toArray⟩ : ByteArray) = S at HO hz ⊢
    have HL := line_c S hz w hS.std
    have hlz := cutL_size S
    have hlr := cutLR_size S
    have HSP : SpC (cutL S) (wordsB (cutL S)) w := fun W hb => (split_blank (cutL S) (by omega) W (StdW.below hS.std hb)).mono fun e w' ⟨h1, h2, h3⟩ => ⟨_, Nat.le_refl _, h1, h2, h3⟩
    rcases three_words (wordsB (cutL S)) with ⟨p0, p1, p2, hp⟩ | hp
    · rw [headRq_yes S m p0 p1 p2 hp]
      have hz0 := words_size (cutL S) p0 (by rw [hp]; exact List.mem_cons_self)
      have hz1 := words_size (cutL S) p1 (by rw [hp]; exact List.mem_cons_of_mem _ List.mem_cons_self)
      rw [hp] at HSP
      have HBK : BkC (cutL S) (Hd.broken (cutL S).data.toList) := fun W => broken_any (cutL S) (by omega) W
      have HVE : VeC p2 (verB p2) := fun W => version_any p2 W
      have HTK : TkC p0 (tokB p0) w := fun W hb => token_any p0 (by omega) W (StdW.below hS.std hb)
      have HTG := fun W (hb : Below w.heap.size w W) => target_any p0 p1 ((p0.size : Int) + 1) (by omega) (by omega) (by omega) (by omega) W (StdE.below hS hb)
      have HFL := fun W R (hb : Below w.heap.size w W) (hR : w.heap.size ≤ R) (hK : Blk W R (rdC (cutR2 S) (((cutL S).size + 2 : Nat) : Int)) TRd) => fields_any (cutR2 S) ((cutL S).size + 2) R w W hS.std hb hR hK (by omega) (by omega)
      cases hbk : Hd.broken (cutL S).data.toList
      · rw [hbk] at HBK
        rw [if_neg Bool.false_ne_true]
        cases hve : verB p2
        · rw [hve] at HVE
          rw [if_pos (show (!false) = true from rfl)]
          exact rq_version A n c w S (cutL S) (cutR2 S) m _ p0 p1 p2 HO HL HSP HBK HVE
        · rw [hve] at HVE
          rw [if_neg (show ¬ (!true) = true by decide)]
          cases htk : tokB p0
          · rw [htk] at HTK
            rw [if_pos (show (!false) = true from rfl)]
            exact rq_token A n c w S (cutL S) (cutR2 S) m _ p0 p1 p2 HO HL HSP HBK HVE HTK
          · rw [htk] at HTK
            rw [if_neg (show ¬ (!true) = true by decide)]
            cases htg : targetR p0 p1 ((p0.size : Int) + 1) with
            | inl x =>
              obtain ⟨a, ch, k⟩ := x
              rw [htg] at HTG
              exact rq_target A n c w S (cutL S) (cutR2 S) m _ p0 p1 p2 (by omega) a ch k HO HL HSP HBK HVE HTK (fun W hb => (HTG W hb).mono fun e w' ⟨h1, x, y, z, u, nm, po, q, v, h2, h3⟩ => ⟨x, y, z, u, nm, po, q, v, h2, h3, h1⟩)
            | inr x =>
              obtain ⟨⟨tx, ty, tz, tu, tn, tp⟩, tq⟩ := x
              rw [htg] at HTG
              have HT : TgC p0 p1 ((p0.size : Int) + 1) tx ty tz tu tn tp tq w := fun W hb => (HTG W hb).mono fun e w' ⟨h1, h2⟩ => ⟨h2, h1⟩
              dsimp only
              cases hfl : Hd.fieldsR 66 (cutR2 S).data.toList ((cutL S).size + 2) [] with
              | inl x =>
                obtain ⟨a, k⟩ := x
                rw [hfl] at HFL
                exact rq_fields A n c w S (cutL S) (cutR2 S) m _ p0 p1 p2 (by omega) tx ty tz tu tn tp tq a k HO HL HSP HBK HVE HTK HT (fun W R hb hR hK => (HFL W R hb hR hK).mono fun e w' ⟨h1, h2, v, h3, h4⟩ => ⟨v, h3, h4, h2, h1⟩)
              | inr fs =>
                rw [hfl] at HFL
                exact rq_whole A n c w S (cutL S) (cutR2 S) m _ p0 p1 p2 (by omega) tx ty tz tu tn tp tq fs HO HL HSP HBK HVE HTK HT (fun W R hb hR hK => (HFL W R hb hR hK).mono fun e w' ⟨h1, h2, v, h3, h4⟩ => ⟨v, h3, h4, h2, h1⟩)
      · rw [hbk] at HBK
        rw [if_pos rfl]
        exact rq_broken A n c w S (cutL S) (cutR2 S) m _ p0 p1 p2 HO HL HSP HBK
    · rw [headRq_no S m hp]
      exact rq_words A n c w S (cutL S) (cutR2 S) m _ (wordsB (cutL S)) hp HO HL HSP
end Go.Proofs.YtocklkaddiomhaaGreatDoor.E


namespace Go.Proofs.YtocklkaddiomhaaGreatDoor.XBy
open Go.Proofs.YtocklkaddiomhaaGreatDoor.XK
open Go.RowKit Go.Proofs.YtocklkaddiomhaaGreatDoorW.PrintWords Go.Proofs.YtocklkaddiomhaaGreatDoorW.PrintLast Go.Proofs.YtocklkaddiomhaaGreatDoorW.PrintMore
attribute [local go_sem] max2_int min2_int max_two min_two max_three min_three max_four min_four
set_option linter.unusedVariables false
set_option linter.unusedSimpArgs false
theorem info5 : (Tryz.prog.info? 5).map (fun i => (i.zero, i.size, i.bytes)) = some (some (.int .u8 0), 1, 1) := by kernel_rfl
end Go.Proofs.YtocklkaddiomhaaGreatDoor.XBy


namespace Go.Proofs.YtocklkaddiomhaaGreatDoor.XBy
open Go.Proofs.YtocklkaddiomhaaGreatDoor.XK
open Go.RowKit Go.Proofs.YtocklkaddiomhaaGreatDoorW.PrintWords Go.Proofs.YtocklkaddiomhaaGreatDoorW.PrintLast Go.Proofs.YtocklkaddiomhaaGreatDoorW.PrintMore
attribute [local go_sem] max2_int min2_int max_two min_two max_three min_three max_four min_four
set_option linter.unusedVariables false
set_option linter.unusedSimpArgs false
theorem eqA29 (d : Nat) (w : World) (x0 y0 : Int) (x1 y1 : Int) (x2 y2 : Int) (x3 y3 : Int) :
  (Op.equalIn (d + 2) 29 (.agg #[.int .u8 x0, .int .u8 x1, .int .u8 x2, .int .u8 x3]) (.agg #[.int .u8 y0, .int .u8 y1, .int .u8 y2, .int .u8 y3])).run Tryz.prog w = .ok (x0 == y0 && (x1 == y1 && (x2 == y2 && (x3 == y3)))) w := by
 refine eqA_of Tryz.underlying29 (by kernel_rfl) ?_
 refine eqf_cons (by rfl) (by go_simp; rfl) (by go_simp; rfl) (by go_simp) ?_
 refine eqf_cons (by rfl) (by go_simp; rfl) (by go_simp; rfl) (by go_simp) ?_
 refine eqf_cons (by rfl) (by go_simp; rfl) (by go_simp; rfl) (by go_simp) ?_
 exact eqf_last (by rfl) (by go_simp; rfl) (by go_simp; rfl) (by go_simp)
theorem eqA31 (d : Nat) (w : World) (x0 y0 : Int) (x1 y1 : Int) (x2 y2 : Int) (x3 y3 : Int) (x4 y4 : ByteArray) :
  (Op.equalIn (d + 3) 31 (.agg #[.int .u8 x0, .int .u8 x1, .int .u8 x2, .int .u8 x3, .string x4]) (.agg #[.int .u8 y0, .int .u8 y1, .int .u8 y2, .int .u8 y3, .string y4])).run Tryz.prog w = .ok ((x0 == y0 && (x1 == y1 && (x2 == y2 && (x3 == y3)))) && (x4.toList == y4.toList)) w := by
 refine eqA_of Tryz.underlying31 (by kernel_rfl) ?_
 refine eqf_cons (by rfl) (by go_simp) (by go_simp) (eqA29 (d + 0) w _ _ _ _ _ _ _ _) ?_
 exact eqf_last (by rfl) (by go_simp; rfl) (by go_simp; rfl) (by go_simp)
theorem eqA33 (d : Nat) (w : World) (x0 y0 : Int) (x1 y1 : Int) (x2 y2 : Int) (x3 y3 : Int) (x4 y4 : ByteArray) (x5 y5 : Int) :
  (Op.equalIn (d + 4) 33 (.agg #[.int .u8 x0, .int .u8 x1, .int .u8 x2, .int .u8 x3, .string x4, .int .i64 x5]) (.agg #[.int .u8 y0, .int .u8 y1, .int .u8 y2, .int .u8 y3, .string y4, .int .i64 y5])).run Tryz.prog w = .ok (((x0 == y0 && (x1 == y1 && (x2 == y2 && (x3 == y3)))) && (x4.toList == y4.toList)) && (x5 == y5)) w := by
 refine eqA_of Tryz.underlying33 (by kernel_rfl) ?_
 refine eqf_cons (by rfl) (by go_simp) (by go_simp) (eqA31 (d + 0) w _ _ _ _ _ _ _ _ _ _) ?_
 exact eqf_last (by rfl) (by go_simp; rfl) (by go_simp; rfl) (by go_simp)
end Go.Proofs.YtocklkaddiomhaaGreatDoor.XBy


namespace Go.Proofs.YtocklkaddiomhaaGreatDoor.XBy
open Go.Proofs.YtocklkaddiomhaaGreatDoor.XK
open Go.RowKit Go.Proofs.YtocklkaddiomhaaGreatDoorW.PrintWords Go.Proofs.YtocklkaddiomhaaGreatDoorW.PrintLast Go.Proofs.YtocklkaddiomhaaGreatDoorW.PrintMore
attribute [local go_sem] max2_int min2_int max_two min_two max_three min_three max_four min_four
set_option linter.unusedVariables false
set_option linter.unusedSimpArgs false
attribute [local go_sem high] eqA33
def sallyportbase_Bytes.f (l0 : List Int) : Option (List Int) := (some (([] : List Int) : List Int)).bind fun y101 => (if y101.length + l0.length < 140737488355328 then (some (y101 ++ l0)) else (none))
set_option maxHeartbeats 8000000 in
set_option maxRecDepth 100000 in
theorem sallyportbase_Bytes.calls (A0 : Option Addr) (c0 : Nat) (l0 : List Int) (r : List Int) (w : World) (hr0 : Kd.C (Kd.int .u8) w A0 l0.length l0) (hc0 : l0.length ≤ c0) (h : sallyportbase_Bytes.f l0 = some r) :
  Calls Tryz.prog 12 #[.slice A0 l0.length c0] w fun e w' => ∃ v0_ : Value, e = .returned (v0_) ∧ Kd.R (Kd.int .u8) 5 w' w.heap.size (fun _ => True) v0_ r ∧ Below w.heap.size w w' := by
 have HR0 := Aside0.mk hr0
 have HC0 := Aside0.mk hc0
 clear hr0 hc0
 have HB := Aside0.mk (Below.refl w.heap.size w)
 have H : ((some (([] : List Int) : List Int)).bind fun y101 => (if y101.length + l0.length < 140737488355328 then (some (y101 ++ l0)) else (none))) = some r := h
 clear h
 obtain ⟨y101, hy101⟩ : ∃ y_ : List Int, y_ = (([] : List Int)) := ⟨_, rfl⟩
 replace H : (if y101.length + l0.length < 140737488355328 then (some (y101 ++ l0)) else (none)) = some r := by first | (rw [hy101]; with_reducible exact H) | (have H2_ := (Option.bind_some _ _).symm.trans H; rw [hy101]; with_reducible exact H2_) | (have H2_ := (Option.bind_some _ _).symm.trans H; with_reducible exact H2_) | with_reducible exact H | (rw [hy101]; exact H) | exact H
 have Ny101 := Aside0.mk hy101
 clear hy101
 by_cases c2 : y101.length + l0.length < 140737488355328
 ·rw [if_pos c2] at H
  have LMc2 := Aside0.mk c2
  clear c2
  obtain ⟨y104, hy104⟩ : ∃ y_ : List Int, y_ = (y101 ++ l0) := ⟨_, rfl⟩
  replace H : (some y104) = some r := by first | (rw [hy104]; with_reducible exact H) | (have H2_ := (Option.bind_some _ _).symm.trans H; rw [hy104]; with_reducible exact H2_) | (have H2_ := (Option.bind_some _ _).symm.trans H; with_reducible exact H2_) | with_reducible exact H | (rw [hy104]; exact H) | exact H
  have Ny104 := Aside0.mk hy104
  clear hy104
  obtain rfl := Option.some.inj H
  go_enter Tryz.func12, Tryz.ntmps12
  go_wp2_with (first | ((with_reducible refine gate_dst (N := 3) rfl ?_); refine Kd.R_lit (Kd.int .u8) _ 5 ?hg (N := 3) ?hd (xs := ([] : List Int)) (inner := []) (ok := fun _ => True) (okp := fun _ => True) ?hr ?hp (fun _ hk => hk) trivial (Below.refl _ _) (Nat.le_refl _) (by simp) ?_; (case hd => rfl); (case hg => rfl); (case hr => first | (go_simp; done) | (go_simp; rfl)); (case hp => exact (Reps.none _ _)); intro v102 w3 ho4 hb hg_ hnew_; clear hg_ hnew_; (first | rw [← Ny101.out] at ho4 | (simp only [Int.reduceToNat] at ho4; rw [← Ny101.out] at ho4)); have n0_ := Aside0.mk (Kd.R_lower ho4 (below_size (by repeat (first | (with_reducible first | exact HB.out | apply below_alloc | apply pw_below_drewN | apply below_drew1) | exact HB.out)))); have n1_ := Aside0.mk (below_step (by repeat (first | (with_reducible first | exact HB.out | apply below_alloc | apply pw_below_drewN | apply below_drew1) | exact HB.out)) hb); clear HB; have HO103 := n0_; have HB := n1_; clear n0_ n1_; clear hb ho4) | ((with_reducible refine gate_builtin (b := .append) (xs := #[.tmp 3, .tmp 4]) rfl ?_); at_builtin; refine Kd.R_append_rows (Kd.int .u8) (w0 := w) w.heap.size rfl (.tmp 3) (.tmp 4) 22 5 (.int .u8 0) 1 rfl Tryz.underlying22 info5 rfl (by decide) (by omega) v102 y101 l0 _ _ _ (fun _ => True) (fun _ => False) rfl rfl ?aO ?aR (fun _ _ h => h) (fun _ h => h.elim) ?aF ?aB ?aS ?aL ?_; (case aR => repeat (first | exact (Kd.C_below HR0.out HB.out) | (with_reducible refine Kd.C_alloc ?_ _) | (with_reducible refine Kd.C_drewN ?_ _) | (with_reducible refine Kd.C_drew ?_))); (case aB => exact (by repeat (first | (with_reducible first | exact HB.out | apply below_alloc | apply pw_below_drewN | apply below_drew1) | exact HB.out))); (case aF => exact (fun _ _ => trivial)); (case aO => exact (by (with_reducible repeat (first | apply Kd.R_alloc | apply Kd.R_drewN | apply Kd.R_drew)); exact HO103.out)); (case aS => exact (below_size (by repeat (first | (with_reducible first | exact HB.out | apply below_alloc | apply pw_below_drewN | apply below_drew1) | exact HB.out)))); (case aL => have := LMc2.out; omega); intro v105 w5 ho hb hg hat; rw [← Ny104.out] at ho; have n0_ := Aside0.mk (hb); have n1_ := Aside0.mk (ho); clear HB; clear HO103; have HB := n0_; have HO106 := n1_; clear n0_ n1_; clear ho hb hg hat))
  go_ret
  exact ⟨_, by first | rfl | (simp [errW_none, errW_some] <;> rfl) | (simp [*, errW_none, errW_some] <;> rfl), by (with_reducible repeat (first | apply Kd.R_alloc | apply Kd.R_drewN | apply Kd.R_drew)); exact HO106.out, by repeat (first | (with_reducible first | exact HB.out | apply below_alloc | apply pw_below_drewN | apply below_drew1) | exact HB.out)⟩
 ·rw [if_neg c2] at H
  exact absurd H (by simp)
def sallyportbase_SameRequest.f (k : Nat) (a0_0 : ByteArray) (a0_1 : Int) (a0_2 : Int) (a0_3 : Int) (a0_4 : Int) (a0_5 : ByteArray) (a0_6 : Int) (a0_7 : ByteArray) (l0_8 : List (S72)) (a1_0 : ByteArray) (a1_1 : Int) (a1_2 : Int) (a1_3 : Int) (a1_4 : Int) (a1_5 : ByteArray) (a1_6 : Int) (a1_7 : ByteArray) (l1_8 : List (S72)) : Option (Bool) := if a0_0.toList = a1_0.toList then (if (((a0_1 == a1_1 && (a0_2 == a1_2 && (a0_3 == a1_3 && (a0_4 == a1_4)))) && (a0_5.toList == a1_5.toList)) && (a0_6 == a1_6)) = true then (if a0_7.toList = a1_7.toList then ((XK.sallyportbase_SameFields.f k l0_8 l1_8).bind fun t109 => (some t109)) else (some false)) else (some false)) else (some false)
theorem sallyportbase_SameRequest.mono : ∀ a0 a1 a2 a3 a4 a5 a6 a7 a8 a9 a10 a11 a12 a13 a14 a15 a16 a17 k, LeO (sallyportbase_SameRequest.f k a0 a1 a2 a3 a4 a5 a6 a7 a8 a9 a10 a11 a12 a13 a14 a15 a16 a17) (sallyportbase_SameRequest.f (k + 1) a0 a1 a2 a3 a4 a5 a6 a7 a8 a9 a10 a11 a12 a13 a14 a15 a16 a17) := by
 intro a0 a1 a2 a3 a4 a5 a6 a7 a8 a9 a10 a11 a12 a13 a14 a15 a16 a17 k
 unfold sallyportbase_SameRequest.f
 repeat' first
   | (with_reducible exact XK.sallyportbase_SameFields.mono _ _ _)
   | (with_reducible exact LeO.refl _)
   | (with_reducible exact LeO.none _)
   | (with_reducible refine LeO.ite ?_ ?_)
   | (with_reducible refine LeO.bind ?_ (fun _ => ?_))
   | exact XK.sallyportbase_SameFields.mono _ _ _
   | exact LeO.none _
   | refine LeO.ite ?_ ?_
   | refine LeO.bind ?_ (fun _ => ?_)
set_option maxHeartbeats 8000000 in
set_option maxRecDepth 100000 in
theorem sallyportbase_SameRequest.calls (k : Nat) (a0_0 : ByteArray) (a0_1 : Int) (a0_2 : Int) (a0_3 : Int) (a0_4 : Int) (a0_5 : ByteArray) (a0_6 : Int) (a0_7 : ByteArray) (A0_8 : Option Addr) (c0_8 : Nat) (l0_8 : List (S72)) (a1_0 : ByteArray) (a1_1 : Int) (a1_2 : Int) (a1_3 : Int) (a1_4 : Int) (a1_5 : ByteArray) (a1_6 : Int) (a1_7 : ByteArray) (A1_8 : Option Addr) (c1_8 : Nat) (l1_8 : List (S72)) (r : Bool) (w : World) (hr0_8 : Kd.C k72 w A0_8 l0_8.length l0_8) (hc0_8 : l0_8.length ≤ c0_8) (hr1_8 : Kd.C k72 w A1_8 l1_8.length l1_8) (hc1_8 : l1_8.length ≤ c1_8) (h : sallyportbase_SameRequest.f k a0_0 a0_1 a0_2 a0_3 a0_4 a0_5 a0_6 a0_7 l0_8 a1_0 a1_1 a1_2 a1_3 a1_4 a1_5 a1_6 a1_7 l1_8 = some r) :
  Calls Tryz.prog 15 #[.agg #[.string a0_0, .int .u8 a0_1, .int .u8 a0_2, .int .u8 a0_3, .int .u8 a0_4, .string a0_5, .int .i64 a0_6, .string a0_7, .slice A0_8 l0_8.length c0_8], .agg #[.string a1_0, .int .u8 a1_1, .int .u8 a1_2, .int .u8 a1_3, .int .u8 a1_4, .string a1_5, .int .i64 a1_6, .string a1_7, .slice A1_8 l1_8.length c1_8]] w fun e w' => e = .returned (.bool r) ∧ Below w.heap.size w w' := by
 have hu36 := Tryz.underlying36
 have hu33 := Tryz.underlying33
 have HR0_8 := Aside0.mk hr0_8
 have HC0_8 := Aside0.mk hc0_8
 clear hr0_8 hc0_8
 have HR1_8 := Aside0.mk hr1_8
 have HC1_8 := Aside0.mk hc1_8
 clear hr1_8 hc1_8
 have HB := Aside0.mk (Below.refl w.heap.size w)
 have H : (if a0_0.toList = a1_0.toList then (if (((a0_1 == a1_1 && (a0_2 == a1_2 && (a0_3 == a1_3 && (a0_4 == a1_4)))) && (a0_5.toList == a1_5.toList)) && (a0_6 == a1_6)) = true then (if a0_7.toList = a1_7.toList then ((XK.sallyportbase_SameFields.f k l0_8 l1_8).bind fun t109 => (some t109)) else (some false)) else (some false)) else (some false)) = some r := h
 clear h
 by_cases c3 : a0_0.toList = a1_0.toList
 ·rw [if_pos c3] at H
  have c3b0 : (a0_0.toList == a1_0.toList) = true := beq_iff_eq.mpr c3
  have c3b1 : (a0_0.toList != a1_0.toList) = false := bne_eq_false_iff_eq.mpr c3
  clear c3
  by_cases c4 : (((a0_1 == a1_1 && (a0_2 == a1_2 && (a0_3 == a1_3 && (a0_4 == a1_4)))) && (a0_5.toList == a1_5.toList)) && (a0_6 == a1_6)) = true
  ·rw [if_pos c4] at H
   have c4b0 : (((a0_1 == a1_1 && (a0_2 == a1_2 && (a0_3 == a1_3 && (a0_4 == a1_4)))) && (a0_5.toList == a1_5.toList)) && (a0_6 == a1_6)) = true := c4
   clear c4
   by_cases c5 : a0_7.toList = a1_7.toList
   ·rw [if_pos c5] at H
    have c5b0 : (a0_7.toList == a1_7.toList) = true := beq_iff_eq.mpr c5
    have c5b1 : (a0_7.toList != a1_7.toList) = false := bne_eq_false_iff_eq.mpr c5
    clear c5
    replace H := Option.bind_eq_some_iff.mp H
    obtain ⟨t109, A60, H⟩ := H
    replace H : (some t109) = some r := H
    have A6 := Aside0.mk A60
    clear A60
    obtain rfl := Option.some.inj H
    go_enter Tryz.func15, Tryz.ntmps15
    go_wp2_with (first | ((with_reducible refine gate_dst (N := 2) rfl ?_); refine box_event ?hg (N := 2) ?hd (cs := #[.string a0_0, .int .u8 a0_1, .int .u8 a0_2, .int .u8 a0_3, .int .u8 a0_4, .string a0_5, .int .i64 a0_6, .string a0_7, .slice A0_8 l0_8.length c0_8]) (t := 36) ?hr ?_; (case hd => rfl); (case hg => rfl); (case hr => first | (go_simp; done) | (go_simp; rfl)); intro gb107 hg w7 hbox hb; have n0_ := Aside0.mk (below_step (by repeat (first | (with_reducible first | exact HB.out | apply below_alloc | apply pw_below_drewN | apply below_drew1) | exact HB.out)) hb); have n1_ := Aside0.mk (hbox); have n2_ := Aside0.mk ((by rw [hg]; exact (below_size (by repeat (first | (with_reducible first | exact HB.out | apply below_alloc | apply pw_below_drewN | apply below_drew1) | exact HB.out))) : w.heap.size ≤ gb107)); have n3_ := Aside0.mk ((by rw [hg]; exact (below_size (by repeat (first | (with_reducible first | exact HB.out | apply below_alloc | apply pw_below_drewN | apply below_drew1) | exact HB.out))) : w.heap.size ≤ gb107)); clear HB; have HB := n0_; have BK107 := n1_; have GW107 := n2_; have GE107 := n3_; clear n0_ n1_ n2_ n3_; clear hb hbox hg) | ((with_reducible refine gate_dst (N := 3) rfl ?_); refine box_event ?hg (N := 3) ?hd (cs := #[.string a1_0, .int .u8 a1_1, .int .u8 a1_2, .int .u8 a1_3, .int .u8 a1_4, .string a1_5, .int .i64 a1_6, .string a1_7, .slice A1_8 l1_8.length c1_8]) (t := 36) ?hr ?_; (case hd => rfl); (case hg => rfl); (case hr => first | (go_simp; done) | (go_simp; rfl)); intro gb108 hg w8 hbox hb; have n0_ := Aside0.mk (blk_below (g := gb107) (o := .cells #[.string a0_0, .int .u8 a0_1, .int .u8 a0_2, .int .u8 a0_3, .int .u8 a0_4, .string a0_5, .int .i64 a0_6, .string a0_7, .slice A0_8 l0_8.length c0_8] 36 (0, 0)) (by (with_reducible repeat (first | refine blk_drewN ?_ _ | refine blk_drew ?_ | refine blk_alloc ?_ _)); exact BK107.out) hb); have n1_ := Aside0.mk (below_step (by repeat (first | (with_reducible first | exact HB.out | apply below_alloc | apply pw_below_drewN | apply below_drew1 | refine below_set ?_ GE107.out) | exact HB.out)) hb); have n2_ := Aside0.mk (hbox); have n3_ := Aside0.mk ((by rw [hg]; exact (below_size (by repeat (first | (with_reducible first | exact HB.out | apply below_alloc | apply pw_below_drewN | apply below_drew1 | refine below_set ?_ GE107.out) | exact HB.out))) : w.heap.size ≤ gb108)); have n4_ := Aside0.mk ((by rw [hg]; exact (below_size (by repeat (first | (with_reducible first | exact HB.out | apply below_alloc | apply pw_below_drewN | apply below_drew1 | refine below_set ?_ GE107.out) | exact HB.out))) : w.heap.size ≤ gb108)); have n5_ := Aside0.mk ((by rw [hg]; exact Nat.ne_of_lt (blk_lt (g := gb107) (o := .cells #[.string a0_0, .int .u8 a0_1, .int .u8 a0_2, .int .u8 a0_3, .int .u8 a0_4, .string a0_5, .int .i64 a0_6, .string a0_7, .slice A0_8 l0_8.length c0_8] 36 (0, 0)) (by (with_reducible repeat (first | refine blk_drewN ?_ _ | refine blk_drew ?_ | refine blk_alloc ?_ _)); exact BK107.out)) : gb107 ≠ gb108)); have n6_ := Aside0.mk ((by rw [hg]; exact Nat.ne_of_gt (blk_lt (g := gb107) (o := .cells #[.string a0_0, .int .u8 a0_1, .int .u8 a0_2, .int .u8 a0_3, .int .u8 a0_4, .string a0_5, .int .i64 a0_6, .string a0_7, .slice A0_8 l0_8.length c0_8] 36 (0, 0)) (by (with_reducible repeat (first | refine blk_drewN ?_ _ | refine blk_drew ?_ | refine blk_alloc ?_ _)); exact BK107.out)) : gb108 ≠ gb107)); clear BK107; clear HB; have BK107 := n0_; have HB := n1_; have BK108 := n2_; have GW108 := n3_; have GE108 := n4_; have NB107_108 := n5_; have NB108_107 := n6_; clear n0_ n1_ n2_ n3_ n4_ n5_ n6_; clear hb hbox hg; have hnb9 := NB107_108.out; have hnc9 := NB108_107.out; have hcz10_0 : w8.cell? ⟨gb107, 0, none⟩ = some (.string a0_0) := (blk_cell BK107.out 0).trans rfl; have hcz10_1 : w8.cell? ⟨gb107, 1, none⟩ = some (.int .u8 a0_1) := (blk_cell BK107.out 1).trans rfl; have hcz10_2 : w8.cell? ⟨gb107, 2, none⟩ = some (.int .u8 a0_2) := (blk_cell BK107.out 2).trans rfl; have hcz10_3 : w8.cell? ⟨gb107, 3, none⟩ = some (.int .u8 a0_3) := (blk_cell BK107.out 3).trans rfl; have hcz10_4 : w8.cell? ⟨gb107, 4, none⟩ = some (.int .u8 a0_4) := (blk_cell BK107.out 4).trans rfl; have hcz10_5 : w8.cell? ⟨gb107, 5, none⟩ = some (.string a0_5) := (blk_cell BK107.out 5).trans rfl; have hcz10_6 : w8.cell? ⟨gb107, 6, none⟩ = some (.int .i64 a0_6) := (blk_cell BK107.out 6).trans rfl; have hcz10_7 : w8.cell? ⟨gb107, 7, none⟩ = some (.string a0_7) := (blk_cell BK107.out 7).trans rfl; have hcz10_8 : w8.cell? ⟨gb107, 8, none⟩ = some (.slice A0_8 l0_8.length c0_8) := (blk_cell BK107.out 8).trans rfl; have hfz10_0 := blk_frozen BK107.out 0; have hfz10_1 := blk_frozen BK107.out 1; have hfz10_2 := blk_frozen BK107.out 2; have hfz10_3 := blk_frozen BK107.out 3; have hfz10_4 := blk_frozen BK107.out 4; have hfz10_5 := blk_frozen BK107.out 5; have hfz10_6 := blk_frozen BK107.out 6; have hfz10_7 := blk_frozen BK107.out 7; have hfz10_8 := blk_frozen BK107.out 8; have hcz11_0 : w8.cell? ⟨gb108, 0, none⟩ = some (.string a1_0) := (blk_cell BK108.out 0).trans rfl; have hcz11_1 : w8.cell? ⟨gb108, 1, none⟩ = some (.int .u8 a1_1) := (blk_cell BK108.out 1).trans rfl; have hcz11_2 : w8.cell? ⟨gb108, 2, none⟩ = some (.int .u8 a1_2) := (blk_cell BK108.out 2).trans rfl; have hcz11_3 : w8.cell? ⟨gb108, 3, none⟩ = some (.int .u8 a1_3) := (blk_cell BK108.out 3).trans rfl; have hcz11_4 : w8.cell? ⟨gb108, 4, none⟩ = some (.int .u8 a1_4) := (blk_cell BK108.out 4).trans rfl; have hcz11_5 : w8.cell? ⟨gb108, 5, none⟩ = some (.string a1_5) := (blk_cell BK108.out 5).trans rfl; have hcz11_6 : w8.cell? ⟨gb108, 6, none⟩ = some (.int .i64 a1_6) := (blk_cell BK108.out 6).trans rfl; have hcz11_7 : w8.cell? ⟨gb108, 7, none⟩ = some (.string a1_7) := (blk_cell BK108.out 7).trans rfl; have hcz11_8 : w8.cell? ⟨gb108, 8, none⟩ = some (.slice A1_8 l1_8.length c1_8) := (blk_cell BK108.out 8).trans rfl; have hfz11_0 := blk_frozen BK108.out 0; have hfz11_1 := blk_frozen BK108.out 1; have hfz11_2 := blk_frozen BK108.out 2; have hfz11_3 := blk_frozen BK108.out 3; have hfz11_4 := blk_frozen BK108.out 4; have hfz11_5 := blk_frozen BK108.out 5; have hfz11_6 := blk_frozen BK108.out 6; have hfz11_7 := blk_frozen BK108.out 7; have hfz11_8 := blk_frozen BK108.out 8) | (go_at_call 42; (with_reducible refine (XK.sallyportbase_SameFields.calls k _ _ l0_8 _ _ l1_8 t109 _ ?side1 ?side2 ?side3 ?side4 A6.out).mono ?_); (case side1 => repeat (first | exact (Kd.C_below HR0_8.out HB.out) | (with_reducible refine Kd.C_alloc ?_ _) | (with_reducible refine Kd.C_drewN ?_ _) | (with_reducible refine Kd.C_drew ?_))); (case side2 => exact HC0_8.out); (case side3 => repeat (first | exact (Kd.C_below HR1_8.out HB.out) | (with_reducible refine Kd.C_alloc ?_ _) | (with_reducible refine Kd.C_drewN ?_ _) | (with_reducible refine Kd.C_drew ?_))); (case side4 => exact HC1_8.out); rintro e w' ⟨rfl, ⟨nd, rfl⟩⟩))
    go_ret
    exact ⟨by first | rfl | (simp [errW_none, errW_some] <;> rfl) | (simp [*, errW_none, errW_some] <;> rfl), by repeat (first | (with_reducible first | exact HB.out | apply below_alloc | apply pw_below_drewN | apply below_drew1 | refine below_set ?_ GE107.out | refine below_set ?_ GE108.out) | exact HB.out)⟩
   ·rw [if_neg c5] at H
    have c5b0 : (a0_7.toList == a1_7.toList) = false := beq_eq_false_iff_ne.mpr c5
    have c5b1 : (a0_7.toList != a1_7.toList) = true := bne_iff_ne.mpr c5
    obtain rfl := Option.some.inj H
    go_enter Tryz.func15, Tryz.ntmps15
    go_wp2_with (first | ((with_reducible refine gate_dst (N := 2) rfl ?_); refine box_event ?hg (N := 2) ?hd (cs := #[.string a0_0, .int .u8 a0_1, .int .u8 a0_2, .int .u8 a0_3, .int .u8 a0_4, .string a0_5, .int .i64 a0_6, .string a0_7, .slice A0_8 l0_8.length c0_8]) (t := 36) ?hr ?_; (case hd => rfl); (case hg => rfl); (case hr => first | (go_simp; done) | (go_simp; rfl)); intro gb107 hg w12 hbox hb; have n0_ := Aside0.mk (below_step (by repeat (first | (with_reducible first | exact HB.out | apply below_alloc | apply pw_below_drewN | apply below_drew1) | exact HB.out)) hb); have n1_ := Aside0.mk (hbox); have n2_ := Aside0.mk ((by rw [hg]; exact (below_size (by repeat (first | (with_reducible first | exact HB.out | apply below_alloc | apply pw_below_drewN | apply below_drew1) | exact HB.out))) : w.heap.size ≤ gb107)); have n3_ := Aside0.mk ((by rw [hg]; exact (below_size (by repeat (first | (with_reducible first | exact HB.out | apply below_alloc | apply pw_below_drewN | apply below_drew1) | exact HB.out))) : w.heap.size ≤ gb107)); clear HB; have HB := n0_; have BK107 := n1_; have GW107 := n2_; have GE107 := n3_; clear n0_ n1_ n2_ n3_; clear hb hbox hg) | ((with_reducible refine gate_dst (N := 3) rfl ?_); refine box_event ?hg (N := 3) ?hd (cs := #[.string a1_0, .int .u8 a1_1, .int .u8 a1_2, .int .u8 a1_3, .int .u8 a1_4, .string a1_5, .int .i64 a1_6, .string a1_7, .slice A1_8 l1_8.length c1_8]) (t := 36) ?hr ?_; (case hd => rfl); (case hg => rfl); (case hr => first | (go_simp; done) | (go_simp; rfl)); intro gb108 hg w13 hbox hb; have n0_ := Aside0.mk (blk_below (g := gb107) (o := .cells #[.string a0_0, .int .u8 a0_1, .int .u8 a0_2, .int .u8 a0_3, .int .u8 a0_4, .string a0_5, .int .i64 a0_6, .string a0_7, .slice A0_8 l0_8.length c0_8] 36 (0, 0)) (by (with_reducible repeat (first | refine blk_drewN ?_ _ | refine blk_drew ?_ | refine blk_alloc ?_ _)); exact BK107.out) hb); have n1_ := Aside0.mk (below_step (by repeat (first | (with_reducible first | exact HB.out | apply below_alloc | apply pw_below_drewN | apply below_drew1 | refine below_set ?_ GE107.out) | exact HB.out)) hb); have n2_ := Aside0.mk (hbox); have n3_ := Aside0.mk ((by rw [hg]; exact (below_size (by repeat (first | (with_reducible first | exact HB.out | apply below_alloc | apply pw_below_drewN | apply below_drew1 | refine below_set ?_ GE107.out) | exact HB.out))) : w.heap.size ≤ gb108)); have n4_ := Aside0.mk ((by rw [hg]; exact (below_size (by repeat (first | (with_reducible first | exact HB.out | apply below_alloc | apply pw_below_drewN | apply below_drew1 | refine below_set ?_ GE107.out) | exact HB.out))) : w.heap.size ≤ gb108)); have n5_ := Aside0.mk ((by rw [hg]; exact Nat.ne_of_lt (blk_lt (g := gb107) (o := .cells #[.string a0_0, .int .u8 a0_1, .int .u8 a0_2, .int .u8 a0_3, .int .u8 a0_4, .string a0_5, .int .i64 a0_6, .string a0_7, .slice A0_8 l0_8.length c0_8] 36 (0, 0)) (by (with_reducible repeat (first | refine blk_drewN ?_ _ | refine blk_drew ?_ | refine blk_alloc ?_ _)); exact BK107.out)) : gb107 ≠ gb108)); have n6_ := Aside0.mk ((by rw [hg]; exact Nat.ne_of_gt (blk_lt (g := gb107) (o := .cells #[.string a0_0, .int .u8 a0_1, .int .u8 a0_2, .int .u8 a0_3, .int .u8 a0_4, .string a0_5, .int .i64 a0_6, .string a0_7, .slice A0_8 l0_8.length c0_8] 36 (0, 0)) (by (with_reducible repeat (first | refine blk_drewN ?_ _ | refine blk_drew ?_ | refine blk_alloc ?_ _)); exact BK107.out)) : gb108 ≠ gb107)); clear BK107; clear HB; have BK107 := n0_; have HB := n1_; have BK108 := n2_; have GW108 := n3_; have GE108 := n4_; have NB107_108 := n5_; have NB108_107 := n6_; clear n0_ n1_ n2_ n3_ n4_ n5_ n6_; clear hb hbox hg; have hnb14 := NB107_108.out; have hnc14 := NB108_107.out; have hcz15_0 : w13.cell? ⟨gb107, 0, none⟩ = some (.string a0_0) := (blk_cell BK107.out 0).trans rfl; have hcz15_1 : w13.cell? ⟨gb107, 1, none⟩ = some (.int .u8 a0_1) := (blk_cell BK107.out 1).trans rfl; have hcz15_2 : w13.cell? ⟨gb107, 2, none⟩ = some (.int .u8 a0_2) := (blk_cell BK107.out 2).trans rfl; have hcz15_3 : w13.cell? ⟨gb107, 3, none⟩ = some (.int .u8 a0_3) := (blk_cell BK107.out 3).trans rfl; have hcz15_4 : w13.cell? ⟨gb107, 4, none⟩ = some (.int .u8 a0_4) := (blk_cell BK107.out 4).trans rfl; have hcz15_5 : w13.cell? ⟨gb107, 5, none⟩ = some (.string a0_5) := (blk_cell BK107.out 5).trans rfl; have hcz15_6 : w13.cell? ⟨gb107, 6, none⟩ = some (.int .i64 a0_6) := (blk_cell BK107.out 6).trans rfl; have hcz15_7 : w13.cell? ⟨gb107, 7, none⟩ = some (.string a0_7) := (blk_cell BK107.out 7).trans rfl; have hcz15_8 : w13.cell? ⟨gb107, 8, none⟩ = some (.slice A0_8 l0_8.length c0_8) := (blk_cell BK107.out 8).trans rfl; have hfz15_0 := blk_frozen BK107.out 0; have hfz15_1 := blk_frozen BK107.out 1; have hfz15_2 := blk_frozen BK107.out 2; have hfz15_3 := blk_frozen BK107.out 3; have hfz15_4 := blk_frozen BK107.out 4; have hfz15_5 := blk_frozen BK107.out 5; have hfz15_6 := blk_frozen BK107.out 6; have hfz15_7 := blk_frozen BK107.out 7; have hfz15_8 := blk_frozen BK107.out 8; have hcz16_0 : w13.cell? ⟨gb108, 0, none⟩ = some (.string a1_0) := (blk_cell BK108.out 0).trans rfl; have hcz16_1 : w13.cell? ⟨gb108, 1, none⟩ = some (.int .u8 a1_1) := (blk_cell BK108.out 1).trans rfl; have hcz16_2 : w13.cell? ⟨gb108, 2, none⟩ = some (.int .u8 a1_2) := (blk_cell BK108.out 2).trans rfl; have hcz16_3 : w13.cell? ⟨gb108, 3, none⟩ = some (.int .u8 a1_3) := (blk_cell BK108.out 3).trans rfl; have hcz16_4 : w13.cell? ⟨gb108, 4, none⟩ = some (.int .u8 a1_4) := (blk_cell BK108.out 4).trans rfl; have hcz16_5 : w13.cell? ⟨gb108, 5, none⟩ = some (.string a1_5) := (blk_cell BK108.out 5).trans rfl; have hcz16_6 : w13.cell? ⟨gb108, 6, none⟩ = some (.int .i64 a1_6) := (blk_cell BK108.out 6).trans rfl; have hcz16_7 : w13.cell? ⟨gb108, 7, none⟩ = some (.string a1_7) := (blk_cell BK108.out 7).trans rfl; have hcz16_8 : w13.cell? ⟨gb108, 8, none⟩ = some (.slice A1_8 l1_8.length c1_8) := (blk_cell BK108.out 8).trans rfl; have hfz16_0 := blk_frozen BK108.out 0; have hfz16_1 := blk_frozen BK108.out 1; have hfz16_2 := blk_frozen BK108.out 2; have hfz16_3 := blk_frozen BK108.out 3; have hfz16_4 := blk_frozen BK108.out 4; have hfz16_5 := blk_frozen BK108.out 5; have hfz16_6 := blk_frozen BK108.out 6; have hfz16_7 := blk_frozen BK108.out 7; have hfz16_8 := blk_frozen BK108.out 8))
    go_ret
    exact ⟨by first | rfl | (simp [errW_none, errW_some] <;> rfl) | (simp [*, errW_none, errW_some] <;> rfl), by repeat (first | (with_reducible first | exact HB.out | apply below_alloc | apply pw_below_drewN | apply below_drew1 | refine below_set ?_ GE107.out | refine below_set ?_ GE108.out) | exact HB.out)⟩
  ·rw [if_neg c4] at H
   have c4b0 : (((a0_1 == a1_1 && (a0_2 == a1_2 && (a0_3 == a1_3 && (a0_4 == a1_4)))) && (a0_5.toList == a1_5.toList)) && (a0_6 == a1_6)) = false := by simpa using c4
   clear c4
   obtain rfl := Option.some.inj H
   go_enter Tryz.func15, Tryz.ntmps15
   go_wp2_with (first | ((with_reducible refine gate_dst (N := 2) rfl ?_); refine box_event ?hg (N := 2) ?hd (cs := #[.string a0_0, .int .u8 a0_1, .int .u8 a0_2, .int .u8 a0_3, .int .u8 a0_4, .string a0_5, .int .i64 a0_6, .string a0_7, .slice A0_8 l0_8.length c0_8]) (t := 36) ?hr ?_; (case hd => rfl); (case hg => rfl); (case hr => first | (go_simp; done) | (go_simp; rfl)); intro gb107 hg w17 hbox hb; have n0_ := Aside0.mk (below_step (by repeat (first | (with_reducible first | exact HB.out | apply below_alloc | apply pw_below_drewN | apply below_drew1) | exact HB.out)) hb); have n1_ := Aside0.mk (hbox); have n2_ := Aside0.mk ((by rw [hg]; exact (below_size (by repeat (first | (with_reducible first | exact HB.out | apply below_alloc | apply pw_below_drewN | apply below_drew1) | exact HB.out))) : w.heap.size ≤ gb107)); have n3_ := Aside0.mk ((by rw [hg]; exact (below_size (by repeat (first | (with_reducible first | exact HB.out | apply below_alloc | apply pw_below_drewN | apply below_drew1) | exact HB.out))) : w.heap.size ≤ gb107)); clear HB; have HB := n0_; have BK107 := n1_; have GW107 := n2_; have GE107 := n3_; clear n0_ n1_ n2_ n3_; clear hb hbox hg) | ((with_reducible refine gate_dst (N := 3) rfl ?_); refine box_event ?hg (N := 3) ?hd (cs := #[.string a1_0, .int .u8 a1_1, .int .u8 a1_2, .int .u8 a1_3, .int .u8 a1_4, .string a1_5, .int .i64 a1_6, .string a1_7, .slice A1_8 l1_8.length c1_8]) (t := 36) ?hr ?_; (case hd => rfl); (case hg => rfl); (case hr => first | (go_simp; done) | (go_simp; rfl)); intro gb108 hg w18 hbox hb; have n0_ := Aside0.mk (blk_below (g := gb107) (o := .cells #[.string a0_0, .int .u8 a0_1, .int .u8 a0_2, .int .u8 a0_3, .int .u8 a0_4, .string a0_5, .int .i64 a0_6, .string a0_7, .slice A0_8 l0_8.length c0_8] 36 (0, 0)) (by (with_reducible repeat (first | refine blk_drewN ?_ _ | refine blk_drew ?_ | refine blk_alloc ?_ _)); exact BK107.out) hb); have n1_ := Aside0.mk (below_step (by repeat (first | (with_reducible first | exact HB.out | apply below_alloc | apply pw_below_drewN | apply below_drew1 | refine below_set ?_ GE107.out) | exact HB.out)) hb); have n2_ := Aside0.mk (hbox); have n3_ := Aside0.mk ((by rw [hg]; exact (below_size (by repeat (first | (with_reducible first | exact HB.out | apply below_alloc | apply pw_below_drewN | apply below_drew1 | refine below_set ?_ GE107.out) | exact HB.out))) : w.heap.size ≤ gb108)); have n4_ := Aside0.mk ((by rw [hg]; exact (below_size (by repeat (first | (with_reducible first | exact HB.out | apply below_alloc | apply pw_below_drewN | apply below_drew1 | refine below_set ?_ GE107.out) | exact HB.out))) : w.heap.size ≤ gb108)); have n5_ := Aside0.mk ((by rw [hg]; exact Nat.ne_of_lt (blk_lt (g := gb107) (o := .cells #[.string a0_0, .int .u8 a0_1, .int .u8 a0_2, .int .u8 a0_3, .int .u8 a0_4, .string a0_5, .int .i64 a0_6, .string a0_7, .slice A0_8 l0_8.length c0_8] 36 (0, 0)) (by (with_reducible repeat (first | refine blk_drewN ?_ _ | refine blk_drew ?_ | refine blk_alloc ?_ _)); exact BK107.out)) : gb107 ≠ gb108)); have n6_ := Aside0.mk ((by rw [hg]; exact Nat.ne_of_gt (blk_lt (g := gb107) (o := .cells #[.string a0_0, .int .u8 a0_1, .int .u8 a0_2, .int .u8 a0_3, .int .u8 a0_4, .string a0_5, .int .i64 a0_6, .string a0_7, .slice A0_8 l0_8.length c0_8] 36 (0, 0)) (by (with_reducible repeat (first | refine blk_drewN ?_ _ | refine blk_drew ?_ | refine blk_alloc ?_ _)); exact BK107.out)) : gb108 ≠ gb107)); clear BK107; clear HB; have BK107 := n0_; have HB := n1_; have BK108 := n2_; have GW108 := n3_; have GE108 := n4_; have NB107_108 := n5_; have NB108_107 := n6_; clear n0_ n1_ n2_ n3_ n4_ n5_ n6_; clear hb hbox hg; have hnb19 := NB107_108.out; have hnc19 := NB108_107.out; have hcz20_0 : w18.cell? ⟨gb107, 0, none⟩ = some (.string a0_0) := (blk_cell BK107.out 0).trans rfl; have hcz20_1 : w18.cell? ⟨gb107, 1, none⟩ = some (.int .u8 a0_1) := (blk_cell BK107.out 1).trans rfl; have hcz20_2 : w18.cell? ⟨gb107, 2, none⟩ = some (.int .u8 a0_2) := (blk_cell BK107.out 2).trans rfl; have hcz20_3 : w18.cell? ⟨gb107, 3, none⟩ = some (.int .u8 a0_3) := (blk_cell BK107.out 3).trans rfl; have hcz20_4 : w18.cell? ⟨gb107, 4, none⟩ = some (.int .u8 a0_4) := (blk_cell BK107.out 4).trans rfl; have hcz20_5 : w18.cell? ⟨gb107, 5, none⟩ = some (.string a0_5) := (blk_cell BK107.out 5).trans rfl; have hcz20_6 : w18.cell? ⟨gb107, 6, none⟩ = some (.int .i64 a0_6) := (blk_cell BK107.out 6).trans rfl; have hcz20_7 : w18.cell? ⟨gb107, 7, none⟩ = some (.string a0_7) := (blk_cell BK107.out 7).trans rfl; have hcz20_8 : w18.cell? ⟨gb107, 8, none⟩ = some (.slice A0_8 l0_8.length c0_8) := (blk_cell BK107.out 8).trans rfl; have hfz20_0 := blk_frozen BK107.out 0; have hfz20_1 := blk_frozen BK107.out 1; have hfz20_2 := blk_frozen BK107.out 2; have hfz20_3 := blk_frozen BK107.out 3; have hfz20_4 := blk_frozen BK107.out 4; have hfz20_5 := blk_frozen BK107.out 5; have hfz20_6 := blk_frozen BK107.out 6; have hfz20_7 := blk_frozen BK107.out 7; have hfz20_8 := blk_frozen BK107.out 8; have hcz21_0 : w18.cell? ⟨gb108, 0, none⟩ = some (.string a1_0) := (blk_cell BK108.out 0).trans rfl; have hcz21_1 : w18.cell? ⟨gb108, 1, none⟩ = some (.int .u8 a1_1) := (blk_cell BK108.out 1).trans rfl; have hcz21_2 : w18.cell? ⟨gb108, 2, none⟩ = some (.int .u8 a1_2) := (blk_cell BK108.out 2).trans rfl; have hcz21_3 : w18.cell? ⟨gb108, 3, none⟩ = some (.int .u8 a1_3) := (blk_cell BK108.out 3).trans rfl; have hcz21_4 : w18.cell? ⟨gb108, 4, none⟩ = some (.int .u8 a1_4) := (blk_cell BK108.out 4).trans rfl; have hcz21_5 : w18.cell? ⟨gb108, 5, none⟩ = some (.string a1_5) := (blk_cell BK108.out 5).trans rfl; have hcz21_6 : w18.cell? ⟨gb108, 6, none⟩ = some (.int .i64 a1_6) := (blk_cell BK108.out 6).trans rfl; have hcz21_7 : w18.cell? ⟨gb108, 7, none⟩ = some (.string a1_7) := (blk_cell BK108.out 7).trans rfl; have hcz21_8 : w18.cell? ⟨gb108, 8, none⟩ = some (.slice A1_8 l1_8.length c1_8) := (blk_cell BK108.out 8).trans rfl; have hfz21_0 := blk_frozen BK108.out 0; have hfz21_1 := blk_frozen BK108.out 1; have hfz21_2 := blk_frozen BK108.out 2; have hfz21_3 := blk_frozen BK108.out 3; have hfz21_4 := blk_frozen BK108.out 4; have hfz21_5 := blk_frozen BK108.out 5; have hfz21_6 := blk_frozen BK108.out 6; have hfz21_7 := blk_frozen BK108.out 7; have hfz21_8 := blk_frozen BK108.out 8))
   go_ret
   exact ⟨by first | rfl | (simp [errW_none, errW_some] <;> rfl) | (simp [*, errW_none, errW_some] <;> rfl), by repeat (first | (with_reducible first | exact HB.out | apply below_alloc | apply pw_below_drewN | apply below_drew1 | refine below_set ?_ GE107.out | refine below_set ?_ GE108.out) | exact HB.out)⟩
 ·rw [if_neg c3] at H
  have c3b0 : (a0_0.toList == a1_0.toList) = false := beq_eq_false_iff_ne.mpr c3
  have c3b1 : (a0_0.toList != a1_0.toList) = true := bne_iff_ne.mpr c3
  obtain rfl := Option.some.inj H
  go_enter Tryz.func15, Tryz.ntmps15
  go_wp2_with (first | ((with_reducible refine gate_dst (N := 2) rfl ?_); refine box_event ?hg (N := 2) ?hd (cs := #[.string a0_0, .int .u8 a0_1, .int .u8 a0_2, .int .u8 a0_3, .int .u8 a0_4, .string a0_5, .int .i64 a0_6, .string a0_7, .slice A0_8 l0_8.length c0_8]) (t := 36) ?hr ?_; (case hd => rfl); (case hg => rfl); (case hr => first | (go_simp; done) | (go_simp; rfl)); intro gb107 hg w22 hbox hb; have n0_ := Aside0.mk (below_step (by repeat (first | (with_reducible first | exact HB.out | apply below_alloc | apply pw_below_drewN | apply below_drew1) | exact HB.out)) hb); have n1_ := Aside0.mk (hbox); have n2_ := Aside0.mk ((by rw [hg]; exact (below_size (by repeat (first | (with_reducible first | exact HB.out | apply below_alloc | apply pw_below_drewN | apply below_drew1) | exact HB.out))) : w.heap.size ≤ gb107)); have n3_ := Aside0.mk ((by rw [hg]; exact (below_size (by repeat (first | (with_reducible first | exact HB.out | apply below_alloc | apply pw_below_drewN | apply below_drew1) | exact HB.out))) : w.heap.size ≤ gb107)); clear HB; have HB := n0_; have BK107 := n1_; have GW107 := n2_; have GE107 := n3_; clear n0_ n1_ n2_ n3_; clear hb hbox hg) | ((with_reducible refine gate_dst (N := 3) rfl ?_); refine box_event ?hg (N := 3) ?hd (cs := #[.string a1_0, .int .u8 a1_1, .int .u8 a1_2, .int .u8 a1_3, .int .u8 a1_4, .string a1_5, .int .i64 a1_6, .string a1_7, .slice A1_8 l1_8.length c1_8]) (t := 36) ?hr ?_; (case hd => rfl); (case hg => rfl); (case hr => first | (go_simp; done) | (go_simp; rfl)); intro gb108 hg w23 hbox hb; have n0_ := Aside0.mk (blk_below (g := gb107) (o := .cells #[.string a0_0, .int .u8 a0_1, .int .u8 a0_2, .int .u8 a0_3, .int .u8 a0_4, .string a0_5, .int .i64 a0_6, .string a0_7, .slice A0_8 l0_8.length c0_8] 36 (0, 0)) (by (with_reducible repeat (first | refine blk_drewN ?_ _ | refine blk_drew ?_ | refine blk_alloc ?_ _)); exact BK107.out) hb); have n1_ := Aside0.mk (below_step (by repeat (first | (with_reducible first | exact HB.out | apply below_alloc | apply pw_below_drewN | apply below_drew1 | refine below_set ?_ GE107.out) | exact HB.out)) hb); have n2_ := Aside0.mk (hbox); have n3_ := Aside0.mk ((by rw [hg]; exact (below_size (by repeat (first | (with_reducible first | exact HB.out | apply below_alloc | apply pw_below_drewN | apply below_drew1 | refine below_set ?_ GE107.out) | exact HB.out))) : w.heap.size ≤ gb108)); have n4_ := Aside0.mk ((by rw [hg]; exact (below_size (by repeat (first | (with_reducible first | exact HB.out | apply below_alloc | apply pw_below_drewN | apply below_drew1 | refine below_set ?_ GE107.out) | exact HB.out))) : w.heap.size ≤ gb108)); have n5_ := Aside0.mk ((by rw [hg]; exact Nat.ne_of_lt (blk_lt (g := gb107) (o := .cells #[.string a0_0, .int .u8 a0_1, .int .u8 a0_2, .int .u8 a0_3, .int .u8 a0_4, .string a0_5, .int .i64 a0_6, .string a0_7, .slice A0_8 l0_8.length c0_8] 36 (0, 0)) (by (with_reducible repeat (first | refine blk_drewN ?_ _ | refine blk_drew ?_ | refine blk_alloc ?_ _)); exact BK107.out)) : gb107 ≠ gb108)); have n6_ := Aside0.mk ((by rw [hg]; exact Nat.ne_of_gt (blk_lt (g := gb107) (o := .cells #[.string a0_0, .int .u8 a0_1, .int .u8 a0_2, .int .u8 a0_3, .int .u8 a0_4, .string a0_5, .int .i64 a0_6, .string a0_7, .slice A0_8 l0_8.length c0_8] 36 (0, 0)) (by (with_reducible repeat (first | refine blk_drewN ?_ _ | refine blk_drew ?_ | refine blk_alloc ?_ _)); exact BK107.out)) : gb108 ≠ gb107)); clear BK107; clear HB; have BK107 := n0_; have HB := n1_; have BK108 := n2_; have GW108 := n3_; have GE108 := n4_; have NB107_108 := n5_; have NB108_107 := n6_; clear n0_ n1_ n2_ n3_ n4_ n5_ n6_; clear hb hbox hg; have hnb24 := NB107_108.out; have hnc24 := NB108_107.out; have hcz25_0 : w23.cell? ⟨gb107, 0, none⟩ = some (.string a0_0) := (blk_cell BK107.out 0).trans rfl; have hcz25_1 : w23.cell? ⟨gb107, 1, none⟩ = some (.int .u8 a0_1) := (blk_cell BK107.out 1).trans rfl; have hcz25_2 : w23.cell? ⟨gb107, 2, none⟩ = some (.int .u8 a0_2) := (blk_cell BK107.out 2).trans rfl; have hcz25_3 : w23.cell? ⟨gb107, 3, none⟩ = some (.int .u8 a0_3) := (blk_cell BK107.out 3).trans rfl; have hcz25_4 : w23.cell? ⟨gb107, 4, none⟩ = some (.int .u8 a0_4) := (blk_cell BK107.out 4).trans rfl; have hcz25_5 : w23.cell? ⟨gb107, 5, none⟩ = some (.string a0_5) := (blk_cell BK107.out 5).trans rfl; have hcz25_6 : w23.cell? ⟨gb107, 6, none⟩ = some (.int .i64 a0_6) := (blk_cell BK107.out 6).trans rfl; have hcz25_7 : w23.cell? ⟨gb107, 7, none⟩ = some (.string a0_7) := (blk_cell BK107.out 7).trans rfl; have hcz25_8 : w23.cell? ⟨gb107, 8, none⟩ = some (.slice A0_8 l0_8.length c0_8) := (blk_cell BK107.out 8).trans rfl; have hfz25_0 := blk_frozen BK107.out 0; have hfz25_1 := blk_frozen BK107.out 1; have hfz25_2 := blk_frozen BK107.out 2; have hfz25_3 := blk_frozen BK107.out 3; have hfz25_4 := blk_frozen BK107.out 4; have hfz25_5 := blk_frozen BK107.out 5; have hfz25_6 := blk_frozen BK107.out 6; have hfz25_7 := blk_frozen BK107.out 7; have hfz25_8 := blk_frozen BK107.out 8; have hcz26_0 : w23.cell? ⟨gb108, 0, none⟩ = some (.string a1_0) := (blk_cell BK108.out 0).trans rfl; have hcz26_1 : w23.cell? ⟨gb108, 1, none⟩ = some (.int .u8 a1_1) := (blk_cell BK108.out 1).trans rfl; have hcz26_2 : w23.cell? ⟨gb108, 2, none⟩ = some (.int .u8 a1_2) := (blk_cell BK108.out 2).trans rfl; have hcz26_3 : w23.cell? ⟨gb108, 3, none⟩ = some (.int .u8 a1_3) := (blk_cell BK108.out 3).trans rfl; have hcz26_4 : w23.cell? ⟨gb108, 4, none⟩ = some (.int .u8 a1_4) := (blk_cell BK108.out 4).trans rfl; have hcz26_5 : w23.cell? ⟨gb108, 5, none⟩ = some (.string a1_5) := (blk_cell BK108.out 5).trans rfl; have hcz26_6 : w23.cell? ⟨gb108, 6, none⟩ = some (.int .i64 a1_6) := (blk_cell BK108.out 6).trans rfl; have hcz26_7 : w23.cell? ⟨gb108, 7, none⟩ = some (.string a1_7) := (blk_cell BK108.out 7).trans rfl; have hcz26_8 : w23.cell? ⟨gb108, 8, none⟩ = some (.slice A1_8 l1_8.length c1_8) := (blk_cell BK108.out 8).trans rfl; have hfz26_0 := blk_frozen BK108.out 0; have hfz26_1 := blk_frozen BK108.out 1; have hfz26_2 := blk_frozen BK108.out 2; have hfz26_3 := blk_frozen BK108.out 3; have hfz26_4 := blk_frozen BK108.out 4; have hfz26_5 := blk_frozen BK108.out 5; have hfz26_6 := blk_frozen BK108.out 6; have hfz26_7 := blk_frozen BK108.out 7; have hfz26_8 := blk_frozen BK108.out 8))
  go_ret
  exact ⟨by first | rfl | (simp [errW_none, errW_some] <;> rfl) | (simp [*, errW_none, errW_some] <;> rfl), by repeat (first | (with_reducible first | exact HB.out | apply below_alloc | apply pw_below_drewN | apply below_drew1 | refine below_set ?_ GE107.out | refine below_set ?_ GE108.out) | exact HB.out)⟩
end Go.Proofs.YtocklkaddiomhaaGreatDoor.XBy


namespace Go.Proofs.YtocklkaddiomhaaGreatDoor.XBy
open Go.Proofs.YtocklkaddiomhaaGreatDoor.XK
open Go.RowKit Go.Proofs.YtocklkaddiomhaaGreatDoorW.PrintWords Go.Proofs.YtocklkaddiomhaaGreatDoorW.PrintLast Go.Proofs.YtocklkaddiomhaaGreatDoorW.PrintMore
attribute [local go_sem] max2_int min2_int max_two min_two max_three min_three max_four min_four
set_option linter.unusedVariables false
set_option linter.unusedSimpArgs false
end Go.Proofs.YtocklkaddiomhaaGreatDoor.XBy


namespace Go.Proofs.YtocklkaddiomhaaGreatDoor.Hd
open Go.Lib
theorem empAt_congr {s t : Bs} {i : Nat} (h : ∀ j, j ≤ i + 1 → s[j]? = t[j]?) : empAt s i = empAt t i := by
  have hc : ∀ j, j ≤ i → crAt s j = crAt t j := fun j hj => by unfold crAt; rw [h j (by omega), h (j + 1) (by omega)]
  unfold empAt
  rw [hc i (Nat.le_refl _), hc (i - 2) (by omega)]
theorem endR_inr {b : Bs} {n : Nat} (h : endR b = .inr n) : headN (b.take 8192) = some n := by
  unfold endR at h
  split at h
  · rename_i m hm
    injection h with h
    rw [hm, h]
  · split at h <;> cases h
theorem endR_cut {b : Bs} {n k : Nat} (h : endR b = .inr n) (hk : k < n) : endR (b.take k) = .inl (k, 6) := by
  have hle := endR_le h
  obtain ⟨i, rfl, he, hm⟩ := headN_some (endR_inr h)
  have hl : (b.take k).length = k := by rw [List.length_take]; omega
  have hno : headN ((b.take k).take 8192) = none := headN_no _ fun j => by
    cases e : empAt ((b.take k).take 8192) j
    · rfl
    · exfalso
      have hc : crAt ((b.take k).take 8192) j = true := by unfold empAt at e; rw [Bool.and_eq_true] at e; exact e.1
      have hlt := crAt_lt hc
      rw [List.length_take, hl] at hlt
      have := hm j (by omega)
      rw [← empAt_congr (s := (b.take k).take 8192) (t := b.take 8192) (fun x hx => by
        rw [List.getElem?_take_of_lt (by omega), List.getElem?_take_of_lt (by omega), List.getElem?_take_of_lt (by omega)]), e] at this
      cases this
  unfold endR
  rw [hno, hl, if_neg (by omega)]
theorem endR_more {b : Bs} {n : Nat} (h : endR b = .inr n) (more : Bs) : endR (b.take n ++ more) = .inr n := by
  have hle := endR_le h
  obtain ⟨i, rfl, he, hm⟩ := headN_some (endR_inr h)
  have hl : (b.take (i + 2)).length = i + 2 := by rw [List.length_take]; omega
  have heq : ∀ x, x < i + 2 → ((b.take (i + 2) ++ more).take 8192)[x]? = (b.take 8192)[x]? := fun x hx => by
    rw [List.getElem?_take_of_lt (by omega), List.getElem?_append_left (by omega), List.getElem?_take_of_lt hx, List.getElem?_take_of_lt (by omega)]
  have := headN_min ((b.take (i + 2) ++ more).take 8192) i (by rw [empAt_congr (fun j hj => heq j (by omega))]; exact he) (fun j hj => by rw [empAt_congr (fun x hx => heq x (by omega))]; exact hm j hj)
  unfold endR
  rw [this]
theorem take_more {b : Bs} {n : Nat} (h : endR b = .inr n) (more : Bs) : (b.take n ++ more).take n = b.take n := by
  have hle := endR_le h
  have hl : (b.take n).length = n := by rw [List.length_take]; omega
  rw [List.take_append_of_le_length (by omega), List.take_take, Nat.min_self]
end Go.Proofs.YtocklkaddiomhaaGreatDoor.Hd
