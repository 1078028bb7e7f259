/- What the cards of this seat rest on: the walks and plain laws, part 11. -/
import Derived.Test.YtocklkaddiomhaaGreatDoorHD9
import Derived.IntWalk
import Derived.Deep.RegionHeld3
import Derived.Test.YtocklkaddiomhaaGreatDoorHD10
import Derived.Test.YtocklkaddiomhaaGreatDoorHD3


namespace Go.Proofs.YtocklkaddiomhaaGreatDoor.E
open Go.RowKit Go.Proofs.YtocklkaddiomhaaGreatDoorW.PrintWords Go.Proofs.YtocklkaddiomhaaGreatDoorW.PrintLast Go.Proofs.YtocklkaddiomhaaGreatDoor.XK Go.Proofs.YtocklkaddiomhaaGreatDoor.XA Go.Proofs.YtocklkaddiomhaaGreatDoor.XD
set_option linter.unusedVariables false
set_option linter.unusedSimpArgs false
set_option maxRecDepth 100000 in
set_option maxHeartbeats 40000000 in
theorem rq_target (A : Option Addr) (n c : Nat) (w : World) (S l S2 : ByteArray) (mm : Int) (pe : Nat) (p0 p1 p2 : ByteArray) (hz : p0.size ≤ 100000) (a : Int) (ch : List (ByteArray × Int)) (k : Int) (HOP0 : OpC A n c S mm w) (HLN0 : LnC S l S2 pe w) (HSP0 : SpC l [p0, p1, p2] w) (HBK0 : BkC l false) (HVE0 : VeC p2 true) (HTK0 : TkC p0 true w) (HTG0 : TgE p0 p1 ((p0.size : Int) + 1) a ch k w) :
    Calls Tryz.prog 9 #[.slice A n c] w (RqPost (.inl (a, ch, k)) w) := by
  have HOP := Lib.hid HOP0
  have HLN := Lib.hid HLN0
  have HSP := Lib.hid HSP0
  have HBK := Lib.hid HBK0
  have HVE := Lib.hid HVE0
  have HTK := Lib.hid HTK0
  have HTG := Lib.hid HTG0
  clear HOP0 HLN0 HSP0 HBK0 HVE0 HTK0 HTG0
  have HZ := Lib.hid (Blk.new w rqZ 36)
  have HB := Lib.hid (below_alloc (Below.refl w.heap.size w) (.cells rqZ 36))
  have HW := Lib.hid hdwrong_no
  unfold rqZ rqC at *
  go_enter Tryz.func9, Tryz.ntmps9
  go_wp2_with (first | (go_at_call 34; (with_reducible refine (HOP.out _ HB.out).mono ?_); rintro e wn ⟨R, hR, rfl, hk, hb⟩; have HRW := Lib.hid (show w.heap.size < R from Nat.lt_of_lt_of_le (by simp) hR); have HZ := Lib.hid (HZ.out.below hb); have HK := Lib.hid hk; have HB := Lib.hid (below_then HB.out HB.out.size hb); clear hk hb hR) | (go_at_call 35; (with_reducible refine (HLN.out _ R HB.out (Nat.le_of_lt HRW.out) HK.out).mono ?_); rintro e wn ⟨rfl, hk, hkp, hb⟩; have HZ := Lib.hid (HZ.out.keptR hkp (Nat.ne_of_lt HRW.out)); have HK := Lib.hid hk; have HB := Lib.hid hb; clear hk hkp hb) | (go_at_call 36; (with_reducible refine (HSP.out _ HB.out).mono ?_); rintro e wn ⟨PB, hPB, rfl, hq, hb⟩; have HRQ := Lib.hid (Nat.lt_of_lt_of_le HK.out.lt hPB); clear hPB; have HQ := Lib.hid hq; have HZ := Lib.hid (HZ.out.below hb); have HK := Lib.hid (HK.out.below hb); have HB := Lib.hid (below_then HB.out HB.out.size hb); clear hq hb; obtain ⟨q0, q1, q2⟩ := HQ.out.words3) | (go_at_call 37; (with_reducible refine (HBK.out _).mono ?_); rintro e wn ⟨rfl, hb⟩; have HQ := Lib.hid (HQ.out.below hb); have HZ := Lib.hid (HZ.out.below hb); have HK := Lib.hid (HK.out.below hb); have HB := Lib.hid (below_then HB.out HB.out.size hb); clear q0 q1 q2 hb; obtain ⟨q0, q1, q2⟩ := HQ.out.words3) | (go_at_call 38; (with_reducible refine (HVE.out _).mono ?_); rintro e wn ⟨rfl, hb⟩; have HQ := Lib.hid (HQ.out.below hb); have HZ := Lib.hid (HZ.out.below hb); have HK := Lib.hid (HK.out.below hb); have HB := Lib.hid (below_then HB.out HB.out.size hb); clear q0 q1 q2 hb; obtain ⟨q0, q1, q2⟩ := HQ.out.words3) | (go_at_call 18; (with_reducible refine (HTK.out _ HB.out).mono ?_); rintro e wn ⟨rfl, hb⟩; have HQ := Lib.hid (HQ.out.below hb); have HZ := Lib.hid (HZ.out.below hb); have HK := Lib.hid (HK.out.below hb); have HB := Lib.hid (below_then HB.out HB.out.size hb); clear q0 q1 q2 hb; obtain ⟨q0, q1, q2⟩ := HQ.out.words3))
  have hql := HQ.out.lt
  have hrl := HK.out.lt
  have hne0 := Nat.ne_of_gt hql
  have hzl := HZ.out.lt
  have hwr : IntKind.i64.wrap ((p0.size : Int) + 1) = (p0.size : Int) + 1 := IntWalk.i64_in _ (by omega)
  have hwr0 : wrap64 ((p0.size : Int) + 1) = (p0.size : Int) + 1 := by unfold wrap64; omega
  have hp1 : (0 : Int) ≤ (p0.size : Int) + 1 := by omega
  go_region_held3 (fun w' => w'.cell? ⟨PB, 0, none⟩ = some (.string p0) ∧ w'.cell? ⟨PB, 1, none⟩ = some (.string p1)) (first | (simp only [World.cell?_drew, q0, q1, and_self]; done) | (simp only [World.cell?_drew, World.cell?_alloc_some, World.cell?_setCell_far, q0, q1, Option.isSome_some, ne_eq, not_false_eq_true, and_self, hne0]; done) | (simp only [World.cell?_drew, World.cell?_alloc_some, World.cell?_setCell_far, q0, q1, Option.isSome_some, ne_eq, not_false_eq_true, and_self, hne0, hne1]; done)) ((first | (go_at_call 39; (with_reducible refine (HTG.out _ (below_drew1 HB.out)).mono ?_); rintro e wm ⟨tx, ty, tz, tu, tn, tp, tq, v, rfl, he, hbd⟩; have hb := below_of_drew hbd; obtain ⟨et, ex, rfl⟩ := he.iface; have HE := Lib.hid he; clear he; have HZ := Lib.hid (HZ.out.below hb); have HK := Lib.hid (HK.out.below hb); have HQ := Lib.hid (HQ.out.below hb); have HB := Lib.hid (below_then HB.out HB.out.size hb); clear hb hbd q0 q1 q2; obtain ⟨q0, q1, q2⟩ := HQ.out.words3; have hne1 := Nat.ne_of_gt HQ.out.lt) | (go_at_call 39; (with_reducible refine (HTG.out _ (below_drew1 (below_alloc HB.out _))).mono ?_); rintro e wm ⟨tx, ty, tz, tu, tn, tp, tq, v, rfl, he, hbd⟩; have hb := below_of_drew hbd; obtain ⟨et, ex, rfl⟩ := he.iface; have HE := Lib.hid he; clear he; have HD := Lib.hid ((Blk.new _ _ _).below hb); have HZ := Lib.hid ((HZ.out.old _).below hb); have HK := Lib.hid ((HK.out.old _).below hb); have HQ := Lib.hid ((HQ.out.old _).below hb); have HB := Lib.hid (below_then (below_alloc HB.out _) (below_alloc HB.out _).size hb); obtain ⟨d0, d1, d2, d3, d4, d5, g0, g1, g2, g3, g4, g5⟩ := Blk.dix HD.out; clear hb hbd q0 q1 q2; obtain ⟨q0, q1, q2⟩ := HQ.out.words3; have hne1 := Nat.ne_of_gt HQ.out.lt)))
  · have HRD := Lib.hid HK.out.lt
    have HD := Lib.hid (Blk.new wm #[.int .u8 tx, .int .u8 ty, .int .u8 tz, .int .u8 tu, .string tn, .int .i64 tp] 33)
    have HZ := Lib.hid (HZ.out.old (.cells #[.int .u8 tx, .int .u8 ty, .int .u8 tz, .int .u8 tu, .string tn, .int .i64 tp] 33))
    have HK := Lib.hid (HK.out.old (.cells #[.int .u8 tx, .int .u8 ty, .int .u8 tz, .int .u8 tu, .string tn, .int .i64 tp] 33))
    have HQ := Lib.hid (HQ.out.old (.cells #[.int .u8 tx, .int .u8 ty, .int .u8 tz, .int .u8 tu, .string tn, .int .i64 tp] 33))
    have HB := Lib.hid (below_alloc HB.out (.cells #[.int .u8 tx, .int .u8 ty, .int .u8 tz, .int .u8 tu, .string tn, .int .i64 tp] 33))
    have HE := Lib.hid (ErrIs.below (below_alloc (Below.refl wm.heap.size wm) (.cells #[.int .u8 tx, .int .u8 ty, .int .u8 tz, .int .u8 tu, .string tn, .int .i64 tp] 33)) HE.out)
    clear q0 q1 q2 hne1 hne0 hql hzl hrl
    generalize wm.heap.size = DB at HRD HD ⊢
    generalize (wm.alloc (.cells #[.int .u8 tx, .int .u8 ty, .int .u8 tz, .int .u8 tu, .string tn, .int .i64 tp] 33)) = W7 at HD HZ HK HQ HB HE ⊢
    have HZL := Lib.hid HZ.out.lt
    obtain ⟨c0, c1, c2, c3, c4, c5, c6, c7, c8, f0, f1, f2, f3, f4, f5, f6, f7, f8, s0, s1, s2, s3, s4, s5, s6, s7, s8⟩ := HZ.out.rqz
    go_wp2
    refine bodyPost_ret (v := .tuple #[.agg #[.string ⟨#[]⟩, .int .u8 0, .int .u8 0, .int .u8 0, .int .u8 0, .string ⟨#[]⟩, .int .i64 0, .string ⟨#[]⟩, .slice none 0 0], .int .i64 0, _]) ?_ rfl ⟨HB.out, _, rfl, HE.out⟩
    exact rq_res _ _ _ _ _ _ _ _ _ _ _ _ _ _ _ rfl rfl rfl (show Blk _ _ rqZ _ from HZ.out)
  · have HRD := Lib.hid hrl
    have HE := Lib.hid (show ErrIs _ _ _ _ from EOr.put6 (o := some ((headS, a) :: ch, k)) (a := tx) (b := ty) (c := tz) (d := tu) (n := tn) (po := tp) HD.out HE.out)
    have HD := Lib.hid (show Blk _ _ (#[.int .u8 tx, .int .u8 ty, .int .u8 tz, .int .u8 tu, .string tn, .int .i64 tp] : Array Value) _ from ((((((HD.out.set 0 (.int .u8 tx)).set 1 (.int .u8 ty)).set 2 (.int .u8 tz)).set 3 (.int .u8 tu)).set 4 (.string tn)).set 5 (.int .i64 tp)))
    have HZ := Lib.hid (oth (oth (oth (oth (oth (oth HZ.out 0 hzl (.int .u8 tx)) 1 hzl (.int .u8 ty)) 2 hzl (.int .u8 tz)) 3 hzl (.int .u8 tu)) 4 hzl (.string tn)) 5 hzl (.int .i64 tp))
    have HK := Lib.hid (oth (oth (oth (oth (oth (oth HK.out 0 hrl (.int .u8 tx)) 1 hrl (.int .u8 ty)) 2 hrl (.int .u8 tz)) 3 hrl (.int .u8 tu)) 4 hrl (.string tn)) 5 hrl (.int .i64 tp))
    have HQ := Lib.hid (oth (oth (oth (oth (oth (oth HQ.out 0 hql (.int .u8 tx)) 1 hql (.int .u8 ty)) 2 hql (.int .u8 tz)) 3 hql (.int .u8 tu)) 4 hql (.string tn)) 5 hql (.int .i64 tp))
    have HB := Lib.hid (bset (bset (bset (bset (bset (bset HB.out 0 hzl (.int .u8 tx)) 1 hzl (.int .u8 ty)) 2 hzl (.int .u8 tz)) 3 hzl (.int .u8 tu)) 4 hzl (.string tn)) 5 hzl (.int .i64 tp))
    clear q0 q1 q2 hne1 hne0 hql hzl hrl d0 d1 d2 d3 d4 d5 g0 g1 g2 g3 g4 g5
    generalize ((((((wm.setCell ⟨wn.heap.size, 0, none⟩ (.int .u8 tx)).setCell ⟨wn.heap.size, 1, none⟩ (.int .u8 ty)).setCell ⟨wn.heap.size, 2, none⟩ (.int .u8 tz)).setCell ⟨wn.heap.size, 3, none⟩ (.int .u8 tu)).setCell ⟨wn.heap.size, 4, none⟩ (.string tn)).setCell ⟨wn.heap.size, 5, none⟩ (.int .i64 tp)) = W7 at HD HZ HK HQ HB HE ⊢
    generalize wn.heap.size = DB at HRD HD ⊢
    have HZL := Lib.hid HZ.out.lt
    obtain ⟨c0, c1, c2, c3, c4, c5, c6, c7, c8, f0, f1, f2, f3, f4, f5, f6, f7, f8, s0, s1, s2, s3, s4, s5, s6, s7, s8⟩ := HZ.out.rqz
    go_wp2
    refine bodyPost_ret (v := .tuple #[.agg #[.string ⟨#[]⟩, .int .u8 0, .int .u8 0, .int .u8 0, .int .u8 0, .string ⟨#[]⟩, .int .i64 0, .string ⟨#[]⟩, .slice none 0 0], .int .i64 0, _]) ?_ rfl ⟨HB.out, _, rfl, HE.out⟩
    exact rq_res _ _ _ _ _ _ _ _ _ _ _ _ _ _ _ rfl rfl rfl (show Blk _ _ rqZ _ from HZ.out)
set_option maxRecDepth 100000 in
set_option maxHeartbeats 40000000 in
theorem rq_fields (A : Option Addr) (n c : Nat) (w : World) (S l S2 : ByteArray) (mm : Int) (pe : Nat) (p0 p1 p2 : ByteArray) (hz : p0.size ≤ 100000) (tx ty tz tu : Int) (tn : ByteArray) (tp : Int) (tq : ByteArray) (a k : Int) (HOP0 : OpC A n c S mm w) (HLN0 : LnC S l S2 pe w) (HSP0 : SpC l [p0, p1, p2] w) (HBK0 : BkC l false) (HVE0 : VeC p2 true) (HTK0 : TkC p0 true w) (HTG0 : TgC p0 p1 ((p0.size : Int) + 1) tx ty tz tu tn tp tq w) (HFL0 : FlE S2 pe a k w) :
    Calls Tryz.prog 9 #[.slice A n c] w (RqPost (.inl (a, [], k)) w) := by
  have HOP := Lib.hid HOP0
  have HLN := Lib.hid HLN0
  have HSP := Lib.hid HSP0
  have HBK := Lib.hid HBK0
  have HVE := Lib.hid HVE0
  have HTK := Lib.hid HTK0
  have HTG := Lib.hid HTG0
  have HFL := Lib.hid HFL0
  clear HOP0 HLN0 HSP0 HBK0 HVE0 HTK0 HTG0 HFL0
  have HZ := Lib.hid (Blk.new w rqZ 36)
  have HB := Lib.hid (below_alloc (Below.refl w.heap.size w) (.cells rqZ 36))
  have HW := Lib.hid hdwrong_no
  unfold rqZ rqC at *
  go_enter Tryz.func9, Tryz.ntmps9
  go_wp2_with (first | (go_at_call 34; (with_reducible refine (HOP.out _ HB.out).mono ?_); rintro e wn ⟨R, hR, rfl, hk, hb⟩; have HRW := Lib.hid (show w.heap.size < R from Nat.lt_of_lt_of_le (by simp) hR); have HZ := Lib.hid (HZ.out.below hb); have HK := Lib.hid hk; have HB := Lib.hid (below_then HB.out HB.out.size hb); clear hk hb hR) | (go_at_call 35; (with_reducible refine (HLN.out _ R HB.out (Nat.le_of_lt HRW.out) HK.out).mono ?_); rintro e wn ⟨rfl, hk, hkp, hb⟩; have HZ := Lib.hid (HZ.out.keptR hkp (Nat.ne_of_lt HRW.out)); have HK := Lib.hid hk; have HB := Lib.hid hb; clear hk hkp hb) | (go_at_call 36; (with_reducible refine (HSP.out _ HB.out).mono ?_); rintro e wn ⟨PB, hPB, rfl, hq, hb⟩; have HRQ := Lib.hid (Nat.lt_of_lt_of_le HK.out.lt hPB); clear hPB; have HQ := Lib.hid hq; have HZ := Lib.hid (HZ.out.below hb); have HK := Lib.hid (HK.out.below hb); have HB := Lib.hid (below_then HB.out HB.out.size hb); clear hq hb; obtain ⟨q0, q1, q2⟩ := HQ.out.words3) | (go_at_call 37; (with_reducible refine (HBK.out _).mono ?_); rintro e wn ⟨rfl, hb⟩; have HQ := Lib.hid (HQ.out.below hb); have HZ := Lib.hid (HZ.out.below hb); have HK := Lib.hid (HK.out.below hb); have HB := Lib.hid (below_then HB.out HB.out.size hb); clear q0 q1 q2 hb; obtain ⟨q0, q1, q2⟩ := HQ.out.words3) | (go_at_call 38; (with_reducible refine (HVE.out _).mono ?_); rintro e wn ⟨rfl, hb⟩; have HQ := Lib.hid (HQ.out.below hb); have HZ := Lib.hid (HZ.out.below hb); have HK := Lib.hid (HK.out.below hb); have HB := Lib.hid (below_then HB.out HB.out.size hb); clear q0 q1 q2 hb; obtain ⟨q0, q1, q2⟩ := HQ.out.words3) | (go_at_call 18; (with_reducible refine (HTK.out _ HB.out).mono ?_); rintro e wn ⟨rfl, hb⟩; have HQ := Lib.hid (HQ.out.below hb); have HZ := Lib.hid (HZ.out.below hb); have HK := Lib.hid (HK.out.below hb); have HB := Lib.hid (below_then HB.out HB.out.size hb); clear q0 q1 q2 hb; obtain ⟨q0, q1, q2⟩ := HQ.out.words3))
  have hql := HQ.out.lt
  have hrl := HK.out.lt
  have hne0 := Nat.ne_of_gt hql
  have hzl := HZ.out.lt
  have hwr : IntKind.i64.wrap ((p0.size : Int) + 1) = (p0.size : Int) + 1 := IntWalk.i64_in _ (by omega)
  have hwr0 : wrap64 ((p0.size : Int) + 1) = (p0.size : Int) + 1 := by unfold wrap64; omega
  have hp1 : (0 : Int) ≤ (p0.size : Int) + 1 := by omega
  go_region_held3 (fun w' => w'.cell? ⟨PB, 0, none⟩ = some (.string p0) ∧ w'.cell? ⟨PB, 1, none⟩ = some (.string p1)) (first | (simp only [World.cell?_drew, q0, q1, and_self]; done) | (simp only [World.cell?_drew, World.cell?_alloc_some, World.cell?_setCell_far, q0, q1, Option.isSome_some, ne_eq, not_false_eq_true, and_self, hne0]; done) | (simp only [World.cell?_drew, World.cell?_alloc_some, World.cell?_setCell_far, q0, q1, Option.isSome_some, ne_eq, not_false_eq_true, and_self, hne0, hne1]; done)) ((first | (go_at_call 39; (with_reducible refine (HTG.out _ (below_drew1 HB.out)).mono ?_); rintro e wm ⟨rfl, hbd⟩; have hb := below_of_drew hbd; have HZ := Lib.hid (HZ.out.below hb); have HK := Lib.hid (HK.out.below hb); have HQ := Lib.hid (HQ.out.below hb); have HB := Lib.hid (below_then HB.out HB.out.size hb); clear hb hbd q0 q1 q2; obtain ⟨q0, q1, q2⟩ := HQ.out.words3; have hne1 := Nat.ne_of_gt HQ.out.lt) | (go_at_call 39; (with_reducible refine (HTG.out _ (below_drew1 (below_alloc HB.out _))).mono ?_); rintro e wm ⟨rfl, hbd⟩; have hb := below_of_drew hbd; have HD := Lib.hid ((Blk.new _ _ _).below hb); have HZ := Lib.hid ((HZ.out.old _).below hb); have HK := Lib.hid ((HK.out.old _).below hb); have HQ := Lib.hid ((HQ.out.old _).below hb); have HB := Lib.hid (below_then (below_alloc HB.out _) (below_alloc HB.out _).size hb); obtain ⟨d0, d1, d2, d3, d4, d5, g0, g1, g2, g3, g4, g5⟩ := Blk.dix HD.out; clear hb hbd q0 q1 q2; obtain ⟨q0, q1, q2⟩ := HQ.out.words3; have hne1 := Nat.ne_of_gt HQ.out.lt)))
  · have HRD := Lib.hid HK.out.lt
    have HD := Lib.hid (Blk.new wm #[.int .u8 tx, .int .u8 ty, .int .u8 tz, .int .u8 tu, .string tn, .int .i64 tp] 33)
    have HZ := Lib.hid (HZ.out.old (.cells #[.int .u8 tx, .int .u8 ty, .int .u8 tz, .int .u8 tu, .string tn, .int .i64 tp] 33))
    have HK := Lib.hid (HK.out.old (.cells #[.int .u8 tx, .int .u8 ty, .int .u8 tz, .int .u8 tu, .string tn, .int .i64 tp] 33))
    have HQ := Lib.hid (HQ.out.old (.cells #[.int .u8 tx, .int .u8 ty, .int .u8 tz, .int .u8 tu, .string tn, .int .i64 tp] 33))
    have HB := Lib.hid (below_alloc HB.out (.cells #[.int .u8 tx, .int .u8 ty, .int .u8 tz, .int .u8 tu, .string tn, .int .i64 tp] 33))
    clear q0 q1 q2 hne1 hne0 hql hzl hrl
    generalize wm.heap.size = DB at HRD HD ⊢
    generalize (wm.alloc (.cells #[.int .u8 tx, .int .u8 ty, .int .u8 tz, .int .u8 tu, .string tn, .int .i64 tp] 33)) = W7 at HD HZ HK HQ HB ⊢
    have HZL := Lib.hid HZ.out.lt
    go_wp2_with (first | (go_at_call 40; (with_reducible refine (HFL.out _ R HB.out (Nat.le_of_lt HRW.out) HK.out).mono ?_); rintro e wn ⟨v, rfl, he, hkp, hb⟩; obtain ⟨et, ex, rfl⟩ := he.iface; have HE := Lib.hid he; clear he; have HZ := Lib.hid (HZ.out.keptR hkp (Nat.ne_of_lt HRW.out)); have HQ := Lib.hid (HQ.out.keptR hkp (Nat.ne_of_gt HRQ.out)); have HD := Lib.hid (HD.out.keptR hkp (Nat.ne_of_gt HRD.out)); have HB := Lib.hid hb; clear hkp hb; obtain ⟨c0, c1, c2, c3, c4, c5, c6, c7, c8, f0, f1, f2, f3, f4, f5, f6, f7, f8, s0, s1, s2, s3, s4, s5, s6, s7, s8⟩ := HZ.out.rqz))
    refine bodyPost_ret (v := .tuple #[.agg #[.string ⟨#[]⟩, .int .u8 0, .int .u8 0, .int .u8 0, .int .u8 0, .string ⟨#[]⟩, .int .i64 0, .string ⟨#[]⟩, .slice none 0 0], .int .i64 0, _]) ?_ rfl ⟨HB.out, _, rfl, HE.out⟩
    exact rq_res _ _ _ _ _ _ _ _ _ _ _ _ _ _ _ rfl rfl rfl (show Blk _ _ rqZ _ from HZ.out)
  · have HRD := Lib.hid hrl
    have HD := Lib.hid (show Blk _ _ (#[.int .u8 tx, .int .u8 ty, .int .u8 tz, .int .u8 tu, .string tn, .int .i64 tp] : Array Value) _ from ((((((HD.out.set 0 (.int .u8 tx)).set 1 (.int .u8 ty)).set 2 (.int .u8 tz)).set 3 (.int .u8 tu)).set 4 (.string tn)).set 5 (.int .i64 tp)))
    have HZ := Lib.hid (oth (oth (oth (oth (oth (oth HZ.out 0 hzl (.int .u8 tx)) 1 hzl (.int .u8 ty)) 2 hzl (.int .u8 tz)) 3 hzl (.int .u8 tu)) 4 hzl (.string tn)) 5 hzl (.int .i64 tp))
    have HK := Lib.hid (oth (oth (oth (oth (oth (oth HK.out 0 hrl (.int .u8 tx)) 1 hrl (.int .u8 ty)) 2 hrl (.int .u8 tz)) 3 hrl (.int .u8 tu)) 4 hrl (.string tn)) 5 hrl (.int .i64 tp))
    have HQ := Lib.hid (oth (oth (oth (oth (oth (oth HQ.out 0 hql (.int .u8 tx)) 1 hql (.int .u8 ty)) 2 hql (.int .u8 tz)) 3 hql (.int .u8 tu)) 4 hql (.string tn)) 5 hql (.int .i64 tp))
    have HB := Lib.hid (bset (bset (bset (bset (bset (bset HB.out 0 hzl (.int .u8 tx)) 1 hzl (.int .u8 ty)) 2 hzl (.int .u8 tz)) 3 hzl (.int .u8 tu)) 4 hzl (.string tn)) 5 hzl (.int .i64 tp))
    clear q0 q1 q2 hne1 hne0 hql hzl hrl d0 d1 d2 d3 d4 d5 g0 g1 g2 g3 g4 g5
    generalize ((((((wm.setCell ⟨wn.heap.size, 0, none⟩ (.int .u8 tx)).setCell ⟨wn.heap.size, 1, none⟩ (.int .u8 ty)).setCell ⟨wn.heap.size, 2, none⟩ (.int .u8 tz)).setCell ⟨wn.heap.size, 3, none⟩ (.int .u8 tu)).setCell ⟨wn.heap.size, 4, none⟩ (.string tn)).setCell ⟨wn.heap.size, 5, none⟩ (.int .i64 tp)) = W7 at HD HZ HK HQ HB ⊢
    generalize wn.heap.size = DB at HRD HD ⊢
    have HZL := Lib.hid HZ.out.lt
    go_wp2_with (first | (go_at_call 40; (with_reducible refine (HFL.out _ R HB.out (Nat.le_of_lt HRW.out) HK.out).mono ?_); rintro e wn ⟨v, rfl, he, hkp, hb⟩; obtain ⟨et, ex, rfl⟩ := he.iface; have HE := Lib.hid he; clear he; have HZ := Lib.hid (HZ.out.keptR hkp (Nat.ne_of_lt HRW.out)); have HQ := Lib.hid (HQ.out.keptR hkp (Nat.ne_of_gt HRQ.out)); have HD := Lib.hid (HD.out.keptR hkp (Nat.ne_of_gt HRD.out)); have HB := Lib.hid hb; clear hkp hb; obtain ⟨c0, c1, c2, c3, c4, c5, c6, c7, c8, f0, f1, f2, f3, f4, f5, f6, f7, f8, s0, s1, s2, s3, s4, s5, s6, s7, s8⟩ := HZ.out.rqz))
    refine bodyPost_ret (v := .tuple #[.agg #[.string ⟨#[]⟩, .int .u8 0, .int .u8 0, .int .u8 0, .int .u8 0, .string ⟨#[]⟩, .int .i64 0, .string ⟨#[]⟩, .slice none 0 0], .int .i64 0, _]) ?_ rfl ⟨HB.out, _, rfl, HE.out⟩
    exact rq_res _ _ _ _ _ _ _ _ _ _ _ _ _ _ _ rfl rfl rfl (show Blk _ _ rqZ _ from HZ.out)
end Go.Proofs.YtocklkaddiomhaaGreatDoor.E


namespace Go.Proofs.YtocklkaddiomhaaGreatDoor.E
open Go.RowKit Go.Proofs.YtocklkaddiomhaaGreatDoorW.PrintWords Go.Proofs.YtocklkaddiomhaaGreatDoorW.PrintLast Go.Proofs.YtocklkaddiomhaaGreatDoor.XK Go.Proofs.YtocklkaddiomhaaGreatDoor.XA Go.Proofs.YtocklkaddiomhaaGreatDoor.XD
set_option linter.unusedVariables false
set_option linter.unusedSimpArgs false
set_option maxRecDepth 100000 in
set_option maxHeartbeats 40000000 in
theorem rq_whole (A : Option Addr) (n c : Nat) (w : World) (S l S2 : ByteArray) (mn : Nat) (pe : Nat) (p0 p1 p2 : ByteArray) (hz : p0.size ≤ 100000) (tx ty tz tu : Int) (tn : ByteArray) (tp : Int) (tq : ByteArray) (fs : List Fd.F) (HOP0 : OpC A n c S (mn : Int) w) (HLN0 : LnC S l S2 pe w) (HSP0 : SpC l [p0, p1, p2] w) (HBK0 : BkC l false) (HVE0 : VeC p2 true) (HTK0 : TkC p0 true w) (HTG0 : TgC p0 p1 ((p0.size : Int) + 1) tx ty tz tu tn tp tq w) (HFL0 : FlC S2 pe fs w) :
    Calls Tryz.prog 9 #[.slice A n c] w (RqPost (.inr (p0, (tx, ty, tz, tu, tn, tp), tq, fs, mn)) w) := by
  have HOP := Lib.hid HOP0
  have HLN := Lib.hid HLN0
  have HSP := Lib.hid HSP0
  have HBK := Lib.hid HBK0
  have HVE := Lib.hid HVE0
  have HTK := Lib.hid HTK0
  have HTG := Lib.hid HTG0
  have HFL := Lib.hid HFL0
  clear HOP0 HLN0 HSP0 HBK0 HVE0 HTK0 HTG0 HFL0
  have HZ := Lib.hid (Blk.new w rqZ 36)
  have HB := Lib.hid (below_alloc (Below.refl w.heap.size w) (.cells rqZ 36))
  have HW := Lib.hid hdwrong_no
  unfold rqZ rqC at *
  go_enter Tryz.func9, Tryz.ntmps9
  go_wp2_with (first | (go_at_call 34; (with_reducible refine (HOP.out _ HB.out).mono ?_); rintro e wn ⟨R, hR, rfl, hk, hb⟩; have HRW := Lib.hid (show w.heap.size < R from Nat.lt_of_lt_of_le (by simp) hR); have HZ := Lib.hid (HZ.out.below hb); have HK := Lib.hid hk; have HB := Lib.hid (below_then HB.out HB.out.size hb); clear hk hb hR) | (go_at_call 35; (with_reducible refine (HLN.out _ R HB.out (Nat.le_of_lt HRW.out) HK.out).mono ?_); rintro e wn ⟨rfl, hk, hkp, hb⟩; have HZ := Lib.hid (HZ.out.keptR hkp (Nat.ne_of_lt HRW.out)); have HK := Lib.hid hk; have HB := Lib.hid hb; clear hk hkp hb) | (go_at_call 36; (with_reducible refine (HSP.out _ HB.out).mono ?_); rintro e wn ⟨PB, hPB, rfl, hq, hb⟩; have HRQ := Lib.hid (Nat.lt_of_lt_of_le HK.out.lt hPB); clear hPB; have HQ := Lib.hid hq; have HZ := Lib.hid (HZ.out.below hb); have HK := Lib.hid (HK.out.below hb); have HB := Lib.hid (below_then HB.out HB.out.size hb); clear hq hb; obtain ⟨q0, q1, q2⟩ := HQ.out.words3) | (go_at_call 37; (with_reducible refine (HBK.out _).mono ?_); rintro e wn ⟨rfl, hb⟩; have HQ := Lib.hid (HQ.out.below hb); have HZ := Lib.hid (HZ.out.below hb); have HK := Lib.hid (HK.out.below hb); have HB := Lib.hid (below_then HB.out HB.out.size hb); clear q0 q1 q2 hb; obtain ⟨q0, q1, q2⟩ := HQ.out.words3) | (go_at_call 38; (with_reducible refine (HVE.out _).mono ?_); rintro e wn ⟨rfl, hb⟩; have HQ := Lib.hid (HQ.out.below hb); have HZ := Lib.hid (HZ.out.below hb); have HK := Lib.hid (HK.out.below hb); have HB := Lib.hid (below_then HB.out HB.out.size hb); clear q0 q1 q2 hb; obtain ⟨q0, q1, q2⟩ := HQ.out.words3) | (go_at_call 18; (with_reducible refine (HTK.out _ HB.out).mono ?_); rintro e wn ⟨rfl, hb⟩; have HQ := Lib.hid (HQ.out.below hb); have HZ := Lib.hid (HZ.out.below hb); have HK := Lib.hid (HK.out.below hb); have HB := Lib.hid (below_then HB.out HB.out.size hb); clear q0 q1 q2 hb; obtain ⟨q0, q1, q2⟩ := HQ.out.words3))
  have hql := HQ.out.lt
  have hrl := HK.out.lt
  have hne0 := Nat.ne_of_gt hql
  have hzl := HZ.out.lt
  have hwr : IntKind.i64.wrap ((p0.size : Int) + 1) = (p0.size : Int) + 1 := IntWalk.i64_in _ (by omega)
  have hwr0 : wrap64 ((p0.size : Int) + 1) = (p0.size : Int) + 1 := by unfold wrap64; omega
  have hp1 : (0 : Int) ≤ (p0.size : Int) + 1 := by omega
  go_region_held3 (fun w' => w'.cell? ⟨PB, 0, none⟩ = some (.string p0) ∧ w'.cell? ⟨PB, 1, none⟩ = some (.string p1)) (first | (simp only [World.cell?_drew, q0, q1, and_self]; done) | (simp only [World.cell?_drew, World.cell?_alloc_some, World.cell?_setCell_far, q0, q1, Option.isSome_some, ne_eq, not_false_eq_true, and_self, hne0]; done) | (simp only [World.cell?_drew, World.cell?_alloc_some, World.cell?_setCell_far, q0, q1, Option.isSome_some, ne_eq, not_false_eq_true, and_self, hne0, hne1]; done)) ((first | (go_at_call 39; (with_reducible refine (HTG.out _ (below_drew1 HB.out)).mono ?_); rintro e wm ⟨rfl, hbd⟩; have hb := below_of_drew hbd; have HZ := Lib.hid (HZ.out.below hb); have HK := Lib.hid (HK.out.below hb); have HQ := Lib.hid (HQ.out.below hb); have HB := Lib.hid (below_then HB.out HB.out.size hb); clear hb hbd q0 q1 q2; obtain ⟨q0, q1, q2⟩ := HQ.out.words3; have hne1 := Nat.ne_of_gt HQ.out.lt) | (go_at_call 39; (with_reducible refine (HTG.out _ (below_drew1 (below_alloc HB.out _))).mono ?_); rintro e wm ⟨rfl, hbd⟩; have hb := below_of_drew hbd; have HD := Lib.hid ((Blk.new _ _ _).below hb); have HZ := Lib.hid ((HZ.out.old _).below hb); have HK := Lib.hid ((HK.out.old _).below hb); have HQ := Lib.hid ((HQ.out.old _).below hb); have HB := Lib.hid (below_then (below_alloc HB.out _) (below_alloc HB.out _).size hb); obtain ⟨d0, d1, d2, d3, d4, d5, g0, g1, g2, g3, g4, g5⟩ := Blk.dix HD.out; clear hb hbd q0 q1 q2; obtain ⟨q0, q1, q2⟩ := HQ.out.words3; have hne1 := Nat.ne_of_gt HQ.out.lt)))
  · have HRD := Lib.hid HK.out.lt
    have HD := Lib.hid (Blk.new wm #[.int .u8 tx, .int .u8 ty, .int .u8 tz, .int .u8 tu, .string tn, .int .i64 tp] 33)
    have HZ := Lib.hid (HZ.out.old (.cells #[.int .u8 tx, .int .u8 ty, .int .u8 tz, .int .u8 tu, .string tn, .int .i64 tp] 33))
    have HK := Lib.hid (HK.out.old (.cells #[.int .u8 tx, .int .u8 ty, .int .u8 tz, .int .u8 tu, .string tn, .int .i64 tp] 33))
    have HQ := Lib.hid (HQ.out.old (.cells #[.int .u8 tx, .int .u8 ty, .int .u8 tz, .int .u8 tu, .string tn, .int .i64 tp] 33))
    have HB := Lib.hid (below_alloc HB.out (.cells #[.int .u8 tx, .int .u8 ty, .int .u8 tz, .int .u8 tu, .string tn, .int .i64 tp] 33))
    clear q0 q1 q2 hne1 hne0 hql hzl hrl
    generalize wm.heap.size = DB at HRD HD ⊢
    generalize (wm.alloc (.cells #[.int .u8 tx, .int .u8 ty, .int .u8 tz, .int .u8 tu, .string tn, .int .i64 tp] 33)) = W7 at HD HZ HK HQ HB ⊢
    have HZL := Lib.hid HZ.out.lt
    go_wp2_with (first | (go_at_call 40; (with_reducible refine (HFL.out _ R HB.out (Nat.le_of_lt HRW.out) HK.out).mono ?_); rintro e wn ⟨v, rfl, hrf, hkp, hb⟩; obtain ⟨fA, fc, rfl, flc, fC⟩ := Kd.R_reads hrf; clear flc fC; rw [List.length_map] at hrf; have HF := Lib.hid hrf; clear hrf; have HZ := Lib.hid (HZ.out.keptR hkp (Nat.ne_of_lt HRW.out)); have HQ := Lib.hid (HQ.out.keptR hkp (Nat.ne_of_gt HRQ.out)); have HD := Lib.hid (HD.out.keptR hkp (Nat.ne_of_gt HRD.out)); have HB := Lib.hid hb; clear hkp hb; obtain ⟨q0, q1, q2⟩ := HQ.out.words3; obtain ⟨d0, d1, d2, d3, d4, d5, -⟩ := Blk.dix (show Blk _ _ (dC tx ty tz tu tn tp) _ from HD.out); obtain ⟨c0, c1, c2, c3, c4, c5, c6, c7, c8, f0, f1, f2, f3, f4, f5, f6, f7, f8, s0, s1, s2, s3, s4, s5, s6, s7, s8⟩ := HZ.out.rqz))
    go_region
    go_wp2
    have hzl := HZL.out
    exact bodyPost_ret (v := .tuple #[.agg #[.string p0, .int .u8 tx, .int .u8 ty, .int .u8 tz, .int .u8 tu, .string tn, .int .i64 tp, .string tq, .slice fA fs.length fc], .int .i64 (mn : Int), .nilIface]) (rq_res _ _ w.heap.size p0 tx ty tz tu tn tp tq (.slice fA fs.length fc) (.int .i64 (mn : Int)) .nilIface 36 rfl rfl rfl (setRq_blk p0 tx ty tz tu tn tp tq (.slice fA fs.length fc) HZ.out)) rfl ⟨setRq_below HB.out (Nat.le_refl _) p0 tx ty tz tu tn tp tq (.slice fA fs.length fc), _, rfl, setRq_rows HF.out (Nat.le_refl _) hzl p0 tx ty tz tu tn tp tq (.slice fA fs.length fc)⟩
  · have HRD := Lib.hid hrl
    have HD := Lib.hid (show Blk _ _ (#[.int .u8 tx, .int .u8 ty, .int .u8 tz, .int .u8 tu, .string tn, .int .i64 tp] : Array Value) _ from ((((((HD.out.set 0 (.int .u8 tx)).set 1 (.int .u8 ty)).set 2 (.int .u8 tz)).set 3 (.int .u8 tu)).set 4 (.string tn)).set 5 (.int .i64 tp)))
    have HZ := Lib.hid (oth (oth (oth (oth (oth (oth HZ.out 0 hzl (.int .u8 tx)) 1 hzl (.int .u8 ty)) 2 hzl (.int .u8 tz)) 3 hzl (.int .u8 tu)) 4 hzl (.string tn)) 5 hzl (.int .i64 tp))
    have HK := Lib.hid (oth (oth (oth (oth (oth (oth HK.out 0 hrl (.int .u8 tx)) 1 hrl (.int .u8 ty)) 2 hrl (.int .u8 tz)) 3 hrl (.int .u8 tu)) 4 hrl (.string tn)) 5 hrl (.int .i64 tp))
    have HQ := Lib.hid (oth (oth (oth (oth (oth (oth HQ.out 0 hql (.int .u8 tx)) 1 hql (.int .u8 ty)) 2 hql (.int .u8 tz)) 3 hql (.int .u8 tu)) 4 hql (.string tn)) 5 hql (.int .i64 tp))
    have HB := Lib.hid (bset (bset (bset (bset (bset (bset HB.out 0 hzl (.int .u8 tx)) 1 hzl (.int .u8 ty)) 2 hzl (.int .u8 tz)) 3 hzl (.int .u8 tu)) 4 hzl (.string tn)) 5 hzl (.int .i64 tp))
    clear q0 q1 q2 hne1 hne0 hql hzl hrl d0 d1 d2 d3 d4 d5 g0 g1 g2 g3 g4 g5
    generalize ((((((wm.setCell ⟨wn.heap.size, 0, none⟩ (.int .u8 tx)).setCell ⟨wn.heap.size, 1, none⟩ (.int .u8 ty)).setCell ⟨wn.heap.size, 2, none⟩ (.int .u8 tz)).setCell ⟨wn.heap.size, 3, none⟩ (.int .u8 tu)).setCell ⟨wn.heap.size, 4, none⟩ (.string tn)).setCell ⟨wn.heap.size, 5, none⟩ (.int .i64 tp)) = W7 at HD HZ HK HQ HB ⊢
    generalize wn.heap.size = DB at HRD HD ⊢
    have HZL := Lib.hid HZ.out.lt
    go_wp2_with (first | (go_at_call 40; (with_reducible refine (HFL.out _ R HB.out (Nat.le_of_lt HRW.out) HK.out).mono ?_); rintro e wn ⟨v, rfl, hrf, hkp, hb⟩; obtain ⟨fA, fc, rfl, flc, fC⟩ := Kd.R_reads hrf; clear flc fC; rw [List.length_map] at hrf; have HF := Lib.hid hrf; clear hrf; have HZ := Lib.hid (HZ.out.keptR hkp (Nat.ne_of_lt HRW.out)); have HQ := Lib.hid (HQ.out.keptR hkp (Nat.ne_of_gt HRQ.out)); have HD := Lib.hid (HD.out.keptR hkp (Nat.ne_of_gt HRD.out)); have HB := Lib.hid hb; clear hkp hb; obtain ⟨q0, q1, q2⟩ := HQ.out.words3; obtain ⟨d0, d1, d2, d3, d4, d5, -⟩ := Blk.dix (show Blk _ _ (dC tx ty tz tu tn tp) _ from HD.out); obtain ⟨c0, c1, c2, c3, c4, c5, c6, c7, c8, f0, f1, f2, f3, f4, f5, f6, f7, f8, s0, s1, s2, s3, s4, s5, s6, s7, s8⟩ := HZ.out.rqz))
    go_region
    go_wp2
    have hzl := HZL.out
    exact bodyPost_ret (v := .tuple #[.agg #[.string p0, .int .u8 tx, .int .u8 ty, .int .u8 tz, .int .u8 tu, .string tn, .int .i64 tp, .string tq, .slice fA fs.length fc], .int .i64 (mn : Int), .nilIface]) (rq_res _ _ w.heap.size p0 tx ty tz tu tn tp tq (.slice fA fs.length fc) (.int .i64 (mn : Int)) .nilIface 36 rfl rfl rfl (setRq_blk p0 tx ty tz tu tn tp tq (.slice fA fs.length fc) HZ.out)) rfl ⟨setRq_below HB.out (Nat.le_refl _) p0 tx ty tz tu tn tp tq (.slice fA fs.length fc), _, rfl, setRq_rows HF.out (Nat.le_refl _) hzl p0 tx ty tz tu tn tp tq (.slice fA fs.length fc)⟩
end Go.Proofs.YtocklkaddiomhaaGreatDoor.E


namespace Go.Proofs.YtocklkaddiomhaaGreatDoor.E
open Go.RowKit Go.Proofs.YtocklkaddiomhaaGreatDoorW.PrintWords Go.Proofs.YtocklkaddiomhaaGreatDoorW.PrintLast Go.Proofs.YtocklkaddiomhaaGreatDoor.XK Go.Proofs.YtocklkaddiomhaaGreatDoor.XA Go.Proofs.YtocklkaddiomhaaGreatDoor.XD
set_option linter.unusedVariables false
set_option linter.unusedSimpArgs false
theorem words_data (s : ByteArray) : (wordsB s).map (·.data.toList) = Pt.cutOn 32 s.data.toList := by
  unfold wordsB
  rw [Lib.splitB_data, ← Pt.splitK_cutOn]
  first | done | rfl
theorem words_size (s p : ByteArray) (h : p ∈ wordsB s) : p.size ≤ s.size := by
  have h1 := size_mem (wordsB s) p h
  rw [sumAt_eq, words_data, Pt.tot_cutOn, ← Lib.size_eq] at h1
  omega
def headRq (S : ByteArray) (n : Nat) : FaultT ⊕ RqT :=
  match wordsB (cutL S) with
  | [p0, p1, p2] =>
    if Hd.broken (cutL S).data.toList then .inl (0, [], 80) else if !verB p2 then .inl (0, [], 80) else if !tokB p0 then .inl (0, [], 81) else
      match targetR p0 p1 ((p0.size : Int) + 1) with
      | .inl x => .inl x
      | .inr (d, q) => match Hd.fieldsR 66 (cutR2 S).data.toList ((cutL S).size + 2) [] with
        | .inl (a, k) => .inl ((a : Int), [], (k : Int))
        | .inr fs => .inr (p0, d, q, fs, n)
  | _ => .inl (0, [], 80)
def reqR (b : List UInt8) : FaultT ⊕ RqT := match Hd.endR b with
  | .inl (a, k) => .inl ((a : Int), [], (k : Int))
  | .inr n => headRq ⟨(b.take n).toArray⟩ n
theorem three_words (ps : List ByteArray) : (∃ p0 p1 p2, ps = [p0, p1, p2]) ∨ ps.length ≠ 3 := by
  match ps with
  | [] => exact .inr (by decide)
  | [_] => exact .inr (by simp)
  | [_, _] => exact .inr (by simp)
  | [a, b, c] => exact .inl ⟨a, b, c, rfl⟩
  | _ :: _ :: _ :: _ :: _ => exact .inr (by simp)
theorem headRq_no (S : ByteArray) (n : Nat) (h : (wordsB (cutL S)).length ≠ 3) : headRq S n = .inl (0, [], 80) := by
  unfold headRq
  split
  · rename_i e; rw [e] at h; exact absurd rfl h
  · rfl
theorem headRq_yes (S : ByteArray) (n : Nat) (p0 p1 p2 : ByteArray) (h : wordsB (cutL S) = [p0, p1, p2]) : headRq S n = if Hd.broken (cutL S).data.toList then .inl (0, [], 80) else if !verB p2 then .inl (0, [], 80) else if !tokB p0 then .inl (0, [], 81) else
      match targetR p0 p1 ((p0.size : Int) + 1) with
      | .inl x => .inl x
      | .inr (d, q) => match Hd.fieldsR 66 (cutR2 S).data.toList ((cutL S).size + 2) [] with
        | .inl (a, k) => .inl ((a : Int), [], (k : Int))
        | .inr fs => .inr (p0, d, q, fs, n) := by
  unfold headRq; rw [h]
theorem line_c (S : ByteArray) (hz : S.size ≤ 8192) (w : World) (hS : StdW w) : LnC S (cutL S) (cutR2 S) ((cutL S).size + 2) w := fun W R hB hR hK => by
  refine (line_any S 0 R W (StdW.below hS hB) (by omega) (by omega) hK).mono ?_
  rintro e w' ⟨rfl, w1, hb, rfl⟩
  rw [show 0 + (cutL S).size + 2 = (cutL S).size + 2 by omega]
  exact ⟨rfl, ((hK.below hb).set 0 (.string (cutR2 S))).set 1 _, ((((KeptR.refl R W).below hb).setCell 0 _).setCell 1 _), ((below_then hB hB.size hb).setCell hR _).setCell hR _⟩
theorem request_any (A : Option Addr) (n c : Nat) (xs : List Int) (w : World) (hS : StdE w) (hx : xs.length = n) (hr : ∀ x ∈ xs, 0 ≤ x ∧ x < 256) (h : Lib.BytesIn w A n xs) (hA : A = none → c = 0) (hcap : n ≤ c) (hc63 : c ≤ 9223372036854775807) :
    Calls Tryz.prog 9 #[.slice A n c] w (RqPost (reqR (Lib.bytesOf xs)) w) := by
  have HOP := fun W (hb : Below w.heap.size w W) => opened_any A n c xs W (StdW.below hS.std hb) hx hr (bytesIn_below h hb) hA hcap hc63
  unfold reqR
  cases hR : Hd.endR (Lib.bytesOf xs) with
  | inl x =>
    obtain ⟨a, k⟩ := x
    rw [hR] at HOP
    exact rq_open A n c w a k (fun W hb => (HOP W hb).mono fun e w' ⟨h1, v, h2, h3⟩ => ⟨v, h2, h3, h1⟩)
  | inr m =>
    rw [hR] at HOP
    have hle := Hd.endR_le hR
    dsimp only
    have hz : (⟨((Lib.bytesOf xs).take m).toArray⟩ : ByteArray).size ≤ 8192 := by show ((Lib.bytesOf xs).take m).toArray.size ≤ _; rw [List.size_toArray, List.length_take]; omega
    have HO : OpC A n c ⟨((Lib.bytesOf xs).take m).toArray⟩ (m : Int) w := fun W hb => (HOP W hb).mono fun e w' ⟨h1, R, h2, h3, h4⟩ => ⟨R, h2, h3, h4, h1⟩
    clear HOP
    generalize (⟨((Lib.bytesOf xs).take m).toArray⟩ : ByteArray) = S at HO hz ⊢
    have HL := line_c S hz w hS.std
    have hlz := cutL_size S
    have hlr := cutLR_size S
    have HSP : SpC (cutL S) (wordsB (cutL S)) w := fun W hb => (split_blank (cutL S) (by omega) W (StdW.below hS.std hb)).mono fun e w' ⟨h1, h2, h3⟩ => ⟨_, Nat.le_refl _, h1, h2, h3⟩
    rcases three_words (wordsB (cutL S)) with ⟨p0, p1, p2, hp⟩ | hp
    · rw [headRq_yes S m p0 p1 p2 hp]
      have hz0 := words_size (cutL S) p0 (by rw [hp]; exact List.mem_cons_self)
      have hz1 := words_size (cutL S) p1 (by rw [hp]; exact List.mem_cons_of_mem _ List.mem_cons_self)
      rw [hp] at HSP
      have HBK : BkC (cutL S) (Hd.broken (cutL S).data.toList) := fun W => broken_any (cutL S) (by omega) W
      have HVE : VeC p2 (verB p2) := fun W => version_any p2 W
      have HTK : TkC p0 (tokB p0) w := fun W hb => token_any p0 (by omega) W (StdW.below hS.std hb)
      have HTG := fun W (hb : Below w.heap.size w W) => target_any p0 p1 ((p0.size : Int) + 1) (by omega) (by omega) (by omega) (by omega) W (StdE.below hS hb)
      have HFL := fun W R (hb : Below w.heap.size w W) (hR : w.heap.size ≤ R) (hK : Blk W R (rdC (cutR2 S) (((cutL S).size + 2 : Nat) : Int)) TRd) => fields_any (cutR2 S) ((cutL S).size + 2) R w W hS.std hb hR hK (by omega) (by omega)
      cases hbk : Hd.broken (cutL S).data.toList
      · rw [hbk] at HBK
        rw [if_neg Bool.false_ne_true]
        cases hve : verB p2
        · rw [hve] at HVE
          rw [if_pos (show (!false) = true from rfl)]
          exact rq_version A n c w S (cutL S) (cutR2 S) m _ p0 p1 p2 HO HL HSP HBK HVE
        · rw [hve] at HVE
          rw [if_neg (show ¬ (!true) = true by decide)]
          cases htk : tokB p0
          · rw [htk] at HTK
            rw [if_pos (show (!false) = true from rfl)]
            exact rq_token A n c w S (cutL S) (cutR2 S) m _ p0 p1 p2 HO HL HSP HBK HVE HTK
          · rw [htk] at HTK
            rw [if_neg (show ¬ (!true) = true by decide)]
            cases htg : targetR p0 p1 ((p0.size : Int) + 1) with
            | inl x =>
              obtain ⟨a, ch, k⟩ := x
              rw [htg] at HTG
              exact rq_target A n c w S (cutL S) (cutR2 S) m _ p0 p1 p2 (by omega) a ch k HO HL HSP HBK HVE HTK (fun W hb => (HTG W hb).mono fun e w' ⟨h1, x, y, z, u, nm, po, q, v, h2, h3⟩ => ⟨x, y, z, u, nm, po, q, v, h2, h3, h1⟩)
            | inr x =>
              obtain ⟨⟨tx, ty, tz, tu, tn, tp⟩, tq⟩ := x
              rw [htg] at HTG
              have HT : TgC p0 p1 ((p0.size : Int) + 1) tx ty tz tu tn tp tq w := fun W hb => (HTG W hb).mono fun e w' ⟨h1, h2⟩ => ⟨h2, h1⟩
              dsimp only
              cases hfl : Hd.fieldsR 66 (cutR2 S).data.toList ((cutL S).size + 2) [] with
              | inl x =>
                obtain ⟨a, k⟩ := x
                rw [hfl] at HFL
                exact rq_fields A n c w S (cutL S) (cutR2 S) m _ p0 p1 p2 (by omega) tx ty tz tu tn tp tq a k HO HL HSP HBK HVE HTK HT (fun W R hb hR hK => (HFL W R hb hR hK).mono fun e w' ⟨h1, h2, v, h3, h4⟩ => ⟨v, h3, h4, h2, h1⟩)
              | inr fs =>
                rw [hfl] at HFL
                exact rq_whole A n c w S (cutL S) (cutR2 S) m _ p0 p1 p2 (by omega) tx ty tz tu tn tp tq fs HO HL HSP HBK HVE HTK HT (fun W R hb hR hK => (HFL W R hb hR hK).mono fun e w' ⟨h1, h2, v, h3, h4⟩ => ⟨v, h3, h4, h2, h1⟩)
      · rw [hbk] at HBK
        rw [if_pos rfl]
        exact rq_broken A n c w S (cutL S) (cutR2 S) m _ p0 p1 p2 HO HL HSP HBK
    · rw [headRq_no S m hp]
      exact rq_words A n c w S (cutL S) (cutR2 S) m _ (wordsB (cutL S)) hp HO HL HSP
end Go.Proofs.YtocklkaddiomhaaGreatDoor.E


namespace Go.Proofs.YtocklkaddiomhaaGreatDoor.E
open Go.RowKit Go.Proofs.YtocklkaddiomhaaGreatDoorW.PrintWords Go.Proofs.YtocklkaddiomhaaGreatDoorW.PrintLast
set_option linter.unusedVariables false
set_option linter.unusedSimpArgs false
def codeOk (l : List UInt8) : Bool := match Lib.atoiAll l with | .ok v => decide (100 ≤ v) && (decide (v ≤ 599) && (Lib.itoa v == l)) | _ => false
set_option maxHeartbeats 1000000 in
theorem hcode_ok (s : ByteArray) (v : Int) (hv0 : -9223372036854775808 ≤ v) (hv1 : v ≤ 9223372036854775807) (w : World)
    (A : Calls Tryz.prog 90 #[.string s] w fun e w' => e = .returned (.tuple #[.int .i64 v, .nilIface]) ∧ Below w.heap.size w w') (hS : StdW w) :
    Calls Tryz.prog 59 #[.string s] w fun e w' => e = .returned (.tuple #[.int .i64 v, .bool (decide (100 ≤ v) && (decide (v ≤ 599) && (Lib.itoa v == s.toList)))]) ∧ Below w.heap.size w w' := by
  have HA := Lib.hid A
  have HS := Lib.hid hS
  clear A hS
  by_cases h0 : 100 ≤ v
  · by_cases h1 : v ≤ 599
    · rw [decide_eq_true h0, decide_eq_true h1, Bool.true_and, Bool.true_and]
      go_enter Tryz.func59, Tryz.ntmps59
      go_wp2_with (first | (go_at_call 90; refine HA.out.mono ?_; rintro e w1 ⟨rfl, hb1⟩) | (go_at_call 91; refine (Itoa.calls v ⟨(Lib.itoa v).toArray⟩ _ (StdW.below HS.out hb1) (by unfold Itoa.f; rw [if_pos ⟨hv0, hv1⟩])).mono ?_; rintro e w2 ⟨rfl, hb2⟩))
      go_ret2
      exact ⟨rfl, below_then hb1 hb1.size hb2⟩
    · rw [decide_eq_true h0, decide_eq_false h1, Bool.true_and, Bool.false_and]
      have h1' : decide (v ≤ 599) = false := decide_eq_false h1
      go_enter Tryz.func59, Tryz.ntmps59
      go_wp2_with (go_at_call 90; refine HA.out.mono ?_; rintro e w1 ⟨rfl, hb1⟩)
      go_ret2
      exact ⟨rfl, hb1⟩
  · rw [decide_eq_false h0, Bool.false_and]
    have h0' : decide (100 ≤ v) = false := decide_eq_false h0
    go_enter Tryz.func59, Tryz.ntmps59
    go_wp2_with (go_at_call 90; refine HA.out.mono ?_; rintro e w1 ⟨rfl, hb1⟩)
    go_ret2
    exact ⟨rfl, hb1⟩
set_option maxHeartbeats 1000000 in
theorem hcode_no (s : ByteArray) (v : Int) (w : World)
    (A : Calls Tryz.prog 90 #[.string s] w fun e w' => (∃ N, e = .returned (.tuple #[.int .i64 v, .iface 203 (.pointer (some ⟨N, 0, none⟩))])) ∧ Below w.heap.size w w') :
    Calls Tryz.prog 59 #[.string s] w fun e w' => e = .returned (.tuple #[.int .i64 v, .bool false]) ∧ Below w.heap.size w w' := by
  have HA := Lib.hid A
  clear A
  go_enter Tryz.func59, Tryz.ntmps59
  go_wp2_with (go_at_call 90; refine HA.out.mono ?_; rintro e w1 ⟨⟨N, rfl⟩, hb1⟩)
  go_ret2
  exact ⟨rfl, hb1⟩
theorem hcode_any (s : ByteArray) (hs : s.size ≤ 281474976710656) (w : World) (hS : StdW w) :
    Calls Tryz.prog 59 #[.string s] w fun e w' => e = .returned (.tuple #[.int .i64 (atoiV s.data.toList), .bool (codeOk s.data.toList)]) ∧ Below w.heap.size w w' := by
  have A := atoi_any s hs w hS
  unfold codeOk
  rcases h : Lib.atoiAll s.data.toList with v | _ | _
  ·
    have hv : atoiV s.data.toList = v := by unfold atoiV; rw [h]
    rw [hv] at A ⊢
    obtain ⟨b0, b1⟩ := atoiAll_bounds _ _ h
    have := hcode_ok s v b0 b1 w (A.mono fun e w' hh => by
      obtain ⟨er, rfl, he, hb⟩ := hh
      rw [h] at he
      subst he
      exact ⟨rfl, hb⟩) hS
    rw [ByteArray.toList_eq] at this
    exact this
  ·
    exact hcode_no s _ w (A.mono fun e w' hh => by
      obtain ⟨er, rfl, he, hb⟩ := hh
      rw [h] at he
      obtain ⟨N, rfl⟩ := he
      exact ⟨⟨N, rfl⟩, hb⟩)
  ·
    exact hcode_no s _ w (A.mono fun e w' hh => by
      obtain ⟨er, rfl, he, hb⟩ := hh
      rw [h] at he
      obtain ⟨N, rfl⟩ := he
      exact ⟨⟨N, rfl⟩, hb⟩)
end Go.Proofs.YtocklkaddiomhaaGreatDoor.E
