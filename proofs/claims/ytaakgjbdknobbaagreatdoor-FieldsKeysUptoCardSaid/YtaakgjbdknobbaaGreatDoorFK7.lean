/- What the cards of this seat rest on: the walks and plain laws, part 7. -/
import Derived.Test.YtaakgjbdknobbaaGreatDoorFK6
import Derived.Test.YtaakgjbdknobbaaGreatDoorFK1
import Derived.Test.YtaakgjbdknobbaaGreatDoorFK2
import Derived.Test.YtaakgjbdknobbaaGreatDoorRows
import Derived.Deep.Slices
import Derived.Deep.Fields
import Derived.ChangeSame
import Derived.SizedLaws
import Derived.OpenShut
import Derived.Stop.LaidErr
import Derived.Lib.LaidTab
import Derived.Deep.DeepHandedRow
import Derived.Lay
import Derived.Stop.Joined
import Derived.JoinedOf


namespace Go.Proofs.YtaakgjbdknobbaaGreatDoor.E
open Go.RowKit Go.Proofs.YtaakgjbdknobbaaGreatDoorW.PrintWords Go.Proofs.YtaakgjbdknobbaaGreatDoorW.PrintLast Go.Proofs.YtaakgjbdknobbaaGreatDoor.XK Go.Proofs.YtaakgjbdknobbaaGreatDoor.XA Go.Proofs.YtaakgjbdknobbaaGreatDoor.XD Go.Proofs.YtaakgjbdknobbaaGreatDoor.XY
set_option linter.unusedVariables false
set_option linter.unusedSimpArgs false
theorem eqAd (d : Nat) (w : World) (x0 y0 : Int) (x1 y1 : Int) (x2 y2 : Int) (x3 y3 : Int) :
    (Op.equalIn (d + 2) 23 (.agg #[.int .u8 x0, .int .u8 x1, .int .u8 x2, .int .u8 x3]) (.agg #[.int .u8 y0, .int .u8 y1, .int .u8 y2, .int .u8 y3])).run Tryz.prog w = .ok (x0 == y0 && (x1 == y1 && (x2 == y2 && (x3 == y3)))) w := by
  refine eqA_of Tryz.underlying23 (by kernel_rfl) ?_
  refine eqf_cons (by rfl) (by go_simp; rfl) (by go_simp; rfl) (by go_simp) ?_
  refine eqf_cons (by rfl) (by go_simp; rfl) (by go_simp; rfl) (by go_simp) ?_
  refine eqf_cons (by rfl) (by go_simp; rfl) (by go_simp; rfl) (by go_simp) ?_
  exact eqf_last (by rfl) (by go_simp; rfl) (by go_simp; rfl) (by go_simp)
theorem eqHo (d : Nat) (w : World) (x0 y0 : Int) (x1 y1 : Int) (x2 y2 : Int) (x3 y3 : Int) (x4 y4 : ByteArray) :
    (Op.equalIn (d + 3) 25 (.agg #[.int .u8 x0, .int .u8 x1, .int .u8 x2, .int .u8 x3, .string x4]) (.agg #[.int .u8 y0, .int .u8 y1, .int .u8 y2, .int .u8 y3, .string y4])).run Tryz.prog w = .ok ((x0 == y0 && (x1 == y1 && (x2 == y2 && (x3 == y3)))) && (x4.toList == y4.toList)) w := by
  refine eqA_of Tryz.underlying25 (by kernel_rfl) ?_
  refine eqf_cons (by rfl) (by go_simp) (by go_simp) (eqAd (d + 0) w _ _ _ _ _ _ _ _) ?_
  exact eqf_last (by rfl) (by go_simp; rfl) (by go_simp; rfl) (by go_simp)
theorem eqDe (d : Nat) (w : World) (x0 y0 : Int) (x1 y1 : Int) (x2 y2 : Int) (x3 y3 : Int) (x4 y4 : ByteArray) (x5 y5 : Int) :
    (Op.equalIn (d + 4) 27 (.agg #[.int .u8 x0, .int .u8 x1, .int .u8 x2, .int .u8 x3, .string x4, .int .i64 x5]) (.agg #[.int .u8 y0, .int .u8 y1, .int .u8 y2, .int .u8 y3, .string y4, .int .i64 y5])).run Tryz.prog w = .ok (((x0 == y0 && (x1 == y1 && (x2 == y2 && (x3 == y3)))) && (x4.toList == y4.toList)) && (x5 == y5)) w := by
  refine eqA_of Tryz.underlying27 (by kernel_rfl) ?_
  refine eqf_cons (by rfl) (by go_simp) (by go_simp) (eqHo (d + 0) w _ _ _ _ _ _ _ _ _ _) ?_
  exact eqf_last (by rfl) (by go_simp; rfl) (by go_simp; rfl) (by go_simp)
def KeyIs (a b c d : Int) (n : ByteArray) (po : Int) (p : ByteArray) (k : ByteArray) (e : Int) : Prop :=
  (e = 2 ∧ k = ⟨#[]⟩) ∨ (e = 0 ∧ k = printDestB a b c d n po ++ p ∧ (printDestB a b c d n po).size ≠ 0 ∧ p.data.toList.head? = some 47)
theorem key_is (m : ByteArray) (a b c d : Int) (n : ByteArray) (po : Int) (p : ByteArray) (l : List S78) (hk : okRq m a b c d n p l) :
    ∃ k e, fields_Key.f m a b c d n po p l = some (k, e) ∧ KeyIs a b c d n po p k e := by
  obtain ⟨hb, hn, hm, hp, hl⟩ := hk
  unfold fields_Key.f preq.f
  rw [if_pos ⟨hb, hn, hm, hp, hl⟩, Option.bind_some]
  by_cases he : (preqT (printDestB a b c d n po) m p l).2 = 0
  · rw [if_pos he]
    by_cases hg : m.toList = ([71, 69, 84] : List UInt8)
    · rw [if_pos hg]
      have hz := pdB_size a b c d n po hb
      rw [show hPrintDest.f a b c d n po = some (printDestB a b c d n po) by unfold hPrintDest.f; rw [if_pos ⟨hb.1, hb.2.1, hb.2.2.1, hb.2.2.2, hn⟩], Option.bind_some, if_pos (by omega)]
      refine ⟨_, _, rfl, .inr ⟨rfl, rfl, ?_⟩⟩
      have hcn : isConn m = false := by unfold isConn; rw [hg]; rfl
      unfold preqT at he
      split at he
      · cases he
      · rename_i h1
        rw [if_neg (by rw [hcn]; exact Bool.false_ne_true)] at he
        split at he
        · rename_i h2
          rw [Bool.and_eq_true] at h2
          refine ⟨fun e => h1 (.inl e), ?_⟩
          have h3 := h2.1
          unfold Lib.hasPrefix at h3
          cases hq : p.data.toList with
          | nil => rw [hq] at h3; cases h3
          | cons x r =>
            rw [hq] at h3
            simp only [List.isPrefixOf, Bool.and_true, beq_iff_eq] at h3
            rw [List.head?_cons, h3]
        · cases he
    · rw [if_neg hg]; exact ⟨_, _, rfl, .inl ⟨rfl, rfl⟩⟩
  · rw [if_neg he]; exact ⟨_, _, rfl, .inl ⟨rfl, rfl⟩⟩
theorem key_ne {a b c d : Int} {n : ByteArray} {po : Int} {p k : ByteArray} (h : k = printDestB a b c d n po ++ p ∧ (printDestB a b c d n po).size ≠ 0 ∧ p.data.toList.head? = some 47) : k.toList.isEmpty = false := by
  obtain ⟨rfl, h1, _⟩ := h
  rw [size_zero]
  have : (printDestB a b c d n po ++ p).size ≠ 0 := by rw [ByteArray.size_append]; omega
  simpa using this
attribute [local go_sem high] eqDe
set_option maxRecDepth 100000 in
set_option maxHeartbeats 16000000 in
theorem keys_walk (m : ByteArray) (a b c d : Int) (n : ByteArray) (po : Int) (p : ByteArray) (A0 : Option Addr) (c0 z0 : Nat) (m' : ByteArray) (a' b' c' d' : Int) (n' : ByteArray) (po' : Int) (p' : ByteArray) (A1 : Option Addr) (c1 z1 : Nat) (k k' : ByteArray) (e e' : Int) (bo bd bp : Bool)
    (w : World) (hS : StdW w) (he : (e = 2 ∧ k = ⟨#[]⟩) ∨ (e = 0 ∧ k.toList.isEmpty = false)) (he' : (e' = 2 ∧ k' = ⟨#[]⟩) ∨ (e' = 0 ∧ k'.toList.isEmpty = false))
    (hbo : (k.toList == k'.toList) = bo) (hbd : (((a == a' && (b == b' && (c == c' && (d == d')))) && (n.toList == n'.toList)) && (po == po')) = bd) (hbp : (p.toList == p'.toList) = bp) (hfin : e = 0 → e' = 0 → bo = (bd && bp))
    (HK : ∀ W, Below w.heap.size w W → Calls Tryz.prog 15 #[.agg #[.string m, .int .u8 a, .int .u8 b, .int .u8 c, .int .u8 d, .string n, .int .i64 po, .string p, .slice A0 z0 c0]] W fun r w' => r = .returned (.tuple #[.string k, .int .i64 e]) ∧ Below W.heap.size W w')
    (HK' : ∀ W, Below w.heap.size w W → Calls Tryz.prog 15 #[.agg #[.string m', .int .u8 a', .int .u8 b', .int .u8 c', .int .u8 d', .string n', .int .i64 po', .string p', .slice A1 z1 c1]] W fun r w' => r = .returned (.tuple #[.string k', .int .i64 e']) ∧ Below W.heap.size W w') :
    Calls Tryz.prog 3 #[.agg #[.string m, .int .u8 a, .int .u8 b, .int .u8 c, .int .u8 d, .string n, .int .i64 po, .string p, .slice A0 z0 c0], .agg #[.string m', .int .u8 a', .int .u8 b', .int .u8 c', .int .u8 d', .string n', .int .i64 po', .string p', .slice A1 z1 c1]] w fun r w' => r = .returned (.bool true) ∧ Below w.heap.size w w' := by
  have HS := Lib.hid hS
  have H1 := Lib.hid HK
  have H2 := Lib.hid HK'
  have HW := Lib.hid works13_any
  have HZ := Lib.hid ((Blk.new w (rqC m a b c d n po p A0 z0 c0) 30).old (.cells (rqC m' a' b' c' d' n' po' p' A1 z1 c1) 30))
  have HY : Hid (Blk ((w.alloc (.cells (rqC m a b c d n po p A0 z0 c0) 30)).alloc (.cells (rqC m' a' b' c' d' n' po' p' A1 z1 c1) 30)) (w.heap.size + 1) (rqC m' a' b' c' d' n' po' p' A1 z1 c1) 30) := Lib.hid (by
    have := Blk.new (w.alloc (.cells (rqC m a b c d n po p A0 z0 c0) 30)) (rqC m' a' b' c' d' n' po' p' A1 z1 c1) 30
    rwa [show (w.alloc (.cells (rqC m a b c d n po p A0 z0 c0) 30)).heap.size = w.heap.size + 1 by simp] at this)
  have HB := Lib.hid (below_alloc (below_alloc (Below.refl w.heap.size w) (.cells (rqC m a b c d n po p A0 z0 c0) 30)) (.cells (rqC m' a' b' c' d' n' po' p' A1 z1 c1) 30))
  clear hS HK HK'
  rcases he with ⟨rfl, rfl⟩ | ⟨rfl, hk⟩
  · rcases he' with ⟨rfl, rfl⟩ | ⟨rfl, hk'⟩
    all_goals
      go_enter Tryz.func3, Tryz.ntmps3
      go_wp2_with (first | (go_at_call 14; (with_reducible refine (HW.out _ (StdW.below HS.out HB.out)).mono ?_); rintro e wn ⟨rfl, hb⟩; have HZ := Lib.hid (HZ.out.below hb); have HY := Lib.hid (HY.out.below hb); have HB := Lib.hid (below_then HB.out HB.out.size hb); obtain ⟨q0, q1, q2, q3, q4, q5, q6, q7, q8⟩ := HZ.out.rq; obtain ⟨s0, s1, s2, s3, s4, s5, s6, s7, s8⟩ := HY.out.rq; clear hb) | (go_at_call 15; (with_reducible refine (H1.out _ HB.out).mono ?_); rintro e wn ⟨rfl, hb⟩; have HZ := Lib.hid (HZ.out.below hb); have HY := Lib.hid (HY.out.below hb); have HB := Lib.hid (below_then HB.out HB.out.size hb); obtain ⟨q0, q1, q2, q3, q4, q5, q6, q7, q8⟩ := HZ.out.rq; obtain ⟨s0, s1, s2, s3, s4, s5, s6, s7, s8⟩ := HY.out.rq; clear hb) | (go_at_call 15; (with_reducible refine (H2.out _ HB.out).mono ?_); rintro e wn ⟨rfl, hb⟩; have HZ := Lib.hid (HZ.out.below hb); have HY := Lib.hid (HY.out.below hb); have HB := Lib.hid (below_then HB.out HB.out.size hb); obtain ⟨q0, q1, q2, q3, q4, q5, q6, q7, q8⟩ := HZ.out.rq; obtain ⟨s0, s1, s2, s3, s4, s5, s6, s7, s8⟩ := HY.out.rq; clear hb))
      go_ret
      exact ⟨rfl, HB.out⟩
  · rcases he' with ⟨rfl, rfl⟩ | ⟨rfl, hk'⟩
    · go_enter Tryz.func3, Tryz.ntmps3
      go_wp2_with (first | (go_at_call 14; (with_reducible refine (HW.out _ (StdW.below HS.out HB.out)).mono ?_); rintro e wn ⟨rfl, hb⟩; have HZ := Lib.hid (HZ.out.below hb); have HY := Lib.hid (HY.out.below hb); have HB := Lib.hid (below_then HB.out HB.out.size hb); obtain ⟨q0, q1, q2, q3, q4, q5, q6, q7, q8⟩ := HZ.out.rq; obtain ⟨s0, s1, s2, s3, s4, s5, s6, s7, s8⟩ := HY.out.rq; clear hb) | (go_at_call 15; (with_reducible refine (H1.out _ HB.out).mono ?_); rintro e wn ⟨rfl, hb⟩; have HZ := Lib.hid (HZ.out.below hb); have HY := Lib.hid (HY.out.below hb); have HB := Lib.hid (below_then HB.out HB.out.size hb); obtain ⟨q0, q1, q2, q3, q4, q5, q6, q7, q8⟩ := HZ.out.rq; obtain ⟨s0, s1, s2, s3, s4, s5, s6, s7, s8⟩ := HY.out.rq; clear hb) | (go_at_call 15; (with_reducible refine (H2.out _ HB.out).mono ?_); rintro e wn ⟨rfl, hb⟩; have HZ := Lib.hid (HZ.out.below hb); have HY := Lib.hid (HY.out.below hb); have HB := Lib.hid (below_then HB.out HB.out.size hb); obtain ⟨q0, q1, q2, q3, q4, q5, q6, q7, q8⟩ := HZ.out.rq; obtain ⟨s0, s1, s2, s3, s4, s5, s6, s7, s8⟩ := HY.out.rq; clear hb))
      go_ret
      exact ⟨rfl, HB.out⟩
    · have hf := hfin rfl rfl
      clear hfin
      cases bd
      · rw [Bool.false_and] at hf
        subst hf
        go_enter Tryz.func3, Tryz.ntmps3
        go_wp2_with (first | (go_at_call 14; (with_reducible refine (HW.out _ (StdW.below HS.out HB.out)).mono ?_); rintro e wn ⟨rfl, hb⟩; have HZ := Lib.hid (HZ.out.below hb); have HY := Lib.hid (HY.out.below hb); have HB := Lib.hid (below_then HB.out HB.out.size hb); obtain ⟨q0, q1, q2, q3, q4, q5, q6, q7, q8⟩ := HZ.out.rq; obtain ⟨s0, s1, s2, s3, s4, s5, s6, s7, s8⟩ := HY.out.rq; clear hb) | (go_at_call 15; (with_reducible refine (H1.out _ HB.out).mono ?_); rintro e wn ⟨rfl, hb⟩; have HZ := Lib.hid (HZ.out.below hb); have HY := Lib.hid (HY.out.below hb); have HB := Lib.hid (below_then HB.out HB.out.size hb); obtain ⟨q0, q1, q2, q3, q4, q5, q6, q7, q8⟩ := HZ.out.rq; obtain ⟨s0, s1, s2, s3, s4, s5, s6, s7, s8⟩ := HY.out.rq; clear hb) | (go_at_call 15; (with_reducible refine (H2.out _ HB.out).mono ?_); rintro e wn ⟨rfl, hb⟩; have HZ := Lib.hid (HZ.out.below hb); have HY := Lib.hid (HY.out.below hb); have HB := Lib.hid (below_then HB.out HB.out.size hb); obtain ⟨q0, q1, q2, q3, q4, q5, q6, q7, q8⟩ := HZ.out.rq; obtain ⟨s0, s1, s2, s3, s4, s5, s6, s7, s8⟩ := HY.out.rq; clear hb))
        go_ret
        exact ⟨rfl, HB.out⟩
      · rw [Bool.true_and] at hf
        subst hf
        cases bo
        all_goals
          go_enter Tryz.func3, Tryz.ntmps3
          go_wp2_with (first | (go_at_call 14; (with_reducible refine (HW.out _ (StdW.below HS.out HB.out)).mono ?_); rintro e wn ⟨rfl, hb⟩; have HZ := Lib.hid (HZ.out.below hb); have HY := Lib.hid (HY.out.below hb); have HB := Lib.hid (below_then HB.out HB.out.size hb); obtain ⟨q0, q1, q2, q3, q4, q5, q6, q7, q8⟩ := HZ.out.rq; obtain ⟨s0, s1, s2, s3, s4, s5, s6, s7, s8⟩ := HY.out.rq; clear hb) | (go_at_call 15; (with_reducible refine (H1.out _ HB.out).mono ?_); rintro e wn ⟨rfl, hb⟩; have HZ := Lib.hid (HZ.out.below hb); have HY := Lib.hid (HY.out.below hb); have HB := Lib.hid (below_then HB.out HB.out.size hb); obtain ⟨q0, q1, q2, q3, q4, q5, q6, q7, q8⟩ := HZ.out.rq; obtain ⟨s0, s1, s2, s3, s4, s5, s6, s7, s8⟩ := HY.out.rq; clear hb) | (go_at_call 15; (with_reducible refine (H2.out _ HB.out).mono ?_); rintro e wn ⟨rfl, hb⟩; have HZ := Lib.hid (HZ.out.below hb); have HY := Lib.hid (HY.out.below hb); have HB := Lib.hid (below_then HB.out HB.out.size hb); obtain ⟨q0, q1, q2, q3, q4, q5, q6, q7, q8⟩ := HZ.out.rq; obtain ⟨s0, s1, s2, s3, s4, s5, s6, s7, s8⟩ := HY.out.rq; clear hb))
          go_ret
          exact ⟨rfl, HB.out⟩
end Go.Proofs.YtaakgjbdknobbaaGreatDoor.E


namespace Go.Proofs.YtaakgjbdknobbaaGreatDoor.E
open Go.RowKit Go.Proofs.YtaakgjbdknobbaaGreatDoorW.PrintWords Go.Proofs.YtaakgjbdknobbaaGreatDoorW.PrintLast Go.Proofs.YtaakgjbdknobbaaGreatDoor.XK Go.Proofs.YtaakgjbdknobbaaGreatDoor.XA Go.Proofs.YtaakgjbdknobbaaGreatDoor.XD Go.Proofs.YtaakgjbdknobbaaGreatDoor.XY
set_option linter.unusedVariables false
set_option linter.unusedSimpArgs false
theorem same_text (a b : ByteArray) : (a.toList == b.toList) = true ↔ a = b := by
  rw [beq_iff_eq, ByteArray.toList_eq, ByteArray.toList_eq]
  exact ⟨fun h => data_inj h, fun h => h ▸ rfl⟩
def pKeys.f (m : ByteArray) (a b c d : Int) (n : ByteArray) (po : Int) (p : ByteArray) (l : List S78) (m' : ByteArray) (a' b' c' d' : Int) (n' : ByteArray) (po' : Int) (p' : ByteArray) (l' : List S78) : Option Bool :=
  if okRq m a b c d n p l ∧ okRq m' a' b' c' d' n' p' l' then some true else none
theorem pKeys.calls (m : ByteArray) (a b c d : Int) (n : ByteArray) (po : Int) (p : ByteArray) (A0 : Option Addr) (c0 : Nat) (l : List S78) (m' : ByteArray) (a' b' c' d' : Int) (n' : ByteArray) (po' : Int) (p' : ByteArray) (A1 : Option Addr) (c1 : Nat) (l' : List S78) (r : Bool) (w : World)
    (hr : Kd.C k78 w A0 l.length l) (hc : l.length ≤ c0) (hr' : Kd.C k78 w A1 l'.length l') (hc' : l'.length ≤ c1) (hS : StdW w) (h : pKeys.f m a b c d n po p l m' a' b' c' d' n' po' p' l' = some r) :
    Calls Tryz.prog 3 #[.agg #[.string m, .int .u8 a, .int .u8 b, .int .u8 c, .int .u8 d, .string n, .int .i64 po, .string p, .slice A0 l.length c0], .agg #[.string m', .int .u8 a', .int .u8 b', .int .u8 c', .int .u8 d', .string n', .int .i64 po', .string p', .slice A1 l'.length c1]] w fun e w' => e = .returned (.bool r) ∧ Below w.heap.size w w' := by
  unfold pKeys.f at h
  split at h
  · rename_i hh
    obtain ⟨h1, h2⟩ := hh
    obtain rfl := Option.some.inj h
    obtain ⟨k, e, hk, hi⟩ := key_is m a b c d n po p l h1
    obtain ⟨k', e', hk', hi'⟩ := key_is m' a' b' c' d' n' po' p' l' h2
    refine keys_walk m a b c d n po p A0 c0 l.length m' a' b' c' d' n' po' p' A1 c1 l'.length k k' e e' _ _ _ w hS (hi.imp id fun h => ⟨h.1, key_ne h.2⟩) (hi'.imp id fun h => ⟨h.1, key_ne h.2⟩) rfl rfl rfl (fun he he' => ?_) (fun W hB => fields_Key.calls m a b c d n po p A0 c0 l k e W (Kd.C_below hr hB) hc (StdW.below hS hB) hk) (fun W hB => fields_Key.calls m' a' b' c' d' n' po' p' A1 c1 l' k' e' W (Kd.C_below hr' hB) hc' (StdW.below hS hB) hk')
    rcases hi with ⟨hz, _⟩ | ⟨_, e1, e2, e3⟩
    · rw [hz] at he; cases he
    rcases hi' with ⟨hz, _⟩ | ⟨_, e1', e2', e3'⟩
    · rw [hz] at he'; cases he'
    have key := key_inj a b c d n po p a' b' c' d' n' po' p' h1.1 h2.1 e3 e3' e2 e2'
    rw [Bool.eq_iff_iff, same_text, e1, e1', key]
    simp only [Bool.and_eq_true, beq_iff_eq, ByteArray.toList_eq]
    constructor
    · rintro ⟨⟨rfl, rfl, rfl, rfl, rfl, rfl⟩, rfl⟩
      exact ⟨⟨⟨⟨rfl, rfl, rfl, rfl⟩, rfl⟩, rfl⟩, rfl⟩
    · rintro ⟨⟨⟨⟨rfl, rfl, rfl, rfl⟩, hn⟩, rfl⟩, hp⟩
      exact ⟨⟨rfl, rfl, rfl, rfl, data_inj hn, rfl⟩, data_inj hp⟩
  · cases h
theorem fieldsKeys_law (m : ByteArray) (a b c d : Int) (n : ByteArray) (po : Int) (p : ByteArray) (l : List S78) (h : okRq m a b c d n p l) (m' : ByteArray) (a' b' c' d' : Int) (n' : ByteArray) (po' : Int) (p' : ByteArray) (l' : List S78) (h' : okRq m' a' b' c' d' n' p' l') :
    pKeys.f m a b c d n po p l m' a' b' c' d' n' po' p' l' = some true := by
  unfold pKeys.f; rw [if_pos ⟨h, h'⟩]
end Go.Proofs.YtaakgjbdknobbaaGreatDoor.E


namespace Go.Proofs.YtaakgjbdknobbaaGreatDoor.E
open Go.RowKit Go.ChangeShapes Go.WideShapes Go.Deep Go.Proofs.YtaakgjbdknobbaaGreatDoorW.PrintWords Go.Proofs.YtaakgjbdknobbaaGreatDoorW.PrintLast Go.Proofs.YtaakgjbdknobbaaGreatDoor.XK
set_option linter.unusedVariables false
set_option linter.unusedSimpArgs false
section
variable {H : Type} {enc : TypeId × Value → H} {w : World} {base : Nat} {spare : Nat → Bool} {held : Bool}
theorem cellsFld : Tryz.prog.cellsOf 78 = 2 := by kernel_rfl
theorem cellsStr : Tryz.prog.cellsOf 9 = 1 := by kernel_rfl
def okI (n : Int) : Prop := -9223372036854775808 ≤ n ∧ n ≤ 9223372036854775807
theorem wf_i64 {n : Int} (h : (Lit.int .i64 n).wf = true) : okI n := by
  simp only [Lit.wf, Bool.and_eq_true, decide_eq_true_eq] at h
  exact ⟨h.1, h.2⟩
theorem bulk_pos (d : DataW H) : 1 ≤ Rows.uptoBulk d := by
  cases d with
  | lit l => cases l <;> simp [Rows.uptoBulk]
  | _ => simp [Rows.uptoBulk]
theorem bulk_mem : ∀ {ds : List (DataW H)} {d : DataW H}, d ∈ ds → Rows.uptoBulk d ≤ Rows.uptoBulkAll ds
  | d0 :: ds, d, h => by
    simp only [Rows.uptoBulkAll]
    rcases List.mem_cons.1 h with rfl | h
    · omega
    · have := bulk_mem h; omega
theorem bulk_len : ∀ ds : List (DataW H), ds.length ≤ Rows.uptoBulkAll ds
  | [] => Nat.zero_le _
  | d :: ds => by
    simp only [Rows.uptoBulkAll, List.length_cons]
    have := bulk_pos d; have := bulk_len ds; omega
theorem two_of {α : Type} {l : List α} (h : l.length = 2) : ∃ a b, l = [a, b] := by
  match l, h with
  | [a, b], _ => exact ⟨a, b, rfl⟩
theorem open_field {fuel : Nat} {cs : List Value} {x : DataW H × List MemPlace} (h : DataW.trod enc Tryz.prog w base spare held fuel 78 cs = some x) :
    ∃ r : S78, cs = [.string r.f0, .string r.f1] ∧ r.f0.size ≤ Rows.uptoBulk x.1 ∧ r.f1.size ≤ Rows.uptoBulk x.1 := by
  obtain ⟨xs, n, -, hx, hl, hxl, hf⟩ := DataW.trod_struct Tryz.underlying78 h
  obtain ⟨v0, v1, rfl⟩ := two_of (hl.trans cellsFld)
  obtain ⟨y0, y1, rfl⟩ := two_of (show xs.length = 2 from hxl)
  have g0 : DataW.trod enc Tryz.prog w base spare held n 9 ((([v0, v1] : List Value).drop 0).take (Tryz.prog.cellsOf 9)) = some y0 := hf 0 _ rfl
  have g1 : DataW.trod enc Tryz.prog w base spare held n 9 ((([v0, v1] : List Value).drop 1).take (Tryz.prog.cellsOf 9)) = some y1 := hf 1 _ rfl
  simp only [cellsStr, List.drop_zero, List.drop_succ_cons, List.take_succ_cons, List.take_zero] at g0 g1
  obtain ⟨a, ea, ha, -⟩ := DataW.trod_string Tryz.underlying9 g0
  obtain ⟨b, eb, hb, -⟩ := DataW.trod_string Tryz.underlying9 g1
  cases ea; cases eb
  refine ⟨⟨a, b⟩, rfl, ?_⟩
  have e0 : Rows.uptoBulk y0.1 = a.size + 1 := by rw [ha]; simp only [Rows.uptoBulk]; rw [Lib.size_eq]
  have e1 : Rows.uptoBulk y1.1 = b.size + 1 := by rw [hb]; simp only [Rows.uptoBulk]; rw [Lib.size_eq]
  rw [hx]
  simp only [Rows.uptoBulk, Rows.uptoBulkAll, List.map_cons, List.map_nil, e0, e1]
  omega
theorem open_fields {t : TypeId} (ht : Tryz.prog.underlying t = some (.slice 78)) {fuel : Nat} {cs : List Value} {x : DataW H × List MemPlace} (h : DataW.trod enc Tryz.prog w base spare held fuel t cs = some x) :
    ∃ (A : Option Addr) (c : Nat) (l : List S78), cs = [.slice A l.length c] ∧ l.length ≤ c ∧ Kd.C k78 w A l.length l ∧ l.length ≤ Rows.uptoBulk x.1 ∧ ∀ r ∈ l, r.f0.size ≤ Rows.uptoBulk x.1 ∧ r.f1.size ≤ Rows.uptoBulk x.1 := by
  rcases open_slice ht h with ⟨rfl, rfl⟩ | ⟨a, len, cap, m, n, D, Pl, rfl, hb, hl, hm, hmm, hx, hi⟩
  · exact ⟨none, 0, [], rfl, Nat.le_refl _, Kd.C_nil _ _, Nat.zero_le _, fun r hr => by cases hr⟩
  · have hlm : len ≤ m := by rw [hmm]; split <;> omega
    have hi' : ∀ i : Fin len, ∃ r : S78, (r.f0.size ≤ Rows.uptoBulk (D i.1) ∧ r.f1.size ≤ Rows.uptoBulk (D i.1)) ∧ ∀ j, j < 2 → w.cell? (a.add (i.1 * 2 + j)) = ([.string r.f0, .string r.f1] : List Value)[j]? := by
      intro i
      obtain ⟨cs', hc, ht2⟩ := hi i.1 (by omega)
      obtain ⟨r, rfl, hw⟩ := open_field ht2
      obtain ⟨_, _, hat⟩ := World.cells?_some hc
      rw [cellsFld] at hat
      exact ⟨r, hw, fun j hj => by rw [← Go.Deep.add_add]; exact hat j hj⟩
    have hlen : (List.ofFn fun i : Fin len => (hi' i).choose).length = len := List.length_ofFn
    have hbk : ∀ i : Fin len, Rows.uptoBulk (D i.1) ≤ Rows.uptoBulk x.1 := fun i => by
      rw [hx]
      simp only [Rows.uptoBulk]
      have := bulk_mem (ds := (List.range len).map D) (d := D i.1) (List.mem_map.2 ⟨i.1, List.mem_range.2 i.2, rfl⟩)
      omega
    refine ⟨some a, cap, List.ofFn fun i : Fin len => (hi' i).choose, by rw [hlen], by rw [hlen]; exact hl, ?_, ?_, ?_⟩
    · refine ⟨rfl, by rw [hlen]; unfold maxLen at hm; omega, fun _ => ⟨a, rfl, fun j p hj => ?_⟩⟩
      have hjl : j < len := by rw [← hlen]; exact (List.getElem?_eq_some_iff.1 hj).1
      have hp : (hi' ⟨j, hjl⟩).choose = p := by
        rw [List.getElem?_ofFn, dif_pos hjl] at hj
        exact Option.some.inj hj
      subst hp
      refine ⟨_, rfl, k78_mk w _, fun i u hu => ?_⟩
      have hi9 : i < 2 := (List.getElem?_eq_some_iff.1 hu).1
      exact ((hi' ⟨j, hjl⟩).choose_spec.2 i hi9).trans hu
    · rw [hlen, hx]
      simp only [Rows.uptoBulk]
      have := bulk_len ((List.range len).map D)
      rw [List.length_map, List.length_range] at this
      omega
    · intro r hr
      obtain ⟨i, rfl⟩ := List.mem_ofFn.1 hr
      have h1 := (hi' i).choose_spec.1
      have h2 := hbk i
      exact ⟨Nat.le_trans h1.1 h2, Nat.le_trans h1.2 h2⟩
end
end Go.Proofs.YtaakgjbdknobbaaGreatDoor.E


namespace Go.Proofs.YtaakgjbdknobbaaGreatDoor.E
open Go.RowKit Go.ChangeShapes Go.WideShapes Go.Deep Go.Proofs.YtaakgjbdknobbaaGreatDoorW.PrintWords Go.Proofs.YtaakgjbdknobbaaGreatDoorW.PrintLast Go.Proofs.YtaakgjbdknobbaaGreatDoor.XK
set_option linter.unusedVariables false
set_option linter.unusedSimpArgs false
section
variable {H : Type} {enc : TypeId × Value → H} {w : World} {base : Nat} {spare : Nat → Bool} {held : Bool}
theorem cellsAddr : Tryz.prog.cellsOf 23 = 4 := by kernel_rfl
theorem cellsHost : Tryz.prog.cellsOf 25 = 5 := by kernel_rfl
theorem cellsDest : Tryz.prog.cellsOf 27 = 6 := by kernel_rfl
theorem cellsReq : Tryz.prog.cellsOf 30 = 9 := by kernel_rfl
theorem cellsFlds : Tryz.prog.cellsOf 28 = 1 := by kernel_rfl
theorem cellsU8 : Tryz.prog.cellsOf 5 = 1 := by kernel_rfl
theorem cellsInt : Tryz.prog.cellsOf 3 = 1 := by kernel_rfl
def inU8 (a : Int) : Prop := 0 ≤ a ∧ a ≤ 255
theorem four_of {l : List Value} (h : l.length = 4) : ∃ a b c d, l = [a, b, c, d] := by
  match l, h with
  | [a, b, c, d], _ => exact ⟨a, b, c, d, rfl⟩
theorem open_addr {fuel : Nat} {cs : List Value} {x : DataW H × List MemPlace} (h : DataW.trod enc Tryz.prog w base spare held fuel 23 cs = some x) :
    ∃ a b c d, cs = [.int .u8 a, .int .u8 b, .int .u8 c, .int .u8 d] ∧ inU8 a ∧ inU8 b ∧ inU8 c ∧ inU8 d := by
  obtain ⟨xs, n, -, -, hl, hxl, hf⟩ := DataW.trod_struct Tryz.underlying23 h
  obtain ⟨v0, v1, v2, v3, rfl⟩ := four_of (hl.trans cellsAddr)
  obtain ⟨y0, h0⟩ : ∃ y, xs[0]? = some y := ⟨_, List.getElem?_eq_getElem (by rw [hxl]; decide)⟩
  obtain ⟨y1, h1⟩ : ∃ y, xs[1]? = some y := ⟨_, List.getElem?_eq_getElem (by rw [hxl]; decide)⟩
  obtain ⟨y2, h2⟩ : ∃ y, xs[2]? = some y := ⟨_, List.getElem?_eq_getElem (by rw [hxl]; decide)⟩
  obtain ⟨y3, h3⟩ : ∃ y, xs[3]? = some y := ⟨_, List.getElem?_eq_getElem (by rw [hxl]; decide)⟩
  have g0 : DataW.trod enc Tryz.prog w base spare held n 5 ((([v0, v1, v2, v3] : List Value).drop 0).take (Tryz.prog.cellsOf 5)) = xs[0]? := hf 0 _ rfl
  have g1 : DataW.trod enc Tryz.prog w base spare held n 5 ((([v0, v1, v2, v3] : List Value).drop 1).take (Tryz.prog.cellsOf 5)) = xs[1]? := hf 1 _ rfl
  have g2 : DataW.trod enc Tryz.prog w base spare held n 5 ((([v0, v1, v2, v3] : List Value).drop 2).take (Tryz.prog.cellsOf 5)) = xs[2]? := hf 2 _ rfl
  have g3 : DataW.trod enc Tryz.prog w base spare held n 5 ((([v0, v1, v2, v3] : List Value).drop 3).take (Tryz.prog.cellsOf 5)) = xs[3]? := hf 3 _ rfl
  simp only [cellsU8, List.drop_zero, List.drop_succ_cons, List.take_succ_cons, List.take_zero] at g0 g1 g2 g3
  rw [h0] at g0; rw [h1] at g1; rw [h2] at g2; rw [h3] at g3
  obtain ⟨a, ea, -, ha⟩ := DataW.trod_int Tryz.underlying5 g0
  obtain ⟨b, eb, -, hb⟩ := DataW.trod_int Tryz.underlying5 g1
  obtain ⟨c, ec, -, hc⟩ := DataW.trod_int Tryz.underlying5 g2
  obtain ⟨d, ed, -, hd⟩ := DataW.trod_int Tryz.underlying5 g3
  cases ea; cases eb; cases ec; cases ed
  exact ⟨a, b, c, d, rfl, bounds_u8 ha, bounds_u8 hb, bounds_u8 hc, bounds_u8 hd⟩
theorem six_of {l : List Value} (h : l.length = 6) : ∃ a b c d e f, l = [a, b, c, d, e, f] := by
  match l, h with
  | [a, b, c, d, e, f], _ => exact ⟨a, b, c, d, e, f, rfl⟩
theorem five_of {l : List Value} (h : l.length = 5) : ∃ a b c d e, l = [a, b, c, d, e] := by
  match l, h with
  | [a, b, c, d, e], _ => exact ⟨a, b, c, d, e, rfl⟩
theorem four_ofX {α : Type} {l : List α} (h : l.length = 4) : ∃ a b c d, l = [a, b, c, d] := by
  match l, h with
  | [a, b, c, d], _ => exact ⟨a, b, c, d, rfl⟩
theorem nine_of {l : List Value} (h : l.length = 9) : ∃ a b c d e f g i j, l = [a, b, c, d, e, f, g, i, j] := by
  match l, h with
  | [a, b, c, d, e, f, g, i, j], _ => exact ⟨a, b, c, d, e, f, g, i, j, rfl⟩
theorem open_hostB {fuel : Nat} {cs : List Value} {x : DataW H × List MemPlace} (h : DataW.trod enc Tryz.prog w base spare held fuel 25 cs = some x) :
    ∃ a b c d n, cs = [.int .u8 a, .int .u8 b, .int .u8 c, .int .u8 d, .string n] ∧ (inU8 a ∧ inU8 b ∧ inU8 c ∧ inU8 d) ∧ n.size ≤ Rows.uptoBulk x.1 := by
  obtain ⟨xs, m, -, hx, hl, hxl, hf⟩ := DataW.trod_struct Tryz.underlying25 h
  obtain ⟨v0, v1, v2, v3, v4, rfl⟩ := five_of (hl.trans cellsHost)
  obtain ⟨y0, y1, rfl⟩ := two_of (show xs.length = 2 from hxl)
  have g0 : DataW.trod enc Tryz.prog w base spare held m 23 ((([v0, v1, v2, v3, v4] : List Value).drop 0).take (Tryz.prog.cellsOf 23)) = some y0 := hf 0 _ rfl
  have g1 : DataW.trod enc Tryz.prog w base spare held m 9 ((([v0, v1, v2, v3, v4] : List Value).drop 4).take (Tryz.prog.cellsOf 9)) = some y1 := hf 1 _ rfl
  simp only [cellsAddr, cellsStr, List.drop_zero, List.drop_succ_cons, List.take_succ_cons, List.take_zero] at g0 g1
  obtain ⟨a, b, c, d, eb, ha, hb, hc, hd⟩ := open_addr g0
  obtain ⟨n, ed, hsu, -⟩ := DataW.trod_string Tryz.underlying9 g1
  cases eb; cases ed
  refine ⟨a, b, c, d, n, rfl, ⟨ha, hb, hc, hd⟩, ?_⟩
  have e1 : Rows.uptoBulk y1.1 = n.size + 1 := by rw [hsu]; simp only [Rows.uptoBulk]; rw [Lib.size_eq]
  rw [hx]
  simp only [Rows.uptoBulk, Rows.uptoBulkAll, List.map_cons, List.map_nil, e1]
  omega
theorem open_destB {fuel : Nat} {cs : List Value} {x : DataW H × List MemPlace} (h : DataW.trod enc Tryz.prog w base spare held fuel 27 cs = some x) :
    ∃ a b c d n po, cs = [.int .u8 a, .int .u8 b, .int .u8 c, .int .u8 d, .string n, .int .i64 po] ∧ (inU8 a ∧ inU8 b ∧ inU8 c ∧ inU8 d) ∧ okI po ∧ n.size ≤ Rows.uptoBulk x.1 := by
  obtain ⟨xs, m, -, hx, hl, hxl, hf⟩ := DataW.trod_struct Tryz.underlying27 h
  obtain ⟨v0, v1, v2, v3, v4, v5, rfl⟩ := six_of (hl.trans cellsDest)
  obtain ⟨y0, y1, rfl⟩ := two_of (show xs.length = 2 from hxl)
  have g0 : DataW.trod enc Tryz.prog w base spare held m 25 ((([v0, v1, v2, v3, v4, v5] : List Value).drop 0).take (Tryz.prog.cellsOf 25)) = some y0 := hf 0 _ rfl
  have g1 : DataW.trod enc Tryz.prog w base spare held m 3 ((([v0, v1, v2, v3, v4, v5] : List Value).drop 5).take (Tryz.prog.cellsOf 3)) = some y1 := hf 1 _ rfl
  simp only [cellsHost, cellsInt, List.drop_zero, List.drop_succ_cons, List.take_succ_cons, List.take_zero] at g0 g1
  obtain ⟨a, b, c, d, n, eb, hb, hw⟩ := open_hostB g0
  obtain ⟨po, ed, -, hpo⟩ := DataW.trod_int Tryz.underlying3 g1
  cases eb; cases ed
  refine ⟨a, b, c, d, n, po, rfl, hb, wf_i64 hpo, ?_⟩
  rw [hx]
  simp only [Rows.uptoBulk, Rows.uptoBulkAll, List.map_cons, List.map_nil]
  omega
theorem open_req {fuel : Nat} {cs : List Value} {x : DataW H × List MemPlace} (h : DataW.trod enc Tryz.prog w base spare held fuel 30 cs = some x) :
    ∃ (m : ByteArray) (a b c d : Int) (n : ByteArray) (po : Int) (p : ByteArray) (A : Option Addr) (cap : Nat) (l : List S78), cs = [.string m, .int .u8 a, .int .u8 b, .int .u8 c, .int .u8 d, .string n, .int .i64 po, .string p, .slice A l.length cap] ∧
      (inU8 a ∧ inU8 b ∧ inU8 c ∧ inU8 d) ∧ okI po ∧ l.length ≤ cap ∧ Kd.C k78 w A l.length l ∧ m.size ≤ Rows.uptoBulk x.1 ∧ n.size ≤ Rows.uptoBulk x.1 ∧ p.size ≤ Rows.uptoBulk x.1 ∧ l.length ≤ Rows.uptoBulk x.1 ∧ ∀ r ∈ l, r.f0.size ≤ Rows.uptoBulk x.1 ∧ r.f1.size ≤ Rows.uptoBulk x.1 := by
  obtain ⟨xs, k, -, hx, hl, hxl, hf⟩ := DataW.trod_struct Tryz.underlying30 h
  obtain ⟨v0, v1, v2, v3, v4, v5, v6, v7, v8, rfl⟩ := nine_of (hl.trans cellsReq)
  obtain ⟨y0, y1, y2, y3, rfl⟩ := four_ofX (show xs.length = 4 from hxl)
  have g0 : DataW.trod enc Tryz.prog w base spare held k 9 ((([v0, v1, v2, v3, v4, v5, v6, v7, v8] : List Value).drop 0).take (Tryz.prog.cellsOf 9)) = some y0 := hf 0 _ rfl
  have g1 : DataW.trod enc Tryz.prog w base spare held k 27 ((([v0, v1, v2, v3, v4, v5, v6, v7, v8] : List Value).drop 1).take (Tryz.prog.cellsOf 27)) = some y1 := hf 1 _ rfl
  have g2 : DataW.trod enc Tryz.prog w base spare held k 9 ((([v0, v1, v2, v3, v4, v5, v6, v7, v8] : List Value).drop 7).take (Tryz.prog.cellsOf 9)) = some y2 := hf 2 _ rfl
  have g3 : DataW.trod enc Tryz.prog w base spare held k 28 ((([v0, v1, v2, v3, v4, v5, v6, v7, v8] : List Value).drop 8).take (Tryz.prog.cellsOf 28)) = some y3 := hf 3 _ rfl
  simp only [cellsStr, cellsDest, cellsFlds, List.drop_zero, List.drop_succ_cons, List.take_succ_cons, List.take_zero] at g0 g1 g2 g3
  obtain ⟨m, e0, h0, -⟩ := DataW.trod_string Tryz.underlying9 g0
  obtain ⟨a, b, c, d, n, po, e1, hb, hpo, hn⟩ := open_destB g1
  obtain ⟨p, e2, h2, -⟩ := DataW.trod_string Tryz.underlying9 g2
  obtain ⟨A, cap, l, e3, hcap, hR, hln, hlm⟩ := open_fields Tryz.underlying28 g3
  cases e0; cases e1; cases e2; cases e3
  have b0 : Rows.uptoBulk y0.1 = m.size + 1 := by rw [h0]; simp only [Rows.uptoBulk]; rw [Lib.size_eq]
  have b2 : Rows.uptoBulk y2.1 = p.size + 1 := by rw [h2]; simp only [Rows.uptoBulk]; rw [Lib.size_eq]
  have hall : Rows.uptoBulk y0.1 ≤ Rows.uptoBulk x.1 ∧ Rows.uptoBulk y1.1 ≤ Rows.uptoBulk x.1 ∧ Rows.uptoBulk y2.1 ≤ Rows.uptoBulk x.1 ∧ Rows.uptoBulk y3.1 ≤ Rows.uptoBulk x.1 := by
    rw [hx]
    simp only [Rows.uptoBulk, Rows.uptoBulkAll, List.map_cons, List.map_nil]
    omega
  refine ⟨m, a, b, c, d, n, po, p, A, cap, l, rfl, hb, hpo, hcap, hR, by omega, by omega, by omega, by omega, fun r hr => ?_⟩
  have := hlm r hr
  omega
end
theorem okRq_of {m : ByteArray} {a b c d : Int} {n p : ByteArray} {l : List S78} {B : Nat} (hb : inU8 a ∧ inU8 b ∧ inU8 c ∧ inU8 d) (hm : m.size ≤ B) (hn : n.size ≤ B) (hp : p.size ≤ B) (hl : l.length ≤ B) (hf : ∀ r ∈ l, r.f0.size ≤ B ∧ r.f1.size ≤ B) (hB : B ≤ 1048576) : okRq m a b c d n p l := by
  refine ⟨⟨hb.1, hb.2.1, hb.2.2.1, hb.2.2.2⟩, by omega, by omega, by omega, ?_⟩
  unfold okLv
  rw [Bool.and_eq_true, List.all_eq_true, decide_eq_true_eq]
  refine ⟨fun r hr => ?_, by omega⟩
  have := hf r hr
  rw [Bool.and_eq_true, decide_eq_true_eq, decide_eq_true_eq]
  omega
end Go.Proofs.YtaakgjbdknobbaaGreatDoor.E


namespace Go.Proofs.YtaakgjbdknobbaaGreatDoor
open Go.RowKit Go.Lib
set_option linter.unusedVariables false
theorem laidMet_tail {P : Program} {x : String × DataW Unit} {r : List (String × DataW Unit)} {W : World} (h : laidMet P (x :: r) W) : laidMet P r W := by
  obtain ⟨ps, ⟨g, t, cs, fuel, p, q, _, _, _, _, hr, rfl⟩, hn, hh⟩ := h
  exact ⟨q, hr, (List.nodup_append.1 hn).2.1, fun b off hb => hh b off (List.mem_append_right _ hb)⟩
theorem gSyn : Tryz.prog.globalNamed "strconv.ErrSyntax" = some 5 := by kernel_rfl
theorem gRng : Tryz.prog.globalNamed "strconv.ErrRange" = some 6 := by kernel_rfl
theorem gPowT : (Tryz.prog.globals[7]?).map (·.type) = some 295 := by kernel_rfl
theorem gSynT : (Tryz.prog.globals[5]?).map (·.type) = some 43 := by kernel_rfl
theorem gRngT : (Tryz.prog.globals[6]?).map (·.type) = some 43 := by kernel_rfl
theorem cellsTab : Tryz.prog.cellsOf 295 = 20 := by kernel_rfl
theorem cellsU64 : Tryz.prog.cellsOf 125 = 1 := by kernel_rfl
theorem cellsES : Tryz.prog.cellsOf 304 = 1 := by kernel_rfl
theorem cellsSt : Tryz.prog.cellsOf 9 = 1 := by kernel_rfl
theorem starES : "*" ++ "errors.errorString" = "*errors.errorString" := by decide
theorem rowES (u : TypeId) (h : Tryz.prog.typeName? 3 u = some "*errors.errorString") : u = 302 :=
  typeName_ptr_named (nm := "errors.errorString") (by rw [starES]; kernel_rfl) (by kernel_rfl) (by decide) u (by rw [starES]; exact h)
def lTab : String × DataW Unit := ("internal/strconv.uint64pow10", Rows.laid_internal_strconv_uint64pow10)
def lAcc : String × DataW Unit := ("unicode/utf8.acceptRanges", Rows.laid_unicode_utf8_acceptRanges)
def lRng : String × DataW Unit := ("strconv.ErrRange", Rows.laid_strconv_ErrRange)
def lSyn : String × DataW Unit := ("strconv.ErrSyntax", Rows.laid_strconv_ErrSyntax)
theorem stdW_of {x0 x1 : String × DataW Unit} {r : List (String × DataW Unit)} {W : World} (hL : laidMet Tryz.prog (x0 :: x1 :: lTab :: lAcc :: lRng :: lSyn :: r) W) (hsh : W.ShapedOpen Tryz.prog) : StdW W := by
  have h2 := laidMet_tail (laidMet_tail hL)
  have ht : TabIs Tryz.prog W "internal/strconv.uint64pow10" .u64 pow10Tab := tabIs_of_head gPow gPowT Tryz.underlying295 Tryz.underlying125 cellsU64 cellsTab h2
  have h4 := laidMet_tail (laidMet_tail h2)
  obtain ⟨a0, s0, hr, -, -, -⟩ := laid_sentinel h4 gRng gRngT Tryz.underlying43 rowES Tryz.underlying302 Tryz.underlying304 rfl rfl Tryz.underlying9 cellsES cellsSt
  obtain ⟨a1, s1, hs, -, -, -⟩ := laid_sentinel (laidMet_tail h4) gSyn gSynT Tryz.underlying43 rowES Tryz.underlying302 Tryz.underlying304 rfl rfl Tryz.underlying9 cellsES cellsSt
  have cr := World.var?_cell gRng hr 0
  have cs := World.var?_cell gSyn hs 0
  refine ⟨Go.Proofs.cell_of_shapedOpen_int (zero := #[.int .i64 0]) (t := 3) hsh (of_decide_eq_true (by kernel_rfl)) (by kernel_rfl) rfl (by kernel_rfl) (by kernel_rfl) Tryz.underlying3, ht, ⟨_, _, by simpa using cs⟩, ⟨_, _, by simpa using cr⟩, ?_⟩
  have c0 := ht.cell gPow 0 (by decide)
  exact World.block_lt_of_cell? _ _ c0
end Go.Proofs.YtaakgjbdknobbaaGreatDoor


namespace Go.Proofs.YtaakgjbdknobbaaGreatDoor
open Go
section
variable {H : Type} {enc : TypeId × Value → H}
theorem witness_zip {C : Checked} {os : Os} {f : FuncId} {fn : Func} {s : OpenSpec} {conds : List PathCond} {apart : Bool} {laid : List (String × DataW Unit)} (w0 : World) (args : Array Value) (hos : w0.os = os)
    (hsh : (w0.forCall (fun _ _ => 0) ⟨#[], args, []⟩).Shaped C.prog)
    (hok : Input.okWideB C.prog (w0.forCall (fun _ _ => 0) ⟨#[], args, []⟩) f ⟨#[], args, []⟩ = true)
    (hrow : s.preRow enc C.prog fn conds apart laid (w0.forCall (fun _ _ => 0) ⟨#[], args, []⟩).memory args) :
    ∃ (w : World) (tape : Tape) (i : Input), w.os = os ∧ (w.forCall tape i).Shaped C.prog ∧ i.vars = [] ∧ Input.okWide C.prog (w.forCall tape i) .any w.heap.size f i ∧
      s.preRow enc C.prog fn conds apart laid (w.forCall tape i).memory i.args ∧ ({} : Assume).holds C.prog (lone (Frame.enter C.prog f i.args .normal) [] (w.forCall tape i)) :=
  ⟨w0, fun _ _ => 0, ⟨#[], args, []⟩, hos, hsh, (Input.okWide_of_okWideB (base := 0) hok).1, (Input.okWide_of_okWideB hok).2, hrow, by
    simp only [Assume.holds]
    exact ⟨by simp, by simp, fun _ => Modest.zero, by simp, by simp⟩⟩
end
end Go.Proofs.YtaakgjbdknobbaaGreatDoor


namespace Go.Proofs.YtaakgjbdknobbaaGreatDoor
open Go
theorem jf_of {P : Program} {f : FuncId} {fn : Func} {s : ChangeSpec} {c : OpenClaim}
    (a1 : (c.wf (OpenSpec.ofChange s) && laidOutB P && mapsRowed P && fn.params.all (P.readableRec ·) && namedTie P c.named s.vars && (c.stops == []) && (P.stops == []) && (c.knobs == []) && (P.stopKnobs == [])) = true)
    (a2 : (c.inPlace == P.inPlace f) = true) (a3 : (c.unfollowed == P.unfollowed f) = true) (a4 : (c.recurses == P.recurses f) = true) (a5 : (c.named == P.varsNamed f) = true)
    (a6 : ((c.maps == (fn.params.toList ++ s.plain.varTypes P).any (P.mapsRec ·)) && (c.ifaces == (fn.params.toList ++ s.plain.varTypes P).any (P.ifacesRec ·)) && (c.mapsOut == P.mapsAmong fn.resultTypes.toList) && (c.loops == (fn.params.toList ++ s.plain.varTypes P).any (P.loopsFrom ·)) && (c.wideKeys == (fn.params.toList ++ s.plain.varTypes P ++ fn.resultTypes.toList).any (P.wideKeysFrom ·))) = true)
    (a7 : (s.vars.all (P.varReadable ·) && fn.resultTypes.all (fun t => P.readableRec t && decide (t < P.types.size)) && (c.ifacesOut == fn.resultTypes.toList.any (P.ifacesRec ·)) && (c.loopsOut == fn.resultTypes.toList.any (P.loopsFrom ·))) = true)
    (a8 : (c.plainKeys == P.plainKeys) = true) (a9 : (c.shortTexts.isNone && P.stopsHeard) = true) (a10 : P.mayEnter = true) (a11 : (c.lifted == P.liftsFinal) = true) (a12 : (P.make == some c.make) = true)
    (a13 : ((c.kinds == (if c.domain.isEmpty then [] else fn.params.toList.map fun t => match P.underlying t with | some (.int k) => some k | _ => none)) && (c.pinned == c.pinnedBy)) = true)
    (a14 : ((c.veiled == (fn.params.toList ++ s.plain.varTypes P ++ fn.resultTypes.toList).any (P.veiledRec ·)) && c.veiledFits P fn.params.toList (fn.params.toList ++ s.plain.varTypes P ++ fn.resultTypes.toList)) = true) : joinedFacts P f fn s c = true := by
  unfold joinedFacts
  simp only [Bool.and_eq_true] at a1 a6 a7 a9 a13 a14 ⊢
  obtain ⟨⟨⟨⟨⟨⟨⟨⟨b1, b2⟩, b3⟩, b4⟩, b5⟩, b6⟩, b7⟩, b8⟩, b9⟩ := a1
  obtain ⟨⟨⟨⟨c1, c2⟩, c3⟩, c4⟩, c5⟩ := a6
  obtain ⟨⟨⟨d1, d2⟩, d3⟩, d4⟩ := a7
  obtain ⟨e1, e2⟩ := a9
  obtain ⟨f1, f2⟩ := a13
  obtain ⟨g1, g2⟩ := a14
  exact ⟨⟨⟨⟨⟨⟨⟨⟨⟨⟨⟨⟨⟨⟨⟨⟨⟨⟨⟨⟨⟨⟨⟨⟨⟨⟨⟨⟨⟨⟨⟨b1, b2⟩, b3⟩, b4⟩, b5⟩, b6⟩, b7⟩, b8⟩, b9⟩, a2⟩, a3⟩, a4⟩, a5⟩, c1⟩, c2⟩, c3⟩, c4⟩, c5⟩, d1⟩, d2⟩, d3⟩, d4⟩, a8⟩, e1⟩, e2⟩, a10⟩, a11⟩, a12⟩, f1⟩, f2⟩, g1⟩, g2⟩
end Go.Proofs.YtaakgjbdknobbaaGreatDoor
