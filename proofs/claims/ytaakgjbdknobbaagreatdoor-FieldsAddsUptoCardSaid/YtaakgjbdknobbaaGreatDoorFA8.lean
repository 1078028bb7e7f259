/- What the cards of this seat rest on: the walks and plain laws, part 8. -/
import Derived.Test.YtaakgjbdknobbaaGreatDoorFA7
import Derived.Test.YtaakgjbdknobbaaGreatDoorProg
import Derived.Below
import Derived.Deep.Draws
import Derived.Deep.AppendLies
import Derived.Maps.AppendAt
import Derived.OwnWalk
import Derived.Laws.BytesArg
import Derived.Laws.MakeOwn
import Derived.Laws.OwnMore
import Derived.Deep.OwnRows
import Derived.Tactics
import Derived.Lib.ConvBytes
import Derived.Laws.Slices
import Derived.WalkKit
import Derived.KernelRfl
import Derived.RowKit3
import Derived.Deep.LoopGhost
import Derived.Deep.QuietTactic
import Derived.BigQuiet
import Derived.WideLaws
import Derived.Deep.DeepCutAuto
import Derived.Deep.CutBlock
import Derived.Deep.RegionHeld3
import Derived.Laws.Rows
import Derived.Lib.AppendStr
import Derived.ArgAppend
import Derived.Laws.IdiomCopy
import Derived.OrdersHeld
import Derived.Laws.BitsLemmas
import Derived.RowKit
import Derived.Test.YtaakgjbdknobbaaGreatDoorFA1


namespace Go.Proofs.YtaakgjbdknobbaaGreatDoor.E
open Go.RowKit Go.Proofs.YtaakgjbdknobbaaGreatDoorW.PrintWords Go.Proofs.YtaakgjbdknobbaaGreatDoorW.PrintLast Go.Proofs.YtaakgjbdknobbaaGreatDoor.XK Go.Proofs.YtaakgjbdknobbaaGreatDoor.XA Go.Proofs.YtaakgjbdknobbaaGreatDoor.XD
set_option linter.unusedVariables false
set_option linter.unusedSimpArgs false
abbrev rqC (m : ByteArray) (a b c d : Int) (n : ByteArray) (po : Int) (p : ByteArray) (A : Option Addr) (len cap : Nat) : Array Value := #[.string m, .int .u8 a, .int .u8 b, .int .u8 c, .int .u8 d, .string n, .int .i64 po, .string p, .slice A len cap]
theorem Blk.rq {w : World} {R : Nat} {m : ByteArray} {a b c d : Int} {n : ByteArray} {po : Int} {p : ByteArray} {A : Option Addr} {len cap : Nat} {T : TypeId} (h : Blk w R (rqC m a b c d n po p A len cap) T) :
    w.cell? ⟨R, 0, none⟩ = some (.string m) ∧ w.cell? ⟨R, 1, none⟩ = some (.int .u8 a) ∧ w.cell? ⟨R, 2, none⟩ = some (.int .u8 b) ∧ w.cell? ⟨R, 3, none⟩ = some (.int .u8 c) ∧ w.cell? ⟨R, 4, none⟩ = some (.int .u8 d) ∧ w.cell? ⟨R, 5, none⟩ = some (.string n) ∧ w.cell? ⟨R, 6, none⟩ = some (.int .i64 po) ∧ w.cell? ⟨R, 7, none⟩ = some (.string p) ∧ w.cell? ⟨R, 8, none⟩ = some (.slice A len cap) :=
  ⟨h.cell 0 _ rfl, h.cell 1 _ rfl, h.cell 2 _ rfl, h.cell 3 _ rfl, h.cell 4 _ rfl, h.cell 5 _ rfl, h.cell 6 _ rfl, h.cell 7 _ rfl, h.cell 8 _ rfl⟩
def line1 (m dt : ByteArray) : ByteArray := m ++ ⟨#[32]⟩ ++ dt ++ ⟨#[32, 72, 84, 84, 80, 47, 49, 46, 49]⟩
def line2 (m dt p : ByteArray) : ByteArray := m ++ ⟨#[32]⟩ ++ ((⟨#[104, 116, 116, 112, 58, 47, 47]⟩ : ByteArray) ++ dt ++ p) ++ ⟨#[32, 72, 84, 84, 80, 47, 49, 46, 49]⟩
def isConn (m : ByteArray) : Bool := m.toList == [67, 79, 78, 78, 69, 67, 84]
def preqT (dt m p : ByteArray) (l : List S78) : List Int × Int :=
  if dt.size = 0 ∨ tokB m = false then ([], 2)
  else if isConn m then (if p.size = 0 then putB (line1 m dt) l else ([], 2))
  else if Lib.hasPrefix p.data.toList [47] && Hd.plain p.data.toList 33 2048 then putB (line2 m dt p) l else ([], 2)
def PqPost (r : List Int × Int) (w : World) (e : Ending) (w' : World) : Prop := ∃ v0_ : Value, e = .returned (.tuple #[v0_, .int .i64 r.2]) ∧ Kd.R (Kd.int .u8) 5 w' w.heap.size (fun _ => True) v0_ r.1 ∧ Below w.heap.size w w'
set_option maxRecDepth 100000 in
set_option maxHeartbeats 16000000 in
theorem preq_walk (m : ByteArray) (a b c d : Int) (n : ByteArray) (po : Int) (p : ByteArray) (A0 : Option Addr) (c0 : Nat) (l : List S78) (dt : ByteArray) (w : World) (hS : StdW w) (hR : Kd.C k78 w A0 l.length l) (hc : l.length ≤ c0) (hok : okLv l = true)
    (hm : m.size ≤ 281474976710656) (hp : p.size ≤ 281474976710656) (hto : dt.size ≤ 300)
    (HPD : ∀ W, StdW W → Calls Tryz.prog 64 #[.agg #[.int .u8 a, .int .u8 b, .int .u8 c, .int .u8 d, .string n, .int .i64 po]] W fun e w' => e = .returned (.string dt) ∧ Below W.heap.size W w') :
    Calls Tryz.prog 42 #[.agg #[.string m, .int .u8 a, .int .u8 b, .int .u8 c, .int .u8 d, .string n, .int .i64 po, .string p, .slice A0 l.length c0]] w (PqPost (preqT dt m p l) w) := by
  have HS := Lib.hid hS
  have HR := Lib.hid hR
  have HP := Lib.hid HPD
  have HT := Lib.hid (token_any m hm)
  have HH := Lib.hid (fun W h => HasPrefix.calls p ⟨#[47]⟩ _ W h rfl)
  have HW : Hid (∀ W, Calls Tryz.prog 83 #[.string p, .int .u8 33, .int .i64 2048] W fun e w' => e = .returned (.bool (Hd.plain p.data.toList 33 2048)) ∧ Below W.heap.size W w') := Lib.hid (within_any p hp 33 2048)
  have HU := Lib.hid (fun (first : ByteArray) (hf : first.size ≤ 1000000) W (h : StdW W) (hr : Kd.C k78 W A0 l.length l) => put.calls first A0 c0 l (putB first l).1 (putB first l).2 W hr hc h (by unfold put.f; rw [if_pos ⟨hf, hok⟩]))
  have HZ := Lib.hid (Blk.new w (rqC m a b c d n po p A0 l.length c0) 30)
  have HB := Lib.hid (below_alloc (Below.refl w.heap.size w) (.cells (rqC m a b c d n po p A0 l.length c0) 30))
  obtain ⟨q0, q1, q2, q3, q4, q5, q6, q7, q8⟩ := HZ.out.rq
  have hpl : Hd.plain p.data.toList 33 2048 = true → p.size ≤ 2048 := fun h => by
    unfold Hd.plain at h
    simp only [Bool.and_eq_true, decide_eq_true_eq] at h
    rw [Lib.size_eq]; exact h.2
  have htl : tokB m = true → m.size ≤ 64 := token_len m
  rw [show (⟨#[47]⟩ : ByteArray).data.toList = [47] from rfl] at HH
  clear hS hR HPD hm hp hok
  unfold preqT isConn
  generalize tokB m = tk at HT htl ⊢
  generalize Lib.hasPrefix p.data.toList [47] = hx at HH ⊢
  generalize Hd.plain p.data.toList 33 2048 = wt at HW hpl ⊢
  by_cases h0 : dt.size = 0
  · have h1 : dt.toList.isEmpty = true := by rw [size_zero]; simpa using h0
    rw [if_pos (.inl h0)]
    go_enter Tryz.func42, Tryz.ntmps42
    go_wp2_with (first | (go_at_call 64; (with_reducible refine (HP.out _ (StdW.below HS.out HB.out)).mono ?_); rintro e wn ⟨rfl, hb⟩; have HZ := Lib.hid (HZ.out.below hb); have HB := Lib.hid (below_then HB.out HB.out.size hb); obtain ⟨q0, q1, q2, q3, q4, q5, q6, q7, q8⟩ := HZ.out.rq; clear hb) | (go_at_call 32; (with_reducible refine (HT.out _ (StdW.below HS.out HB.out)).mono ?_); rintro e wn ⟨rfl, hb⟩; have HZ := Lib.hid (HZ.out.below hb); have HB := Lib.hid (below_then HB.out HB.out.size hb); obtain ⟨q0, q1, q2, q3, q4, q5, q6, q7, q8⟩ := HZ.out.rq; clear hb) | (go_at_call 98; (with_reducible refine (HH.out _ (StdW.below HS.out HB.out)).mono ?_); rintro e wn ⟨rfl, hb⟩; have HZ := Lib.hid (HZ.out.below hb); have HB := Lib.hid (below_then HB.out HB.out.size hb); obtain ⟨q0, q1, q2, q3, q4, q5, q6, q7, q8⟩ := HZ.out.rq; clear hb) | (go_at_call 83; (with_reducible refine (HW.out _).mono ?_); rintro e wn ⟨rfl, hb⟩; have HZ := Lib.hid (HZ.out.below hb); have HB := Lib.hid (below_then HB.out HB.out.size hb); obtain ⟨q0, q1, q2, q3, q4, q5, q6, q7, q8⟩ := HZ.out.rq; clear hb) | (go_at_call 99; (with_reducible refine (HUU.out _ (StdW.below HS.out HB.out) (Kd.C_below HR.out HB.out)).mono ?_); rintro e wn ⟨v0, rfl, hr, hb⟩; have HRR := Lib.hid (Kd.R_lower hr HB.out.size); have HB := Lib.hid (below_then HB.out HB.out.size hb); clear hr hb))
    go_ret2
    exact ⟨_, rfl, Kd.R_nil _ _ _ _ _, HB.out⟩
  have h1 : dt.toList.isEmpty = false := by rw [size_zero]; simpa using h0
  cases tk
  · rw [if_pos (.inr rfl)]
    go_enter Tryz.func42, Tryz.ntmps42
    go_wp2_with (first | (go_at_call 64; (with_reducible refine (HP.out _ (StdW.below HS.out HB.out)).mono ?_); rintro e wn ⟨rfl, hb⟩; have HZ := Lib.hid (HZ.out.below hb); have HB := Lib.hid (below_then HB.out HB.out.size hb); obtain ⟨q0, q1, q2, q3, q4, q5, q6, q7, q8⟩ := HZ.out.rq; clear hb) | (go_at_call 32; (with_reducible refine (HT.out _ (StdW.below HS.out HB.out)).mono ?_); rintro e wn ⟨rfl, hb⟩; have HZ := Lib.hid (HZ.out.below hb); have HB := Lib.hid (below_then HB.out HB.out.size hb); obtain ⟨q0, q1, q2, q3, q4, q5, q6, q7, q8⟩ := HZ.out.rq; clear hb) | (go_at_call 98; (with_reducible refine (HH.out _ (StdW.below HS.out HB.out)).mono ?_); rintro e wn ⟨rfl, hb⟩; have HZ := Lib.hid (HZ.out.below hb); have HB := Lib.hid (below_then HB.out HB.out.size hb); obtain ⟨q0, q1, q2, q3, q4, q5, q6, q7, q8⟩ := HZ.out.rq; clear hb) | (go_at_call 83; (with_reducible refine (HW.out _).mono ?_); rintro e wn ⟨rfl, hb⟩; have HZ := Lib.hid (HZ.out.below hb); have HB := Lib.hid (below_then HB.out HB.out.size hb); obtain ⟨q0, q1, q2, q3, q4, q5, q6, q7, q8⟩ := HZ.out.rq; clear hb) | (go_at_call 99; (with_reducible refine (HUU.out _ (StdW.below HS.out HB.out) (Kd.C_below HR.out HB.out)).mono ?_); rintro e wn ⟨v0, rfl, hr, hb⟩; have HRR := Lib.hid (Kd.R_lower hr HB.out.size); have HB := Lib.hid (below_then HB.out HB.out.size hb); clear hr hb))
    go_ret2
    exact ⟨_, rfl, Kd.R_nil _ _ _ _ _, HB.out⟩
  have hm64 := htl rfl
  rw [if_neg (fun h => h.elim h0 (fun h => by cases h))]
  cases hcn : (m.toList == [67, 79, 78, 78, 69, 67, 84])
  · rw [if_neg Bool.false_ne_true]
    cases hx
    · rw [Bool.false_and, if_neg Bool.false_ne_true]
      go_enter Tryz.func42, Tryz.ntmps42
      go_wp2_with (first | (go_at_call 64; (with_reducible refine (HP.out _ (StdW.below HS.out HB.out)).mono ?_); rintro e wn ⟨rfl, hb⟩; have HZ := Lib.hid (HZ.out.below hb); have HB := Lib.hid (below_then HB.out HB.out.size hb); obtain ⟨q0, q1, q2, q3, q4, q5, q6, q7, q8⟩ := HZ.out.rq; clear hb) | (go_at_call 32; (with_reducible refine (HT.out _ (StdW.below HS.out HB.out)).mono ?_); rintro e wn ⟨rfl, hb⟩; have HZ := Lib.hid (HZ.out.below hb); have HB := Lib.hid (below_then HB.out HB.out.size hb); obtain ⟨q0, q1, q2, q3, q4, q5, q6, q7, q8⟩ := HZ.out.rq; clear hb) | (go_at_call 98; (with_reducible refine (HH.out _ (StdW.below HS.out HB.out)).mono ?_); rintro e wn ⟨rfl, hb⟩; have HZ := Lib.hid (HZ.out.below hb); have HB := Lib.hid (below_then HB.out HB.out.size hb); obtain ⟨q0, q1, q2, q3, q4, q5, q6, q7, q8⟩ := HZ.out.rq; clear hb) | (go_at_call 83; (with_reducible refine (HW.out _).mono ?_); rintro e wn ⟨rfl, hb⟩; have HZ := Lib.hid (HZ.out.below hb); have HB := Lib.hid (below_then HB.out HB.out.size hb); obtain ⟨q0, q1, q2, q3, q4, q5, q6, q7, q8⟩ := HZ.out.rq; clear hb) | (go_at_call 99; (with_reducible refine (HUU.out _ (StdW.below HS.out HB.out) (Kd.C_below HR.out HB.out)).mono ?_); rintro e wn ⟨v0, rfl, hr, hb⟩; have HRR := Lib.hid (Kd.R_lower hr HB.out.size); have HB := Lib.hid (below_then HB.out HB.out.size hb); clear hr hb))
      go_ret2
      exact ⟨_, rfl, Kd.R_nil _ _ _ _ _, HB.out⟩
    · cases wt
      · rw [Bool.and_false, if_neg Bool.false_ne_true]
        go_enter Tryz.func42, Tryz.ntmps42
        go_wp2_with (first | (go_at_call 64; (with_reducible refine (HP.out _ (StdW.below HS.out HB.out)).mono ?_); rintro e wn ⟨rfl, hb⟩; have HZ := Lib.hid (HZ.out.below hb); have HB := Lib.hid (below_then HB.out HB.out.size hb); obtain ⟨q0, q1, q2, q3, q4, q5, q6, q7, q8⟩ := HZ.out.rq; clear hb) | (go_at_call 32; (with_reducible refine (HT.out _ (StdW.below HS.out HB.out)).mono ?_); rintro e wn ⟨rfl, hb⟩; have HZ := Lib.hid (HZ.out.below hb); have HB := Lib.hid (below_then HB.out HB.out.size hb); obtain ⟨q0, q1, q2, q3, q4, q5, q6, q7, q8⟩ := HZ.out.rq; clear hb) | (go_at_call 98; (with_reducible refine (HH.out _ (StdW.below HS.out HB.out)).mono ?_); rintro e wn ⟨rfl, hb⟩; have HZ := Lib.hid (HZ.out.below hb); have HB := Lib.hid (below_then HB.out HB.out.size hb); obtain ⟨q0, q1, q2, q3, q4, q5, q6, q7, q8⟩ := HZ.out.rq; clear hb) | (go_at_call 83; (with_reducible refine (HW.out _).mono ?_); rintro e wn ⟨rfl, hb⟩; have HZ := Lib.hid (HZ.out.below hb); have HB := Lib.hid (below_then HB.out HB.out.size hb); obtain ⟨q0, q1, q2, q3, q4, q5, q6, q7, q8⟩ := HZ.out.rq; clear hb) | (go_at_call 99; (with_reducible refine (HUU.out _ (StdW.below HS.out HB.out) (Kd.C_below HR.out HB.out)).mono ?_); rintro e wn ⟨v0, rfl, hr, hb⟩; have HRR := Lib.hid (Kd.R_lower hr HB.out.size); have HB := Lib.hid (below_then HB.out HB.out.size hb); clear hr hb))
        go_ret2
        exact ⟨_, rfl, Kd.R_nil _ _ _ _ _, HB.out⟩
      · have hp48 := hpl rfl
        rw [Bool.and_true, if_pos rfl]
        have HUU := Lib.hid (HU.out (line2 m dt p) (by unfold line2; rw [ByteArray.size_append, ByteArray.size_append, ByteArray.size_append, ByteArray.size_append, ByteArray.size_append]; show m.size + 1 + (7 + dt.size + p.size) + 9 ≤ _; omega))
        have e2 : m ++ ⟨#[32]⟩ ++ ((⟨#[104, 116, 116, 112, 58, 47, 47]⟩ : ByteArray) ++ dt ++ p) ++ ⟨#[32, 72, 84, 84, 80, 47, 49, 46, 49]⟩ = line2 m dt p := rfl
        go_enter Tryz.func42, Tryz.ntmps42
        go_wp2_with (first | (go_at_call 64; (with_reducible refine (HP.out _ (StdW.below HS.out HB.out)).mono ?_); rintro e wn ⟨rfl, hb⟩; have HZ := Lib.hid (HZ.out.below hb); have HB := Lib.hid (below_then HB.out HB.out.size hb); obtain ⟨q0, q1, q2, q3, q4, q5, q6, q7, q8⟩ := HZ.out.rq; clear hb) | (go_at_call 32; (with_reducible refine (HT.out _ (StdW.below HS.out HB.out)).mono ?_); rintro e wn ⟨rfl, hb⟩; have HZ := Lib.hid (HZ.out.below hb); have HB := Lib.hid (below_then HB.out HB.out.size hb); obtain ⟨q0, q1, q2, q3, q4, q5, q6, q7, q8⟩ := HZ.out.rq; clear hb) | (go_at_call 98; (with_reducible refine (HH.out _ (StdW.below HS.out HB.out)).mono ?_); rintro e wn ⟨rfl, hb⟩; have HZ := Lib.hid (HZ.out.below hb); have HB := Lib.hid (below_then HB.out HB.out.size hb); obtain ⟨q0, q1, q2, q3, q4, q5, q6, q7, q8⟩ := HZ.out.rq; clear hb) | (go_at_call 83; (with_reducible refine (HW.out _).mono ?_); rintro e wn ⟨rfl, hb⟩; have HZ := Lib.hid (HZ.out.below hb); have HB := Lib.hid (below_then HB.out HB.out.size hb); obtain ⟨q0, q1, q2, q3, q4, q5, q6, q7, q8⟩ := HZ.out.rq; clear hb) | (go_at_call 99; (with_reducible refine (HUU.out _ (StdW.below HS.out HB.out) (Kd.C_below HR.out HB.out)).mono ?_); rintro e wn ⟨v0, rfl, hr, hb⟩; have HRR := Lib.hid (Kd.R_lower hr HB.out.size); have HB := Lib.hid (below_then HB.out HB.out.size hb); clear hr hb))
        go_ret2
        exact ⟨v0, rfl, HRR.out, HB.out⟩
  · rw [if_pos rfl]
    by_cases hp0 : p.size = 0
    · have hpe : p.toList.isEmpty = true := by rw [size_zero]; simpa using hp0
      rw [if_pos hp0]
      have HUU := Lib.hid (HU.out (line1 m dt) (by unfold line1; rw [ByteArray.size_append, ByteArray.size_append, ByteArray.size_append]; show m.size + 1 + dt.size + 9 ≤ _; omega))
      have e2 : m ++ ⟨#[32]⟩ ++ dt ++ ⟨#[32, 72, 84, 84, 80, 47, 49, 46, 49]⟩ = line1 m dt := rfl
      go_enter Tryz.func42, Tryz.ntmps42
      go_wp2_with (first | (go_at_call 64; (with_reducible refine (HP.out _ (StdW.below HS.out HB.out)).mono ?_); rintro e wn ⟨rfl, hb⟩; have HZ := Lib.hid (HZ.out.below hb); have HB := Lib.hid (below_then HB.out HB.out.size hb); obtain ⟨q0, q1, q2, q3, q4, q5, q6, q7, q8⟩ := HZ.out.rq; clear hb) | (go_at_call 32; (with_reducible refine (HT.out _ (StdW.below HS.out HB.out)).mono ?_); rintro e wn ⟨rfl, hb⟩; have HZ := Lib.hid (HZ.out.below hb); have HB := Lib.hid (below_then HB.out HB.out.size hb); obtain ⟨q0, q1, q2, q3, q4, q5, q6, q7, q8⟩ := HZ.out.rq; clear hb) | (go_at_call 98; (with_reducible refine (HH.out _ (StdW.below HS.out HB.out)).mono ?_); rintro e wn ⟨rfl, hb⟩; have HZ := Lib.hid (HZ.out.below hb); have HB := Lib.hid (below_then HB.out HB.out.size hb); obtain ⟨q0, q1, q2, q3, q4, q5, q6, q7, q8⟩ := HZ.out.rq; clear hb) | (go_at_call 83; (with_reducible refine (HW.out _).mono ?_); rintro e wn ⟨rfl, hb⟩; have HZ := Lib.hid (HZ.out.below hb); have HB := Lib.hid (below_then HB.out HB.out.size hb); obtain ⟨q0, q1, q2, q3, q4, q5, q6, q7, q8⟩ := HZ.out.rq; clear hb) | (go_at_call 99; (with_reducible refine (HUU.out _ (StdW.below HS.out HB.out) (Kd.C_below HR.out HB.out)).mono ?_); rintro e wn ⟨v0, rfl, hr, hb⟩; have HRR := Lib.hid (Kd.R_lower hr HB.out.size); have HB := Lib.hid (below_then HB.out HB.out.size hb); clear hr hb))
      go_ret2
      exact ⟨v0, rfl, HRR.out, HB.out⟩
    · have hpe : p.toList.isEmpty = false := by rw [size_zero]; simpa using hp0
      rw [if_neg hp0]
      go_enter Tryz.func42, Tryz.ntmps42
      go_wp2_with (first | (go_at_call 64; (with_reducible refine (HP.out _ (StdW.below HS.out HB.out)).mono ?_); rintro e wn ⟨rfl, hb⟩; have HZ := Lib.hid (HZ.out.below hb); have HB := Lib.hid (below_then HB.out HB.out.size hb); obtain ⟨q0, q1, q2, q3, q4, q5, q6, q7, q8⟩ := HZ.out.rq; clear hb) | (go_at_call 32; (with_reducible refine (HT.out _ (StdW.below HS.out HB.out)).mono ?_); rintro e wn ⟨rfl, hb⟩; have HZ := Lib.hid (HZ.out.below hb); have HB := Lib.hid (below_then HB.out HB.out.size hb); obtain ⟨q0, q1, q2, q3, q4, q5, q6, q7, q8⟩ := HZ.out.rq; clear hb) | (go_at_call 98; (with_reducible refine (HH.out _ (StdW.below HS.out HB.out)).mono ?_); rintro e wn ⟨rfl, hb⟩; have HZ := Lib.hid (HZ.out.below hb); have HB := Lib.hid (below_then HB.out HB.out.size hb); obtain ⟨q0, q1, q2, q3, q4, q5, q6, q7, q8⟩ := HZ.out.rq; clear hb) | (go_at_call 83; (with_reducible refine (HW.out _).mono ?_); rintro e wn ⟨rfl, hb⟩; have HZ := Lib.hid (HZ.out.below hb); have HB := Lib.hid (below_then HB.out HB.out.size hb); obtain ⟨q0, q1, q2, q3, q4, q5, q6, q7, q8⟩ := HZ.out.rq; clear hb) | (go_at_call 99; (with_reducible refine (HUU.out _ (StdW.below HS.out HB.out) (Kd.C_below HR.out HB.out)).mono ?_); rintro e wn ⟨v0, rfl, hr, hb⟩; have HRR := Lib.hid (Kd.R_lower hr HB.out.size); have HB := Lib.hid (below_then HB.out HB.out.size hb); clear hr hb))
      go_ret2
      exact ⟨_, rfl, Kd.R_nil _ _ _ _ _, HB.out⟩
end Go.Proofs.YtaakgjbdknobbaaGreatDoor.E


namespace Go.Proofs.YtaakgjbdknobbaaGreatDoor.E
open Go.RowKit Go.Proofs.YtaakgjbdknobbaaGreatDoorW.PrintWords Go.Proofs.YtaakgjbdknobbaaGreatDoorW.PrintLast Go.Proofs.YtaakgjbdknobbaaGreatDoor.XK Go.Proofs.YtaakgjbdknobbaaGreatDoor.XA Go.Proofs.YtaakgjbdknobbaaGreatDoor.XD
set_option linter.unusedVariables false
set_option linter.unusedSimpArgs false
def okRq (m : ByteArray) (a b c d : Int) (n p : ByteArray) (l : List S78) : Prop := okB4 a b c d ∧ n.size ≤ 281474976710656 ∧ m.size ≤ 281474976710656 ∧ p.size ≤ 281474976710656 ∧ okLv l = true
instance (m : ByteArray) (a b c d : Int) (n p : ByteArray) (l : List S78) : Decidable (okRq m a b c d n p l) := by unfold okRq okB4; exact inferInstance
def preq.f (m : ByteArray) (a b c d : Int) (n : ByteArray) (po : Int) (p : ByteArray) (l : List S78) : Option (List Int × Int) := if okRq m a b c d n p l then some (preqT (printDestB a b c d n po) m p l) else none
theorem pdB_size (a b c d : Int) (n : ByteArray) (po : Int) (hb : okB4 a b c d) : (printDestB a b c d n po).size ≤ 300 := by
  by_cases h : (printDestB a b c d n po).size = 0
  · omega
  · have := (pd_told a b c d n po hb h).2; omega
theorem preq.calls (m : ByteArray) (a b c d : Int) (n : ByteArray) (po : Int) (p : ByteArray) (A8 : Option Addr) (c8 : Nat) (l : List S78) (r1 : List Int) (r2 : Int) (w : World) (hr : Kd.C k78 w A8 l.length l) (hc : l.length ≤ c8) (hS_ : StdW w) (h : preq.f m a b c d n po p l = some (r1, r2)) :
    Calls Tryz.prog 42 #[.agg #[.string m, .int .u8 a, .int .u8 b, .int .u8 c, .int .u8 d, .string n, .int .i64 po, .string p, .slice A8 l.length c8]] w fun e w' => ∃ v0_ : Value, e = .returned (.tuple #[v0_, .int .i64 r2]) ∧ Kd.R (Kd.int .u8) 5 w' w.heap.size (fun _ => True) v0_ r1 ∧ Below w.heap.size w w' := by
  unfold preq.f at h
  split at h
  · rename_i hk
    obtain ⟨hb, hn, hm, hp, hl⟩ := hk
    have h := Option.some.inj h
    have := preq_walk m a b c d n po p A8 c8 l (printDestB a b c d n po) w hS_ hr hc hl hm hp (pdB_size a b c d n po hb) (fun W hW => hPrintDest.calls a b c d n po _ W hW (by unfold hPrintDest.f; rw [if_pos ⟨hb.1, hb.2.1, hb.2.2.1, hb.2.2.2, hn⟩]))
    rw [h] at this
    exact this
  · cases h
end Go.Proofs.YtaakgjbdknobbaaGreatDoor.E


namespace Go.Proofs.YtaakgjbdknobbaaGreatDoor.XY
open Go.Proofs.YtaakgjbdknobbaaGreatDoor.XK Go.Proofs.YtaakgjbdknobbaaGreatDoor.XA Go.Proofs.YtaakgjbdknobbaaGreatDoor.XD
open Go.RowKit Go.Proofs.YtaakgjbdknobbaaGreatDoorW.PrintWords Go.Proofs.YtaakgjbdknobbaaGreatDoorW.PrintLast Go.Proofs.YtaakgjbdknobbaaGreatDoorW.PrintMore
attribute [local go_sem] max2_int min2_int max_two min_two max_three min_three max_four min_four
set_option linter.unusedVariables false
set_option linter.unusedSimpArgs false
structure S23 where
 f0 : Int
 f1 : Int
 f2 : Int
 f3 : Int
def z23 : S23 := ⟨(0 : Int), (0 : Int), (0 : Int), (0 : Int)⟩
structure S25 where
 f0 : S23
 f1 : ByteArray
def z25 : S25 := ⟨z23, (⟨#[]⟩ : ByteArray)⟩
end Go.Proofs.YtaakgjbdknobbaaGreatDoor.XY


namespace Go.Proofs.YtaakgjbdknobbaaGreatDoor.XY
open Go.Proofs.YtaakgjbdknobbaaGreatDoor.XK Go.Proofs.YtaakgjbdknobbaaGreatDoor.XA Go.Proofs.YtaakgjbdknobbaaGreatDoor.XD
open Go.RowKit Go.Proofs.YtaakgjbdknobbaaGreatDoorW.PrintWords Go.Proofs.YtaakgjbdknobbaaGreatDoorW.PrintLast Go.Proofs.YtaakgjbdknobbaaGreatDoorW.PrintMore
attribute [local go_sem] max2_int min2_int max_two min_two max_three min_three max_four min_four
set_option linter.unusedVariables false
set_option linter.unusedSimpArgs false
def fields_Key.f (a0_0 : ByteArray) (a0_1 : Int) (a0_2 : Int) (a0_3 : Int) (a0_4 : Int) (a0_5 : ByteArray) (a0_6 : Int) (a0_7 : ByteArray) (l0_8 : List (S78)) : Option (ByteArray × Int) := (E.preq.f a0_0 a0_1 a0_2 a0_3 a0_4 a0_5 a0_6 a0_7 l0_8).bind fun bt102 => (if bt102.2 = 0 then (if a0_0.toList = ([71, 69, 84] : List UInt8) then ((E.hPrintDest.f a0_1 a0_2 a0_3 a0_4 a0_5 a0_6).bind fun t106 => (if t106.size + a0_7.size ≤ 9223372036854775807 then (some (t106 ++ a0_7, 0)) else (none))) else (some ((⟨#[]⟩ : ByteArray), 2))) else (some ((⟨#[]⟩ : ByteArray), 2)))
def fields_Key.T4 : Bool × List (List Nat × List Nat) := (true, [([], []), ([0], [0]), ([1], [1]), ([], []), ([3], [3]), ([2, 4], [2, 4]), ([5, 2, 0, 1, 2, 3, 4, 5], [5]), ([6, 0, 1, 2, 3, 4, 5, 6], [])])
def fields_Key.B4 : List Nat := [0, 1, 3, 0, 8, 31, 63, 127]
theorem fields_Key.tab4 : rtab .any (opsOf Tryz.f15 4) = fields_Key.T4 := by kernel_rfl
theorem fields_Key.bits4 : waitsOk fields_Key.T4.2 fields_Key.B4 = true := by kernel_rfl
set_option maxHeartbeats 8000000 in
set_option maxRecDepth 100000 in
theorem fields_Key.calls (a0_0 : ByteArray) (a0_1 : Int) (a0_2 : Int) (a0_3 : Int) (a0_4 : Int) (a0_5 : ByteArray) (a0_6 : Int) (a0_7 : ByteArray) (A0_8 : Option Addr) (c0_8 : Nat) (l0_8 : List (S78)) (r1 : ByteArray) (r2 : Int) (w : World) (hr0_8 : Kd.C k78 w A0_8 l0_8.length l0_8) (hc0_8 : l0_8.length ≤ c0_8) (hS_ : StdW w) (h : fields_Key.f a0_0 a0_1 a0_2 a0_3 a0_4 a0_5 a0_6 a0_7 l0_8 = some (r1, r2)) :
  Calls Tryz.prog 15 #[.agg #[.string a0_0, .int .u8 a0_1, .int .u8 a0_2, .int .u8 a0_3, .int .u8 a0_4, .string a0_5, .int .i64 a0_6, .string a0_7, .slice A0_8 l0_8.length c0_8]] w fun e w' => e = .returned (.tuple #[.string r1, .int .i64 r2]) ∧ Below w.heap.size w w' := by
 have hu30 := Tryz.underlying30
 have hu27 := Tryz.underlying27
 have HR0_8 := Aside0.mk hr0_8
 have HC0_8 := Aside0.mk hc0_8
 clear hr0_8 hc0_8
 have HS_ := Aside0.mk hS_
 clear hS_
 have HB := Aside0.mk (Below.refl w.heap.size w)
 have H : ((E.preq.f a0_0 a0_1 a0_2 a0_3 a0_4 a0_5 a0_6 a0_7 l0_8).bind fun bt102 => (if bt102.2 = 0 then (if a0_0.toList = ([71, 69, 84] : List UInt8) then ((E.hPrintDest.f a0_1 a0_2 a0_3 a0_4 a0_5 a0_6).bind fun t106 => (if t106.size + a0_7.size ≤ 9223372036854775807 then (some (t106 ++ a0_7, 0)) else (none))) else (some ((⟨#[]⟩ : ByteArray), 2))) else (some ((⟨#[]⟩ : ByteArray), 2)))) = some (r1, r2) := h
 clear h
 replace H := Option.bind_eq_some_iff.mp H
 obtain ⟨⟨t102, t105⟩, A20, H⟩ := H
 replace H : (if t105 = 0 then (if a0_0.toList = ([71, 69, 84] : List UInt8) then ((E.hPrintDest.f a0_1 a0_2 a0_3 a0_4 a0_5 a0_6).bind fun t106 => (if t106.size + a0_7.size ≤ 9223372036854775807 then (some (t106 ++ a0_7, 0)) else (none))) else (some ((⟨#[]⟩ : ByteArray), 2))) else (some ((⟨#[]⟩ : ByteArray), 2))) = some (r1, r2) := H
 have A2 := Aside0.mk A20
 clear A20
 by_cases c3 : t105 = 0
 ·rw [if_pos c3] at H
  have c3b0 : (t105 == 0) = true := beq_iff_eq.mpr c3
  have c3b1 : (t105 != 0) = false := bne_eq_false_iff_eq.mpr c3
  clear c3
  by_cases c4 : a0_0.toList = ([71, 69, 84] : List UInt8)
  ·rw [if_pos c4] at H
   have c4b0 : (a0_0.toList == ([71, 69, 84] : List UInt8)) = true := beq_iff_eq.mpr c4
   have c4b1 : (a0_0.toList != ([71, 69, 84] : List UInt8)) = false := bne_eq_false_iff_eq.mpr c4
   clear c4
   replace H := Option.bind_eq_some_iff.mp H
   obtain ⟨t106, A50, H⟩ := H
   replace H : (if t106.size + a0_7.size ≤ 9223372036854775807 then (some (t106 ++ a0_7, 0)) else (none)) = some (r1, r2) := H
   have A5 := Aside0.mk A50
   clear A50
   by_cases c6 : t106.size + a0_7.size ≤ 9223372036854775807
   ·rw [if_pos c6] at H
    have c6b0 := eq_true c6
    have c6b1 : decide (t106.size + a0_7.size ≤ 9223372036854775807) = true := decide_eq_true c6
    try have c6b2 : (9223372036854775807 < t106.size + a0_7.size) = False := eq_false (Nat.not_lt.2 c6)
    simp only [Option.some.injEq, Prod.mk.injEq] at H
    obtain ⟨rfl, rfl⟩ := H
    go_enter Tryz.func15, Tryz.ntmps15
    try go_wp2_with (first | ((with_reducible refine gate_dst (N := 1) rfl ?_); refine box_event ?hg (N := 1) ?hd (cs := #[.string a0_0, .int .u8 a0_1, .int .u8 a0_2, .int .u8 a0_3, .int .u8 a0_4, .string a0_5, .int .i64 a0_6, .string a0_7, .slice A0_8 l0_8.length c0_8]) (t := 30) ?hr ?_; (case hd => rfl); (case hg => rfl); (case hr => first | (go_simp; done) | (go_simp; rfl)); intro gb101 hg w7 hbox hb; have n0_ := Aside0.mk (below_step (by repeat (first | (with_reducible first | exact HB.out | apply below_alloc | apply pw_below_drewN | apply below_drew1) | exact HB.out)) hb); have n1_ := Aside0.mk (hbox); have n2_ := Aside0.mk ((by rw [hg]; exact (below_size (by repeat (first | (with_reducible first | exact HB.out | apply below_alloc | apply pw_below_drewN | apply below_drew1) | exact HB.out))) : w.heap.size ≤ gb101)); have n3_ := Aside0.mk ((by rw [hg]; exact (below_size (by repeat (first | (with_reducible first | exact HB.out | apply below_alloc | apply pw_below_drewN | apply below_drew1) | exact HB.out))) : w.heap.size ≤ gb101)); clear HB; have HB := n0_; have BK101 := n1_; have GW101 := n2_; have GE101 := n3_; clear n0_ n1_ n2_ n3_; clear hb hbox hg; have hcz8_0 : w7.cell? ⟨gb101, 0, none⟩ = some (.string a0_0) := (blk_cell BK101.out 0).trans rfl; have hcz8_1 : w7.cell? ⟨gb101, 1, none⟩ = some (.int .u8 a0_1) := (blk_cell BK101.out 1).trans rfl; have hcz8_2 : w7.cell? ⟨gb101, 2, none⟩ = some (.int .u8 a0_2) := (blk_cell BK101.out 2).trans rfl; have hcz8_3 : w7.cell? ⟨gb101, 3, none⟩ = some (.int .u8 a0_3) := (blk_cell BK101.out 3).trans rfl; have hcz8_4 : w7.cell? ⟨gb101, 4, none⟩ = some (.int .u8 a0_4) := (blk_cell BK101.out 4).trans rfl; have hcz8_5 : w7.cell? ⟨gb101, 5, none⟩ = some (.string a0_5) := (blk_cell BK101.out 5).trans rfl; have hcz8_6 : w7.cell? ⟨gb101, 6, none⟩ = some (.int .i64 a0_6) := (blk_cell BK101.out 6).trans rfl; have hcz8_7 : w7.cell? ⟨gb101, 7, none⟩ = some (.string a0_7) := (blk_cell BK101.out 7).trans rfl; have hcz8_8 : w7.cell? ⟨gb101, 8, none⟩ = some (.slice A0_8 l0_8.length c0_8) := (blk_cell BK101.out 8).trans rfl; have hfz8_0 := blk_frozen BK101.out 0; have hfz8_1 := blk_frozen BK101.out 1; have hfz8_2 := blk_frozen BK101.out 2; have hfz8_3 := blk_frozen BK101.out 3; have hfz8_4 := blk_frozen BK101.out 4; have hfz8_5 := blk_frozen BK101.out 5; have hfz8_6 := blk_frozen BK101.out 6; have hfz8_7 := blk_frozen BK101.out 7; have hfz8_8 := blk_frozen BK101.out 8) | ((with_reducible refine gate_callee (f := 42) rfl ?_); refine goesL_ (some 8) rfl rfl Tryz.func42 (by kernel_rfl) rfl #[.agg #[.string a0_0, .int .u8 a0_1, .int .u8 a0_2, .int .u8 a0_3, .int .u8 a0_4, .string a0_5, .int .i64 a0_6, .string a0_7, .slice A0_8 l0_8.length c0_8]] rfl (by (try simp only [List.map_toArray, List.map_cons, List.map_nil]); first | done | rfl | (simp only [List.length_drop, List.length_take]; rfl)) ?_; (with_reducible refine (E.preq.calls a0_0 a0_1 a0_2 a0_3 a0_4 a0_5 a0_6 a0_7 _ _ l0_8 t102 t105 _ ?side1 ?side2 ?side3 A2.out).mono ?_); (case side1 => repeat (first | exact (Kd.C_below HR0_8.out HB.out) | (with_reducible refine Kd.C_alloc ?_ _) | (with_reducible refine Kd.C_drewN ?_ _) | (with_reducible refine Kd.C_drew ?_))); (case side2 => exact HC0_8.out); (case side3 => exact StdW.below HS_.out (by repeat (first | (with_reducible first | exact HB.out | apply below_alloc | apply pw_below_drewN | apply below_drew1 | refine below_set ?_ GE101.out) | exact HB.out))); rintro e w9 ⟨v103, rfl, ho0, hb⟩; refine ⟨_, rfl, ?_⟩; have n0_ := Aside0.mk (Kd.R_lower ho0 (below_size (by repeat (first | (with_reducible first | exact HB.out | apply below_alloc | apply pw_below_drewN | apply below_drew1 | refine below_set ?_ GE101.out) | exact HB.out)))); have n1_ := Aside0.mk (blk_below (g := gb101) (o := .cells #[.string a0_0, .int .u8 a0_1, .int .u8 a0_2, .int .u8 a0_3, .int .u8 a0_4, .string a0_5, .int .i64 a0_6, .string a0_7, .slice A0_8 l0_8.length c0_8] 30 (0, 0)) (by (with_reducible repeat (first | refine blk_drewN ?_ _ | refine blk_drew ?_ | refine blk_alloc ?_ _)); exact BK101.out) hb); have n2_ := Aside0.mk (below_step (by repeat (first | (with_reducible first | exact HB.out | apply below_alloc | apply pw_below_drewN | apply below_drew1 | refine below_set ?_ GE101.out) | exact HB.out)) hb); clear BK101; clear HB; have HO104 := n0_; have BK101 := n1_; have HB := n2_; clear n0_ n1_ n2_; (try clear hb); (try clear hb2); (try clear hk); (try clear hi); (try clear ho0); have hcz10_0 : w9.cell? ⟨gb101, 0, none⟩ = some (.string a0_0) := (blk_cell BK101.out 0).trans rfl; have hcz10_1 : w9.cell? ⟨gb101, 1, none⟩ = some (.int .u8 a0_1) := (blk_cell BK101.out 1).trans rfl; have hcz10_2 : w9.cell? ⟨gb101, 2, none⟩ = some (.int .u8 a0_2) := (blk_cell BK101.out 2).trans rfl; have hcz10_3 : w9.cell? ⟨gb101, 3, none⟩ = some (.int .u8 a0_3) := (blk_cell BK101.out 3).trans rfl; have hcz10_4 : w9.cell? ⟨gb101, 4, none⟩ = some (.int .u8 a0_4) := (blk_cell BK101.out 4).trans rfl; have hcz10_5 : w9.cell? ⟨gb101, 5, none⟩ = some (.string a0_5) := (blk_cell BK101.out 5).trans rfl; have hcz10_6 : w9.cell? ⟨gb101, 6, none⟩ = some (.int .i64 a0_6) := (blk_cell BK101.out 6).trans rfl; have hcz10_7 : w9.cell? ⟨gb101, 7, none⟩ = some (.string a0_7) := (blk_cell BK101.out 7).trans rfl; have hcz10_8 : w9.cell? ⟨gb101, 8, none⟩ = some (.slice A0_8 l0_8.length c0_8) := (blk_cell BK101.out 8).trans rfl; have hfz10_0 := blk_frozen BK101.out 0; have hfz10_1 := blk_frozen BK101.out 1; have hfz10_2 := blk_frozen BK101.out 2; have hfz10_3 := blk_frozen BK101.out 3; have hfz10_4 := blk_frozen BK101.out 4; have hfz10_5 := blk_frozen BK101.out 5; have hfz10_6 := blk_frozen BK101.out 6; have hfz10_7 := blk_frozen BK101.out 7; have hfz10_8 := blk_frozen BK101.out 8))
    have n0_ := Aside0.mk (Kd.R_drew HO104.out)
    have n1_ := Aside0.mk (blk_drew BK101.out)
    have n2_ := Aside0.mk (below_drew1 HB.out)
    clear HO104
    clear BK101
    clear HB
    have HO104 := n0_
    have BK101 := n1_
    have HB := n2_
    clear n0_ n1_ n2_
    refine start_ (n := 8) (S := fun w' => w'.cell? ⟨gb101, 0, none⟩ = some (.string a0_0) ∧ w'.cell? ⟨gb101, 1, none⟩ = some (.int .u8 a0_1) ∧ w'.cell? ⟨gb101, 2, none⟩ = some (.int .u8 a0_2) ∧ w'.cell? ⟨gb101, 3, none⟩ = some (.int .u8 a0_3) ∧ w'.cell? ⟨gb101, 4, none⟩ = some (.int .u8 a0_4) ∧ w'.cell? ⟨gb101, 5, none⟩ = some (.string a0_5) ∧ w'.cell? ⟨gb101, 6, none⟩ = some (.int .i64 a0_6) ∧ w'.cell? ⟨gb101, 7, none⟩ = some (.string a0_7) ∧ w'.cell? ⟨gb101, 8, none⟩ = some (.slice A0_8 l0_8.length c0_8)) (ds := []) #[false, false, false, false, false, false, false, false] (by kernel_rfl) rfl rfl ⟨(blk_cell BK101.out 0).trans rfl, (blk_cell BK101.out 1).trans rfl, (blk_cell BK101.out 2).trans rfl, (blk_cell BK101.out 3).trans rfl, (blk_cell BK101.out 4).trans rfl, (blk_cell BK101.out 5).trans rfl, (blk_cell BK101.out 6).trans rfl, (blk_cell BK101.out 7).trans rfl, (blk_cell BK101.out 8).trans rfl⟩ (fun hHeld => ?_); refine with_tabW fields_Key.tab4 fields_Key.bits4 (fun HT_ HW_ => ?_)
    generalize w9.drew = w11 at HO104 BK101 HB hHeld ⊢
    refine pure_ (i := 0) (N := some 18) (v := ?_) (a' := ?_) #[true, false, false, false, false, false, false, false] rfl rfl (any_of HT_.out (by kernel_rfl)) (fun _ _ _ h => h) (Or.inl ⟨by rfl, ?_⟩) ?_ ?_
    rotate_left
    ·intro w'
     go_simp
     with_reducible rfl
    rotate_left
    ·simp only [Act.put, List.setIfInBounds_toArray, List.set_cons_zero, List.set_cons_succ, i64_w, i32_w]
     rfl
    refine pure_ (i := 3) (N := some 21) (v := ?_) (a' := ?_) #[true, false, false, true, false, false, false, false] rfl rfl (any_of HT_.out (by kernel_rfl)) (fun _ _ _ h => h) (Or.inl ⟨by rfl, ?_⟩) ?_ ?_
    rotate_left
    ·intro w'
     go_simp
     with_reducible rfl
    rotate_left
    ·simp only [Act.put, List.setIfInBounds_toArray, List.set_cons_zero, List.set_cons_succ, i64_w, i32_w]
     rfl
    refine take_ (i := 1) (N := some 19) (v := ?_) (a' := ?_) #[true, true, false, true, false, false, false, false] rfl rfl (take_ofW HT_.out HW_.out (by kernel_rfl)) (fun _ _ _ h => h) (Or.inl ⟨by rfl, ?_⟩) hHeld ?_ ?_
    rotate_left
    ·rintro w' ⟨s0, s1, s2, s3, s4, s5, s6, s7, s8⟩
     go_simp
     with_reducible rfl
    rotate_left
    ·simp only [Act.put, List.setIfInBounds_toArray, List.set_cons_zero, List.set_cons_succ, i64_w, i32_w]
     rfl
    refine take_ (i := 4) (N := some 22) (v := ?_) (a' := ?_) #[true, true, false, true, true, false, false, false] rfl rfl (take_ofW HT_.out HW_.out (by kernel_rfl)) (fun _ _ _ h => h) (Or.inl ⟨by rfl, ?_⟩) hHeld ?_ ?_
    rotate_left
    ·rintro w' ⟨s0, s1, s2, s3, s4, s5, s6, s7, s8⟩
     go_simp
     with_reducible rfl
    rotate_left
    ·simp only [Act.put, List.setIfInBounds_toArray, List.set_cons_zero, List.set_cons_succ, i64_w, i32_w]
     rfl
    refine one_ (i := 2) (N := some 20) #[true, true, true, true, true, false, false, false] rfl rfl (one_of HT_.out (by kernel_rfl)) (by decide) (fun K hK => ?_)
    refine goes_ Tryz.func64 (by kernel_rfl) rfl #[.agg #[.int .u8 a0_1, .int .u8 a0_2, .int .u8 a0_3, .int .u8 a0_4, .string a0_5, .int .i64 a0_6]] (by rfl) rfl rfl (by (try simp only [List.map_toArray, List.map_cons, List.map_nil]); first | done | rfl | (simp only [List.length_drop, List.length_take]; rfl)) ?_
    with_reducible refine (E.hPrintDest.calls a0_1 a0_2 a0_3 a0_4 a0_5 a0_6 t106 _ ?side1 A5.out).mono ?_
    (case side1 => exact StdW.below HS_.out (by repeat (first | (with_reducible first | exact HB.out | apply below_alloc | apply pw_below_drewN | apply below_drew1 | refine below_set ?_ GE101.out) | exact HB.out)))
    rintro e w12 ⟨rfl, hb⟩
    refine ⟨_, rfl, ?_⟩
    have n0_ := Aside0.mk (Kd.R_below (by (with_reducible repeat (first | apply Kd.R_alloc | apply Kd.R_drewN | apply Kd.R_drew)); exact HO104.out) hb)
    have n1_ := Aside0.mk (blk_below (g := gb101) (o := .cells #[.string a0_0, .int .u8 a0_1, .int .u8 a0_2, .int .u8 a0_3, .int .u8 a0_4, .string a0_5, .int .i64 a0_6, .string a0_7, .slice A0_8 l0_8.length c0_8] 30 (0, 0)) (by (with_reducible repeat (first | refine blk_drewN ?_ _ | refine blk_drew ?_ | refine blk_alloc ?_ _)); exact BK101.out) hb)
    have n2_ := Aside0.mk (below_step (by repeat (first | (with_reducible first | exact HB.out | apply below_alloc | apply pw_below_drewN | apply below_drew1 | refine below_set ?_ GE101.out) | exact HB.out)) hb)
    clear HO104
    clear BK101
    clear HB
    have HO104 := n0_
    have BK101 := n1_
    have HB := n2_
    clear n0_ n1_ n2_
    (try clear hb)
    (try clear hb2)
    (try clear hk)
    (try clear hi)
    refine hK.out _ _ ⟨(blk_cell BK101.out 0).trans rfl, (blk_cell BK101.out 1).trans rfl, (blk_cell BK101.out 2).trans rfl, (blk_cell BK101.out 3).trans rfl, (blk_cell BK101.out 4).trans rfl, (blk_cell BK101.out 5).trans rfl, (blk_cell BK101.out 6).trans rfl, (blk_cell BK101.out 7).trans rfl, (blk_cell BK101.out 8).trans rfl⟩ (fun hHeld => ?_)
    clear hK K
    refine norm_ (a' := ?_) ?_ ?_
    rotate_left
    ·show Act.put _ (some 20) _ = _
     simp only [Act.put, List.setIfInBounds_toArray, List.set_cons_zero, List.set_cons_succ, i64_w, i32_w]
     rfl
    refine pure_ (i := 5) (N := some 23) (v := ?_) (a' := ?_) #[true, true, true, true, true, true, false, false] rfl rfl (any_of HT_.out (by kernel_rfl)) (fun _ _ _ h => h) (Or.inl ⟨by rfl, ?_⟩) ?_ ?_
    rotate_left
    ·intro w'
     go_simp
     with_reducible rfl
    rotate_left
    ·simp only [Act.put, List.setIfInBounds_toArray, List.set_cons_zero, List.set_cons_succ, i64_w, i32_w]
     rfl
    refine pure_ (i := 6) (N := some 2) (v := ?_) (a' := ?_) #[true, true, true, true, true, true, true, false] rfl rfl (any_of HT_.out (by kernel_rfl)) (fun _ _ _ h => h) (Or.inl ⟨by rfl, ?_⟩) ?_ ?_
    rotate_left
    ·intro w'
     go_simp
     with_reducible rfl
    rotate_left
    ·simp only [Act.put, List.setIfInBounds_toArray, List.set_cons_zero, List.set_cons_succ, i64_w, i32_w]
     rfl
    refine pure_ (i := 7) (N := some 3) (v := ?_) (a' := ?_) #[true, true, true, true, true, true, true, true] rfl rfl (any_of HT_.out (by kernel_rfl)) (fun _ _ _ h => h) (Or.inl ⟨by rfl, ?_⟩) ?_ ?_
    rotate_left
    ·intro w'
     go_simp
     with_reducible rfl
    rotate_left
    ·simp only [Act.put, List.setIfInBounds_toArray, List.set_cons_zero, List.set_cons_succ, i64_w, i32_w]
     rfl
    refine done_ (done_of HT_.out (by kernel_rfl)) ?_
    try go_wp2
    go_ret2
    exact ⟨by first | rfl | (simp [errW_none, errW_some] <;> rfl) | (simp [*, errW_none, errW_some] <;> rfl), by repeat (first | (with_reducible first | exact HB.out | apply below_alloc | apply pw_below_drewN | apply below_drew1 | refine below_set ?_ GE101.out) | exact HB.out)⟩
   ·rw [if_neg c6] at H
    exact absurd H (by simp)
  ·rw [if_neg c4] at H
   have c4b0 : (a0_0.toList == ([71, 69, 84] : List UInt8)) = false := beq_eq_false_iff_ne.mpr c4
   have c4b1 : (a0_0.toList != ([71, 69, 84] : List UInt8)) = true := bne_iff_ne.mpr c4
   simp only [Option.some.injEq, Prod.mk.injEq] at H
   obtain ⟨rfl, rfl⟩ := H
   go_enter Tryz.func15, Tryz.ntmps15
   go_wp2_with (first | ((with_reducible refine gate_dst (N := 1) rfl ?_); refine box_event ?hg (N := 1) ?hd (cs := #[.string a0_0, .int .u8 a0_1, .int .u8 a0_2, .int .u8 a0_3, .int .u8 a0_4, .string a0_5, .int .i64 a0_6, .string a0_7, .slice A0_8 l0_8.length c0_8]) (t := 30) ?hr ?_; (case hd => rfl); (case hg => rfl); (case hr => first | (go_simp; done) | (go_simp; rfl)); intro gb101 hg w13 hbox hb; have n0_ := Aside0.mk (below_step (by repeat (first | (with_reducible first | exact HB.out | apply below_alloc | apply pw_below_drewN | apply below_drew1) | exact HB.out)) hb); have n1_ := Aside0.mk (hbox); have n2_ := Aside0.mk ((by rw [hg]; exact (below_size (by repeat (first | (with_reducible first | exact HB.out | apply below_alloc | apply pw_below_drewN | apply below_drew1) | exact HB.out))) : w.heap.size ≤ gb101)); have n3_ := Aside0.mk ((by rw [hg]; exact (below_size (by repeat (first | (with_reducible first | exact HB.out | apply below_alloc | apply pw_below_drewN | apply below_drew1) | exact HB.out))) : w.heap.size ≤ gb101)); clear HB; have HB := n0_; have BK101 := n1_; have GW101 := n2_; have GE101 := n3_; clear n0_ n1_ n2_ n3_; clear hb hbox hg; have hcz14_0 : w13.cell? ⟨gb101, 0, none⟩ = some (.string a0_0) := (blk_cell BK101.out 0).trans rfl; have hcz14_1 : w13.cell? ⟨gb101, 1, none⟩ = some (.int .u8 a0_1) := (blk_cell BK101.out 1).trans rfl; have hcz14_2 : w13.cell? ⟨gb101, 2, none⟩ = some (.int .u8 a0_2) := (blk_cell BK101.out 2).trans rfl; have hcz14_3 : w13.cell? ⟨gb101, 3, none⟩ = some (.int .u8 a0_3) := (blk_cell BK101.out 3).trans rfl; have hcz14_4 : w13.cell? ⟨gb101, 4, none⟩ = some (.int .u8 a0_4) := (blk_cell BK101.out 4).trans rfl; have hcz14_5 : w13.cell? ⟨gb101, 5, none⟩ = some (.string a0_5) := (blk_cell BK101.out 5).trans rfl; have hcz14_6 : w13.cell? ⟨gb101, 6, none⟩ = some (.int .i64 a0_6) := (blk_cell BK101.out 6).trans rfl; have hcz14_7 : w13.cell? ⟨gb101, 7, none⟩ = some (.string a0_7) := (blk_cell BK101.out 7).trans rfl; have hcz14_8 : w13.cell? ⟨gb101, 8, none⟩ = some (.slice A0_8 l0_8.length c0_8) := (blk_cell BK101.out 8).trans rfl; have hfz14_0 := blk_frozen BK101.out 0; have hfz14_1 := blk_frozen BK101.out 1; have hfz14_2 := blk_frozen BK101.out 2; have hfz14_3 := blk_frozen BK101.out 3; have hfz14_4 := blk_frozen BK101.out 4; have hfz14_5 := blk_frozen BK101.out 5; have hfz14_6 := blk_frozen BK101.out 6; have hfz14_7 := blk_frozen BK101.out 7; have hfz14_8 := blk_frozen BK101.out 8) | ((with_reducible refine gate_callee (f := 42) rfl ?_); refine goesL_ (some 8) rfl rfl Tryz.func42 (by kernel_rfl) rfl #[.agg #[.string a0_0, .int .u8 a0_1, .int .u8 a0_2, .int .u8 a0_3, .int .u8 a0_4, .string a0_5, .int .i64 a0_6, .string a0_7, .slice A0_8 l0_8.length c0_8]] rfl (by (try simp only [List.map_toArray, List.map_cons, List.map_nil]); first | done | rfl | (simp only [List.length_drop, List.length_take]; rfl)) ?_; (with_reducible refine (E.preq.calls a0_0 a0_1 a0_2 a0_3 a0_4 a0_5 a0_6 a0_7 _ _ l0_8 t102 t105 _ ?side1 ?side2 ?side3 A2.out).mono ?_); (case side1 => repeat (first | exact (Kd.C_below HR0_8.out HB.out) | (with_reducible refine Kd.C_alloc ?_ _) | (with_reducible refine Kd.C_drewN ?_ _) | (with_reducible refine Kd.C_drew ?_))); (case side2 => exact HC0_8.out); (case side3 => exact StdW.below HS_.out (by repeat (first | (with_reducible first | exact HB.out | apply below_alloc | apply pw_below_drewN | apply below_drew1 | refine below_set ?_ GE101.out) | exact HB.out))); rintro e w15 ⟨v103, rfl, ho0, hb⟩; refine ⟨_, rfl, ?_⟩; have n0_ := Aside0.mk (Kd.R_lower ho0 (below_size (by repeat (first | (with_reducible first | exact HB.out | apply below_alloc | apply pw_below_drewN | apply below_drew1 | refine below_set ?_ GE101.out) | exact HB.out)))); have n1_ := Aside0.mk (blk_below (g := gb101) (o := .cells #[.string a0_0, .int .u8 a0_1, .int .u8 a0_2, .int .u8 a0_3, .int .u8 a0_4, .string a0_5, .int .i64 a0_6, .string a0_7, .slice A0_8 l0_8.length c0_8] 30 (0, 0)) (by (with_reducible repeat (first | refine blk_drewN ?_ _ | refine blk_drew ?_ | refine blk_alloc ?_ _)); exact BK101.out) hb); have n2_ := Aside0.mk (below_step (by repeat (first | (with_reducible first | exact HB.out | apply below_alloc | apply pw_below_drewN | apply below_drew1 | refine below_set ?_ GE101.out) | exact HB.out)) hb); clear BK101; clear HB; have HO104 := n0_; have BK101 := n1_; have HB := n2_; clear n0_ n1_ n2_; (try clear hb); (try clear hb2); (try clear hk); (try clear hi); (try clear ho0); have hcz16_0 : w15.cell? ⟨gb101, 0, none⟩ = some (.string a0_0) := (blk_cell BK101.out 0).trans rfl; have hcz16_1 : w15.cell? ⟨gb101, 1, none⟩ = some (.int .u8 a0_1) := (blk_cell BK101.out 1).trans rfl; have hcz16_2 : w15.cell? ⟨gb101, 2, none⟩ = some (.int .u8 a0_2) := (blk_cell BK101.out 2).trans rfl; have hcz16_3 : w15.cell? ⟨gb101, 3, none⟩ = some (.int .u8 a0_3) := (blk_cell BK101.out 3).trans rfl; have hcz16_4 : w15.cell? ⟨gb101, 4, none⟩ = some (.int .u8 a0_4) := (blk_cell BK101.out 4).trans rfl; have hcz16_5 : w15.cell? ⟨gb101, 5, none⟩ = some (.string a0_5) := (blk_cell BK101.out 5).trans rfl; have hcz16_6 : w15.cell? ⟨gb101, 6, none⟩ = some (.int .i64 a0_6) := (blk_cell BK101.out 6).trans rfl; have hcz16_7 : w15.cell? ⟨gb101, 7, none⟩ = some (.string a0_7) := (blk_cell BK101.out 7).trans rfl; have hcz16_8 : w15.cell? ⟨gb101, 8, none⟩ = some (.slice A0_8 l0_8.length c0_8) := (blk_cell BK101.out 8).trans rfl; have hfz16_0 := blk_frozen BK101.out 0; have hfz16_1 := blk_frozen BK101.out 1; have hfz16_2 := blk_frozen BK101.out 2; have hfz16_3 := blk_frozen BK101.out 3; have hfz16_4 := blk_frozen BK101.out 4; have hfz16_5 := blk_frozen BK101.out 5; have hfz16_6 := blk_frozen BK101.out 6; have hfz16_7 := blk_frozen BK101.out 7; have hfz16_8 := blk_frozen BK101.out 8))
   go_ret2
   exact ⟨by first | rfl | (simp [errW_none, errW_some] <;> rfl) | (simp [*, errW_none, errW_some] <;> rfl), by repeat (first | (with_reducible first | exact HB.out | apply below_alloc | apply pw_below_drewN | apply below_drew1 | refine below_set ?_ GE101.out) | exact HB.out)⟩
 ·rw [if_neg c3] at H
  have c3b0 : (t105 == 0) = false := beq_eq_false_iff_ne.mpr c3
  have c3b1 : (t105 != 0) = true := bne_iff_ne.mpr c3
  simp only [Option.some.injEq, Prod.mk.injEq] at H
  obtain ⟨rfl, rfl⟩ := H
  go_enter Tryz.func15, Tryz.ntmps15
  go_wp2_with (first | ((with_reducible refine gate_dst (N := 1) rfl ?_); refine box_event ?hg (N := 1) ?hd (cs := #[.string a0_0, .int .u8 a0_1, .int .u8 a0_2, .int .u8 a0_3, .int .u8 a0_4, .string a0_5, .int .i64 a0_6, .string a0_7, .slice A0_8 l0_8.length c0_8]) (t := 30) ?hr ?_; (case hd => rfl); (case hg => rfl); (case hr => first | (go_simp; done) | (go_simp; rfl)); intro gb101 hg w17 hbox hb; have n0_ := Aside0.mk (below_step (by repeat (first | (with_reducible first | exact HB.out | apply below_alloc | apply pw_below_drewN | apply below_drew1) | exact HB.out)) hb); have n1_ := Aside0.mk (hbox); have n2_ := Aside0.mk ((by rw [hg]; exact (below_size (by repeat (first | (with_reducible first | exact HB.out | apply below_alloc | apply pw_below_drewN | apply below_drew1) | exact HB.out))) : w.heap.size ≤ gb101)); have n3_ := Aside0.mk ((by rw [hg]; exact (below_size (by repeat (first | (with_reducible first | exact HB.out | apply below_alloc | apply pw_below_drewN | apply below_drew1) | exact HB.out))) : w.heap.size ≤ gb101)); clear HB; have HB := n0_; have BK101 := n1_; have GW101 := n2_; have GE101 := n3_; clear n0_ n1_ n2_ n3_; clear hb hbox hg; have hcz18_0 : w17.cell? ⟨gb101, 0, none⟩ = some (.string a0_0) := (blk_cell BK101.out 0).trans rfl; have hcz18_1 : w17.cell? ⟨gb101, 1, none⟩ = some (.int .u8 a0_1) := (blk_cell BK101.out 1).trans rfl; have hcz18_2 : w17.cell? ⟨gb101, 2, none⟩ = some (.int .u8 a0_2) := (blk_cell BK101.out 2).trans rfl; have hcz18_3 : w17.cell? ⟨gb101, 3, none⟩ = some (.int .u8 a0_3) := (blk_cell BK101.out 3).trans rfl; have hcz18_4 : w17.cell? ⟨gb101, 4, none⟩ = some (.int .u8 a0_4) := (blk_cell BK101.out 4).trans rfl; have hcz18_5 : w17.cell? ⟨gb101, 5, none⟩ = some (.string a0_5) := (blk_cell BK101.out 5).trans rfl; have hcz18_6 : w17.cell? ⟨gb101, 6, none⟩ = some (.int .i64 a0_6) := (blk_cell BK101.out 6).trans rfl; have hcz18_7 : w17.cell? ⟨gb101, 7, none⟩ = some (.string a0_7) := (blk_cell BK101.out 7).trans rfl; have hcz18_8 : w17.cell? ⟨gb101, 8, none⟩ = some (.slice A0_8 l0_8.length c0_8) := (blk_cell BK101.out 8).trans rfl; have hfz18_0 := blk_frozen BK101.out 0; have hfz18_1 := blk_frozen BK101.out 1; have hfz18_2 := blk_frozen BK101.out 2; have hfz18_3 := blk_frozen BK101.out 3; have hfz18_4 := blk_frozen BK101.out 4; have hfz18_5 := blk_frozen BK101.out 5; have hfz18_6 := blk_frozen BK101.out 6; have hfz18_7 := blk_frozen BK101.out 7; have hfz18_8 := blk_frozen BK101.out 8) | ((with_reducible refine gate_callee (f := 42) rfl ?_); refine goesL_ (some 8) rfl rfl Tryz.func42 (by kernel_rfl) rfl #[.agg #[.string a0_0, .int .u8 a0_1, .int .u8 a0_2, .int .u8 a0_3, .int .u8 a0_4, .string a0_5, .int .i64 a0_6, .string a0_7, .slice A0_8 l0_8.length c0_8]] rfl (by (try simp only [List.map_toArray, List.map_cons, List.map_nil]); first | done | rfl | (simp only [List.length_drop, List.length_take]; rfl)) ?_; (with_reducible refine (E.preq.calls a0_0 a0_1 a0_2 a0_3 a0_4 a0_5 a0_6 a0_7 _ _ l0_8 t102 t105 _ ?side1 ?side2 ?side3 A2.out).mono ?_); (case side1 => repeat (first | exact (Kd.C_below HR0_8.out HB.out) | (with_reducible refine Kd.C_alloc ?_ _) | (with_reducible refine Kd.C_drewN ?_ _) | (with_reducible refine Kd.C_drew ?_))); (case side2 => exact HC0_8.out); (case side3 => exact StdW.below HS_.out (by repeat (first | (with_reducible first | exact HB.out | apply below_alloc | apply pw_below_drewN | apply below_drew1 | refine below_set ?_ GE101.out) | exact HB.out))); rintro e w19 ⟨v103, rfl, ho0, hb⟩; refine ⟨_, rfl, ?_⟩; have n0_ := Aside0.mk (Kd.R_lower ho0 (below_size (by repeat (first | (with_reducible first | exact HB.out | apply below_alloc | apply pw_below_drewN | apply below_drew1 | refine below_set ?_ GE101.out) | exact HB.out)))); have n1_ := Aside0.mk (blk_below (g := gb101) (o := .cells #[.string a0_0, .int .u8 a0_1, .int .u8 a0_2, .int .u8 a0_3, .int .u8 a0_4, .string a0_5, .int .i64 a0_6, .string a0_7, .slice A0_8 l0_8.length c0_8] 30 (0, 0)) (by (with_reducible repeat (first | refine blk_drewN ?_ _ | refine blk_drew ?_ | refine blk_alloc ?_ _)); exact BK101.out) hb); have n2_ := Aside0.mk (below_step (by repeat (first | (with_reducible first | exact HB.out | apply below_alloc | apply pw_below_drewN | apply below_drew1 | refine below_set ?_ GE101.out) | exact HB.out)) hb); clear BK101; clear HB; have HO104 := n0_; have BK101 := n1_; have HB := n2_; clear n0_ n1_ n2_; (try clear hb); (try clear hb2); (try clear hk); (try clear hi); (try clear ho0)))
  go_ret2
  exact ⟨by first | rfl | (simp [errW_none, errW_some] <;> rfl) | (simp [*, errW_none, errW_some] <;> rfl), by repeat (first | (with_reducible first | exact HB.out | apply below_alloc | apply pw_below_drewN | apply below_drew1 | refine below_set ?_ GE101.out) | exact HB.out)⟩
end Go.Proofs.YtaakgjbdknobbaaGreatDoor.XY


namespace Go.Proofs.YtaakgjbdknobbaaGreatDoor.XY
open Go.Proofs.YtaakgjbdknobbaaGreatDoor.XK Go.Proofs.YtaakgjbdknobbaaGreatDoor.XA Go.Proofs.YtaakgjbdknobbaaGreatDoor.XD
open Go.RowKit Go.Proofs.YtaakgjbdknobbaaGreatDoorW.PrintWords Go.Proofs.YtaakgjbdknobbaaGreatDoorW.PrintLast Go.Proofs.YtaakgjbdknobbaaGreatDoorW.PrintMore
attribute [local go_sem] max2_int min2_int max_two min_two max_three min_three max_four min_four
set_option linter.unusedVariables false
set_option linter.unusedSimpArgs false
end Go.Proofs.YtaakgjbdknobbaaGreatDoor.XY
