/- What the cards of this seat rest on: the walks and plain laws, part 14. -/
import Derived.Test.YtocklkaddiomhaaGreatDoorHC12
import Derived.Test.YtocklkaddiomhaaGreatDoorHC13
import Derived.Test.YtocklkaddiomhaaGreatDoorHC7
import Derived.Test.YtocklkaddiomhaaGreatDoorHC1
import Derived.Test.YtocklkaddiomhaaGreatDoorRows
import Derived.Deep.Slices
import Derived.Deep.Fields
import Derived.ChangeSame
import Derived.SizedLaws
import Derived.OpenShut
import Derived.ChangeSlices
import Derived.Stop.LaidErr
import Derived.Lib.LaidTab
import Derived.Test.YtocklkaddiomhaaGreatDoorHC8
import Derived.LaidHandle
import Derived.LaidLaws
import Derived.Lay
import Derived.Deep.DeepHandedRow
import Derived.Stop.Joined
import Derived.JoinedOf


namespace Go.Proofs.YtocklkaddiomhaaGreatDoor.E
open Go.RowKit Go.Proofs.YtocklkaddiomhaaGreatDoorW.PrintWords Go.Proofs.YtocklkaddiomhaaGreatDoorW.PrintLast Go.Proofs.YtocklkaddiomhaaGreatDoor.XK Go.Proofs.YtocklkaddiomhaaGreatDoor.XA Go.Proofs.YtocklkaddiomhaaGreatDoor.XD Go.Proofs.YtocklkaddiomhaaGreatDoor.XBy
set_option linter.unusedVariables false
set_option linter.unusedSimpArgs false
abbrev FailB (kk : Nat) : Array Value := #[.int .i64 1, .string headS, .string ⟨#[]⟩, .string ⟨#[]⟩, .string ⟨#[]⟩, .int .i64 (kk : Int), .int .i64 0, .int .i64 0, .int .i64 0, .int .i64 6]
set_option maxRecDepth 100000 in
set_option maxHeartbeats 40000000 in
theorem comes_ok (A : Addr) (n c : Nat) (cut : Int) (A2 : Option Addr) (n2 c2 m kk : Nat) (xm ys zs : List Int) (m' : ByteArray) (x y z u : Int) (nm : ByteArray) (po : Int) (pa : ByteArray) (l : List S72) (i : Int) (o : Option (List (ByteArray × Int) × Int)) (w : World)
    (hm2 : 2 ≤ m) (hmn : m ≤ n) (hm8 : m ≤ 8192) (hkm : kk < m) (hnc : n ≤ c) (hzs : xm ++ ys = zs) (hxl : xm.length ≤ 1048576) (hyl : n2 ≤ 1048576) (hi : i = (m : Int) ∨ i = 0) (hM : Kd.C (Kd.int .u8) w A2 n2 ys)
    (H1 : ∀ W, Below w.heap.size w W → Calls Tryz.prog 7 #[] W fun e w' => e = .returned (.bool true) ∧ Below W.heap.size W w')
    (H2 : ∀ W, Below w.heap.size w W → Calls Tryz.prog 8 #[.slice (some A) n c] W fun e w' => e = .returned (.tuple #[.int .i64 (m : Int), .nilIface]) ∧ Below W.heap.size W w')
    (H3 : ∀ W, Below w.heap.size w W → Calls Tryz.prog 11 #[.int .i64 cut, .int .i64 (m : Int)] W fun e w' => e = .returned (.int .i64 (kk : Int)) ∧ Below W.heap.size W w')
    (H4 : ∀ W, Below w.heap.size w W → Calls Tryz.prog 8 #[.slice (some A) kk c] W fun e w' => ∃ v, e = .returned (.tuple #[.int .i64 0, v]) ∧ EOr (some ([(headS, (kk : Int))], 6)) w' v ∧ Below W.heap.size W w')
    (H5 : ∀ W, Below w.heap.size w W → Calls Tryz.prog 9 #[.slice (some A) n c] W (RqG ⟨m', x, y, z, u, nm, po, pa, l, i, o⟩ W))
    (H6 : ∀ W, Below w.heap.size w W → Calls Tryz.prog 12 #[.slice (some A) m c] W fun e w' => ∃ v, e = .returned v ∧ Kd.R (Kd.int .u8) 5 w' W.heap.size (fun _ => True) v xm ∧ Below W.heap.size W w')
    (H7 : ∀ W A3 c3, Below w.heap.size w W → Kd.C (Kd.int .u8) W A3 zs.length zs → zs.length ≤ c3 → c3 ≤ 9223372036854775807 → Calls Tryz.prog 9 #[.slice A3 zs.length c3] W (RqG ⟨m', x, y, z, u, nm, po, pa, l, i, o⟩ W))
    (H8 : ∀ W v, Below w.heap.size w W → EOr (some ([(headS, (kk : Int))], 6)) W v → Calls Tryz.prog 13 #[v, .agg (FailB kk)] W fun e w' => e = .returned (.bool true) ∧ Below W.heap.size W w')
    (H9 : ∀ W pA pc qA qc, Kd.C k72 W pA l.length l → l.length ≤ pc → Kd.C k72 W qA l.length l → l.length ≤ qc → Calls Tryz.prog 15 #[.agg #[.string m', .int .u8 x, .int .u8 y, .int .u8 z, .int .u8 u, .string nm, .int .i64 po, .string pa, .slice pA l.length pc], .agg #[.string m', .int .u8 x, .int .u8 y, .int .u8 z, .int .u8 u, .string nm, .int .i64 po, .string pa, .slice qA l.length qc]] W fun e w' => e = .returned (.bool true) ∧ Below W.heap.size W w')
    (H10 : ∀ W v1 v2, EOr o W v1 → EOr o W v2 → Calls Tryz.prog 10 #[v1, v2] W fun e w' => e = .returned (.bool true) ∧ Below W.heap.size W w') :
    Calls Tryz.prog 3 #[.slice (some A) n c, .int .i64 cut, .slice A2 n2 c2] w fun e w' => e = .returned (.bool true) ∧ Below w.heap.size w w' := by
  have HB := Lib.hid (Below.refl w.heap.size w)
  have HM := Lib.hid hM
  have X1 := Lib.hid H1
  have X2 := Lib.hid H2
  have X3 := Lib.hid H3
  have X4 := Lib.hid H4
  have X5 := Lib.hid H5
  have X6 := Lib.hid H6
  have X7 := Lib.hid H7
  have X8 := Lib.hid H8
  have X9 := Lib.hid H9
  have X10 := Lib.hid H10
  have XF := Lib.hid (fun W => fail_any headS (kk : Int) 6 W)
  have HZS := Lib.hid hzs
  have HXY : Hid ((xm.length + n2) * 1 ≤ 140737488355328) := Lib.hid (by omega)
  have d1 : decide ((m : Int) < 2) = false := decide_eq_false (by omega)
  have d2 : decide ((n : Int) < (m : Int)) = false := decide_eq_false (by omega)
  have d3 : decide ((8192 : Int) < (m : Int)) = false := decide_eq_false (by omega)
  have e1 : ¬ m < 2 := by omega
  have e2 : ¬ n < m := by omega
  have e3 : ¬ 8192 < m := by omega
  have i1 : ¬ (m : Int) < 2 := by omega
  have i2 : ¬ (n : Int) < (m : Int) := by omega
  have i3 : ¬ (8192 : Int) < (m : Int) := by omega
  have k0 : (0 : Int) ≤ (kk : Int) := by omega
  have k1 : (kk : Int) ≤ (c : Int) := by omega
  have m0 : (0 : Int) ≤ (m : Int) := by omega
  have m1 : (m : Int) ≤ (c : Int) := by omega
  have hne0 : ((0 : Int) == (m : Int)) = false := by rw [beq_eq_false_iff_ne]; omega
  have hzeq : ∀ a : Int, (a == a) = true := fun a => beq_self_eq_true a
  clear hM H1 H2 H3 H4 H5 H6 H7 H8 H9 H10 hzs hxl hyl hm2 hmn hm8 hkm hnc
  unfold FailB headS at *
  go_enter Tryz.func3, Tryz.ntmps3
  go_wp2_with (go_at_call 7; (with_reducible refine (X1.out _ HB.out).mono ?_); rintro e w1 ⟨rfl, hb⟩; have HB := Lib.hid (below_then HB.out HB.out.size hb); clear hb)
  go_wp2_with (go_at_call 8; (with_reducible refine (X2.out _ HB.out).mono ?_); rintro e w2 ⟨rfl, hb⟩; have HB := Lib.hid (below_then HB.out HB.out.size hb); clear hb)
  go_wp2_with (go_at_call 11; (with_reducible refine (X3.out _ HB.out).mono ?_); rintro e w3 ⟨rfl, hb⟩; have HB := Lib.hid (below_then HB.out HB.out.size hb); clear hb)
  go_wp2_with (go_at_call 8; (with_reducible refine (X4.out _ HB.out).mono ?_); rintro e w3 ⟨vf, rfl, hf, hb⟩; have HF := Lib.hid hf; have HB := Lib.hid (below_then HB.out HB.out.size hb); clear hb; clear hf)
  go_wp2_with (go_at_call 9; (with_reducible refine (X5.out _ HB.out).mono ?_); rintro e w4 ⟨pA, pc, vg, rfl, hpc, hpC, hg, hb⟩; have HF := Lib.hid (EOr.below HF.out hb); have HPC := Lib.hid hpc; have HC1 := Lib.hid hpC; have HG := Lib.hid hg; dsimp only at HPC HC1 HG; have HB := Lib.hid (below_then HB.out HB.out.size hb); clear hb; clear hpc hpC hg)
  go_wp2_with (first | (go_at_call 12; (with_reducible refine (X6.out _ (below_alloc HB.out (.cells #[.string m', .int .u8 x, .int .u8 y, .int .u8 z, .int .u8 u, .string nm, .int .i64 po, .string pa, .slice pA l.length pc] 36))).mono ?_); rintro e w5 ⟨v0, rfl, hv, hb⟩; have HBY := Lib.hid hb; have HV := Lib.hid hv; have HB5 := Lib.hid (below_then (below_alloc HB.out (.cells #[.string m', .int .u8 x, .int .u8 y, .int .u8 z, .int .u8 u, .string nm, .int .i64 po, .string pa, .slice pA l.length pc] 36)) (below_alloc HB.out (.cells #[.string m', .int .u8 x, .int .u8 y, .int .u8 z, .int .u8 u, .string nm, .int .i64 po, .string pa, .slice pA l.length pc] 36)).size hb); clear hb hv) | (at_builtin; refine Kd.R_append_rows (Kd.int .u8) (w0 := (w4.alloc (.cells #[.string m', .int .u8 x, .int .u8 y, .int .u8 z, .int .u8 u, .string nm, .int .i64 po, .string pa, .slice pA l.length pc] 36))) (w4.alloc (.cells #[.string m', .int .u8 x, .int .u8 y, .int .u8 z, .int .u8 u, .string nm, .int .i64 po, .string pa, .slice pA l.length pc] 36)).heap.size rfl (.tmp 84) (.tmp 85) 22 5 (.int .u8 0) 1 rfl Tryz.underlying22 info5 rfl (by decide) (by omega) v0 xm ys _ _ _ (fun _ => True) (fun _ => False) rfl rfl HV.out (Kd.C_below HM.out HB5.out) (fun _ _ h => h) (fun _ h => h.elim) (fun _ _ => trivial) HBY.out HBY.out.size HXY.out ?_; intro v1 w6 ho hb hg hat; rw [HZS.out] at ho; obtain ⟨A3, c3, rfl, h3, hC3⟩ := Kd.R_reads ho; have H63 := Lib.hid (R_capB ho); have HC3 := Lib.hid hC3; have HL3 := Lib.hid h3; have HBW := Lib.hid hb; have HB := Lib.hid (below_then (below_alloc HB.out (.cells #[.string m', .int .u8 x, .int .u8 y, .int .u8 z, .int .u8 u, .string nm, .int .i64 po, .string pa, .slice pA l.length pc] 36)) (below_alloc HB.out (.cells #[.string m', .int .u8 x, .int .u8 y, .int .u8 z, .int .u8 u, .string nm, .int .i64 po, .string pa, .slice pA l.length pc] 36)).size hb); clear ho hg hat h3 hC3 hb) | (go_at_call 9; (with_reducible refine (X7.out _ A3 c3 HB.out HC3.out HL3.out H63.out).mono ?_); rintro e w7 ⟨qA, qc, vh, rfl, hqc, hqC, hh, hb⟩; have hbp := below_then (below_alloc (Below.refl w4.heap.size w4) (.cells #[.string m', .int .u8 x, .int .u8 y, .int .u8 z, .int .u8 u, .string nm, .int .i64 po, .string pa, .slice pA l.length pc] 36)) (below_alloc (Below.refl w4.heap.size w4) (.cells #[.string m', .int .u8 x, .int .u8 y, .int .u8 z, .int .u8 u, .string nm, .int .i64 po, .string pa, .slice pA l.length pc] 36)).size HBW.out; have hb47 := below_then hbp hbp.size hb; have HPB := Lib.hid (((Blk.new w4 #[.string m', .int .u8 x, .int .u8 y, .int .u8 z, .int .u8 u, .string nm, .int .i64 po, .string pa, .slice pA l.length pc] 36).below HBW.out).below hb); have HC1 := Lib.hid (Kd.C_below HC1.out hb47); have HF := Lib.hid (EOr.below HF.out hb47); have HG := Lib.hid (EOr.below HG.out hb47); have HQC := Lib.hid hqc; have HC2 := Lib.hid hqC; have HH := Lib.hid hh; dsimp only at HQC HC2 HH; have HB := Lib.hid (below_then HB.out HB.out.size hb); clear hb; clear hqc hqC hh hbp hb47))
  go_wp2_with (go_at_call 14; (with_reducible refine (XF.out _).mono ?_); rintro e w8 ⟨rfl, hb⟩; have HQB := Lib.hid ((Blk.new w7 #[.string m', .int .u8 x, .int .u8 y, .int .u8 z, .int .u8 u, .string nm, .int .i64 po, .string pa, .slice qA l.length qc] 36).below hb); have hb7 := below_then (below_alloc (Below.refl w7.heap.size w7) (.cells #[.string m', .int .u8 x, .int .u8 y, .int .u8 z, .int .u8 u, .string nm, .int .i64 po, .string pa, .slice qA l.length qc] 36)) (below_alloc (Below.refl w7.heap.size w7) (.cells #[.string m', .int .u8 x, .int .u8 y, .int .u8 z, .int .u8 u, .string nm, .int .i64 po, .string pa, .slice qA l.length qc] 36)).size hb; have HPB := Lib.hid (HPB.out.below hb7); have HC1 := Lib.hid (Kd.C_below HC1.out hb7); have HC2 := Lib.hid (Kd.C_below HC2.out hb7); have HF := Lib.hid (EOr.below HF.out hb7); have HG := Lib.hid (EOr.below HG.out hb7); have HH := Lib.hid (EOr.below HH.out hb7); have HB := Lib.hid (below_then (below_alloc HB.out (.cells #[.string m', .int .u8 x, .int .u8 y, .int .u8 z, .int .u8 u, .string nm, .int .i64 po, .string pa, .slice qA l.length qc] 36)) (below_alloc HB.out (.cells #[.string m', .int .u8 x, .int .u8 y, .int .u8 z, .int .u8 u, .string nm, .int .i64 po, .string pa, .slice qA l.length qc] 36)).size hb); clear hb hb7)
  go_wp2_with (go_at_call 13; (with_reducible refine (X8.out _ vf HB.out HF.out).mono ?_); rintro e w9 ⟨rfl, hb⟩; have HQB := Lib.hid (HQB.out.below hb); have HPB := Lib.hid (HPB.out.below hb); have HC1 := Lib.hid (Kd.C_below HC1.out hb); have HC2 := Lib.hid (Kd.C_below HC2.out hb); have HF := Lib.hid (EOr.below HF.out hb); have HG := Lib.hid (EOr.below HG.out hb); have HH := Lib.hid (EOr.below HH.out hb); have HB := Lib.hid (below_then HB.out HB.out.size hb); clear hb; obtain ⟨a0, a1, a2, a3, a4, a5, a6, a7, a8, -⟩ := (show Blk _ _ (rqC m' x y z u nm po pa (.slice pA l.length pc)) _ from HPB.out).rq; obtain ⟨b0, b1, b2, b3, b4, b5, b6, b7, b8, -⟩ := (show Blk _ _ (rqC m' x y z u nm po pa (.slice qA l.length qc)) _ from HQB.out).rq)
  go_wp2_with (go_at_call 15; (with_reducible refine (X9.out _ pA pc qA qc HC1.out HPC.out HC2.out HQC.out).mono ?_); rintro e w10 ⟨rfl, hb⟩; have HG := Lib.hid (EOr.below HG.out hb); have HH := Lib.hid (EOr.below HH.out hb); clear a0 a1 a2 a3 a4 a5 a6 a7 a8 b0 b1 b2 b3 b4 b5 b6 b7 b8; have HB := Lib.hid (below_then HB.out HB.out.size hb); clear hb)
  rcases hi with rfl | rfl
  all_goals
    go_wp2_with (go_at_call 10; (with_reducible refine (X10.out _ vg vh HG.out HH.out).mono ?_); rintro e w11 ⟨rfl, hb⟩; have HB := Lib.hid (below_then HB.out HB.out.size hb); clear hb)
    go_ret
    exact ⟨rfl, HB.out⟩
end Go.Proofs.YtocklkaddiomhaaGreatDoor.E


namespace Go.Proofs.YtocklkaddiomhaaGreatDoor.Hd
theorem fieldsR_len : ∀ (k : Nat) (rest : Bs) (p : Nat) (out fs : List Fd.F), out.length ≤ 64 → fieldsR k rest p out = .inr fs → fs.length ≤ 64
  | 0, _, _, out, fs, h, e => by cases e; exact h
  | k + 1, rest, p, out, fs, h, e => by
    unfold fieldsR at e
    split at e
    · cases e; exact h
    · split at e
      · cases e
      · split at e
        · cases e
        · exact fieldsR_len k _ _ _ fs (by simp; omega) e
end Go.Proofs.YtocklkaddiomhaaGreatDoor.Hd
namespace Go.Proofs.YtocklkaddiomhaaGreatDoor.E
open Go.RowKit Go.Proofs.YtocklkaddiomhaaGreatDoorW.PrintWords Go.Proofs.YtocklkaddiomhaaGreatDoorW.PrintLast Go.Proofs.YtocklkaddiomhaaGreatDoor.XK Go.Proofs.YtocklkaddiomhaaGreatDoor.XA Go.Proofs.YtocklkaddiomhaaGreatDoor.XD Go.Proofs.YtocklkaddiomhaaGreatDoor.XBy
set_option linter.unusedVariables false
set_option linter.unusedSimpArgs false
theorem headRq_num (S : ByteArray) (n : Nat) {m : ByteArray} {d : DestT} {q : ByteArray} {fs : List Fd.F} {k : Nat} (h : headRq S n = .inr (m, d, q, fs, k)) : k = n ∧ fs.length ≤ 64 := by
  unfold headRq at h
  split at h
  · split at h
    · cases h
    · split at h
      · cases h
      · split at h
        · cases h
        · split at h
          · cases h
          · split at h
            · cases h
            · rename_i hf
              cases h
              exact ⟨rfl, Hd.fieldsR_len _ _ _ _ _ (by simp) hf⟩
  · cases h
theorem rqD_num (b : List UInt8) (n : Nat) (h : Hd.endR b = .inr n) : ((rqD (reqR b)).i = (n : Int) ∨ (rqD (reqR b)).i = 0) ∧ (rqD (reqR b)).l.length ≤ 281474976710656 := by
  cases hr : reqR b with
  | inl x =>
    obtain ⟨a, ch, k⟩ := x
    exact ⟨.inr rfl, Nat.zero_le _⟩
  | inr x =>
    obtain ⟨m, ⟨x, y, z, u, nm, po⟩, pa, fs, k⟩ := x
    have h2 := hr
    unfold reqR at h2
    rw [h] at h2
    obtain ⟨rfl, hl⟩ := headRq_num _ _ h2
    exact ⟨.inl rfl, by show (fs.map ofF).length ≤ _; rw [List.length_map]; omega⟩
theorem bytesOf_app (xs ys : List Int) : Lib.bytesOf (xs ++ ys) = Lib.bytesOf xs ++ Lib.bytesOf ys := by unfold Lib.bytesOf; rw [List.map_append]
theorem reqR_more (xs ys : List Int) (n : Nat) (h : Hd.endR (Lib.bytesOf xs) = .inr n) : reqR (Lib.bytesOf (xs.take n ++ ys)) = reqR (Lib.bytesOf xs) := by
  rw [bytesOf_app, bytesOf_take]
  unfold reqR
  rw [Hd.endR_more h, h]
  dsimp only
  rw [Hd.take_more h]
def amK (a : Int) (m : Nat) : Nat := (Int.tmod (IntKind.u64.wrap a) (m : Int)).toNat
theorem amK_lt (a : Int) (m : Nat) (hm : 0 < m) : amK a m < m := by
  have h0 : 0 ≤ IntKind.u64.wrap a := by rw [IntKind.wrap_u64]; omega
  have h3 := Int.tmod_nonneg (m : Int) h0
  have h4 := Int.tmod_lt_of_pos (IntKind.u64.wrap a) (show (0 : Int) < (m : Int) by omega)
  unfold amK; omega
theorem among_k (a : Int) (m : Nat) (hm : 0 < m) (hm2 : m ≤ 8192) (w : World) : Calls Tryz.prog 11 #[.int .i64 a, .int .i64 (m : Int)] w fun e w' => e = .returned (.int .i64 (amK a m : Int)) ∧ Below w.heap.size w w' := by
  have h1 : IntKind.u64.wrap (m : Int) = (m : Int) := IntWalk.u64_in _ (by omega)
  have h0 : 0 ≤ IntKind.u64.wrap a := by rw [IntKind.wrap_u64]; omega
  have h3 := Int.tmod_nonneg (m : Int) h0
  have h4 := Int.tmod_lt_of_pos (IntKind.u64.wrap a) (show (0 : Int) < (m : Int) by omega)
  have hw : wrap64 (Int.tmod (IntKind.u64.wrap a) (m : Int)) = (amK a m : Int) := by unfold amK; rw [wrap64_id _ (by omega) (by omega)]; omega
  exact (sallyportbase_Among.calls a m _ w (by unfold sallyportbase_Among.f; rw [h1, if_neg (by omega), hw])).mono fun e w' ⟨h, d⟩ => ⟨h, by obtain ⟨n, rfl⟩ := d.out; exact below_drewN w n⟩
set_option maxRecDepth 100000 in
set_option maxHeartbeats 8000000 in
theorem comes_err (A : Option Addr) (n c : Nat) (cut : Int) (A2 : Option Addr) (n2 c2 : Nat) (a k : Int) (w : World)
    (H1 : ∀ W, Below w.heap.size w W → Calls Tryz.prog 7 #[] W fun e w' => e = .returned (.bool true) ∧ Below W.heap.size W w')
    (H2 : ∀ W, Below w.heap.size w W → Calls Tryz.prog 8 #[.slice A n c] W fun e w' => ∃ v, e = .returned (.tuple #[.int .i64 0, v]) ∧ ErrIs w' v [(headS, a)] k ∧ Below W.heap.size W w')
    (H5 : ∀ W, Below w.heap.size w W → Calls Tryz.prog 9 #[.slice A n c] W fun e w' => ∃ fA fc v, e = .returned (.tuple #[.agg #[.string ⟨#[]⟩, .int .u8 0, .int .u8 0, .int .u8 0, .int .u8 0, .string ⟨#[]⟩, .int .i64 0, .string ⟨#[]⟩, .slice fA 0 fc], .int .i64 0, v]) ∧ ErrIs w' v [(headS, a)] k ∧ Below W.heap.size W w')
    (H10 : ∀ W v1 v2, ErrIs W v1 [(headS, a)] k → ErrIs W v2 [(headS, a)] k → Calls Tryz.prog 10 #[v1, v2] W fun e w' => e = .returned (.bool true) ∧ Below W.heap.size W w') :
    Calls Tryz.prog 3 #[.slice A n c, .int .i64 cut, .slice A2 n2 c2] w fun e w' => e = .returned (.bool true) ∧ Below w.heap.size w w' := by
  have HB := Lib.hid (Below.refl w.heap.size w)
  have X1 := Lib.hid H1
  have X2 := Lib.hid H2
  have X5 := Lib.hid H5
  have X10 := Lib.hid H10
  clear H1 H2 H5 H10
  go_enter Tryz.func3, Tryz.ntmps3
  go_wp2_with (go_at_call 7; (with_reducible refine (X1.out _ HB.out).mono ?_); rintro e w1 ⟨rfl, hb⟩; have HB := Lib.hid (below_then HB.out HB.out.size hb); clear hb)
  go_wp2_with (go_at_call 8; (with_reducible refine (X2.out _ HB.out).mono ?_); rintro e w2 ⟨ve, rfl, he, hb⟩; obtain ⟨et, ex, rfl⟩ := he.iface; have HE := Lib.hid he; have HB := Lib.hid (below_then HB.out HB.out.size hb); clear hb he)
  go_wp2_with (go_at_call 9; (with_reducible refine (X5.out _ HB.out).mono ?_); rintro e w3 ⟨fA, fc, vf, rfl, hf, hb⟩; have HE := Lib.hid (ErrIs.below hb HE.out); have HF := Lib.hid hf; have HB := Lib.hid (below_then HB.out HB.out.size hb); clear hb hf)
  go_wp2_with (go_at_call 10; (with_reducible refine (X10.out _ vf _ (ErrIs.below (below_alloc (Below.refl _ _) _) HF.out) (ErrIs.below (below_alloc (Below.refl _ _) _) HE.out)).mono ?_); rintro e w4 ⟨rfl, hb⟩; have HB := Lib.hid (below_then (below_alloc HB.out _) (below_alloc HB.out _).size hb); clear hb)
  go_ret
  exact ⟨rfl, HB.out⟩
def okCm (xs ys : List Int) : Bool := xs.all (fun x => decide (0 ≤ x) && decide (x < 256)) && (ys.all (fun x => decide (0 ≤ x) && decide (x < 256)) && (decide (xs.length ≤ 1048576) && decide (ys.length ≤ 1048576)))
def pComes.f (xs : List Int) (cut : Int) (ys : List Int) : Option Bool := if okCm xs ys then some true else none
theorem pComes.calls (A : Option Addr) (c : Nat) (xs : List Int) (cut : Int) (A2 : Option Addr) (c2 : Nat) (ys : List Int) (r : Bool) (w : World)
    (hr : Kd.C (Kd.int .u8) w A xs.length xs ∧ (A = none → c = 0) ∧ c ≤ 9223372036854775807) (hc : xs.length ≤ c) (hr2 : Kd.C (Kd.int .u8) w A2 ys.length ys ∧ (A2 = none → c2 = 0) ∧ c2 ≤ 9223372036854775807) (hc2 : ys.length ≤ c2) (hS : StdE w) (h : pComes.f xs cut ys = some r) :
    Calls Tryz.prog 3 #[.slice A xs.length c, .int .i64 cut, .slice A2 ys.length c2] w fun e w' => e = .returned (.bool r) ∧ Below w.heap.size w w' := by
  unfold pComes.f at h
  split at h
  · rename_i hh
    obtain rfl := Option.some.inj h
    unfold okCm at hh
    simp only [Bool.and_eq_true, decide_eq_true_eq, List.all_eq_true] at hh
    obtain ⟨hx, hy, hxl, hyl⟩ := hh
    obtain ⟨hC, hA, h63⟩ := hr
    have ox : okB xs := hx
    have oy : okB ys := hy
    have hlx := bytesOf_length xs
    have HW := fun W (hb : Below w.heap.size w W) => works08_any W (StdE.below hS hb)
    have HE := fun W (hb : Below w.heap.size w W) => end_c A xs.length c xs W (StdW.below hS.std hb) rfl ox (Kd.C_below hC hb) hA hc h63
    have HR := fun W (hb : Below w.heap.size w W) => request_c A xs.length c xs W (StdE.below hS hb) rfl ox (Kd.C_below hC hb) hA hc h63
    have hok := req_len (Lib.bytesOf xs)
    cases hR : Hd.endR (Lib.bytesOf xs) with
    | inl x =>
      obtain ⟨a, k⟩ := x
      rw [hR] at HE
      have hq : reqR (Lib.bytesOf xs) = .inl ((a : Int), [], (k : Int)) := by unfold reqR; rw [hR]
      rw [hq] at HR
      refine comes_err A xs.length c cut A2 ys.length c2 (a : Int) (k : Int) w HW (fun W hb => (HE W hb).mono fun e w' ⟨h1, v, h2, h3⟩ => ⟨v, h2, h3, h1⟩) (fun W hb => (HR W hb).mono fun e w' ⟨fA, fc, v, h1, _, _, h2, h3⟩ => ⟨fA, fc, v, h1, h2, h3⟩) (fun W v1 v2 h1 h2 => like_o (some ([(headS, (a : Int))], (k : Int))) (fun ch c e => by cases e; exact ⟨List.cons_ne_nil _ _, by simp⟩) v1 v2 W h1 h2)
    | inr m =>
      have hle := Hd.endR_le hR
      rw [hlx] at hle
      rw [hR] at HE
      obtain ⟨ad, rfl, -⟩ := Kd.at_int hC 0 (Int.le_refl _) (by omega)
      have hkm := amK_lt cut m (by omega)
      have hnum := rqD_num _ m hR
      have hmore := reqR_more xs ys m hR
      have hzl : (xs.take m ++ ys).length = m + ys.length := by rw [List.length_append, List.length_take]; omega
      refine comes_ok ad xs.length c cut A2 ys.length c2 m (amK cut m) (xs.take m) ys (xs.take m ++ ys) (rqD (reqR (Lib.bytesOf xs))).m (rqD (reqR (Lib.bytesOf xs))).x (rqD (reqR (Lib.bytesOf xs))).y (rqD (reqR (Lib.bytesOf xs))).z (rqD (reqR (Lib.bytesOf xs))).u (rqD (reqR (Lib.bytesOf xs))).nm (rqD (reqR (Lib.bytesOf xs))).po (rqD (reqR (Lib.bytesOf xs))).pa (rqD (reqR (Lib.bytesOf xs))).l (rqD (reqR (Lib.bytesOf xs))).i (rqD (reqR (Lib.bytesOf xs))).o w hle.1 hle.2.1 hle.2.2 hkm hc rfl (by rw [List.length_take]; omega) hyl hnum.1 hr2.1 HW (fun W hb => (HE W hb).mono fun e w' ⟨h1, h2⟩ => ⟨h2, h1⟩) (fun W _ => among_k cut m (by omega) hle.2.2 W) (fun W hb => ?_) HR (fun W hb => ?_) (fun W A3 c3 hb hC3 hl3 h633 => ?_) (fun W v hb hv => ?_) (fun W pA pc qA qc h1 h2 h3 h4 => same_request (rqD (reqR (Lib.bytesOf xs))) hnum.2 pA pc qA qc W h1 h2 h3 h4) (fun W v1 v2 h1 h2 => like_o _ hok v1 v2 W h1 h2)
      · have hcut : Hd.endR (Lib.bytesOf (xs.take (amK cut m))) = .inl (amK cut m, 6) := by rw [bytesOf_take]; exact Hd.endR_cut hR hkm
        have := end_c (some ad) (amK cut m) c (xs.take (amK cut m)) W (StdW.below hS.std hb) (by rw [List.length_take]; omega) (okB_take ox _) (C_take rfl (Kd.C_below hC hb) _ (by omega)) hA (by omega) h63
        rw [hcut] at this
        exact this.mono fun e w' ⟨h1, v, h2, h3⟩ => ⟨v, h2, h3, h1⟩
      · exact bytes_c (some ad) m c (xs.take m) W (by rw [List.length_take]; omega) (C_take rfl (Kd.C_below hC hb) _ (by omega)) (by omega) (by omega)
      · have := request_c A3 (xs.take m ++ ys).length c3 (xs.take m ++ ys) W (StdE.below hS hb) rfl (okB_app (okB_take ox _) oy) hC3 (fun e => by
          subst e
          obtain ⟨ad3, e3, -⟩ := Kd.at_int hC3 0 (Int.le_refl _) (by omega)
          cases e3) hl3 h633
        rw [hmore] at this
        exact this
      · exact is_o (some ([(headS, (amK cut m : Int))], 6)) (fun ch c e => by cases e; exact ⟨List.cons_ne_nil _ _, by simp⟩) v W hv
  · cases h
theorem headComes_law (xs : List Int) (hx : okB xs ∧ xs.length ≤ 1048576) (cut : Int) (hcut : -9223372036854775808 ≤ cut ∧ cut ≤ 9223372036854775807) (ys : List Int) (hy : okB ys ∧ ys.length ≤ 1048576) : pComes.f xs cut ys = some true := by
  unfold pComes.f okCm
  rw [if_pos]
  simp only [Bool.and_eq_true, decide_eq_true_eq, List.all_eq_true]
  exact ⟨hx.1, hy.1, hx.2, hy.2⟩
end Go.Proofs.YtocklkaddiomhaaGreatDoor.E


namespace Go.Proofs.YtocklkaddiomhaaGreatDoor.E
open Go.RowKit Go.ChangeShapes Go.WideShapes Go.Deep Go.Proofs.YtocklkaddiomhaaGreatDoorW.PrintWords Go.Proofs.YtocklkaddiomhaaGreatDoorW.PrintLast Go.Proofs.YtocklkaddiomhaaGreatDoor.XK
set_option linter.unusedVariables false
set_option linter.unusedSimpArgs false
section
variable {H : Type} {enc : TypeId × Value → H} {w : World} {base : Nat} {spare : Nat → Bool} {held : Bool}
def okI (n : Int) : Prop := -9223372036854775808 ≤ n ∧ n ≤ 9223372036854775807
theorem wf_i64 {n : Int} (h : (Lit.int .i64 n).wf = true) : okI n := by
  simp only [Lit.wf, Bool.and_eq_true, decide_eq_true_eq] at h
  exact ⟨h.1, h.2⟩
theorem bulk_pos (d : DataW H) : 1 ≤ Rows.uptoBulk d := by
  cases d with
  | lit l => cases l <;> simp [Rows.uptoBulk]
  | _ => simp [Rows.uptoBulk]
theorem bulk_len : ∀ ds : List (DataW H), ds.length ≤ Rows.uptoBulkAll ds
  | [] => Nat.zero_le _
  | d :: ds => by
    simp only [Rows.uptoBulkAll, List.length_cons]
    have := bulk_pos d; have := bulk_len ds; omega
end
end Go.Proofs.YtocklkaddiomhaaGreatDoor.E


namespace Go.Proofs.YtocklkaddiomhaaGreatDoor.E
open Go.RowKit Go.ChangeShapes Go.WideShapes Go.Deep Go.Proofs.YtocklkaddiomhaaGreatDoorW.PrintWords Go.Proofs.YtocklkaddiomhaaGreatDoorW.PrintLast Go.Proofs.YtocklkaddiomhaaGreatDoor.XK
set_option linter.unusedVariables false
set_option linter.unusedSimpArgs false
section
variable {H : Type} {enc : TypeId × Value → H} {w : World} {base : Nat} {spare : Nat → Bool} {held : Bool}
theorem cellsU8 : Tryz.prog.cellsOf 5 = 1 := by kernel_rfl
theorem wf_u8 {n : Int} (h : (Lit.int .u8 n).wf = true) : 0 ≤ n ∧ n < 256 := by
  have := bounds_u8 h
  omega
theorem open_bytes {t : TypeId} (ht : Tryz.prog.underlying t = some (.slice 5)) {fuel : Nat} {cs : List Value} {x : DataW H × List MemPlace} (h : DataW.trod enc Tryz.prog w base spare held fuel t cs = some x) :
    ∃ (A : Option Addr) (c : Nat) (xs : List Int), cs = [.slice A xs.length c] ∧ xs.length ≤ c ∧ (Kd.C (Kd.int .u8) w A xs.length xs ∧ (A = none → c = 0) ∧ c ≤ 9223372036854775807) ∧ okB xs ∧ xs.length ≤ Rows.uptoBulk x.1 := by
  rcases open_ints ht Tryz.underlying5 cellsU8 h with ⟨rfl, rfl⟩ | ⟨a, len, cap, zs, rfl, -, hl, hm, hz, rfl, hc, hw⟩
  · exact ⟨none, 0, [], rfl, Nat.le_refl _, ⟨Kd.C_nil _ _, fun _ => rfl, by omega⟩, (fun x hx => by cases hx), Nat.zero_le _⟩
  · have hll : len ≤ zs.length := by rw [hz]; split <;> omega
    have hlen : (zs.take len).length = len := by rw [List.length_take]; omega
    unfold maxLen at hm
    refine ⟨some a, cap, zs.take len, by rw [hlen], by rw [hlen]; exact hl, ⟨?_, fun e => (by cases e), by omega⟩, fun x hx => wf_u8 (hw x (List.mem_of_mem_take hx)), ?_⟩
    · refine Kd.C_of_reads (enc := Value.int .u8) (d := (0 : Int)) (h1 := fun _ => rfl) ⟨rfl, by rw [hlen]; omega, fun _ => ⟨a, rfl, fun i hi => ?_⟩⟩
      rw [hlen] at hi
      rw [hc i (by omega)]
      simp [List.getD, hi]
    · have := bulk_len (H := H) (lits .u8 (zs.take len))
      simp only [Rows.uptoBulk]
      have h2 : (lits (H := H) .u8 (zs.take len)).length = len := by unfold lits; rw [List.length_map, hlen]
      rw [hlen]; omega
end
end Go.Proofs.YtocklkaddiomhaaGreatDoor.E


namespace Go.Proofs.YtocklkaddiomhaaGreatDoor
open Go.RowKit Go.Lib
set_option linter.unusedVariables false
theorem laidMet_tail {P : Program} {x : String × DataW Unit} {r : List (String × DataW Unit)} {W : World} (h : laidMet P (x :: r) W) : laidMet P r W := by
  obtain ⟨ps, ⟨g, t, cs, fuel, p, q, _, _, _, _, hr, rfl⟩, hn, hh⟩ := h
  exact ⟨q, hr, (List.nodup_append.1 hn).2.1, fun b off hb => hh b off (List.mem_append_right _ hb)⟩
theorem gSyn : Tryz.prog.globalNamed "strconv.ErrSyntax" = some 5 := by kernel_rfl
theorem gRng : Tryz.prog.globalNamed "strconv.ErrRange" = some 6 := by kernel_rfl
theorem gPowT : (Tryz.prog.globals[7]?).map (·.type) = some 251 := by kernel_rfl
theorem gSynT : (Tryz.prog.globals[5]?).map (·.type) = some 25 := by kernel_rfl
theorem gRngT : (Tryz.prog.globals[6]?).map (·.type) = some 25 := by kernel_rfl
theorem cellsTab : Tryz.prog.cellsOf 251 = 20 := by kernel_rfl
theorem cellsU64 : Tryz.prog.cellsOf 89 = 1 := by kernel_rfl
theorem cellsES : Tryz.prog.cellsOf 249 = 1 := by kernel_rfl
theorem cellsSt : Tryz.prog.cellsOf 9 = 1 := by kernel_rfl
theorem starES : "*" ++ "errors.errorString" = "*errors.errorString" := by decide
theorem rowES (u : TypeId) (h : Tryz.prog.typeName? 3 u = some "*errors.errorString") : u = 247 :=
  typeName_ptr_named (nm := "errors.errorString") (by rw [starES]; kernel_rfl) (by kernel_rfl) (by decide) u (by rw [starES]; exact h)
def lTab : String × DataW Unit := ("internal/strconv.uint64pow10", Rows.laid_internal_strconv_uint64pow10)
def lAcc : String × DataW Unit := ("unicode/utf8.acceptRanges", Rows.laid_unicode_utf8_acceptRanges)
def lRng : String × DataW Unit := ("strconv.ErrRange", Rows.laid_strconv_ErrRange)
def lSyn : String × DataW Unit := ("strconv.ErrSyntax", Rows.laid_strconv_ErrSyntax)
theorem stdW_of {x0 x1 : String × DataW Unit} {r : List (String × DataW Unit)} {W : World} (hL : laidMet Tryz.prog (x0 :: x1 :: lTab :: lAcc :: lRng :: lSyn :: r) W) (hsh : W.ShapedOpen Tryz.prog) : StdW W := by
  have h2 := laidMet_tail (laidMet_tail hL)
  have ht : TabIs Tryz.prog W "internal/strconv.uint64pow10" .u64 pow10Tab := tabIs_of_head gPow gPowT Tryz.underlying251 Tryz.underlying89 cellsU64 cellsTab h2
  have h4 := laidMet_tail (laidMet_tail h2)
  obtain ⟨a0, s0, hr, -, -, -⟩ := laid_sentinel h4 gRng gRngT Tryz.underlying25 rowES Tryz.underlying247 Tryz.underlying249 rfl rfl Tryz.underlying9 cellsES cellsSt
  obtain ⟨a1, s1, hs, -, -, -⟩ := laid_sentinel (laidMet_tail h4) gSyn gSynT Tryz.underlying25 rowES Tryz.underlying247 Tryz.underlying249 rfl rfl Tryz.underlying9 cellsES cellsSt
  have cr := World.var?_cell gRng hr 0
  have cs := World.var?_cell gSyn hs 0
  refine ⟨Go.Proofs.cell_of_shapedOpen_int (zero := #[.int .i64 0]) (t := 3) hsh (of_decide_eq_true (by kernel_rfl)) (by kernel_rfl) rfl (by kernel_rfl) (by kernel_rfl) Tryz.underlying3, ht, ⟨_, _, by simpa using cs⟩, ⟨_, _, by simpa using cr⟩, ?_⟩
  have c0 := ht.cell gPow 0 (by decide)
  exact World.block_lt_of_cell? _ _ c0
end Go.Proofs.YtocklkaddiomhaaGreatDoor


namespace Go.Proofs.YtocklkaddiomhaaGreatDoor
open Go.RowKit Go.Lib Go.Proofs.YtocklkaddiomhaaGreatDoor.E
set_option linter.unusedVariables false
theorem gEt : Tryz.prog.globalNamed "errors.errorType" = some 1 := by kernel_rfl
theorem rtRow : (Tryz.prog.cutTypes.find? (·.1 == "internal/reflectlite.rtype")).map (·.2) = some 210 := by kernel_rfl
theorem errRow : ((List.range 294).filter fun t => Tryz.prog.rowNamed t [101, 114, 114, 111, 114]) = [25] := by kernel_rfl
theorem typesN : Tryz.prog.types.size = 294 := by kernel_rfl
def lEt : String × DataW Unit := ("errors.errorType", Rows.laid_errors_errorType)
def plainLaid : List (String × DataW Unit) := [("math/bits.deBruijn32tab", Rows.laid_math_bits_deBruijn32tab), ("math/bits.deBruijn64tab", Rows.laid_math_bits_deBruijn64tab), lTab, lAcc, lRng, lSyn, ("unicode.CaseRanges", Rows.laid_unicode_CaseRanges), ("unicode/utf8.first", Rows.laid_unicode_utf8_first)]
theorem laidH_parts {W : World} (hL : laidMetH Tryz.prog Rows.headWordsRow.laid W) : laidMet Tryz.prog plainLaid W ∧ handlesMet Tryz.prog [lEt] W := hL
theorem etW_of {W : World} (h : handlesMet Tryz.prog [lEt] W) : EtW W := by
  obtain ⟨name, u, ty, e1, e2, e3, e4, e5⟩ := h _ (List.mem_singleton.2 rfl)
  have en : name = [101, 114, 114, 111, 114] := (Option.some.inj e1).symm
  subst en
  obtain rfl := Option.some.inj (rtRow.symm.trans e2)
  have hm : ty ∈ (List.range 294).filter fun t => Tryz.prog.rowNamed t [101, 114, 114, 111, 114] := List.mem_filter.2 ⟨List.mem_range.2 (by rw [← typesN]; exact e3), e4⟩
  rw [errRow] at hm
  obtain rfl := List.mem_singleton.1 hm
  have hh : typeHandle Tryz.prog 25 = .pointer (some ⟨11, 25, none⟩) := by kernel_rfl
  rw [hh] at e5
  exact (by simpa using World.var?_cell gEt e5 0 : W.cell? ⟨1, 0, none⟩ = some (.iface 210 (.agg #[.pointer (some ⟨11, 25, none⟩)])))
theorem stdE_of {W : World} (hL : laidMetH Tryz.prog Rows.headWordsRow.laid W) (hsh : W.ShapedOpen Tryz.prog) : StdE W := ⟨stdW_of (laidH_parts hL).1 hsh, etW_of (laidH_parts hL).2⟩
theorem laidMet_on (w0 : World) {laid : List (String × DataW Unit)} (args : Array Value) (hf : w0.layFits Tryz.prog laid [] = true) (hi : w0.layIfaces Tryz.prog laid (w0.layVars Tryz.prog laid) = true) :
    laidMet Tryz.prog laid ((w0.layVars Tryz.prog laid).forCall (fun _ _ => 0) ⟨#[], args, []⟩).memory := by
  have e1 : (laid.filter fun x => (laid.map (·.1)).contains x.1) = laid := List.filter_eq_self.2 fun x hx => List.contains_iff_mem.2 (List.mem_map.2 ⟨x, hx, rfl⟩)
  have e2 : (laid.filter fun x => !(laid.map (·.1)).contains x.1) = [] := List.filter_eq_nil_iff.2 fun x hx => by rw [List.contains_iff_mem.2 (List.mem_map.2 ⟨x, hx, rfl⟩)]; simp
  have h : laidMet Tryz.prog laid (w0.layVars Tryz.prog laid) := laidMet_layVars (w0 := w0) (laid.map (·.1)) [] (by rw [e1]) (by rw [e1]; exact hf) (by rw [e1]; exact hi) (by rw [e2]; exact LaidIn.none)
  exact h.of_heap (by simp [World.memory, World.forCall, Input.heap])
noncomputable def handleWorld (os : Os) : World :=
  let w0 := World.holding Tryz.prog os ⟨#[], #[], []⟩
  { w0 with heap := w0.heap.modify 1 fun
      | .cells _ t frozen => .cells #[.iface 210 (.agg #[.pointer (some ⟨11, 25, none⟩)])] t frozen
      | o => o }
noncomputable def hostWorld (os : Os) : World := (handleWorld os).layVars Tryz.prog plainLaid
theorem hostWorld_os (os : Os) : (hostWorld os).os = os := World.layVars_os _ _ _
theorem hostLaid (os : Os) (args : Array Value) : laidMetH Tryz.prog Rows.headWordsRow.laid ((hostWorld os).forCall (fun _ _ => 0) ⟨#[], args, []⟩).memory :=
  laidMetH_of_parts (laidMet_on (handleWorld os) (laid := plainLaid) args (by kernel_rfl) (by kernel_rfl)) (by kernel_rfl)
end Go.Proofs.YtocklkaddiomhaaGreatDoor


namespace Go.Proofs.YtocklkaddiomhaaGreatDoor
open Go
section
variable {H : Type} {enc : TypeId × Value → H}
theorem witness_zip {C : Checked} {os : Os} {f : FuncId} {fn : Func} {s : OpenSpec} {conds : List PathCond} {apart : Bool} {laid : List (String × DataW Unit)} (w0 : World) (args : Array Value) (hos : w0.os = os)
    (hsh : (w0.forCall (fun _ _ => 0) ⟨#[], args, []⟩).Shaped C.prog)
    (hok : Input.okWideB C.prog (w0.forCall (fun _ _ => 0) ⟨#[], args, []⟩) f ⟨#[], args, []⟩ = true)
    (hrow : s.preRow enc C.prog fn conds apart laid (w0.forCall (fun _ _ => 0) ⟨#[], args, []⟩).memory args) :
    ∃ (w : World) (tape : Tape) (i : Input), w.os = os ∧ (w.forCall tape i).Shaped C.prog ∧ i.vars = [] ∧ Input.okWide C.prog (w.forCall tape i) .any w.heap.size f i ∧
      s.preRow enc C.prog fn conds apart laid (w.forCall tape i).memory i.args ∧ ({} : Assume).holds C.prog (lone (Frame.enter C.prog f i.args .normal) [] (w.forCall tape i)) :=
  ⟨w0, fun _ _ => 0, ⟨#[], args, []⟩, hos, hsh, (Input.okWide_of_okWideB (base := 0) hok).1, (Input.okWide_of_okWideB hok).2, hrow, by
    simp only [Assume.holds]
    exact ⟨by simp, by simp, fun _ => Modest.zero, by simp, by simp⟩⟩
end
end Go.Proofs.YtocklkaddiomhaaGreatDoor


namespace Go.Proofs.YtocklkaddiomhaaGreatDoor
open Go
theorem jf_of {P : Program} {f : FuncId} {fn : Func} {s : ChangeSpec} {c : OpenClaim}
    (a1 : (c.wf (OpenSpec.ofChange s) && laidOutB P && mapsRowed P && fn.params.all (P.readableRec ·) && namedTie P c.named s.vars && (c.stops == []) && (P.stops == []) && (c.knobs == []) && (P.stopKnobs == [])) = true)
    (a2 : (c.inPlace == P.inPlace f) = true) (a3 : (c.unfollowed == P.unfollowed f) = true) (a4 : (c.recurses == P.recurses f) = true) (a5 : (c.named == P.varsNamed f) = true)
    (a6 : ((c.maps == (fn.params.toList ++ s.plain.varTypes P).any (P.mapsRec ·)) && (c.ifaces == (fn.params.toList ++ s.plain.varTypes P).any (P.ifacesRec ·)) && (c.mapsOut == P.mapsAmong fn.resultTypes.toList) && (c.loops == (fn.params.toList ++ s.plain.varTypes P).any (P.loopsFrom ·)) && (c.wideKeys == (fn.params.toList ++ s.plain.varTypes P ++ fn.resultTypes.toList).any (P.wideKeysFrom ·))) = true)
    (a7 : (s.vars.all (P.varReadable ·) && fn.resultTypes.all (fun t => P.readableRec t && decide (t < P.types.size)) && (c.ifacesOut == fn.resultTypes.toList.any (P.ifacesRec ·)) && (c.loopsOut == fn.resultTypes.toList.any (P.loopsFrom ·))) = true)
    (a8 : (c.plainKeys == P.plainKeys) = true) (a9 : (c.shortTexts.isNone && P.stopsHeard) = true) (a10 : P.mayEnter = true) (a11 : (c.lifted == P.liftsFinal) = true) (a12 : (P.make == some c.make) = true)
    (a13 : ((c.kinds == (if c.domain.isEmpty then [] else fn.params.toList.map fun t => match P.underlying t with | some (.int k) => some k | _ => none)) && (c.pinned == c.pinnedBy)) = true)
    (a14 : ((c.veiled == (fn.params.toList ++ s.plain.varTypes P ++ fn.resultTypes.toList).any (P.veiledRec ·)) && c.veiledFits P fn.params.toList (fn.params.toList ++ s.plain.varTypes P ++ fn.resultTypes.toList)) = true) : joinedFacts P f fn s c = true := by
  unfold joinedFacts
  simp only [Bool.and_eq_true] at a1 a6 a7 a9 a13 a14 ⊢
  obtain ⟨⟨⟨⟨⟨⟨⟨⟨b1, b2⟩, b3⟩, b4⟩, b5⟩, b6⟩, b7⟩, b8⟩, b9⟩ := a1
  obtain ⟨⟨⟨⟨c1, c2⟩, c3⟩, c4⟩, c5⟩ := a6
  obtain ⟨⟨⟨d1, d2⟩, d3⟩, d4⟩ := a7
  obtain ⟨e1, e2⟩ := a9
  obtain ⟨f1, f2⟩ := a13
  obtain ⟨g1, g2⟩ := a14
  exact ⟨⟨⟨⟨⟨⟨⟨⟨⟨⟨⟨⟨⟨⟨⟨⟨⟨⟨⟨⟨⟨⟨⟨⟨⟨⟨⟨⟨⟨⟨⟨b1, b2⟩, b3⟩, b4⟩, b5⟩, b6⟩, b7⟩, b8⟩, b9⟩, a2⟩, a3⟩, a4⟩, a5⟩, c1⟩, c2⟩, c3⟩, c4⟩, c5⟩, d1⟩, d2⟩, d3⟩, d4⟩, a8⟩, e1⟩, e2⟩, a10⟩, a11⟩, a12⟩, f1⟩, f2⟩, g1⟩, g2⟩
end Go.Proofs.YtocklkaddiomhaaGreatDoor
