/- What the cards of this seat rest on: the walks and plain laws, part 15. -/
import Derived.Test.YtocklkaddiomhaaGreatDoorHD14
import Derived.Test.YtocklkaddiomhaaGreatDoorHD13
import Derived.Deep.RegionHeld3
import Derived.Deep.QuietTactic
import Derived.BigQuiet
import Derived.Test.YtocklkaddiomhaaGreatDoorHD7
import Derived.Test.YtocklkaddiomhaaGreatDoorHD1
import Derived.Test.YtocklkaddiomhaaGreatDoorRows
import Derived.Deep.Slices
import Derived.Deep.Fields
import Derived.ChangeSame
import Derived.SizedLaws
import Derived.OpenShut
import Derived.Test.YtocklkaddiomhaaGreatDoorHD12
import Derived.ChangeSlices
import Derived.Stop.LaidErr
import Derived.Lib.LaidTab
import Derived.Test.YtocklkaddiomhaaGreatDoorHD8
import Derived.LaidHandle
import Derived.LaidLaws
import Derived.Lay
import Derived.Deep.DeepHandedRow
import Derived.Stop.Joined
import Derived.JoinedOf


namespace Go.Proofs.YtocklkaddiomhaaGreatDoor.E
open Go.RowKit Go.Proofs.YtocklkaddiomhaaGreatDoorW.PrintWords Go.Proofs.YtocklkaddiomhaaGreatDoorW.PrintLast Go.Proofs.YtocklkaddiomhaaGreatDoor.XK Go.Proofs.YtocklkaddiomhaaGreatDoor.XA Go.Proofs.YtocklkaddiomhaaGreatDoor.XD Go.Proofs.YtocklkaddiomhaaGreatDoor.XBy
set_option linter.unusedVariables false
set_option linter.unusedSimpArgs false
set_option maxRecDepth 100000 in
set_option maxHeartbeats 40000000 in
theorem clean_walk (A : Option Addr) (n c : Nat) (pm : ByteArray) (pa pb pc pd : Int) (pn : ByteArray) (ppo : Int) (pp : ByteArray) (pA : Option Addr) (pcap : Nat) (lp : List S72) (m' : ByteArray) (x y z u : Int) (nm : ByteArray) (po : Int) (pth : ByteArray) (l1 : List S72) (i1 : Int) (st : Int) (re : ByteArray) (l2 : List S72) (i2 : Int) (cc : Int) (w : World)
    (hcc : cc ≠ 0) (hM : Kd.C k72 w pA lp.length lp) (hl1 : l1.length ≤ 64) (hl2 : l2.length ≤ 64) (ho1 : okAll l1) (ho2 : okAll l2)
    (H1 : ∀ W, Below w.heap.size w W → Calls Tryz.prog 7 #[] W fun e w' => e = .returned (.bool true) ∧ Below W.heap.size W w')
    (H5 : ∀ W, Below w.heap.size w W → Calls Tryz.prog 9 #[.slice A n c] W fun e w' => ∃ fA fc v, e = .returned (.tuple #[.agg #[.string m', .int .u8 x, .int .u8 y, .int .u8 z, .int .u8 u, .string nm, .int .i64 po, .string pth, .slice fA l1.length fc], .int .i64 i1, v]) ∧ l1.length ≤ fc ∧ Kd.C k72 w' fA l1.length l1 ∧ Below W.heap.size W w')
    (H6 : ∀ W, Below w.heap.size w W → Calls Tryz.prog 24 #[.slice A n c] W fun e w' => ∃ qA qc v, e = .returned (.tuple #[.agg #[.int .i64 st, .string re, .slice qA l2.length qc], .int .i64 i2, v]) ∧ l2.length ≤ qc ∧ Kd.C k72 w' qA l2.length l2 ∧ Below W.heap.size W w')
    (H7 : ∀ W A3 c3, Kd.C k72 W A3 l1.length l1 → l1.length ≤ c3 → Calls Tryz.prog 28 #[.slice A3 l1.length c3] W fun e w' => ∃ v, e = .returned v ∧ Kd.R k72 72 w' W.heap.size (fun _ => True) v l1 ∧ Below W.heap.size W w')
    (H8 : ∀ W, Below w.heap.size w W → Calls Tryz.prog 29 #[.agg #[.string pm, .int .u8 pa, .int .u8 pb, .int .u8 pc, .int .u8 pd, .string pn, .int .i64 ppo, .string pp, .slice pA lp.length pcap]] W fun e w' => ∃ v, e = .returned (.tuple #[v, .int .i64 cc]) ∧ Below W.heap.size W w') :
    Calls Tryz.prog 6 #[.slice A n c, .agg #[.string pm, .int .u8 pa, .int .u8 pb, .int .u8 pc, .int .u8 pd, .string pn, .int .i64 ppo, .string pp, .slice pA lp.length pcap]] w fun e w' => e = .returned (.bool true) ∧ Below w.heap.size w w' := by
  have X1 := Lib.hid H1
  have X5 := Lib.hid H5
  have X6 := Lib.hid H6
  have X7 := Lib.hid H7
  have X8 := Lib.hid H8
  obtain ⟨L12, hL12⟩ : ∃ L, L = l1 ++ l2 := ⟨_, rfl⟩
  have HZS := Lib.hid hL12
  have HOK : Hid (okAll L12) := Lib.hid (hL12 ▸ okAll_app ho1 ho2)
  have HN1 : Hid ((l1.length + l2.length) * 32 ≤ 140737488355328) := Lib.hid (by omega)
  have HN3 : Hid (L12.length ≤ 128) := Lib.hid (by rw [hL12, List.length_append]; omega)
  have HNL : Hid (L12.length ≤ 2000000) := Lib.hid (by have := HN3.out; omega)
  have HM := Lib.hid hM
  have hc0 : (cc == 0) = false := by rw [beq_eq_false_iff_ne]; exact hcc
  have hi1 : (l1.length : Int) ≤ 64 := by omega
  have hi2 : (l2.length : Int) ≤ 64 := by omega
  have HP := Lib.hid (Blk.new w #[.string pm, .int .u8 pa, .int .u8 pb, .int .u8 pc, .int .u8 pd, .string pn, .int .i64 ppo, .string pp, .slice pA lp.length pcap] 36)
  have HB := Lib.hid (below_alloc (Below.refl w.heap.size w) (.cells #[.string pm, .int .u8 pa, .int .u8 pb, .int .u8 pc, .int .u8 pd, .string pn, .int .i64 ppo, .string pp, .slice pA lp.length pcap] 36))
  clear H1 H5 H6 H7 H8 hL12 hM ho1 ho2 hl1 hl2 hcc
  go_enter Tryz.func6, Tryz.ntmps6
  go_wp2_with (go_at_call 7; (with_reducible refine (X1.out _ HB.out).mono ?_); rintro e w1 ⟨rfl, hb⟩; have HP := Lib.hid (HP.out.below hb); have HB := Lib.hid (below_then HB.out HB.out.size hb); clear hb)
  go_wp2_with (go_at_call 9; (with_reducible refine (X5.out _ HB.out).mono ?_); rintro e w2 ⟨fA, fc, vg, rfl, hfc, hfC, hb⟩; have HFC := Lib.hid hfc; have HC1 := Lib.hid hfC; have HP := Lib.hid ((HP.out.below hb).old (.cells #[.string m', .int .u8 x, .int .u8 y, .int .u8 z, .int .u8 u, .string nm, .int .i64 po, .string pth, .slice fA l1.length fc] 36)); have HB := Lib.hid (below_alloc (below_then HB.out HB.out.size hb) (.cells #[.string m', .int .u8 x, .int .u8 y, .int .u8 z, .int .u8 u, .string nm, .int .i64 po, .string pth, .slice fA l1.length fc] 36)); have HRB := Lib.hid (Blk.new w2 #[.string m', .int .u8 x, .int .u8 y, .int .u8 z, .int .u8 u, .string nm, .int .i64 po, .string pth, .slice fA l1.length fc] 36); clear hb hfc hfC)
  go_wp2_with (go_at_call 24; (with_reducible refine (X6.out _ HB.out).mono ?_); rintro e w3 ⟨qA, qc, vh, rfl, hqc, hqC, hb⟩; have HC1 := Lib.hid (Kd.C_below (Kd.C_below (Kd.C_below HC1.out (below_alloc (Below.refl _ _) (.cells #[.string m', .int .u8 x, .int .u8 y, .int .u8 z, .int .u8 u, .string nm, .int .i64 po, .string pth, .slice fA l1.length fc] 36))) hb) (below_alloc (Below.refl _ _) (.cells #[.int .i64 st, .string re, .slice qA l2.length qc] 60))); have HC2 := Lib.hid (Kd.C_below hqC (below_alloc (Below.refl _ _) (.cells #[.int .i64 st, .string re, .slice qA l2.length qc] 60))); have HP := Lib.hid ((HP.out.below hb).old (.cells #[.int .i64 st, .string re, .slice qA l2.length qc] 60)); have HB := Lib.hid (below_alloc (below_then HB.out HB.out.size hb) (.cells #[.int .i64 st, .string re, .slice qA l2.length qc] 60)); have HRB := Lib.hid ((HRB.out.below hb).old (.cells #[.int .i64 st, .string re, .slice qA l2.length qc] 60)); have HQB := Lib.hid (Blk.new w3 #[.int .i64 st, .string re, .slice qA l2.length qc] 60); clear hb hqc hqC)
  generalize w2.heap.size = R5 at HRB ⊢
  generalize w3.heap.size = Q8 at HQB ⊢
  generalize (w3.alloc (.cells #[.int .i64 st, .string re, .slice qA l2.length qc] 60)) = WA at HC1 HC2 HP HB HRB HQB ⊢
  have r8 : WA.cell? ⟨R5, 8, none⟩ = some (.slice fA l1.length fc) := HRB.out.cell 8 _ rfl
  have q2 : WA.cell? ⟨Q8, 2, none⟩ = some (.slice qA l2.length qc) := HQB.out.cell 2 _ rfl
  go_region_held3 (fun w' => w'.cell? ⟨R5, 8, none⟩ = some (.slice fA l1.length fc) ∧ w'.cell? ⟨Q8, 2, none⟩ = some (.slice qA l2.length qc)) (first | (simp only [World.cell?_drew, r8, q2, and_self]; done) | exact ⟨r8, q2⟩) (first | (go_at_call 28; (with_reducible refine (X7.out _ fA fc (Kd.C_drew HC1.out) HFC.out).mono ?_); rintro e wm ⟨v0, rfl, hv, hbd⟩; have hb := below_of_drew hbd; have HV := Lib.hid hv; have HBA := Lib.hid hb; have HC2 := Lib.hid (Kd.C_below HC2.out hb); have r8 := (hb.cell (World.block_lt_of_cell? _ _ r8)).trans r8; have q2 := (hb.cell (World.block_lt_of_cell? _ _ q2)).trans q2; clear hb hbd hv) | (refine Kd.R_append_rows_step k72 (w0 := WA) WA.heap.size (by rfl) (.tmp 33) (.tmp 35) 34 72 (.agg #[.string ⟨#[]⟩, .string ⟨#[]⟩]) 32 rfl Tryz.underlying34 info72 rfl (by decide) (by omega) v0 l1 l2 _ _ _ (fun _ => True) (fun _ => False) rfl rfl HV.out HC2.out (fun _ _ h => h) (fun _ h => h.elim) (fun _ _ => trivial) HBA.out HBA.out.size HN1.out ?_; intro v1 w6 ho hb hg hat; rw [← HZS.out] at ho; obtain ⟨LA, Lc, rfl, hLc, hLC⟩ := Kd.R_reads ho; have HV1 := Lib.hid ho; have HLC := Lib.hid hLC; have HBB := Lib.hid hb; have r8 := (hb.cell (World.block_lt_of_cell? _ _ (HRB.out.cell 8 _ rfl))).trans (HRB.out.cell 8 _ rfl); have q2 := (hb.cell (World.block_lt_of_cell? _ _ (HQB.out.cell 2 _ rfl))).trans (HQB.out.cell 2 _ rfl); clear ho hb hg hat hLc hLC))
  have HBW := Lib.hid (below_then HB.out HB.out.size HBB.out)
  have HM := Lib.hid (Kd.C_below HM.out HBW.out)
  have HP := Lib.hid (HP.out.below HBB.out)
  have HRB := Lib.hid (HRB.out.below HBB.out)
  have HQB := Lib.hid (HQB.out.below HBB.out)
  obtain ⟨c0, c1, c2, c3, c4, c5, c6, c7, c8, -⟩ := (show Blk _ _ (rqC pm pa pb pc pd pn ppo pp (.slice pA lp.length pcap)) _ from HP.out).rq
  clear r8 q2
  go_wp2_with (go_at_call 29; (with_reducible refine (X8.out _ HBW.out).mono ?_); rintro e w7 ⟨vp, rfl, hb⟩; have HLC := Lib.hid (Kd.C_below HLC.out hb); have HRB := Lib.hid (HRB.out.below hb); have HQB := Lib.hid (HQB.out.below hb); have HBW := Lib.hid (below_then HBW.out HBW.out.size hb); clear hb c0 c1 c2 c3 c4 c5 c6 c7 c8)
  go_loopw [14] (fun i wr => ∃ k : Nat, k ≤ L12.length ∧ i = .int .i64 k ∧ Hid (Below w7.heap.size w7 wr)) (fun i _ => L12.length - (intOf i).toNat)
  case atStart => exact ⟨0, Nat.zero_le _, rfl, Lib.hid (Below.refl _ _)⟩
  case round =>
    obtain ⟨k, hk, rfl, HBL⟩ := hrel
    by_cases hlt : k < L12.length
    · have hk0 : (0 : Int) ≤ (k : Int) := Int.natCast_nonneg _
      have hk1 : (k : Int) < (L12.length : Int) := by omega
      have hkb : (k : Int) ≤ 2000000 := by have := HNL.out; omega
      obtain ⟨ad, ea, x0, x1⟩ := at_T72 (Kd.C_below HLC.out HBL.out) (k : Int) hk0 hk1
      cases ea
      have hrd : rd_T72 L12 (k : Int) = L12[k] := by
        unfold rd_T72
        rw [show ((k : Int)).toNat = k by omega, List.getD_eq_getElem?_getD, List.getElem?_eq_getElem hlt]; rfl
      rw [hrd] at x0 x1
      have HCF := clean_f L12[k] (HOK.out _ (List.getElem_mem hlt)).1 (HOK.out _ (List.getElem_mem hlt)).2
      clear hrd
      generalize L12[k] = r at x0 x1 HCF
      obtain ⟨nm0, va0⟩ := r
      simp only [Int.toNat_natCast] at x0 x1
      dsimp only at HCF
      obtain ⟨hz0, hz1, hne, hcl⟩ := HCF
      have HCL := Lib.hid hcl
      have HLT := Lib.hid hlt
      have hcat : nm0.size + va0.size ≤ 9223372036854775807 := by omega
      have hcat2 : ¬ 9223372036854775807 < nm0.size + va0.size := by omega
      have hemp : nm0.toList.isEmpty = false := by rw [ByteArray.toList_eq]; cases hh : nm0.data.toList with | nil => exact absurd hh hne | cons _ _ => rfl
      have hemp2 : (nm0.toList == ([] : List UInt8)) = false := by rw [ByteArray.toList_eq, beq_eq_false_iff_ne]; exact hne
      have hsz : (nm0 ++ va0).size ≤ 5000 := by rw [ByteArray.size_append]; omega
      clear hcl hne
      go_wp2
      go_quiet (fail)
      go_wp2
      generalize hsv : nm0 ++ va0 = sv at HCL hsz ⊢
      clear hsv
      go_loop [16] (fun j => ∃ q : Nat, q ≤ sv.size ∧ j = .int .i64 q) (fun j => sv.size - (intOf j).toNat)
      case atStart => exact ⟨0, Nat.zero_le _, rfl⟩
      case round =>
        obtain ⟨q, hq, rfl⟩ := hrel
        by_cases hql : q < sv.size
        · have hmem : sv[q] ∈ sv.data.toList := by
            have := List.getElem_mem (l := sv.data.toList) (n := q) (by rw [← Lib.size_eq]; exact hql)
            exact this
          obtain ⟨n13, n10, n00⟩ := HCL.out _ hmem
          have t13 : ((sv[q].toNat : Int) == 13) = false := by rw [beq_eq_false_iff_ne]; omega
          have t10 : ((sv[q].toNat : Int) == 10) = false := by rw [beq_eq_false_iff_ne]; omega
          have t00 : ((sv[q].toNat : Int) == 0) = false := by rw [beq_eq_false_iff_ne]; omega
          clear hmem n13 n10 n00
          have HQL := Lib.hid hql
          go_wp2
          go_round
          case rel => exact ⟨q + 1, HQL.out, by go_num⟩
          case measure => (have := HQL.out; simp [intOf]; omega)
        · go_wp2
          go_roundw
          case rel => exact ⟨k + 1, HLT.out, by go_num, Lib.hid (below_then HBL.out HBL.out.size (below_drewN _ _))⟩
          case measure => (have := HLT.out; simp [intOf]; omega)
    · have r8 := (HRB.out.below HBL.out).cell 8 _ rfl
      have q2 := (HQB.out.below HBL.out).cell 2 _ rfl
      go_wp2
      go_ret
      exact ⟨rfl, below_then HBW.out HBW.out.size HBL.out⟩
set_option maxRecDepth 100000 in
set_option maxHeartbeats 40000000 in
theorem clean_walk0 (A : Option Addr) (n c : Nat) (pm : ByteArray) (pa pb pc pd : Int) (pn : ByteArray) (ppo : Int) (pp : ByteArray) (pA : Option Addr) (pcap : Nat) (lp : List S72) (m' : ByteArray) (x y z u : Int) (nm : ByteArray) (po : Int) (pth : ByteArray) (l1 : List S72) (i1 : Int) (st : Int) (re : ByteArray) (l2 : List S72) (i2 : Int) (cc : Int) (w : World)
    (hcc : cc = 0) (ho3 : okAll lp) (hl3 : lp.length ≤ 1048576) (hM : Kd.C k72 w pA lp.length lp) (hl1 : l1.length ≤ 64) (hl2 : l2.length ≤ 64) (ho1 : okAll l1) (ho2 : okAll l2)
    (H1 : ∀ W, Below w.heap.size w W → Calls Tryz.prog 7 #[] W fun e w' => e = .returned (.bool true) ∧ Below W.heap.size W w')
    (H5 : ∀ W, Below w.heap.size w W → Calls Tryz.prog 9 #[.slice A n c] W fun e w' => ∃ fA fc v, e = .returned (.tuple #[.agg #[.string m', .int .u8 x, .int .u8 y, .int .u8 z, .int .u8 u, .string nm, .int .i64 po, .string pth, .slice fA l1.length fc], .int .i64 i1, v]) ∧ l1.length ≤ fc ∧ Kd.C k72 w' fA l1.length l1 ∧ Below W.heap.size W w')
    (H6 : ∀ W, Below w.heap.size w W → Calls Tryz.prog 24 #[.slice A n c] W fun e w' => ∃ qA qc v, e = .returned (.tuple #[.agg #[.int .i64 st, .string re, .slice qA l2.length qc], .int .i64 i2, v]) ∧ l2.length ≤ qc ∧ Kd.C k72 w' qA l2.length l2 ∧ Below W.heap.size W w')
    (H7 : ∀ W A3 c3, Kd.C k72 W A3 l1.length l1 → l1.length ≤ c3 → Calls Tryz.prog 28 #[.slice A3 l1.length c3] W fun e w' => ∃ v, e = .returned v ∧ Kd.R k72 72 w' W.heap.size (fun _ => True) v l1 ∧ Below W.heap.size W w')
    (H8 : ∀ W, Below w.heap.size w W → Calls Tryz.prog 29 #[.agg #[.string pm, .int .u8 pa, .int .u8 pb, .int .u8 pc, .int .u8 pd, .string pn, .int .i64 ppo, .string pp, .slice pA lp.length pcap]] W fun e w' => ∃ v, e = .returned (.tuple #[v, .int .i64 cc]) ∧ Below W.heap.size W w') :
    Calls Tryz.prog 6 #[.slice A n c, .agg #[.string pm, .int .u8 pa, .int .u8 pb, .int .u8 pc, .int .u8 pd, .string pn, .int .i64 ppo, .string pp, .slice pA lp.length pcap]] w fun e w' => e = .returned (.bool true) ∧ Below w.heap.size w w' := by
  have X1 := Lib.hid H1
  have X5 := Lib.hid H5
  have X6 := Lib.hid H6
  have X7 := Lib.hid H7
  have X8 := Lib.hid H8
  obtain ⟨L12, hL12⟩ : ∃ L, L = l1 ++ l2 := ⟨_, rfl⟩
  have HZS := Lib.hid hL12
  have HOK : Hid (okAll L12) := Lib.hid (hL12 ▸ okAll_app ho1 ho2)
  have HN1 : Hid ((l1.length + l2.length) * 32 ≤ 140737488355328) := Lib.hid (by omega)
  have HN3 : Hid (L12.length ≤ 128) := Lib.hid (by rw [hL12, List.length_append]; omega)
  have HNL : Hid (L12.length ≤ 2000000) := Lib.hid (by have := HN3.out; omega)
  have HM := Lib.hid hM
  subst hcc
  obtain ⟨L3, hL3⟩ : ∃ L, L = L12 ++ lp := ⟨_, rfl⟩
  have HZ3 := Lib.hid hL3
  have HOK : Hid (okAll L3) := Lib.hid (hL3 ▸ okAll_app HOK.out ho3)
  have HNL : Hid (L3.length ≤ 2000000) := Lib.hid (by rw [hL3, List.length_append]; have := HN3.out; omega)
  have HN2 : Hid ((L12.length + lp.length) * 32 ≤ 140737488355328) := Lib.hid (by have := HN3.out; omega)
  have hi1 : (l1.length : Int) ≤ 64 := by omega
  have hi2 : (l2.length : Int) ≤ 64 := by omega
  have HP := Lib.hid (Blk.new w #[.string pm, .int .u8 pa, .int .u8 pb, .int .u8 pc, .int .u8 pd, .string pn, .int .i64 ppo, .string pp, .slice pA lp.length pcap] 36)
  have HB := Lib.hid (below_alloc (Below.refl w.heap.size w) (.cells #[.string pm, .int .u8 pa, .int .u8 pb, .int .u8 pc, .int .u8 pd, .string pn, .int .i64 ppo, .string pp, .slice pA lp.length pcap] 36))
  clear H1 H5 H6 H7 H8 hL12 hM ho1 ho2 hl1 hl2 hL3 ho3 hl3
  go_enter Tryz.func6, Tryz.ntmps6
  go_wp2_with (go_at_call 7; (with_reducible refine (X1.out _ HB.out).mono ?_); rintro e w1 ⟨rfl, hb⟩; have HP := Lib.hid (HP.out.below hb); have HB := Lib.hid (below_then HB.out HB.out.size hb); clear hb)
  go_wp2_with (go_at_call 9; (with_reducible refine (X5.out _ HB.out).mono ?_); rintro e w2 ⟨fA, fc, vg, rfl, hfc, hfC, hb⟩; have HFC := Lib.hid hfc; have HC1 := Lib.hid hfC; have HP := Lib.hid ((HP.out.below hb).old (.cells #[.string m', .int .u8 x, .int .u8 y, .int .u8 z, .int .u8 u, .string nm, .int .i64 po, .string pth, .slice fA l1.length fc] 36)); have HB := Lib.hid (below_alloc (below_then HB.out HB.out.size hb) (.cells #[.string m', .int .u8 x, .int .u8 y, .int .u8 z, .int .u8 u, .string nm, .int .i64 po, .string pth, .slice fA l1.length fc] 36)); have HRB := Lib.hid (Blk.new w2 #[.string m', .int .u8 x, .int .u8 y, .int .u8 z, .int .u8 u, .string nm, .int .i64 po, .string pth, .slice fA l1.length fc] 36); clear hb hfc hfC)
  go_wp2_with (go_at_call 24; (with_reducible refine (X6.out _ HB.out).mono ?_); rintro e w3 ⟨qA, qc, vh, rfl, hqc, hqC, hb⟩; have HC1 := Lib.hid (Kd.C_below (Kd.C_below (Kd.C_below HC1.out (below_alloc (Below.refl _ _) (.cells #[.string m', .int .u8 x, .int .u8 y, .int .u8 z, .int .u8 u, .string nm, .int .i64 po, .string pth, .slice fA l1.length fc] 36))) hb) (below_alloc (Below.refl _ _) (.cells #[.int .i64 st, .string re, .slice qA l2.length qc] 60))); have HC2 := Lib.hid (Kd.C_below hqC (below_alloc (Below.refl _ _) (.cells #[.int .i64 st, .string re, .slice qA l2.length qc] 60))); have HP := Lib.hid ((HP.out.below hb).old (.cells #[.int .i64 st, .string re, .slice qA l2.length qc] 60)); have HB := Lib.hid (below_alloc (below_then HB.out HB.out.size hb) (.cells #[.int .i64 st, .string re, .slice qA l2.length qc] 60)); have HRB := Lib.hid ((HRB.out.below hb).old (.cells #[.int .i64 st, .string re, .slice qA l2.length qc] 60)); have HQB := Lib.hid (Blk.new w3 #[.int .i64 st, .string re, .slice qA l2.length qc] 60); clear hb hqc hqC)
  generalize w2.heap.size = R5 at HRB ⊢
  generalize w3.heap.size = Q8 at HQB ⊢
  generalize (w3.alloc (.cells #[.int .i64 st, .string re, .slice qA l2.length qc] 60)) = WA at HC1 HC2 HP HB HRB HQB ⊢
  have r8 : WA.cell? ⟨R5, 8, none⟩ = some (.slice fA l1.length fc) := HRB.out.cell 8 _ rfl
  have q2 : WA.cell? ⟨Q8, 2, none⟩ = some (.slice qA l2.length qc) := HQB.out.cell 2 _ rfl
  go_region_held3 (fun w' => w'.cell? ⟨R5, 8, none⟩ = some (.slice fA l1.length fc) ∧ w'.cell? ⟨Q8, 2, none⟩ = some (.slice qA l2.length qc)) (first | (simp only [World.cell?_drew, r8, q2, and_self]; done) | exact ⟨r8, q2⟩) (first | (go_at_call 28; (with_reducible refine (X7.out _ fA fc (Kd.C_drew HC1.out) HFC.out).mono ?_); rintro e wm ⟨v0, rfl, hv, hbd⟩; have hb := below_of_drew hbd; have HV := Lib.hid hv; have HBA := Lib.hid hb; have HC2 := Lib.hid (Kd.C_below HC2.out hb); have r8 := (hb.cell (World.block_lt_of_cell? _ _ r8)).trans r8; have q2 := (hb.cell (World.block_lt_of_cell? _ _ q2)).trans q2; clear hb hbd hv) | (refine Kd.R_append_rows_step k72 (w0 := WA) WA.heap.size (by rfl) (.tmp 33) (.tmp 35) 34 72 (.agg #[.string ⟨#[]⟩, .string ⟨#[]⟩]) 32 rfl Tryz.underlying34 info72 rfl (by decide) (by omega) v0 l1 l2 _ _ _ (fun _ => True) (fun _ => False) rfl rfl HV.out HC2.out (fun _ _ h => h) (fun _ h => h.elim) (fun _ _ => trivial) HBA.out HBA.out.size HN1.out ?_; intro v1 w6 ho hb hg hat; rw [← HZS.out] at ho; obtain ⟨LA, Lc, rfl, hLc, hLC⟩ := Kd.R_reads ho; have HV1 := Lib.hid ho; have HLC := Lib.hid hLC; have HBB := Lib.hid hb; have r8 := (hb.cell (World.block_lt_of_cell? _ _ (HRB.out.cell 8 _ rfl))).trans (HRB.out.cell 8 _ rfl); have q2 := (hb.cell (World.block_lt_of_cell? _ _ (HQB.out.cell 2 _ rfl))).trans (HQB.out.cell 2 _ rfl); clear ho hb hg hat hLc hLC))
  have HBW := Lib.hid (below_then HB.out HB.out.size HBB.out)
  have HR0 := HRB
  have HQ0 := HQB
  have HM := Lib.hid (Kd.C_below HM.out HBW.out)
  have HP := Lib.hid (HP.out.below HBB.out)
  have HRB := Lib.hid (HRB.out.below HBB.out)
  have HQB := Lib.hid (HQB.out.below HBB.out)
  obtain ⟨c0, c1, c2, c3, c4, c5, c6, c7, c8, -⟩ := (show Blk _ _ (rqC pm pa pb pc pd pn ppo pp (.slice pA lp.length pcap)) _ from HP.out).rq
  clear r8 q2
  go_wp2_with (first | (go_at_call 29; (with_reducible refine (X8.out _ HBW.out).mono ?_); rintro e w7 ⟨vp, rfl, hb⟩; have HLC := Lib.hid (Kd.C_below HLC.out hb); have HRB := Lib.hid (HRB.out.below hb); have HQB := Lib.hid (HQB.out.below hb); have HBW := Lib.hid (below_then HBW.out HBW.out.size hb); have HM := Lib.hid (Kd.C_below HM.out hb); have HV1 := Lib.hid (Kd.R_below HV1.out hb); have HBA := Lib.hid (below_then HBB.out HBB.out.size hb); have HP := Lib.hid (HP.out.below hb); clear c0 c1 c2 c3 c4 c5 c6 c7 c8; obtain ⟨c0, c1, c2, c3, c4, c5, c6, c7, c8, -⟩ := (show Blk _ _ (rqC pm pa pb pc pd pn ppo pp (.slice pA lp.length pcap)) _ from HP.out).rq; clear hb) | (at_builtin; refine Kd.R_append_rows k72 (w0 := WA) WA.heap.size rfl (.tmp 44) (.tmp 46) 34 72 (.agg #[.string ⟨#[]⟩, .string ⟨#[]⟩]) 32 rfl Tryz.underlying34 info72 rfl (by decide) (by omega) (.slice LA L12.length Lc) L12 lp _ _ _ (fun _ => True) (fun _ => False) rfl rfl HV1.out HM.out (fun _ _ h => h) (fun _ h => h.elim) (fun _ _ => trivial) HBA.out HBA.out.size HN2.out ?_; intro v2 w8 ho hb hg hat; rw [← HZ3.out] at ho; obtain ⟨LB, Ld, rfl, hLd, hLD⟩ := Kd.R_reads ho; have HLC := Lib.hid hLD; have HRB := Lib.hid (HR0.out.below hb); have HQB := Lib.hid (HQ0.out.below hb); have HBW := Lib.hid (below_then HB.out HB.out.size hb); clear ho hb hg hat hLd hLD c0 c1 c2 c3 c4 c5 c6 c7 c8))
  go_loopw [14] (fun i wr => ∃ k : Nat, k ≤ L3.length ∧ i = .int .i64 k ∧ Hid (Below w8.heap.size w8 wr)) (fun i _ => L3.length - (intOf i).toNat)
  case atStart => exact ⟨0, Nat.zero_le _, rfl, Lib.hid (Below.refl _ _)⟩
  case round =>
    obtain ⟨k, hk, rfl, HBL⟩ := hrel
    by_cases hlt : k < L3.length
    · have hk0 : (0 : Int) ≤ (k : Int) := Int.natCast_nonneg _
      have hk1 : (k : Int) < (L3.length : Int) := by omega
      have hkb : (k : Int) ≤ 2000000 := by have := HNL.out; omega
      obtain ⟨ad, ea, x0, x1⟩ := at_T72 (Kd.C_below HLC.out HBL.out) (k : Int) hk0 hk1
      cases ea
      have hrd : rd_T72 L3 (k : Int) = L3[k] := by
        unfold rd_T72
        rw [show ((k : Int)).toNat = k by omega, List.getD_eq_getElem?_getD, List.getElem?_eq_getElem hlt]; rfl
      rw [hrd] at x0 x1
      have HCF := clean_f L3[k] (HOK.out _ (List.getElem_mem hlt)).1 (HOK.out _ (List.getElem_mem hlt)).2
      clear hrd
      generalize L3[k] = r at x0 x1 HCF
      obtain ⟨nm0, va0⟩ := r
      simp only [Int.toNat_natCast] at x0 x1
      dsimp only at HCF
      obtain ⟨hz0, hz1, hne, hcl⟩ := HCF
      have HCL := Lib.hid hcl
      have HLT := Lib.hid hlt
      have hcat : nm0.size + va0.size ≤ 9223372036854775807 := by omega
      have hcat2 : ¬ 9223372036854775807 < nm0.size + va0.size := by omega
      have hemp : nm0.toList.isEmpty = false := by rw [ByteArray.toList_eq]; cases hh : nm0.data.toList with | nil => exact absurd hh hne | cons _ _ => rfl
      have hemp2 : (nm0.toList == ([] : List UInt8)) = false := by rw [ByteArray.toList_eq, beq_eq_false_iff_ne]; exact hne
      have hsz : (nm0 ++ va0).size ≤ 5000 := by rw [ByteArray.size_append]; omega
      clear hcl hne
      go_wp2
      go_quiet (fail)
      go_wp2
      generalize hsv : nm0 ++ va0 = sv at HCL hsz ⊢
      clear hsv
      go_loop [16] (fun j => ∃ q : Nat, q ≤ sv.size ∧ j = .int .i64 q) (fun j => sv.size - (intOf j).toNat)
      case atStart => exact ⟨0, Nat.zero_le _, rfl⟩
      case round =>
        obtain ⟨q, hq, rfl⟩ := hrel
        by_cases hql : q < sv.size
        · have hmem : sv[q] ∈ sv.data.toList := by
            have := List.getElem_mem (l := sv.data.toList) (n := q) (by rw [← Lib.size_eq]; exact hql)
            exact this
          obtain ⟨n13, n10, n00⟩ := HCL.out _ hmem
          have t13 : ((sv[q].toNat : Int) == 13) = false := by rw [beq_eq_false_iff_ne]; omega
          have t10 : ((sv[q].toNat : Int) == 10) = false := by rw [beq_eq_false_iff_ne]; omega
          have t00 : ((sv[q].toNat : Int) == 0) = false := by rw [beq_eq_false_iff_ne]; omega
          clear hmem n13 n10 n00
          have HQL := Lib.hid hql
          go_wp2
          go_round
          case rel => exact ⟨q + 1, HQL.out, by go_num⟩
          case measure => (have := HQL.out; simp [intOf]; omega)
        · go_wp2
          go_roundw
          case rel => exact ⟨k + 1, HLT.out, by go_num, Lib.hid (below_then HBL.out HBL.out.size (below_drewN _ _))⟩
          case measure => (have := HLT.out; simp [intOf]; omega)
    · have r8 := (HRB.out.below HBL.out).cell 8 _ rfl
      have q2 := (HQB.out.below HBL.out).cell 2 _ rfl
      go_wp2
      go_ret
      exact ⟨rfl, below_then HBW.out HBW.out.size HBL.out⟩
end Go.Proofs.YtocklkaddiomhaaGreatDoor.E


namespace Go.Proofs.YtocklkaddiomhaaGreatDoor.E
open Go.RowKit Go.ChangeShapes Go.WideShapes Go.Deep Go.Proofs.YtocklkaddiomhaaGreatDoorW.PrintWords Go.Proofs.YtocklkaddiomhaaGreatDoorW.PrintLast Go.Proofs.YtocklkaddiomhaaGreatDoor.XK
set_option linter.unusedVariables false
set_option linter.unusedSimpArgs false
section
variable {H : Type} {enc : TypeId × Value → H} {w : World} {base : Nat} {spare : Nat → Bool} {held : Bool}
theorem cellsFld : Tryz.prog.cellsOf 72 = 2 := by kernel_rfl
theorem cellsStr : Tryz.prog.cellsOf 9 = 1 := by kernel_rfl
def okI (n : Int) : Prop := -9223372036854775808 ≤ n ∧ n ≤ 9223372036854775807
theorem wf_i64 {n : Int} (h : (Lit.int .i64 n).wf = true) : okI n := by
  simp only [Lit.wf, Bool.and_eq_true, decide_eq_true_eq] at h
  exact ⟨h.1, h.2⟩
theorem bulk_pos (d : DataW H) : 1 ≤ Rows.uptoBulk d := by
  cases d with
  | lit l => cases l <;> simp [Rows.uptoBulk]
  | _ => simp [Rows.uptoBulk]
theorem bulk_mem : ∀ {ds : List (DataW H)} {d : DataW H}, d ∈ ds → Rows.uptoBulk d ≤ Rows.uptoBulkAll ds
  | d0 :: ds, d, h => by
    simp only [Rows.uptoBulkAll]
    rcases List.mem_cons.1 h with rfl | h
    · omega
    · have := bulk_mem h; omega
theorem bulk_len : ∀ ds : List (DataW H), ds.length ≤ Rows.uptoBulkAll ds
  | [] => Nat.zero_le _
  | d :: ds => by
    simp only [Rows.uptoBulkAll, List.length_cons]
    have := bulk_pos d; have := bulk_len ds; omega
theorem two_of {α : Type} {l : List α} (h : l.length = 2) : ∃ a b, l = [a, b] := by
  match l, h with
  | [a, b], _ => exact ⟨a, b, rfl⟩
theorem open_field {fuel : Nat} {cs : List Value} {x : DataW H × List MemPlace} (h : DataW.trod enc Tryz.prog w base spare held fuel 72 cs = some x) :
    ∃ r : S72, cs = [.string r.f0, .string r.f1] ∧ r.f0.size ≤ Rows.uptoBulk x.1 ∧ r.f1.size ≤ Rows.uptoBulk x.1 := by
  obtain ⟨xs, n, -, hx, hl, hxl, hf⟩ := DataW.trod_struct Tryz.underlying72 h
  obtain ⟨v0, v1, rfl⟩ := two_of (hl.trans cellsFld)
  obtain ⟨y0, y1, rfl⟩ := two_of (show xs.length = 2 from hxl)
  have g0 : DataW.trod enc Tryz.prog w base spare held n 9 ((([v0, v1] : List Value).drop 0).take (Tryz.prog.cellsOf 9)) = some y0 := hf 0 _ rfl
  have g1 : DataW.trod enc Tryz.prog w base spare held n 9 ((([v0, v1] : List Value).drop 1).take (Tryz.prog.cellsOf 9)) = some y1 := hf 1 _ rfl
  simp only [cellsStr, List.drop_zero, List.drop_succ_cons, List.take_succ_cons, List.take_zero] at g0 g1
  obtain ⟨a, ea, ha, -⟩ := DataW.trod_string Tryz.underlying9 g0
  obtain ⟨b, eb, hb, -⟩ := DataW.trod_string Tryz.underlying9 g1
  cases ea; cases eb
  refine ⟨⟨a, b⟩, rfl, ?_⟩
  have e0 : Rows.uptoBulk y0.1 = a.size + 1 := by rw [ha]; simp only [Rows.uptoBulk]; rw [Lib.size_eq]
  have e1 : Rows.uptoBulk y1.1 = b.size + 1 := by rw [hb]; simp only [Rows.uptoBulk]; rw [Lib.size_eq]
  rw [hx]
  simp only [Rows.uptoBulk, Rows.uptoBulkAll, List.map_cons, List.map_nil, e0, e1]
  omega
theorem open_fields {t : TypeId} (ht : Tryz.prog.underlying t = some (.slice 72)) {fuel : Nat} {cs : List Value} {x : DataW H × List MemPlace} (h : DataW.trod enc Tryz.prog w base spare held fuel t cs = some x) :
    ∃ (A : Option Addr) (c : Nat) (l : List S72), cs = [.slice A l.length c] ∧ l.length ≤ c ∧ Kd.C k72 w A l.length l ∧ l.length ≤ Rows.uptoBulk x.1 ∧ ∀ r ∈ l, r.f0.size ≤ Rows.uptoBulk x.1 ∧ r.f1.size ≤ Rows.uptoBulk x.1 := by
  rcases open_slice ht h with ⟨rfl, rfl⟩ | ⟨a, len, cap, m, n, D, Pl, rfl, hb, hl, hm, hmm, hx, hi⟩
  · exact ⟨none, 0, [], rfl, Nat.le_refl _, Kd.C_nil _ _, Nat.zero_le _, fun r hr => by cases hr⟩
  · have hlm : len ≤ m := by rw [hmm]; split <;> omega
    have hi' : ∀ i : Fin len, ∃ r : S72, (r.f0.size ≤ Rows.uptoBulk (D i.1) ∧ r.f1.size ≤ Rows.uptoBulk (D i.1)) ∧ ∀ j, j < 2 → w.cell? (a.add (i.1 * 2 + j)) = ([.string r.f0, .string r.f1] : List Value)[j]? := by
      intro i
      obtain ⟨cs', hc, ht2⟩ := hi i.1 (by omega)
      obtain ⟨r, rfl, hw⟩ := open_field ht2
      obtain ⟨_, _, hat⟩ := World.cells?_some hc
      rw [cellsFld] at hat
      exact ⟨r, hw, fun j hj => by rw [← Go.Deep.add_add]; exact hat j hj⟩
    have hlen : (List.ofFn fun i : Fin len => (hi' i).choose).length = len := List.length_ofFn
    have hbk : ∀ i : Fin len, Rows.uptoBulk (D i.1) ≤ Rows.uptoBulk x.1 := fun i => by
      rw [hx]
      simp only [Rows.uptoBulk]
      have := bulk_mem (ds := (List.range len).map D) (d := D i.1) (List.mem_map.2 ⟨i.1, List.mem_range.2 i.2, rfl⟩)
      omega
    refine ⟨some a, cap, List.ofFn fun i : Fin len => (hi' i).choose, by rw [hlen], by rw [hlen]; exact hl, ?_, ?_, ?_⟩
    · refine ⟨rfl, by rw [hlen]; unfold maxLen at hm; omega, fun _ => ⟨a, rfl, fun j p hj => ?_⟩⟩
      have hjl : j < len := by rw [← hlen]; exact (List.getElem?_eq_some_iff.1 hj).1
      have hp : (hi' ⟨j, hjl⟩).choose = p := by
        rw [List.getElem?_ofFn, dif_pos hjl] at hj
        exact Option.some.inj hj
      subst hp
      refine ⟨_, rfl, k72_mk w _, fun i u hu => ?_⟩
      have hi9 : i < 2 := (List.getElem?_eq_some_iff.1 hu).1
      exact ((hi' ⟨j, hjl⟩).choose_spec.2 i hi9).trans hu
    · rw [hlen, hx]
      simp only [Rows.uptoBulk]
      have := bulk_len ((List.range len).map D)
      rw [List.length_map, List.length_range] at this
      omega
    · intro r hr
      obtain ⟨i, rfl⟩ := List.mem_ofFn.1 hr
      have h1 := (hi' i).choose_spec.1
      have h2 := hbk i
      exact ⟨Nat.le_trans h1.1 h2, Nat.le_trans h1.2 h2⟩
end
end Go.Proofs.YtocklkaddiomhaaGreatDoor.E


namespace Go.Proofs.YtocklkaddiomhaaGreatDoor.E
open Go.RowKit Go.ChangeShapes Go.WideShapes Go.Deep Go.Proofs.YtocklkaddiomhaaGreatDoorW.PrintWords Go.Proofs.YtocklkaddiomhaaGreatDoorW.PrintLast Go.Proofs.YtocklkaddiomhaaGreatDoor.XK
set_option linter.unusedVariables false
set_option linter.unusedSimpArgs false
section
variable {H : Type} {enc : TypeId × Value → H} {w : World} {base : Nat} {spare : Nat → Bool} {held : Bool}
theorem cellsU8 : Tryz.prog.cellsOf 5 = 1 := by kernel_rfl
theorem wf_u8 {n : Int} (h : (Lit.int .u8 n).wf = true) : 0 ≤ n ∧ n < 256 := by
  have := bounds_u8 h
  omega
theorem open_bytes {t : TypeId} (ht : Tryz.prog.underlying t = some (.slice 5)) {fuel : Nat} {cs : List Value} {x : DataW H × List MemPlace} (h : DataW.trod enc Tryz.prog w base spare held fuel t cs = some x) :
    ∃ (A : Option Addr) (c : Nat) (xs : List Int), cs = [.slice A xs.length c] ∧ xs.length ≤ c ∧ (Kd.C (Kd.int .u8) w A xs.length xs ∧ (A = none → c = 0) ∧ c ≤ 9223372036854775807) ∧ okB xs ∧ xs.length ≤ Rows.uptoBulk x.1 := by
  rcases open_ints ht Tryz.underlying5 cellsU8 h with ⟨rfl, rfl⟩ | ⟨a, len, cap, zs, rfl, -, hl, hm, hz, rfl, hc, hw⟩
  · exact ⟨none, 0, [], rfl, Nat.le_refl _, ⟨Kd.C_nil _ _, fun _ => rfl, by omega⟩, (fun x hx => by cases hx), Nat.zero_le _⟩
  · have hll : len ≤ zs.length := by rw [hz]; split <;> omega
    have hlen : (zs.take len).length = len := by rw [List.length_take]; omega
    unfold maxLen at hm
    refine ⟨some a, cap, zs.take len, by rw [hlen], by rw [hlen]; exact hl, ⟨?_, fun e => (by cases e), by omega⟩, fun x hx => wf_u8 (hw x (List.mem_of_mem_take hx)), ?_⟩
    · refine Kd.C_of_reads (enc := Value.int .u8) (d := (0 : Int)) (h1 := fun _ => rfl) ⟨rfl, by rw [hlen]; omega, fun _ => ⟨a, rfl, fun i hi => ?_⟩⟩
      rw [hlen] at hi
      rw [hc i (by omega)]
      simp [List.getD, hi]
    · have := bulk_len (H := H) (lits .u8 (zs.take len))
      simp only [Rows.uptoBulk]
      have h2 : (lits (H := H) .u8 (zs.take len)).length = len := by unfold lits; rw [List.length_map, hlen]
      rw [hlen]; omega
end
end Go.Proofs.YtocklkaddiomhaaGreatDoor.E


namespace Go.Proofs.YtocklkaddiomhaaGreatDoor.E
open Go.RowKit Go.ChangeShapes Go.WideShapes Go.Deep Go.Proofs.YtocklkaddiomhaaGreatDoorW.PrintWords Go.Proofs.YtocklkaddiomhaaGreatDoorW.PrintLast Go.Proofs.YtocklkaddiomhaaGreatDoor.XK
set_option linter.unusedVariables false
set_option linter.unusedSimpArgs false
section
variable {H : Type} {enc : TypeId × Value → H} {w : World} {base : Nat} {spare : Nat → Bool} {held : Bool}
theorem cellsAddr : Tryz.prog.cellsOf 29 = 4 := by kernel_rfl
theorem cellsHost : Tryz.prog.cellsOf 31 = 5 := by kernel_rfl
theorem cellsDest : Tryz.prog.cellsOf 33 = 6 := by kernel_rfl
theorem cellsReq : Tryz.prog.cellsOf 36 = 9 := by kernel_rfl
theorem cellsFlds : Tryz.prog.cellsOf 34 = 1 := by kernel_rfl
theorem cellsU8q : Tryz.prog.cellsOf 5 = 1 := by kernel_rfl
theorem cellsInt : Tryz.prog.cellsOf 3 = 1 := by kernel_rfl
def inU8 (a : Int) : Prop := 0 ≤ a ∧ a ≤ 255
theorem four_of {l : List Value} (h : l.length = 4) : ∃ a b c d, l = [a, b, c, d] := by
  match l, h with
  | [a, b, c, d], _ => exact ⟨a, b, c, d, rfl⟩
theorem open_addr {fuel : Nat} {cs : List Value} {x : DataW H × List MemPlace} (h : DataW.trod enc Tryz.prog w base spare held fuel 29 cs = some x) :
    ∃ a b c d, cs = [.int .u8 a, .int .u8 b, .int .u8 c, .int .u8 d] ∧ inU8 a ∧ inU8 b ∧ inU8 c ∧ inU8 d := by
  obtain ⟨xs, n, -, -, hl, hxl, hf⟩ := DataW.trod_struct Tryz.underlying29 h
  obtain ⟨v0, v1, v2, v3, rfl⟩ := four_of (hl.trans cellsAddr)
  obtain ⟨y0, h0⟩ : ∃ y, xs[0]? = some y := ⟨_, List.getElem?_eq_getElem (by rw [hxl]; decide)⟩
  obtain ⟨y1, h1⟩ : ∃ y, xs[1]? = some y := ⟨_, List.getElem?_eq_getElem (by rw [hxl]; decide)⟩
  obtain ⟨y2, h2⟩ : ∃ y, xs[2]? = some y := ⟨_, List.getElem?_eq_getElem (by rw [hxl]; decide)⟩
  obtain ⟨y3, h3⟩ : ∃ y, xs[3]? = some y := ⟨_, List.getElem?_eq_getElem (by rw [hxl]; decide)⟩
  have g0 : DataW.trod enc Tryz.prog w base spare held n 5 ((([v0, v1, v2, v3] : List Value).drop 0).take (Tryz.prog.cellsOf 5)) = xs[0]? := hf 0 _ rfl
  have g1 : DataW.trod enc Tryz.prog w base spare held n 5 ((([v0, v1, v2, v3] : List Value).drop 1).take (Tryz.prog.cellsOf 5)) = xs[1]? := hf 1 _ rfl
  have g2 : DataW.trod enc Tryz.prog w base spare held n 5 ((([v0, v1, v2, v3] : List Value).drop 2).take (Tryz.prog.cellsOf 5)) = xs[2]? := hf 2 _ rfl
  have g3 : DataW.trod enc Tryz.prog w base spare held n 5 ((([v0, v1, v2, v3] : List Value).drop 3).take (Tryz.prog.cellsOf 5)) = xs[3]? := hf 3 _ rfl
  simp only [cellsU8q, List.drop_zero, List.drop_succ_cons, List.take_succ_cons, List.take_zero] at g0 g1 g2 g3
  rw [h0] at g0; rw [h1] at g1; rw [h2] at g2; rw [h3] at g3
  obtain ⟨a, ea, -, ha⟩ := DataW.trod_int Tryz.underlying5 g0
  obtain ⟨b, eb, -, hb⟩ := DataW.trod_int Tryz.underlying5 g1
  obtain ⟨c, ec, -, hc⟩ := DataW.trod_int Tryz.underlying5 g2
  obtain ⟨d, ed, -, hd⟩ := DataW.trod_int Tryz.underlying5 g3
  cases ea; cases eb; cases ec; cases ed
  exact ⟨a, b, c, d, rfl, bounds_u8 ha, bounds_u8 hb, bounds_u8 hc, bounds_u8 hd⟩
theorem six_of {l : List Value} (h : l.length = 6) : ∃ a b c d e f, l = [a, b, c, d, e, f] := by
  match l, h with
  | [a, b, c, d, e, f], _ => exact ⟨a, b, c, d, e, f, rfl⟩
theorem five_of {l : List Value} (h : l.length = 5) : ∃ a b c d e, l = [a, b, c, d, e] := by
  match l, h with
  | [a, b, c, d, e], _ => exact ⟨a, b, c, d, e, rfl⟩
theorem four_ofX {α : Type} {l : List α} (h : l.length = 4) : ∃ a b c d, l = [a, b, c, d] := by
  match l, h with
  | [a, b, c, d], _ => exact ⟨a, b, c, d, rfl⟩
theorem nine_of {l : List Value} (h : l.length = 9) : ∃ a b c d e f g i j, l = [a, b, c, d, e, f, g, i, j] := by
  match l, h with
  | [a, b, c, d, e, f, g, i, j], _ => exact ⟨a, b, c, d, e, f, g, i, j, rfl⟩
theorem open_hostB {fuel : Nat} {cs : List Value} {x : DataW H × List MemPlace} (h : DataW.trod enc Tryz.prog w base spare held fuel 31 cs = some x) :
    ∃ a b c d n, cs = [.int .u8 a, .int .u8 b, .int .u8 c, .int .u8 d, .string n] ∧ (inU8 a ∧ inU8 b ∧ inU8 c ∧ inU8 d) ∧ n.size ≤ Rows.uptoBulk x.1 := by
  obtain ⟨xs, m, -, hx, hl, hxl, hf⟩ := DataW.trod_struct Tryz.underlying31 h
  obtain ⟨v0, v1, v2, v3, v4, rfl⟩ := five_of (hl.trans cellsHost)
  obtain ⟨y0, y1, rfl⟩ := two_of (show xs.length = 2 from hxl)
  have g0 : DataW.trod enc Tryz.prog w base spare held m 29 ((([v0, v1, v2, v3, v4] : List Value).drop 0).take (Tryz.prog.cellsOf 29)) = some y0 := hf 0 _ rfl
  have g1 : DataW.trod enc Tryz.prog w base spare held m 9 ((([v0, v1, v2, v3, v4] : List Value).drop 4).take (Tryz.prog.cellsOf 9)) = some y1 := hf 1 _ rfl
  simp only [cellsAddr, cellsStr, List.drop_zero, List.drop_succ_cons, List.take_succ_cons, List.take_zero] at g0 g1
  obtain ⟨a, b, c, d, eb, ha, hb, hc, hd⟩ := open_addr g0
  obtain ⟨n, ed, hsu, -⟩ := DataW.trod_string Tryz.underlying9 g1
  cases eb; cases ed
  refine ⟨a, b, c, d, n, rfl, ⟨ha, hb, hc, hd⟩, ?_⟩
  have e1 : Rows.uptoBulk y1.1 = n.size + 1 := by rw [hsu]; simp only [Rows.uptoBulk]; rw [Lib.size_eq]
  rw [hx]
  simp only [Rows.uptoBulk, Rows.uptoBulkAll, List.map_cons, List.map_nil, e1]
  omega
theorem open_destB {fuel : Nat} {cs : List Value} {x : DataW H × List MemPlace} (h : DataW.trod enc Tryz.prog w base spare held fuel 33 cs = some x) :
    ∃ a b c d n po, cs = [.int .u8 a, .int .u8 b, .int .u8 c, .int .u8 d, .string n, .int .i64 po] ∧ (inU8 a ∧ inU8 b ∧ inU8 c ∧ inU8 d) ∧ okI po ∧ n.size ≤ Rows.uptoBulk x.1 := by
  obtain ⟨xs, m, -, hx, hl, hxl, hf⟩ := DataW.trod_struct Tryz.underlying33 h
  obtain ⟨v0, v1, v2, v3, v4, v5, rfl⟩ := six_of (hl.trans cellsDest)
  obtain ⟨y0, y1, rfl⟩ := two_of (show xs.length = 2 from hxl)
  have g0 : DataW.trod enc Tryz.prog w base spare held m 31 ((([v0, v1, v2, v3, v4, v5] : List Value).drop 0).take (Tryz.prog.cellsOf 31)) = some y0 := hf 0 _ rfl
  have g1 : DataW.trod enc Tryz.prog w base spare held m 3 ((([v0, v1, v2, v3, v4, v5] : List Value).drop 5).take (Tryz.prog.cellsOf 3)) = some y1 := hf 1 _ rfl
  simp only [cellsHost, cellsInt, List.drop_zero, List.drop_succ_cons, List.take_succ_cons, List.take_zero] at g0 g1
  obtain ⟨a, b, c, d, n, eb, hb, hw⟩ := open_hostB g0
  obtain ⟨po, ed, -, hpo⟩ := DataW.trod_int Tryz.underlying3 g1
  cases eb; cases ed
  refine ⟨a, b, c, d, n, po, rfl, hb, wf_i64 hpo, ?_⟩
  rw [hx]
  simp only [Rows.uptoBulk, Rows.uptoBulkAll, List.map_cons, List.map_nil]
  omega
theorem open_req {fuel : Nat} {cs : List Value} {x : DataW H × List MemPlace} (h : DataW.trod enc Tryz.prog w base spare held fuel 36 cs = some x) :
    ∃ (m : ByteArray) (a b c d : Int) (n : ByteArray) (po : Int) (p : ByteArray) (A : Option Addr) (cap : Nat) (l : List S72), cs = [.string m, .int .u8 a, .int .u8 b, .int .u8 c, .int .u8 d, .string n, .int .i64 po, .string p, .slice A l.length cap] ∧
      (inU8 a ∧ inU8 b ∧ inU8 c ∧ inU8 d) ∧ okI po ∧ l.length ≤ cap ∧ Kd.C k72 w A l.length l ∧ m.size ≤ Rows.uptoBulk x.1 ∧ n.size ≤ Rows.uptoBulk x.1 ∧ p.size ≤ Rows.uptoBulk x.1 ∧ l.length ≤ Rows.uptoBulk x.1 ∧ ∀ r ∈ l, r.f0.size ≤ Rows.uptoBulk x.1 ∧ r.f1.size ≤ Rows.uptoBulk x.1 := by
  obtain ⟨xs, k, -, hx, hl, hxl, hf⟩ := DataW.trod_struct Tryz.underlying36 h
  obtain ⟨v0, v1, v2, v3, v4, v5, v6, v7, v8, rfl⟩ := nine_of (hl.trans cellsReq)
  obtain ⟨y0, y1, y2, y3, rfl⟩ := four_ofX (show xs.length = 4 from hxl)
  have g0 : DataW.trod enc Tryz.prog w base spare held k 9 ((([v0, v1, v2, v3, v4, v5, v6, v7, v8] : List Value).drop 0).take (Tryz.prog.cellsOf 9)) = some y0 := hf 0 _ rfl
  have g1 : DataW.trod enc Tryz.prog w base spare held k 33 ((([v0, v1, v2, v3, v4, v5, v6, v7, v8] : List Value).drop 1).take (Tryz.prog.cellsOf 33)) = some y1 := hf 1 _ rfl
  have g2 : DataW.trod enc Tryz.prog w base spare held k 9 ((([v0, v1, v2, v3, v4, v5, v6, v7, v8] : List Value).drop 7).take (Tryz.prog.cellsOf 9)) = some y2 := hf 2 _ rfl
  have g3 : DataW.trod enc Tryz.prog w base spare held k 34 ((([v0, v1, v2, v3, v4, v5, v6, v7, v8] : List Value).drop 8).take (Tryz.prog.cellsOf 34)) = some y3 := hf 3 _ rfl
  simp only [cellsStr, cellsDest, cellsFlds, List.drop_zero, List.drop_succ_cons, List.take_succ_cons, List.take_zero] at g0 g1 g2 g3
  obtain ⟨m, e0, h0, -⟩ := DataW.trod_string Tryz.underlying9 g0
  obtain ⟨a, b, c, d, n, po, e1, hb, hpo, hn⟩ := open_destB g1
  obtain ⟨p, e2, h2, -⟩ := DataW.trod_string Tryz.underlying9 g2
  obtain ⟨A, cap, l, e3, hcap, hR, hln, hlm⟩ := open_fields Tryz.underlying34 g3
  cases e0; cases e1; cases e2; cases e3
  have b0 : Rows.uptoBulk y0.1 = m.size + 1 := by rw [h0]; simp only [Rows.uptoBulk]; rw [Lib.size_eq]
  have b2 : Rows.uptoBulk y2.1 = p.size + 1 := by rw [h2]; simp only [Rows.uptoBulk]; rw [Lib.size_eq]
  have hall : Rows.uptoBulk y0.1 ≤ Rows.uptoBulk x.1 ∧ Rows.uptoBulk y1.1 ≤ Rows.uptoBulk x.1 ∧ Rows.uptoBulk y2.1 ≤ Rows.uptoBulk x.1 ∧ Rows.uptoBulk y3.1 ≤ Rows.uptoBulk x.1 := by
    rw [hx]
    simp only [Rows.uptoBulk, Rows.uptoBulkAll, List.map_cons, List.map_nil]
    omega
  refine ⟨m, a, b, c, d, n, po, p, A, cap, l, rfl, hb, hpo, hcap, hR, by omega, by omega, by omega, by omega, fun r hr => ?_⟩
  have := hlm r hr
  omega
end
def okRq (m : ByteArray) (a b c d : Int) (n p : ByteArray) (l : List S72) : Prop := ((0 ≤ a ∧ a ≤ 255) ∧ (0 ≤ b ∧ b ≤ 255) ∧ (0 ≤ c ∧ c ≤ 255) ∧ (0 ≤ d ∧ d ≤ 255)) ∧ n.size ≤ 281474976710656 ∧ m.size ≤ 281474976710656 ∧ p.size ≤ 281474976710656 ∧ okLv l = true ∧ l.length ≤ 1048576
theorem okRq_of {m : ByteArray} {a b c d : Int} {n p : ByteArray} {l : List S72} {B : Nat} (hb : inU8 a ∧ inU8 b ∧ inU8 c ∧ inU8 d) (hm : m.size ≤ B) (hn : n.size ≤ B) (hp : p.size ≤ B) (hl : l.length ≤ B) (hf : ∀ r ∈ l, r.f0.size ≤ B ∧ r.f1.size ≤ B) (hB : B ≤ 1048576) : okRq m a b c d n p l := by
  refine ⟨⟨hb.1, hb.2.1, hb.2.2.1, hb.2.2.2⟩, by omega, by omega, by omega, ?_, by omega⟩
  unfold okLv
  rw [Bool.and_eq_true, List.all_eq_true, decide_eq_true_eq]
  refine ⟨fun r hr => ?_, by omega⟩
  have := hf r hr
  rw [Bool.and_eq_true, decide_eq_true_eq, decide_eq_true_eq]
  omega
end Go.Proofs.YtocklkaddiomhaaGreatDoor.E


namespace Go.Proofs.YtocklkaddiomhaaGreatDoor.E
open Go.RowKit Go.Proofs.YtocklkaddiomhaaGreatDoorW.PrintWords Go.Proofs.YtocklkaddiomhaaGreatDoorW.PrintLast Go.Proofs.YtocklkaddiomhaaGreatDoor.XK Go.Proofs.YtocklkaddiomhaaGreatDoor.XA Go.Proofs.YtocklkaddiomhaaGreatDoor.XD Go.Proofs.YtocklkaddiomhaaGreatDoor.XBy
set_option linter.unusedVariables false
set_option linter.unusedSimpArgs false
theorem fields_c (A : Option Addr) (c : Nat) (l : List S72) (hl : l.length ≤ 64) (w : World) (hC : Kd.C k72 w A l.length l) (hcap : l.length ≤ c) :
    Calls Tryz.prog 28 #[.slice A l.length c] w fun e w' => ∃ v, e = .returned v ∧ Kd.R k72 72 w' w.heap.size (fun _ => True) v l ∧ Below w.heap.size w w' :=
  sallyportbase_Fields.calls A c l l w hC hcap (by unfold sallyportbase_Fields.f; rw [Option.bind_some, List.length_nil, if_pos (by omega), List.nil_append])
def okClB (xs : List Int) (m : ByteArray) (a b c d : Int) (n p : ByteArray) (l : List S72) : Bool := xs.all (fun x => decide (0 ≤ x) && decide (x < 256)) && (decide (xs.length ≤ 1048576) && (decide (((0 ≤ a ∧ a ≤ 255) ∧ (0 ≤ b ∧ b ≤ 255) ∧ (0 ≤ c ∧ c ≤ 255) ∧ (0 ≤ d ∧ d ≤ 255)) ∧ n.size ≤ 281474976710656 ∧ m.size ≤ 281474976710656 ∧ p.size ≤ 281474976710656 ∧ okLv l = true ∧ l.length ≤ 1048576)))
def pClean.f (xs : List Int) (m : ByteArray) (a b c d : Int) (n : ByteArray) (po : Int) (p : ByteArray) (l : List S72) : Option Bool := if okClB xs m a b c d n p l then some true else none
theorem pClean.calls (A : Option Addr) (cp : Nat) (xs : List Int) (m : ByteArray) (a b c d : Int) (n : ByteArray) (po : Int) (p : ByteArray) (A1 : Option Addr) (c1 : Nat) (l : List S72) (r : Bool) (w : World)
    (hr : Kd.C (Kd.int .u8) w A xs.length xs ∧ (A = none → cp = 0) ∧ cp ≤ 9223372036854775807) (hc : xs.length ≤ cp) (hr2 : Kd.C k72 w A1 l.length l) (hc2 : l.length ≤ c1) (hS : StdE w) (h : pClean.f xs m a b c d n po p l = some r) :
    Calls Tryz.prog 6 #[.slice A xs.length cp, .agg #[.string m, .int .u8 a, .int .u8 b, .int .u8 c, .int .u8 d, .string n, .int .i64 po, .string p, .slice A1 l.length c1]] w fun e w' => e = .returned (.bool r) ∧ Below w.heap.size w w' := by
  unfold pClean.f at h
  split at h
  · rename_i hh
    obtain rfl := Option.some.inj h
    unfold okClB at hh
    simp only [Bool.and_eq_true, decide_eq_true_eq, List.all_eq_true] at hh
    obtain ⟨hx, hxl, ⟨ha, hb, hcc, hd⟩, hn, hm, hp, hlv, hll⟩ := hh
    obtain ⟨hC, hA, h63⟩ := hr
    have ox : okB xs := hx
    have HW := fun W (hb : Below w.heap.size w W) => works08_any W (StdE.below hS hb)
    have HR := fun W (hb : Below w.heap.size w W) => request_c A xs.length cp xs W (StdE.below hS hb) rfl ox (Kd.C_below hC hb) hA hc h63
    have HQ := fun W (hb : Below w.heap.size w W) => reply_c A xs.length cp xs W (StdW.below hS.std hb) rfl ox (Kd.C_below hC hb) hA hc h63
    have o1 := req_ok (Lib.bytesOf xs)
    have o2 := rep_ok (Lib.bytesOf xs)
    obtain ⟨cc, hz, -⟩ := preq_c m a b c d n po p A1 c1 l w hS.std hr2 hc2 hlv hm hp hn ha hb hcc hd
    have HP : ∀ W, Below w.heap.size w W → Calls Tryz.prog 29 #[.agg #[.string m, .int .u8 a, .int .u8 b, .int .u8 c, .int .u8 d, .string n, .int .i64 po, .string p, .slice A1 l.length c1]] W fun e w' => ∃ v, e = .returned (.tuple #[v, .int .i64 (preqT (printDestB a b c d n po) m p l).2]) ∧ Below W.heap.size W w' := fun W hW =>
      (preq_walk m a b c d n po p A1 c1 l (printDestB a b c d n po) W (StdW.below hS.std hW) (Kd.C_below hr2 hW) hc2 hlv hm hp (pdB_300 a b c d n po ha hb hcc hd) (fun W hW => hPrintDest.calls a b c d n po _ W hW (by unfold hPrintDest.f; rw [if_pos ⟨ha, hb, hcc, hd, hn⟩]))).mono fun e w' ⟨v, h1, _, h2⟩ => ⟨v, h1, h2⟩
    clear hz
    by_cases h0 : (preqT (printDestB a b c d n po) m p l).2 = 0
    · exact clean_walk0 A xs.length cp m a b c d n po p A1 c1 l _ _ _ _ _ _ _ _ _ _ _ _ _ _ _ w h0 (preqT_zero _ _ _ _ h0) hll hr2 o1.2 o2.2 o1.1 o2.1 HW (fun W hb => (HR W hb).mono fun e w' ⟨fA, fc, v, h1, h2, h3, _, h5⟩ => ⟨fA, fc, v, h1, h2, h3, h5⟩) HQ (fun W A3 c3 h1 h2 => fields_c A3 c3 _ o1.2 W h1 h2) HP
    · exact clean_walk A xs.length cp m a b c d n po p A1 c1 l _ _ _ _ _ _ _ _ _ _ _ _ _ _ _ w h0 hr2 o1.2 o2.2 o1.1 o2.1 HW (fun W hb => (HR W hb).mono fun e w' ⟨fA, fc, v, h1, h2, h3, _, h5⟩ => ⟨fA, fc, v, h1, h2, h3, h5⟩) HQ (fun W A3 c3 h1 h2 => fields_c A3 c3 _ o1.2 W h1 h2) HP
  · cases h
theorem headClean_law (xs : List Int) (hx : okB xs ∧ xs.length ≤ 1048576) (m : ByteArray) (a b c d : Int) (n : ByteArray) (po : Int) (p : ByteArray) (l : List S72) (h : okRq m a b c d n p l) : pClean.f xs m a b c d n po p l = some true := by
  unfold pClean.f okClB
  rw [if_pos]
  simp only [Bool.and_eq_true, decide_eq_true_eq, List.all_eq_true]
  exact ⟨hx.1, hx.2, h⟩
end Go.Proofs.YtocklkaddiomhaaGreatDoor.E


namespace Go.Proofs.YtocklkaddiomhaaGreatDoor
open Go.RowKit Go.Lib
set_option linter.unusedVariables false
theorem laidMet_tail {P : Program} {x : String × DataW Unit} {r : List (String × DataW Unit)} {W : World} (h : laidMet P (x :: r) W) : laidMet P r W := by
  obtain ⟨ps, ⟨g, t, cs, fuel, p, q, _, _, _, _, hr, rfl⟩, hn, hh⟩ := h
  exact ⟨q, hr, (List.nodup_append.1 hn).2.1, fun b off hb => hh b off (List.mem_append_right _ hb)⟩
theorem gSyn : Tryz.prog.globalNamed "strconv.ErrSyntax" = some 5 := by kernel_rfl
theorem gRng : Tryz.prog.globalNamed "strconv.ErrRange" = some 6 := by kernel_rfl
theorem gPowT : (Tryz.prog.globals[7]?).map (·.type) = some 251 := by kernel_rfl
theorem gSynT : (Tryz.prog.globals[5]?).map (·.type) = some 25 := by kernel_rfl
theorem gRngT : (Tryz.prog.globals[6]?).map (·.type) = some 25 := by kernel_rfl
theorem cellsTab : Tryz.prog.cellsOf 251 = 20 := by kernel_rfl
theorem cellsU64 : Tryz.prog.cellsOf 89 = 1 := by kernel_rfl
theorem cellsES : Tryz.prog.cellsOf 249 = 1 := by kernel_rfl
theorem cellsSt : Tryz.prog.cellsOf 9 = 1 := by kernel_rfl
theorem starES : "*" ++ "errors.errorString" = "*errors.errorString" := by decide
theorem rowES (u : TypeId) (h : Tryz.prog.typeName? 3 u = some "*errors.errorString") : u = 247 :=
  typeName_ptr_named (nm := "errors.errorString") (by rw [starES]; kernel_rfl) (by kernel_rfl) (by decide) u (by rw [starES]; exact h)
def lTab : String × DataW Unit := ("internal/strconv.uint64pow10", Rows.laid_internal_strconv_uint64pow10)
def lAcc : String × DataW Unit := ("unicode/utf8.acceptRanges", Rows.laid_unicode_utf8_acceptRanges)
def lRng : String × DataW Unit := ("strconv.ErrRange", Rows.laid_strconv_ErrRange)
def lSyn : String × DataW Unit := ("strconv.ErrSyntax", Rows.laid_strconv_ErrSyntax)
theorem stdW_of {x0 x1 : String × DataW Unit} {r : List (String × DataW Unit)} {W : World} (hL : laidMet Tryz.prog (x0 :: x1 :: lTab :: lAcc :: lRng :: lSyn :: r) W) (hsh : W.ShapedOpen Tryz.prog) : StdW W := by
  have h2 := laidMet_tail (laidMet_tail hL)
  have ht : TabIs Tryz.prog W "internal/strconv.uint64pow10" .u64 pow10Tab := tabIs_of_head gPow gPowT Tryz.underlying251 Tryz.underlying89 cellsU64 cellsTab h2
  have h4 := laidMet_tail (laidMet_tail h2)
  obtain ⟨a0, s0, hr, -, -, -⟩ := laid_sentinel h4 gRng gRngT Tryz.underlying25 rowES Tryz.underlying247 Tryz.underlying249 rfl rfl Tryz.underlying9 cellsES cellsSt
  obtain ⟨a1, s1, hs, -, -, -⟩ := laid_sentinel (laidMet_tail h4) gSyn gSynT Tryz.underlying25 rowES Tryz.underlying247 Tryz.underlying249 rfl rfl Tryz.underlying9 cellsES cellsSt
  have cr := World.var?_cell gRng hr 0
  have cs := World.var?_cell gSyn hs 0
  refine ⟨Go.Proofs.cell_of_shapedOpen_int (zero := #[.int .i64 0]) (t := 3) hsh (of_decide_eq_true (by kernel_rfl)) (by kernel_rfl) rfl (by kernel_rfl) (by kernel_rfl) Tryz.underlying3, ht, ⟨_, _, by simpa using cs⟩, ⟨_, _, by simpa using cr⟩, ?_⟩
  have c0 := ht.cell gPow 0 (by decide)
  exact World.block_lt_of_cell? _ _ c0
end Go.Proofs.YtocklkaddiomhaaGreatDoor


namespace Go.Proofs.YtocklkaddiomhaaGreatDoor
open Go.RowKit Go.Lib Go.Proofs.YtocklkaddiomhaaGreatDoor.E
set_option linter.unusedVariables false
theorem gEt : Tryz.prog.globalNamed "errors.errorType" = some 1 := by kernel_rfl
theorem rtRow : (Tryz.prog.cutTypes.find? (·.1 == "internal/reflectlite.rtype")).map (·.2) = some 210 := by kernel_rfl
theorem errRow : ((List.range 294).filter fun t => Tryz.prog.rowNamed t [101, 114, 114, 111, 114]) = [25] := by kernel_rfl
theorem typesN : Tryz.prog.types.size = 294 := by kernel_rfl
def lEt : String × DataW Unit := ("errors.errorType", Rows.laid_errors_errorType)
def plainLaid : List (String × DataW Unit) := [("math/bits.deBruijn32tab", Rows.laid_math_bits_deBruijn32tab), ("math/bits.deBruijn64tab", Rows.laid_math_bits_deBruijn64tab), lTab, lAcc, lRng, lSyn, ("bytes.ErrTooLarge", Rows.laid_bytes_ErrTooLarge), ("unicode.CaseRanges", Rows.laid_unicode_CaseRanges), ("unicode/utf8.first", Rows.laid_unicode_utf8_first)]
theorem laidH_parts {W : World} (hL : laidMetH Tryz.prog Rows.headCleanRow.laid W) : laidMet Tryz.prog plainLaid W ∧ handlesMet Tryz.prog [lEt] W := hL
theorem etW_of {W : World} (h : handlesMet Tryz.prog [lEt] W) : EtW W := by
  obtain ⟨name, u, ty, e1, e2, e3, e4, e5⟩ := h _ (List.mem_singleton.2 rfl)
  have en : name = [101, 114, 114, 111, 114] := (Option.some.inj e1).symm
  subst en
  obtain rfl := Option.some.inj (rtRow.symm.trans e2)
  have hm : ty ∈ (List.range 294).filter fun t => Tryz.prog.rowNamed t [101, 114, 114, 111, 114] := List.mem_filter.2 ⟨List.mem_range.2 (by rw [← typesN]; exact e3), e4⟩
  rw [errRow] at hm
  obtain rfl := List.mem_singleton.1 hm
  have hh : typeHandle Tryz.prog 25 = .pointer (some ⟨11, 25, none⟩) := by kernel_rfl
  rw [hh] at e5
  exact (by simpa using World.var?_cell gEt e5 0 : W.cell? ⟨1, 0, none⟩ = some (.iface 210 (.agg #[.pointer (some ⟨11, 25, none⟩)])))
theorem stdE_of {W : World} (hL : laidMetH Tryz.prog Rows.headCleanRow.laid W) (hsh : W.ShapedOpen Tryz.prog) : StdE W := ⟨stdW_of (laidH_parts hL).1 hsh, etW_of (laidH_parts hL).2⟩
theorem laidMet_on (w0 : World) {laid : List (String × DataW Unit)} (args : Array Value) (hf : w0.layFits Tryz.prog laid [] = true) (hi : w0.layIfaces Tryz.prog laid (w0.layVars Tryz.prog laid) = true) :
    laidMet Tryz.prog laid ((w0.layVars Tryz.prog laid).forCall (fun _ _ => 0) ⟨#[], args, []⟩).memory := by
  have e1 : (laid.filter fun x => (laid.map (·.1)).contains x.1) = laid := List.filter_eq_self.2 fun x hx => List.contains_iff_mem.2 (List.mem_map.2 ⟨x, hx, rfl⟩)
  have e2 : (laid.filter fun x => !(laid.map (·.1)).contains x.1) = [] := List.filter_eq_nil_iff.2 fun x hx => by rw [List.contains_iff_mem.2 (List.mem_map.2 ⟨x, hx, rfl⟩)]; simp
  have h : laidMet Tryz.prog laid (w0.layVars Tryz.prog laid) := laidMet_layVars (w0 := w0) (laid.map (·.1)) [] (by rw [e1]) (by rw [e1]; exact hf) (by rw [e1]; exact hi) (by rw [e2]; exact LaidIn.none)
  exact h.of_heap (by simp [World.memory, World.forCall, Input.heap])
noncomputable def handleWorld (os : Os) : World :=
  let w0 := World.holding Tryz.prog os ⟨#[], #[], []⟩
  { w0 with heap := w0.heap.modify 1 fun
      | .cells _ t frozen => .cells #[.iface 210 (.agg #[.pointer (some ⟨11, 25, none⟩)])] t frozen
      | o => o }
noncomputable def hostWorld (os : Os) : World := (handleWorld os).layVars Tryz.prog plainLaid
theorem hostWorld_os (os : Os) : (hostWorld os).os = os := World.layVars_os _ _ _
theorem hostLaid (os : Os) (args : Array Value) : laidMetH Tryz.prog Rows.headCleanRow.laid ((hostWorld os).forCall (fun _ _ => 0) ⟨#[], args, []⟩).memory :=
  laidMetH_of_parts (laidMet_on (handleWorld os) (laid := plainLaid) args (by kernel_rfl) (by kernel_rfl)) (by kernel_rfl)
end Go.Proofs.YtocklkaddiomhaaGreatDoor


namespace Go.Proofs.YtocklkaddiomhaaGreatDoor
open Go
section
variable {H : Type} {enc : TypeId × Value → H}
theorem witness_zip {C : Checked} {os : Os} {f : FuncId} {fn : Func} {s : OpenSpec} {conds : List PathCond} {apart : Bool} {laid : List (String × DataW Unit)} (w0 : World) (args : Array Value) (hos : w0.os = os)
    (hsh : (w0.forCall (fun _ _ => 0) ⟨#[], args, []⟩).Shaped C.prog)
    (hok : Input.okWideB C.prog (w0.forCall (fun _ _ => 0) ⟨#[], args, []⟩) f ⟨#[], args, []⟩ = true)
    (hrow : s.preRow enc C.prog fn conds apart laid (w0.forCall (fun _ _ => 0) ⟨#[], args, []⟩).memory args) :
    ∃ (w : World) (tape : Tape) (i : Input), w.os = os ∧ (w.forCall tape i).Shaped C.prog ∧ i.vars = [] ∧ Input.okWide C.prog (w.forCall tape i) .any w.heap.size f i ∧
      s.preRow enc C.prog fn conds apart laid (w.forCall tape i).memory i.args ∧ ({} : Assume).holds C.prog (lone (Frame.enter C.prog f i.args .normal) [] (w.forCall tape i)) :=
  ⟨w0, fun _ _ => 0, ⟨#[], args, []⟩, hos, hsh, (Input.okWide_of_okWideB (base := 0) hok).1, (Input.okWide_of_okWideB hok).2, hrow, by
    simp only [Assume.holds]
    exact ⟨by simp, by simp, fun _ => Modest.zero, by simp, by simp⟩⟩
end
end Go.Proofs.YtocklkaddiomhaaGreatDoor


namespace Go.Proofs.YtocklkaddiomhaaGreatDoor
open Go
theorem jf_of {P : Program} {f : FuncId} {fn : Func} {s : ChangeSpec} {c : OpenClaim}
    (a1 : (c.wf (OpenSpec.ofChange s) && laidOutB P && mapsRowed P && fn.params.all (P.readableRec ·) && namedTie P c.named s.vars && (c.stops == []) && (P.stops == []) && (c.knobs == []) && (P.stopKnobs == [])) = true)
    (a2 : (c.inPlace == P.inPlace f) = true) (a3 : (c.unfollowed == P.unfollowed f) = true) (a4 : (c.recurses == P.recurses f) = true) (a5 : (c.named == P.varsNamed f) = true)
    (a6 : ((c.maps == (fn.params.toList ++ s.plain.varTypes P).any (P.mapsRec ·)) && (c.ifaces == (fn.params.toList ++ s.plain.varTypes P).any (P.ifacesRec ·)) && (c.mapsOut == P.mapsAmong fn.resultTypes.toList) && (c.loops == (fn.params.toList ++ s.plain.varTypes P).any (P.loopsFrom ·)) && (c.wideKeys == (fn.params.toList ++ s.plain.varTypes P ++ fn.resultTypes.toList).any (P.wideKeysFrom ·))) = true)
    (a7 : (s.vars.all (P.varReadable ·) && fn.resultTypes.all (fun t => P.readableRec t && decide (t < P.types.size)) && (c.ifacesOut == fn.resultTypes.toList.any (P.ifacesRec ·)) && (c.loopsOut == fn.resultTypes.toList.any (P.loopsFrom ·))) = true)
    (a8 : (c.plainKeys == P.plainKeys) = true) (a9 : (c.shortTexts.isNone && P.stopsHeard) = true) (a10 : P.mayEnter = true) (a11 : (c.lifted == P.liftsFinal) = true) (a12 : (P.make == some c.make) = true)
    (a13 : ((c.kinds == (if c.domain.isEmpty then [] else fn.params.toList.map fun t => match P.underlying t with | some (.int k) => some k | _ => none)) && (c.pinned == c.pinnedBy)) = true)
    (a14 : ((c.veiled == (fn.params.toList ++ s.plain.varTypes P ++ fn.resultTypes.toList).any (P.veiledRec ·)) && c.veiledFits P fn.params.toList (fn.params.toList ++ s.plain.varTypes P ++ fn.resultTypes.toList)) = true) : joinedFacts P f fn s c = true := by
  unfold joinedFacts
  simp only [Bool.and_eq_true] at a1 a6 a7 a9 a13 a14 ⊢
  obtain ⟨⟨⟨⟨⟨⟨⟨⟨b1, b2⟩, b3⟩, b4⟩, b5⟩, b6⟩, b7⟩, b8⟩, b9⟩ := a1
  obtain ⟨⟨⟨⟨c1, c2⟩, c3⟩, c4⟩, c5⟩ := a6
  obtain ⟨⟨⟨d1, d2⟩, d3⟩, d4⟩ := a7
  obtain ⟨e1, e2⟩ := a9
  obtain ⟨f1, f2⟩ := a13
  obtain ⟨g1, g2⟩ := a14
  exact ⟨⟨⟨⟨⟨⟨⟨⟨⟨⟨⟨⟨⟨⟨⟨⟨⟨⟨⟨⟨⟨⟨⟨⟨⟨⟨⟨⟨⟨⟨⟨b1, b2⟩, b3⟩, b4⟩, b5⟩, b6⟩, b7⟩, b8⟩, b9⟩, a2⟩, a3⟩, a4⟩, a5⟩, c1⟩, c2⟩, c3⟩, c4⟩, c5⟩, d1⟩, d2⟩, d3⟩, d4⟩, a8⟩, e1⟩, e2⟩, a10⟩, a11⟩, a12⟩, f1⟩, f2⟩, g1⟩, g2⟩
end Go.Proofs.YtocklkaddiomhaaGreatDoor
