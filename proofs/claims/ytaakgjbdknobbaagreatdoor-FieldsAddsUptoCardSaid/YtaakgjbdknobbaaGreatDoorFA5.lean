/- What the cards of this seat rest on: the walks and plain laws, part 5. -/
import Derived.Test.YtaakgjbdknobbaaGreatDoorFA4
import Derived.Test.YtaakgjbdknobbaaGreatDoorFA2
import Derived.Lib.BufferOld


namespace Go.Proofs.YtaakgjbdknobbaaGreatDoor.E
open Go.RowKit Go.Proofs.YtaakgjbdknobbaaGreatDoorW.PrintWords Go.Proofs.YtaakgjbdknobbaaGreatDoorW.PrintLast Go.Proofs.YtaakgjbdknobbaaGreatDoor.XK Go.Proofs.YtaakgjbdknobbaaGreatDoor.XD
set_option linter.unusedVariables false
set_option linter.unusedSimpArgs false
abbrev IsBuf (w : World) (bs : List UInt8) (W : World) : Prop := Lib.IsBuffer 190 5 w.heap.size w.heap.size (Lib.byteCells bs) W
theorem isbuf_snoc {w W : World} {bs : List UInt8} {s : ByteArray} (h : Lib.IsBuffer 190 5 w.heap.size w.heap.size (Lib.byteCells bs ++ Lib.byteCells s.data.toList) W) : IsBuf w (bs ++ s.data.toList) W := by
  rw [← Lib.byteCells_append] at h; exact h
theorem wstr (w W : World) (bs : List UInt8) (s : ByteArray) (h : IsBuf w bs W) (hw : w.heap.size ≤ W.heap.size) (hl : bs.length + s.size ≤ 140737488355328) :
    Calls Tryz.prog 145 #[.pointer (some ⟨w.heap.size, 0, none⟩), .string s] W fun e w' => e = .returned (.tuple #[.int .i64 s.size, .nilIface]) ∧ IsBuf w (bs ++ s.data.toList) w' ∧ Below w.heap.size W w' :=
  (Tryz.Buffer_WriteString_k w.heap.size w.heap.size (Lib.byteCells bs) s W h hw (Lib.byteCells_one _) (by rw [Lib.byteCells_length]; exact hl)).mono fun e w' ⟨he, hb, hbl, _⟩ => ⟨he, isbuf_snoc hb, hbl⟩
theorem blen (w W : World) (bs : List UInt8) (h : IsBuf w bs W) :
    Calls Tryz.prog 146 #[.pointer (some ⟨w.heap.size, 0, none⟩)] W fun e w' => e = .returned (.int .i64 bs.length) ∧ ∃ n, w' = W.drewN n :=
  (Tryz.Buffer_Len w.heap.size w.heap.size (Lib.byteCells bs) W h).mono fun e w' ⟨he, hn⟩ => ⟨by rw [he, Lib.byteCells_length], hn⟩
def okFv (f : S78) : Prop := f.f0.size ≤ 281474976710656 ∧ f.f1.size < 4294967281
theorem lineB (acc : List UInt8) (nm va : ByteArray) : acc ++ (nm ++ (⟨#[58, 32]⟩ : ByteArray) ++ va ++ ⟨#[13, 10]⟩).data.toList = acc ++ Hd.fline (nm.data.toList, va.data.toList) := by
  have ha : ∀ a b : ByteArray, (a ++ b).data.toList = a.data.toList ++ b.data.toList := fun a b => by simp [ByteArray.append_eq, ByteArray.data_append]
  rw [ha, ha, ha]
  unfold Hd.fline Hd.crlf
  simp
theorem putL_no (acc : List UInt8) (f : Fd.F) (r : List Fd.F) (h : (Fd.token f.1 && Hd.value f.2) = false) : Hd.putL acc (f :: r) = none := by
  unfold Hd.putL; rw [h]; rfl
theorem putL_yes (acc : List UInt8) (f : Fd.F) (r : List Fd.F) (h : (Fd.token f.1 && Hd.value f.2) = true) : Hd.putL acc (f :: r) = Hd.putL (if acc.length ≤ 8192 then acc ++ Hd.fline f else acc) r := by
  conv => lhs; unfold Hd.putL
  rw [h]; rfl
theorem size_two : (⟨#[13, 10]⟩ : ByteArray).size = 2 := rfl
theorem dapp (a b : ByteArray) : (a ++ b).data.toList = a.data.toList ++ b.data.toList := by simp [ByteArray.append_eq, ByteArray.data_append]
theorem start_eq (first : ByteArray) : ([] ++ (first ++ (⟨#[13, 10]⟩ : ByteArray)).data.toList : List UInt8) = first.data.toList ++ [13, 10] := by rw [dapp]; rfl
theorem token_len (p : ByteArray) (h : tokB p = true) : p.size ≤ 64 := by
  unfold tokB Fd.token at h
  simp only [Bool.and_eq_true, decide_eq_true_eq] at h
  rw [Lib.size_eq]; omega
theorem value_len (p : ByteArray) (h : valB p = true) : p.size ≤ 4096 := by
  unfold valB Hd.value Hd.plain at h
  simp only [Bool.and_eq_true, decide_eq_true_eq, Hd.spc_len] at h
  rw [Lib.size_eq]; omega
def PutPost (r : Nat ⊕ List UInt8) (w : World) (e : Ending) (w' : World) : Prop :=
  Below w.heap.size w w' ∧ match r with
    | .inl c => e = .returned (.tuple #[.slice none 0 0, .int .i64 (c : Int)])
    | .inr t => ∃ v, e = .returned (.tuple #[v, .int .i64 0]) ∧ w'.ownsRow w.heap.size 5 1 v t.length (Lib.byteCells t)
def fC (nm va : ByteArray) : Array Value := #[.string nm, .string va]
theorem Blk.two {w : World} {R : Nat} {nm va : ByteArray} {T : TypeId} (h : Blk w R (fC nm va) T) : w.cell? ⟨R, 0, none⟩ = some (.string nm) ∧ w.cell? ⟨R, 1, none⟩ = some (.string va) := ⟨h.cell 0 _ rfl, h.cell 1 _ rfl⟩
set_option maxRecDepth 100000 in
set_option maxHeartbeats 16000000 in
theorem put_any (first : ByteArray) (A0 : Option Addr) (c0 : Nat) (l : List S78) (w : World) (hS : StdW w) (hR : Kd.C k78 w A0 l.length l) (hf : first.size ≤ 1000000) (hok : ∀ f ∈ l, okFv f) (hlen : l.length ≤ 70368744177664) :
    Calls Tryz.prog 99 #[.string first, .slice A0 l.length c0] w (PutPost (Hd.putR first.data.toList (l.map toF)) w) := by
  have HS := Lib.hid hS
  have HR := Lib.hid hR
  have HT := Lib.hid (fun f (h : f ∈ l) W hW => token_any f.f0 (hok f h).1 W hW)
  have HV := Lib.hid (fun f (h : f ∈ l) W hW => value_any f.f1 (hok f h).2 W hW)
  have HI0 : Hid (IsBuf w [] (w.alloc (.cells #[.slice none 0 0, .int .i64 0, .int .i8 0] 190))) := Lib.hid (Lib.fresh_isBuffer 190 5 w)
  have hfz : first.data.toList.length = first.size := (Lib.size_eq first).symm
  generalize hRES : Hd.putR first.data.toList (l.map toF) = RES
  have HRES : Hid (RES = match Hd.putL (first.data.toList ++ [13, 10]) (l.map toF) with
    | none => .inl 2
    | some acc => if 8192 < (acc ++ [13, 10]).length ∨ 64 < l.length then .inl 3 else .inr (acc ++ [13, 10])) := Lib.hid (by rw [← hRES]; unfold Hd.putR; rw [List.length_map]; rfl)
  clear hS hR hok hRES
  go_enter Tryz.func99, Tryz.ntmps99
  go_wp2_with (go_at_call 145; (with_reducible refine (wstr w _ [] _ HI0.out (by simp) (by rw [ByteArray.size_append, size_two]; simp only [List.length_nil]; omega)).mono ?_); rintro e w1 ⟨rfl, hi, hb⟩; have HI1 := Lib.hid hi; have HB1 : Hid (Below w.heap.size w w1) := Lib.hid ((below_alloc (Below.refl _ _) _).trans hb); clear hi hb)
  go_loopw [14] (fun i wr => ∃ (k : Nat) (acc : List UInt8), k ≤ l.length ∧ i = .int .i64 k ∧ acc.length ≤ 1012358 ∧ Hid (IsBuf w acc wr) ∧ Hid (Below w.heap.size w wr) ∧ Hid (Hd.putL (first.data.toList ++ [13, 10]) (l.map toF) = Hd.putL acc ((l.map toF).drop k))) (fun i _ => l.length - (intOf i).toNat)
  case atStart => exact ⟨0, first.data.toList ++ [13, 10], Nat.zero_le _, rfl, by rw [List.length_append, hfz]; simp only [List.length_cons, List.length_nil]; omega, Lib.hid (start_eq first ▸ HI1.out), HB1, Lib.hid rfl⟩
  case round =>
    obtain ⟨k, acc, hk, rfl, ha, HI, HB, HP⟩ := hrel
    clear HI1 HB1 HI0
    by_cases hlt : k < l.length
    · have hk0 : (0 : Int) ≤ (k : Int) := Int.natCast_nonneg _
      have hk1 : (k : Int) < (l.length : Int) := by omega
      have hrd : rd_T78 l (k : Int) = l[k] := by
        unfold rd_T78
        rw [show ((k : Int)).toNat = k by omega, List.getD_eq_getElem?_getD, List.getElem?_eq_getElem hlt]; rfl
      obtain ⟨ad, ea, x0, x1⟩ := at_T78 HR.out (k : Int) hk0 hk1
      cases ea
      rw [hrd] at x0 x1
      have HTk := Lib.hid (HT.out l[k] (List.getElem_mem _))
      have HVk := Lib.hid (HV.out l[k] (List.getElem_mem _))
      have HPk : Hid (Hd.putL (first.data.toList ++ [13, 10]) (l.map toF) = Hd.putL acc (toF l[k] :: (l.map toF).drop (k + 1))) := Lib.hid (by
        rw [HP.out, List.drop_eq_getElem_cons (by rw [List.length_map]; exact hlt), List.getElem_map])
      generalize l[k] = r at x0 x1 HTk HVk HPk hrd
      obtain ⟨nm, va⟩ := r
      simp only [Int.toNat_natCast] at x0 x1
      clear hrd HP
      replace x0 := (HB.out.cell (World.block_lt_of_cell? w _ x0)).trans x0
      replace x1 := (HB.out.cell (World.block_lt_of_cell? w _ x1)).trans x1
      have HQ0 := Lib.hid (Blk.new wr (fC nm va) 78)
      dsimp only at HTk HVk
      cases ht : tokB nm
      · have HN : Hid (RES = .inl 2) := Lib.hid (by rw [HRES.out, HPk.out, putL_no _ _ _ (by show (tokB nm && valB va) = false; rw [ht]; rfl)])
        rw [ht] at HTk
        clear HPk HRES
        go_wp2_with (first | (go_at_call 32; (with_reducible refine (HTk.out _ (StdW.below HS.out (below_alloc HB.out _))).mono ?_); rintro e w2 ⟨rfl, hb2⟩; have HB2 : Hid (Below w.heap.size w w2) := Lib.hid (below_then (below_alloc HB.out _) (below_alloc HB.out _).size hb2); obtain ⟨q0, q1⟩ := (HQ0.out.below hb2).two; clear hb2))
        go_ret2
        rw [HN.out]
        exact ⟨HB2.out, rfl⟩
      · cases hv : valB va
        · have HN : Hid (RES = .inl 2) := Lib.hid (by rw [HRES.out, HPk.out, putL_no _ _ _ (by show (tokB nm && valB va) = false; rw [ht, hv]; rfl)])
          rw [ht] at HTk
          rw [hv] at HVk
          clear HPk HRES
          go_wp2_with (first | (go_at_call 32; (with_reducible refine (HTk.out _ (StdW.below HS.out (below_alloc HB.out _))).mono ?_); rintro e w2 ⟨rfl, hb2⟩; have HB2 : Hid (Below w.heap.size w w2) := Lib.hid (below_then (below_alloc HB.out _) (below_alloc HB.out _).size hb2); obtain ⟨q0, q1⟩ := (HQ0.out.below hb2).two; clear hb2) | (go_at_call 34; (with_reducible refine (HVk.out _ (StdW.below HS.out HB2.out)).mono ?_); rintro e w3 ⟨rfl, hb3⟩; have HB3 : Hid (Below w.heap.size w w3) := Lib.hid (below_then HB2.out HB2.out.size hb3); clear hb3))
          go_ret2
          rw [HN.out]
          exact ⟨HB3.out, rfl⟩
        · have HN : Hid (Hd.putL (first.data.toList ++ [13, 10]) (l.map toF) = Hd.putL (if acc.length ≤ 8192 then acc ++ Hd.fline (nm.data.toList, va.data.toList) else acc) ((l.map toF).drop (k + 1))) := Lib.hid (by rw [HPk.out, putL_yes _ _ _ (by show (tokB nm && valB va) = true; rw [ht, hv]; rfl)]; rfl)
          have hnl := token_len nm ht
          have hvl := value_len va hv
          rw [ht] at HTk
          rw [hv] at HVk
          clear HPk
          by_cases h8 : acc.length ≤ 8192
          · have h8' : (acc.length : Int) ≤ 8192 := by omega
            go_wp2_with (first | (go_at_call 32; (with_reducible refine (HTk.out _ (StdW.below HS.out (below_alloc HB.out _))).mono ?_); rintro e w2 ⟨rfl, hb2⟩; have HB2 : Hid (Below w.heap.size w w2) := Lib.hid (below_then (below_alloc HB.out _) (below_alloc HB.out _).size hb2); have HI2 : Hid (IsBuf w acc w2) := Lib.hid ((HI.out.alloc _).old hb2); have HQ2 := Lib.hid (HQ0.out.below hb2); obtain ⟨q0, q1⟩ := HQ2.out.two; clear hb2) | (go_at_call 34; (with_reducible refine (HVk.out _ (StdW.below HS.out HB2.out)).mono ?_); rintro e w3 ⟨rfl, hb3⟩; have HB3 : Hid (Below w.heap.size w w3) := Lib.hid (below_then HB2.out HB2.out.size hb3); have HI3 : Hid (IsBuf w acc w3) := Lib.hid (HI2.out.old hb3); have HQ3 := Lib.hid (HQ2.out.below hb3); clear hb3) | (go_at_call 146; (with_reducible refine (blen w _ acc HI3.out).mono ?_); rintro e w4 ⟨rfl, m4, hw4⟩; have HB4 : Hid (Below w.heap.size w w4) := Lib.hid (hw4 ▸ HB3.out.trans ((below_drewN _ _).mono HB3.out.size)); have HI4 : Hid (IsBuf w acc w4) := Lib.hid (hw4 ▸ HI3.out); have HQ4 : Hid (Blk w4 wr.heap.size (fC nm va) 78) := Lib.hid (hw4 ▸ HQ3.out); obtain ⟨r0, r1⟩ := HQ4.out.two; clear hw4) | (go_at_call 145; (with_reducible refine (wstr w _ acc _ HI4.out HB4.out.size (by simp only [ByteArray.size_append]; have z1 : (⟨#[58, 32]⟩ : ByteArray).size = 2 := rfl; have z2 : (⟨#[13, 10]⟩ : ByteArray).size = 2 := rfl; omega)).mono ?_); rintro e w5 ⟨rfl, hi5, hb5⟩; have HI5 := Lib.hid hi5; have HB5 : Hid (Below w.heap.size w w5) := Lib.hid (HB4.out.trans hb5); clear hi5 hb5))
            go_roundw
            case rel => exact ⟨k + 1, acc ++ Hd.fline (nm.data.toList, va.data.toList), by omega, by go_num, by have := Hd.fline_len (nm.data.toList, va.data.toList) (by show (tokB nm && valB va) = true; rw [ht, hv]; rfl); rw [List.length_append]; omega, Lib.hid (by have := HI5.out; rw [lineB] at this; exact this), HB5, Lib.hid (by rw [HN.out, if_pos h8])⟩
            case measure => simp [intOf]; omega
          · have h8' : ¬ (acc.length : Int) ≤ 8192 := by omega
            go_wp2_with (first | (go_at_call 32; (with_reducible refine (HTk.out _ (StdW.below HS.out (below_alloc HB.out _))).mono ?_); rintro e w2 ⟨rfl, hb2⟩; have HB2 : Hid (Below w.heap.size w w2) := Lib.hid (below_then (below_alloc HB.out _) (below_alloc HB.out _).size hb2); have HI2 : Hid (IsBuf w acc w2) := Lib.hid ((HI.out.alloc _).old hb2); have HQ2 := Lib.hid (HQ0.out.below hb2); obtain ⟨q0, q1⟩ := HQ2.out.two; clear hb2) | (go_at_call 34; (with_reducible refine (HVk.out _ (StdW.below HS.out HB2.out)).mono ?_); rintro e w3 ⟨rfl, hb3⟩; have HB3 : Hid (Below w.heap.size w w3) := Lib.hid (below_then HB2.out HB2.out.size hb3); have HI3 : Hid (IsBuf w acc w3) := Lib.hid (HI2.out.old hb3); clear hb3) | (go_at_call 146; (with_reducible refine (blen w _ acc HI3.out).mono ?_); rintro e w4 ⟨rfl, m4, hw4⟩; have HB4 : Hid (Below w.heap.size w w4) := Lib.hid (hw4 ▸ HB3.out.trans ((below_drewN _ _).mono HB3.out.size)); have HI4 : Hid (IsBuf w acc w4) := Lib.hid (hw4 ▸ HI3.out); clear hw4))
            go_roundw
            case rel => exact ⟨k + 1, acc, by omega, by go_num, ha, HI4, HB4, Lib.hid (by rw [HN.out, if_neg h8])⟩
            case measure => simp [intOf]; omega
    · have hkl : k = l.length := by omega
      subst hkl
      have HE : Hid (RES = if 8192 < (acc ++ [13, 10]).length ∨ 64 < l.length then .inl 3 else .inr (acc ++ [13, 10])) := Lib.hid (by
        rw [HRES.out, HP.out, List.drop_of_length_le (by rw [List.length_map]; exact Nat.le_refl _)]; rfl)
      clear HRES HP
      have hal : (acc ++ [13, 10]).length = acc.length + 2 := by simp
      by_cases h1 : 8192 < acc.length + 2
      · have h1' : (8192 : Int) < ((acc ++ [13, 10]).length : Int) := by omega
        go_wp2_with (first | (go_at_call 145; (with_reducible refine (wstr w _ acc _ HI.out HB.out.size (by rw [size_two]; omega)).mono ?_); rintro e w5 ⟨rfl, hi5, hb5⟩; have HI5 : Hid (IsBuf w (acc ++ [13, 10]) w5) := Lib.hid hi5; have HB5 : Hid (Below w.heap.size w w5) := Lib.hid (HB.out.trans hb5); clear hi5 hb5) | (go_at_call 146; (with_reducible refine (blen w _ (acc ++ [13, 10]) HI5.out).mono ?_); rintro e w4 ⟨rfl, m4, hw4⟩; have HB4 : Hid (Below w.heap.size w w4) := Lib.hid (hw4 ▸ HB5.out.trans ((below_drewN _ _).mono HB5.out.size)); clear hw4))
        go_ret2
        rw [HE.out, if_pos (.inl (by omega))]
        exact ⟨HB4.out, rfl⟩
      · have h1' : ¬ (8192 : Int) < ((acc ++ [13, 10]).length : Int) := by omega
        by_cases h2 : 64 < l.length
        · have h2' : (64 : Int) < (l.length : Int) := by omega
          go_wp2_with (first | (go_at_call 145; (with_reducible refine (wstr w _ acc _ HI.out HB.out.size (by rw [size_two]; omega)).mono ?_); rintro e w5 ⟨rfl, hi5, hb5⟩; have HI5 : Hid (IsBuf w (acc ++ [13, 10]) w5) := Lib.hid hi5; have HB5 : Hid (Below w.heap.size w w5) := Lib.hid (HB.out.trans hb5); clear hi5 hb5) | (go_at_call 146; (with_reducible refine (blen w _ (acc ++ [13, 10]) HI5.out).mono ?_); rintro e w4 ⟨rfl, m4, hw4⟩; have HB4 : Hid (Below w.heap.size w w4) := Lib.hid (hw4 ▸ HB5.out.trans ((below_drewN _ _).mono HB5.out.size)); clear hw4))
          go_ret2
          rw [HE.out, if_pos (.inr h2)]
          exact ⟨HB4.out, rfl⟩
        · have h2' : ¬ (64 : Int) < (l.length : Int) := by omega
          go_wp2_with (first | (go_at_call 145; (with_reducible refine (wstr w _ acc _ HI.out HB.out.size (by rw [size_two]; omega)).mono ?_); rintro e w5 ⟨rfl, hi5, hb5⟩; have HI5 : Hid (IsBuf w (acc ++ [13, 10]) w5) := Lib.hid hi5; have HB5 : Hid (Below w.heap.size w w5) := Lib.hid (HB.out.trans hb5); clear hi5 hb5) | (go_at_call 146; (with_reducible refine (blen w _ (acc ++ [13, 10]) HI5.out).mono ?_); rintro e w4 ⟨rfl, m4, hw4⟩; have HB4 : Hid (Below w.heap.size w w4) := Lib.hid (hw4 ▸ HB5.out.trans ((below_drewN _ _).mono HB5.out.size)); have HI4 : Hid (IsBuf w (acc ++ [13, 10]) w4) := Lib.hid (hw4 ▸ HI5.out); clear hw4) | (go_at_call 147; (with_reducible refine (Tryz.Buffer_Bytes w.heap.size w.heap.size (Lib.byteCells (acc ++ [13, 10])) _ HI4.out).mono ?_); rintro e w6 ⟨v6, rfl, ho6, m6, hw6⟩; have HO6 := Lib.hid ho6; have HB6 : Hid (Below w.heap.size w w6) := Lib.hid (hw6 ▸ HB4.out.trans ((below_drewN _ _).mono HB4.out.size)); clear ho6 hw6))
          go_ret2
          rw [HE.out, if_neg (fun h => h.elim (fun h => h1 (by omega)) h2)]
          have ho := HO6.out
          rw [Lib.byteCells_length] at ho
          exact ⟨HB6.out, v6, rfl, ho⟩
end Go.Proofs.YtaakgjbdknobbaaGreatDoor.E


namespace Go.Proofs.YtaakgjbdknobbaaGreatDoor.E
open Go.RowKit Go.Proofs.YtaakgjbdknobbaaGreatDoorW.PrintWords Go.Proofs.YtaakgjbdknobbaaGreatDoorW.PrintLast Go.Proofs.YtaakgjbdknobbaaGreatDoor.XK Go.Proofs.YtaakgjbdknobbaaGreatDoor.XA Go.Maps
set_option linter.unusedVariables false
set_option linter.unusedSimpArgs false
theorem maxLen_le {n : Nat} (h : n ≤ 70368744177664) : n ≤ maxLen := by unfold maxLen; omega
theorem maxLen_lt {n : Nat} (h : n < 70368744177664) : n < maxLen := by unfold maxLen; omega
theorem set9 (x : List UInt8) : (x == [117, 112, 103, 114, 97, 100, 101] || (x == [116, 114, 97, 110, 115, 102, 101, 114, 45, 101, 110, 99, 111, 100, 105, 110, 103] || (x == [116, 114, 97, 105, 108, 101, 114] || (x == [116, 101] || (x == [112, 114, 111, 120, 121, 45, 99, 111, 110, 110, 101, 99, 116, 105, 111, 110] || (x == [112, 114, 111, 120, 121, 45, 97, 117, 116, 104, 111, 114, 105, 122, 97, 116, 105, 111, 110] || (x == [112, 114, 111, 120, 121, 45, 97, 117, 116, 104, 101, 110, 116, 105, 99, 97, 116, 101] || (x == [107, 101, 101, 112, 45, 97, 108, 105, 118, 101] || (x == [99, 111, 110, 110, 101, 99, 116, 105, 111, 110] || false))))))))) = Fd.fixed.contains x := by
  simp only [Fd.fixed, Fd.sConn, List.contains_eq_any_beq, List.any_cons, List.any_nil]
  generalize (x == [117, 112, 103, 114, 97, 100, 101]) = a1
  generalize (x == [116, 114, 97, 110, 115, 102, 101, 114, 45, 101, 110, 99, 111, 100, 105, 110, 103]) = a2
  generalize (x == [116, 114, 97, 105, 108, 101, 114]) = a3
  generalize (x == [116, 101]) = a4
  generalize (x == [112, 114, 111, 120, 121, 45, 99, 111, 110, 110, 101, 99, 116, 105, 111, 110]) = a5
  generalize (x == [112, 114, 111, 120, 121, 45, 97, 117, 116, 104, 111, 114, 105, 122, 97, 116, 105, 111, 110]) = a6
  generalize (x == [112, 114, 111, 120, 121, 45, 97, 117, 116, 104, 101, 110, 116, 105, 99, 97, 116, 101]) = a7
  generalize (x == [107, 101, 101, 112, 45, 97, 108, 105, 118, 101]) = a8
  generalize (x == [99, 111, 110, 110, 101, 99, 116, 105, 111, 110]) = a9
  cases a1 <;> cases a2 <;> cases a3 <;> cases a4 <;> cases a5 <;> cases a6 <;> cases a7 <;> cases a8 <;> cases a9 <;> rfl
theorem setK_zero (ps : List ByteArray) (x : List UInt8) : Fd.fixed.contains x = setK ps 0 x := by unfold setK; simp
theorem conn_len (l : List S78) (h : okL l = true) (p : ByteArray) (hp : p ∈ l.flatMap conn1A) : p.size ≤ 4294967281 := by
  obtain ⟨f, hf, hp⟩ := List.mem_flatMap.1 hp
  have := ((okL_mem h).1 f hf).2
  unfold conn1A at hp
  split at hp
  · obtain ⟨q, hq, rfl⟩ := List.mem_map.1 hp
    have h1 := commas_size _ _ hq
    have h2 := trimA_size q
    omega
  · cases hp
set_option maxRecDepth 100000 in
set_option maxHeartbeats 8000000 in
theorem hops_any (A0 : Option Addr) (c0 : Nat) (l : List S78) (w : World) (hS : StdW w) (hR : Kd.C k78 w A0 l.length l) (hok : okL l = true) (htot : (l.flatMap conn1A).length ≤ 8796093022207) :
    Calls Tryz.prog 154 #[.slice A0 l.length c0] w fun e w' => ∃ n, e = .returned (.map (some w.heap.size)) ∧ SetM w' w.heap.size n (fun x => Fd.hop (l.map toF) x) ∧ Below w.heap.size w w' := by
  have HS := Lib.hid hS
  have HE := Lib.hid (fun W h1 h2 => each_conn A0 c0 l W h1 h2 (okL_mem hok).1 htot (okL_mem hok).2)
  have HT := Lib.hid token_any
  have HL := Lib.hid small_lowS
  have HZ := Lib.hid (conn_len l hok)
  have HF := Lib.hid (setK_all l)
  have HR := Lib.hid hR
  have hps : (l.flatMap conn1A).length ≤ 8796093022207 := htot
  clear hS hR hok htot
  generalize l.flatMap conn1A = ps at HE HZ HF hps
  have HM : Hid (SetM (w.alloc (.map #[] 0)) w.heap.size 0 (fun _ => false)) := Lib.hid (SetM.made w)
  have HB : Hid (Below w.heap.size w (w.alloc (.map #[] 0))) := Lib.hid (below_alloc (Below.refl _ _) _)
  have hmm := @run_makeMap Tryz.prog
  go_enter Tryz.func154, Tryz.ntmps154
  go_wp2_with (first | (refine wpList_set_put rfl _ _ _ (Or.inr rfl) rfl HM.out (maxLen_lt (by decide)) _ rfl (maxLen_le (by decide)) rfl ?_; intro wn hn hg; have HB := Lib.hid (below_grown_map HB.out (Nat.le_refl _) hg HB.out.size); have HM := Lib.hid hn; clear hn hg) | (go_at_call 159; (with_reducible refine (HE.out _ (StdW.below HS.out HB.out) (Kd.C_below HR.out HB.out)).mono ?_); rintro e w2 ⟨v2, rfl, hr2, hb2⟩; obtain ⟨Ap, cp, rfl, hlc, hC⟩ := Kd.R_reads hr2; have HC2 := Lib.hid hC; have HM2 : Hid (SetM w2 w.heap.size 9 (setK ps 0)) := Lib.hid ((HM.out.below hb2).to (fun s => (set9 s).trans (setK_zero ps s))); have HB2 : Hid (Below w.heap.size w w2) := Lib.hid (below_then HB.out HB.out.size hb2); clear hr2 hb2 hC))
  clear HE hmm
  go_loopw [11] (fun i wr => ∃ k n : Nat, k ≤ ps.length ∧ n ≤ 9 + k ∧ i = .int .i64 k ∧ Hid (SetM wr w.heap.size n (setK ps k)) ∧ Hid (Kd.C Kd.string wr Ap ps.length ps) ∧ Hid (Below w.heap.size w wr)) (fun i _ => ps.length - (intOf i).toNat)
  case atStart => exact ⟨0, 9, Nat.zero_le _, by omega, rfl, HM2, HC2, HB2⟩
  case round =>
    obtain ⟨k, n, hk, hn, rfl, HMR, HCR, HBR⟩ := hrel
    clear HM2 HC2 HB2
    by_cases hlt : k < ps.length
    · have hk0 : (0 : Int) ≤ (k : Int) := Int.natCast_nonneg _
      have hk1 : (k : Int) < (ps.length : Int) := by omega
      have hrd : rdOf ByteArray.empty ps (k : Int) = ps[k] := by
        unfold rdOf
        rw [show ((k : Int)).toNat = k by omega, List.getD_eq_getElem?_getD, List.getElem?_eq_getElem hlt]; rfl
      obtain ⟨ad, ea, x0⟩ := Kd.at_string HCR.out (k : Int) hk0 hk1
      cases ea
      rw [hrd] at x0
      have hz : ps[k].size ≤ 281474976710656 := by have := HZ.out ps[k] (List.getElem_mem _); omega
      have HSK := Lib.hid (setK_skip ps k hlt)
      have HST := Lib.hid (setK_step ps k hlt)
      have HTP := Lib.hid (HT.out ps[k] hz)
      have HLP := Lib.hid (HL.out ps[k] hz)
      have hlz : (lowS ps[k]).size ≤ 70368744177664 := by rw [lowS_size]; have := HZ.out ps[k] (List.getElem_mem _); omega
      generalize ps[k] = p at x0 HSK HST HTP HLP hlz hrd
      simp only [Int.toNat_natCast] at x0
      clear hrd hz
      cases ht : tokB p
      · rw [ht] at HTP
        have HSK' := Lib.hid (HSK.out ht)
        clear HSK HST HLP ht
        go_wp2_with (go_at_call 32; (with_reducible refine (HTP.out _ (StdW.below HS.out HBR.out)).mono ?_); rintro e w3 ⟨rfl, hb3⟩; have HM3 := Lib.hid (HMR.out.below hb3); have HC3 := Lib.hid (Kd.C_below HCR.out hb3); have HB3 : Hid (Below w.heap.size w w3) := Lib.hid (below_then HBR.out HBR.out.size hb3); clear hb3)
        go_roundw
        case rel => exact ⟨k + 1, n, by omega, by omega, by go_num, Lib.hid (HM3.out.to (fun s => (HSK'.out s).symm)), HC3, HB3⟩
        case measure => simp [intOf]; omega
      · rw [ht] at HTP
        have HST' := Lib.hid (HST.out ht)
        clear HSK HST ht
        generalize lowS p = q at HLP HST' hlz
        go_wp2_with (first | (go_at_call 32; (with_reducible refine (HTP.out _ (StdW.below HS.out HBR.out)).mono ?_); rintro e w3 ⟨rfl, hb3⟩; have HM3 := Lib.hid (HMR.out.below hb3); have HC3 := Lib.hid (Kd.C_below HCR.out hb3); have HB3 : Hid (Below w.heap.size w w3) := Lib.hid (below_then HBR.out HBR.out.size hb3); clear hb3) | (go_at_call 157; (with_reducible refine (HLP.out _).mono ?_); rintro e w4 ⟨rfl, hb4⟩; have HM4 := Lib.hid (HM3.out.below hb4); have HC4 := Lib.hid (Kd.C_below HC3.out hb4); have HB4 : Hid (Below w.heap.size w w4) := Lib.hid (below_then HB3.out HB3.out.size hb4); clear hb4) | (refine wpList_set_put rfl _ _ _ (Or.inl rfl) rfl HM4.out (maxLen_lt (by omega)) _ rfl (maxLen_le hlz) rfl ?_; intro w5 hn5 hg5; have HB5 := Lib.hid (below_grown_map HB4.out (Nat.le_refl _) hg5 HB4.out.size); have HM5 := Lib.hid hn5; have HC5 := Lib.hid (C_grown HM4.out.isMap hg5 HC4.out); clear hn5 hg5))
        go_roundw
        case rel => exact ⟨k + 1, n + 1, by omega, by omega, by go_num, Lib.hid (HM5.out.to (fun s => (HST'.out s).symm)), HC5, HB5⟩
        case measure => simp [intOf]; omega
    · have hkl : k = ps.length := by omega
      subst hkl
      have HMF := Lib.hid (HMR.out.to HF.out)
      go_wp2
      go_ret
      exact ⟨n, rfl, HMF.out, HBR.out⟩
end Go.Proofs.YtaakgjbdknobbaaGreatDoor.E
