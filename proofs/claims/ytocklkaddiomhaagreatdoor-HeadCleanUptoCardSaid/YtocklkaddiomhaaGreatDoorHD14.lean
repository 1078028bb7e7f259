/- What the cards of this seat rest on: the walks and plain laws, part 14. -/
import Derived.Test.YtocklkaddiomhaaGreatDoorHD7
import Derived.Test.YtocklkaddiomhaaGreatDoorHD3
import Derived.Lib.BufferOld
import Derived.Test.YtocklkaddiomhaaGreatDoorHD12
import Derived.Test.YtocklkaddiomhaaGreatDoorHD13


namespace Go.Proofs.YtocklkaddiomhaaGreatDoor.E
open Go.RowKit Go.Proofs.YtocklkaddiomhaaGreatDoorW.PrintWords Go.Proofs.YtocklkaddiomhaaGreatDoorW.PrintLast Go.Proofs.YtocklkaddiomhaaGreatDoor.XK Go.Proofs.YtocklkaddiomhaaGreatDoor.XD
set_option linter.unusedVariables false
set_option linter.unusedSimpArgs false
abbrev IsBuf (w : World) (bs : List UInt8) (W : World) : Prop := Lib.IsBuffer 151 5 w.heap.size w.heap.size (Lib.byteCells bs) W
theorem isbuf_snoc {w W : World} {bs : List UInt8} {s : ByteArray} (h : Lib.IsBuffer 151 5 w.heap.size w.heap.size (Lib.byteCells bs ++ Lib.byteCells s.data.toList) W) : IsBuf w (bs ++ s.data.toList) W := by
  rw [← Lib.byteCells_append] at h; exact h
theorem wstr (w W : World) (bs : List UInt8) (s : ByteArray) (h : IsBuf w bs W) (hw : w.heap.size ≤ W.heap.size) (hl : bs.length + s.size ≤ 140737488355328) :
    Calls Tryz.prog 94 #[.pointer (some ⟨w.heap.size, 0, none⟩), .string s] W fun e w' => e = .returned (.tuple #[.int .i64 s.size, .nilIface]) ∧ IsBuf w (bs ++ s.data.toList) w' ∧ Below w.heap.size W w' :=
  (Tryz.Buffer_WriteString_k w.heap.size w.heap.size (Lib.byteCells bs) s W h hw (Lib.byteCells_one _) (by rw [Lib.byteCells_length]; exact hl)).mono fun e w' ⟨he, hb, hbl, _⟩ => ⟨he, isbuf_snoc hb, hbl⟩
theorem blen (w W : World) (bs : List UInt8) (h : IsBuf w bs W) :
    Calls Tryz.prog 95 #[.pointer (some ⟨w.heap.size, 0, none⟩)] W fun e w' => e = .returned (.int .i64 bs.length) ∧ ∃ n, w' = W.drewN n :=
  (Tryz.Buffer_Len w.heap.size w.heap.size (Lib.byteCells bs) W h).mono fun e w' ⟨he, hn⟩ => ⟨by rw [he, Lib.byteCells_length], hn⟩
def okFv (f : S72) : Prop := f.f0.size ≤ 281474976710656 ∧ f.f1.size < 4294967281
theorem lineB (acc : List UInt8) (nm va : ByteArray) : acc ++ (nm ++ (⟨#[58, 32]⟩ : ByteArray) ++ va ++ ⟨#[13, 10]⟩).data.toList = acc ++ Hd.fline (nm.data.toList, va.data.toList) := by
  have ha : ∀ a b : ByteArray, (a ++ b).data.toList = a.data.toList ++ b.data.toList := fun a b => by simp [ByteArray.append_eq, ByteArray.data_append]
  rw [ha, ha, ha]
  unfold Hd.fline Hd.crlf
  simp
theorem putL_no (acc : List UInt8) (f : Fd.F) (r : List Fd.F) (h : (Fd.token f.1 && Hd.value f.2) = false) : Hd.putL acc (f :: r) = none := by
  unfold Hd.putL; rw [h]; rfl
theorem putL_yes (acc : List UInt8) (f : Fd.F) (r : List Fd.F) (h : (Fd.token f.1 && Hd.value f.2) = true) : Hd.putL acc (f :: r) = Hd.putL (if acc.length ≤ 8192 then acc ++ Hd.fline f else acc) r := by
  conv => lhs; unfold Hd.putL
  rw [h]; rfl
theorem size_two : (⟨#[13, 10]⟩ : ByteArray).size = 2 := rfl
theorem dapp (a b : ByteArray) : (a ++ b).data.toList = a.data.toList ++ b.data.toList := by simp [ByteArray.append_eq, ByteArray.data_append]
theorem start_eq (first : ByteArray) : ([] ++ (first ++ (⟨#[13, 10]⟩ : ByteArray)).data.toList : List UInt8) = first.data.toList ++ [13, 10] := by rw [dapp]; rfl
theorem token_len (p : ByteArray) (h : tokB p = true) : p.size ≤ 64 := by
  unfold tokB Fd.token at h
  simp only [Bool.and_eq_true, decide_eq_true_eq] at h
  rw [Lib.size_eq]; omega
theorem value_len (p : ByteArray) (h : valB p = true) : p.size ≤ 4096 := by
  unfold valB Hd.value Hd.plain at h
  simp only [Bool.and_eq_true, decide_eq_true_eq, Hd.spc_len] at h
  rw [Lib.size_eq]; omega
def PutPost (r : Nat ⊕ List UInt8) (w : World) (e : Ending) (w' : World) : Prop :=
  Below w.heap.size w w' ∧ match r with
    | .inl c => e = .returned (.tuple #[.slice none 0 0, .int .i64 (c : Int)])
    | .inr t => ∃ v, e = .returned (.tuple #[v, .int .i64 0]) ∧ w'.ownsRow w.heap.size 5 1 v t.length (Lib.byteCells t)
def fC (nm va : ByteArray) : Array Value := #[.string nm, .string va]
theorem Blk.two {w : World} {R : Nat} {nm va : ByteArray} {T : TypeId} (h : Blk w R (fC nm va) T) : w.cell? ⟨R, 0, none⟩ = some (.string nm) ∧ w.cell? ⟨R, 1, none⟩ = some (.string va) := ⟨h.cell 0 _ rfl, h.cell 1 _ rfl⟩
set_option maxRecDepth 100000 in
set_option maxHeartbeats 16000000 in
theorem put_any (first : ByteArray) (A0 : Option Addr) (c0 : Nat) (l : List S72) (w : World) (hS : StdW w) (hR : Kd.C k72 w A0 l.length l) (hf : first.size ≤ 1000000) (hok : ∀ f ∈ l, okFv f) (hlen : l.length ≤ 70368744177664) :
    Calls Tryz.prog 64 #[.string first, .slice A0 l.length c0] w (PutPost (Hd.putR first.data.toList (l.map toF)) w) := by
  have HS := Lib.hid hS
  have HR := Lib.hid hR
  have HT := Lib.hid (fun f (h : f ∈ l) W hW => token_any f.f0 (hok f h).1 W hW)
  have HV := Lib.hid (fun f (h : f ∈ l) W hW => value_any f.f1 (hok f h).2 W hW)
  have HI0 : Hid (IsBuf w [] (w.alloc (.cells #[.slice none 0 0, .int .i64 0, .int .i8 0] 151))) := Lib.hid (Lib.fresh_isBuffer 151 5 w)
  have hfz : first.data.toList.length = first.size := (Lib.size_eq first).symm
  generalize hRES : Hd.putR first.data.toList (l.map toF) = RES
  have HRES : Hid (RES = match Hd.putL (first.data.toList ++ [13, 10]) (l.map toF) with
    | none => .inl 2
    | some acc => if 8192 < (acc ++ [13, 10]).length ∨ 64 < l.length then .inl 3 else .inr (acc ++ [13, 10])) := Lib.hid (by rw [← hRES]; unfold Hd.putR; rw [List.length_map]; rfl)
  clear hS hR hok hRES
  go_enter Tryz.func64, Tryz.ntmps64
  go_wp2_with (go_at_call 94; (with_reducible refine (wstr w _ [] _ HI0.out (by simp) (by rw [ByteArray.size_append, size_two]; simp only [List.length_nil]; omega)).mono ?_); rintro e w1 ⟨rfl, hi, hb⟩; have HI1 := Lib.hid hi; have HB1 : Hid (Below w.heap.size w w1) := Lib.hid ((below_alloc (Below.refl _ _) _).trans hb); clear hi hb)
  go_loopw [14] (fun i wr => ∃ (k : Nat) (acc : List UInt8), k ≤ l.length ∧ i = .int .i64 k ∧ acc.length ≤ 1012358 ∧ Hid (IsBuf w acc wr) ∧ Hid (Below w.heap.size w wr) ∧ Hid (Hd.putL (first.data.toList ++ [13, 10]) (l.map toF) = Hd.putL acc ((l.map toF).drop k))) (fun i _ => l.length - (intOf i).toNat)
  case atStart => exact ⟨0, first.data.toList ++ [13, 10], Nat.zero_le _, rfl, by rw [List.length_append, hfz]; simp only [List.length_cons, List.length_nil]; omega, Lib.hid (start_eq first ▸ HI1.out), HB1, Lib.hid rfl⟩
  case round =>
    obtain ⟨k, acc, hk, rfl, ha, HI, HB, HP⟩ := hrel
    clear HI1 HB1 HI0
    by_cases hlt : k < l.length
    · have hk0 : (0 : Int) ≤ (k : Int) := Int.natCast_nonneg _
      have hk1 : (k : Int) < (l.length : Int) := by omega
      have hrd : rd_T72 l (k : Int) = l[k] := by
        unfold rd_T72
        rw [show ((k : Int)).toNat = k by omega, List.getD_eq_getElem?_getD, List.getElem?_eq_getElem hlt]; rfl
      obtain ⟨ad, ea, x0, x1⟩ := at_T72 HR.out (k : Int) hk0 hk1
      cases ea
      rw [hrd] at x0 x1
      have HTk := Lib.hid (HT.out l[k] (List.getElem_mem _))
      have HVk := Lib.hid (HV.out l[k] (List.getElem_mem _))
      have HPk : Hid (Hd.putL (first.data.toList ++ [13, 10]) (l.map toF) = Hd.putL acc (toF l[k] :: (l.map toF).drop (k + 1))) := Lib.hid (by
        rw [HP.out, List.drop_eq_getElem_cons (by rw [List.length_map]; exact hlt), List.getElem_map])
      generalize l[k] = r at x0 x1 HTk HVk HPk hrd
      obtain ⟨nm, va⟩ := r
      simp only [Int.toNat_natCast] at x0 x1
      clear hrd HP
      replace x0 := (HB.out.cell (World.block_lt_of_cell? w _ x0)).trans x0
      replace x1 := (HB.out.cell (World.block_lt_of_cell? w _ x1)).trans x1
      have HQ0 := Lib.hid (Blk.new wr (fC nm va) 72)
      dsimp only at HTk HVk
      cases ht : tokB nm
      · have HN : Hid (RES = .inl 2) := Lib.hid (by rw [HRES.out, HPk.out, putL_no _ _ _ (by show (tokB nm && valB va) = false; rw [ht]; rfl)])
        rw [ht] at HTk
        clear HPk HRES
        go_wp2_with (first | (go_at_call 18; (with_reducible refine (HTk.out _ (StdW.below HS.out (below_alloc HB.out _))).mono ?_); rintro e w2 ⟨rfl, hb2⟩; have HB2 : Hid (Below w.heap.size w w2) := Lib.hid (below_then (below_alloc HB.out _) (below_alloc HB.out _).size hb2); obtain ⟨q0, q1⟩ := (HQ0.out.below hb2).two; clear hb2))
        go_ret2
        rw [HN.out]
        exact ⟨HB2.out, rfl⟩
      · cases hv : valB va
        · have HN : Hid (RES = .inl 2) := Lib.hid (by rw [HRES.out, HPk.out, putL_no _ _ _ (by show (tokB nm && valB va) = false; rw [ht, hv]; rfl)])
          rw [ht] at HTk
          rw [hv] at HVk
          clear HPk HRES
          go_wp2_with (first | (go_at_call 18; (with_reducible refine (HTk.out _ (StdW.below HS.out (below_alloc HB.out _))).mono ?_); rintro e w2 ⟨rfl, hb2⟩; have HB2 : Hid (Below w.heap.size w w2) := Lib.hid (below_then (below_alloc HB.out _) (below_alloc HB.out _).size hb2); obtain ⟨q0, q1⟩ := (HQ0.out.below hb2).two; clear hb2) | (go_at_call 20; (with_reducible refine (HVk.out _ (StdW.below HS.out HB2.out)).mono ?_); rintro e w3 ⟨rfl, hb3⟩; have HB3 : Hid (Below w.heap.size w w3) := Lib.hid (below_then HB2.out HB2.out.size hb3); clear hb3))
          go_ret2
          rw [HN.out]
          exact ⟨HB3.out, rfl⟩
        · have HN : Hid (Hd.putL (first.data.toList ++ [13, 10]) (l.map toF) = Hd.putL (if acc.length ≤ 8192 then acc ++ Hd.fline (nm.data.toList, va.data.toList) else acc) ((l.map toF).drop (k + 1))) := Lib.hid (by rw [HPk.out, putL_yes _ _ _ (by show (tokB nm && valB va) = true; rw [ht, hv]; rfl)]; rfl)
          have hnl := token_len nm ht
          have hvl := value_len va hv
          rw [ht] at HTk
          rw [hv] at HVk
          clear HPk
          by_cases h8 : acc.length ≤ 8192
          · have h8' : (acc.length : Int) ≤ 8192 := by omega
            go_wp2_with (first | (go_at_call 18; (with_reducible refine (HTk.out _ (StdW.below HS.out (below_alloc HB.out _))).mono ?_); rintro e w2 ⟨rfl, hb2⟩; have HB2 : Hid (Below w.heap.size w w2) := Lib.hid (below_then (below_alloc HB.out _) (below_alloc HB.out _).size hb2); have HI2 : Hid (IsBuf w acc w2) := Lib.hid ((HI.out.alloc _).old hb2); have HQ2 := Lib.hid (HQ0.out.below hb2); obtain ⟨q0, q1⟩ := HQ2.out.two; clear hb2) | (go_at_call 20; (with_reducible refine (HVk.out _ (StdW.below HS.out HB2.out)).mono ?_); rintro e w3 ⟨rfl, hb3⟩; have HB3 : Hid (Below w.heap.size w w3) := Lib.hid (below_then HB2.out HB2.out.size hb3); have HI3 : Hid (IsBuf w acc w3) := Lib.hid (HI2.out.old hb3); have HQ3 := Lib.hid (HQ2.out.below hb3); clear hb3) | (go_at_call 95; (with_reducible refine (blen w _ acc HI3.out).mono ?_); rintro e w4 ⟨rfl, m4, hw4⟩; have HB4 : Hid (Below w.heap.size w w4) := Lib.hid (hw4 ▸ HB3.out.trans ((below_drewN _ _).mono HB3.out.size)); have HI4 : Hid (IsBuf w acc w4) := Lib.hid (hw4 ▸ HI3.out); have HQ4 : Hid (Blk w4 wr.heap.size (fC nm va) 72) := Lib.hid (hw4 ▸ HQ3.out); obtain ⟨r0, r1⟩ := HQ4.out.two; clear hw4) | (go_at_call 94; (with_reducible refine (wstr w _ acc _ HI4.out HB4.out.size (by simp only [ByteArray.size_append]; have z1 : (⟨#[58, 32]⟩ : ByteArray).size = 2 := rfl; have z2 : (⟨#[13, 10]⟩ : ByteArray).size = 2 := rfl; omega)).mono ?_); rintro e w5 ⟨rfl, hi5, hb5⟩; have HI5 := Lib.hid hi5; have HB5 : Hid (Below w.heap.size w w5) := Lib.hid (HB4.out.trans hb5); clear hi5 hb5))
            go_roundw
            case rel => exact ⟨k + 1, acc ++ Hd.fline (nm.data.toList, va.data.toList), by omega, by go_num, by have := Hd.fline_len (nm.data.toList, va.data.toList) (by show (tokB nm && valB va) = true; rw [ht, hv]; rfl); rw [List.length_append]; omega, Lib.hid (by have := HI5.out; rw [lineB] at this; exact this), HB5, Lib.hid (by rw [HN.out, if_pos h8])⟩
            case measure => simp [intOf]; omega
          · have h8' : ¬ (acc.length : Int) ≤ 8192 := by omega
            go_wp2_with (first | (go_at_call 18; (with_reducible refine (HTk.out _ (StdW.below HS.out (below_alloc HB.out _))).mono ?_); rintro e w2 ⟨rfl, hb2⟩; have HB2 : Hid (Below w.heap.size w w2) := Lib.hid (below_then (below_alloc HB.out _) (below_alloc HB.out _).size hb2); have HI2 : Hid (IsBuf w acc w2) := Lib.hid ((HI.out.alloc _).old hb2); have HQ2 := Lib.hid (HQ0.out.below hb2); obtain ⟨q0, q1⟩ := HQ2.out.two; clear hb2) | (go_at_call 20; (with_reducible refine (HVk.out _ (StdW.below HS.out HB2.out)).mono ?_); rintro e w3 ⟨rfl, hb3⟩; have HB3 : Hid (Below w.heap.size w w3) := Lib.hid (below_then HB2.out HB2.out.size hb3); have HI3 : Hid (IsBuf w acc w3) := Lib.hid (HI2.out.old hb3); clear hb3) | (go_at_call 95; (with_reducible refine (blen w _ acc HI3.out).mono ?_); rintro e w4 ⟨rfl, m4, hw4⟩; have HB4 : Hid (Below w.heap.size w w4) := Lib.hid (hw4 ▸ HB3.out.trans ((below_drewN _ _).mono HB3.out.size)); have HI4 : Hid (IsBuf w acc w4) := Lib.hid (hw4 ▸ HI3.out); clear hw4))
            go_roundw
            case rel => exact ⟨k + 1, acc, by omega, by go_num, ha, HI4, HB4, Lib.hid (by rw [HN.out, if_neg h8])⟩
            case measure => simp [intOf]; omega
    · have hkl : k = l.length := by omega
      subst hkl
      have HE : Hid (RES = if 8192 < (acc ++ [13, 10]).length ∨ 64 < l.length then .inl 3 else .inr (acc ++ [13, 10])) := Lib.hid (by
        rw [HRES.out, HP.out, List.drop_of_length_le (by rw [List.length_map]; exact Nat.le_refl _)]; rfl)
      clear HRES HP
      have hal : (acc ++ [13, 10]).length = acc.length + 2 := by simp
      by_cases h1 : 8192 < acc.length + 2
      · have h1' : (8192 : Int) < ((acc ++ [13, 10]).length : Int) := by omega
        go_wp2_with (first | (go_at_call 94; (with_reducible refine (wstr w _ acc _ HI.out HB.out.size (by rw [size_two]; omega)).mono ?_); rintro e w5 ⟨rfl, hi5, hb5⟩; have HI5 : Hid (IsBuf w (acc ++ [13, 10]) w5) := Lib.hid hi5; have HB5 : Hid (Below w.heap.size w w5) := Lib.hid (HB.out.trans hb5); clear hi5 hb5) | (go_at_call 95; (with_reducible refine (blen w _ (acc ++ [13, 10]) HI5.out).mono ?_); rintro e w4 ⟨rfl, m4, hw4⟩; have HB4 : Hid (Below w.heap.size w w4) := Lib.hid (hw4 ▸ HB5.out.trans ((below_drewN _ _).mono HB5.out.size)); clear hw4))
        go_ret2
        rw [HE.out, if_pos (.inl (by omega))]
        exact ⟨HB4.out, rfl⟩
      · have h1' : ¬ (8192 : Int) < ((acc ++ [13, 10]).length : Int) := by omega
        by_cases h2 : 64 < l.length
        · have h2' : (64 : Int) < (l.length : Int) := by omega
          go_wp2_with (first | (go_at_call 94; (with_reducible refine (wstr w _ acc _ HI.out HB.out.size (by rw [size_two]; omega)).mono ?_); rintro e w5 ⟨rfl, hi5, hb5⟩; have HI5 : Hid (IsBuf w (acc ++ [13, 10]) w5) := Lib.hid hi5; have HB5 : Hid (Below w.heap.size w w5) := Lib.hid (HB.out.trans hb5); clear hi5 hb5) | (go_at_call 95; (with_reducible refine (blen w _ (acc ++ [13, 10]) HI5.out).mono ?_); rintro e w4 ⟨rfl, m4, hw4⟩; have HB4 : Hid (Below w.heap.size w w4) := Lib.hid (hw4 ▸ HB5.out.trans ((below_drewN _ _).mono HB5.out.size)); clear hw4))
          go_ret2
          rw [HE.out, if_pos (.inr h2)]
          exact ⟨HB4.out, rfl⟩
        · have h2' : ¬ (64 : Int) < (l.length : Int) := by omega
          go_wp2_with (first | (go_at_call 94; (with_reducible refine (wstr w _ acc _ HI.out HB.out.size (by rw [size_two]; omega)).mono ?_); rintro e w5 ⟨rfl, hi5, hb5⟩; have HI5 : Hid (IsBuf w (acc ++ [13, 10]) w5) := Lib.hid hi5; have HB5 : Hid (Below w.heap.size w w5) := Lib.hid (HB.out.trans hb5); clear hi5 hb5) | (go_at_call 95; (with_reducible refine (blen w _ (acc ++ [13, 10]) HI5.out).mono ?_); rintro e w4 ⟨rfl, m4, hw4⟩; have HB4 : Hid (Below w.heap.size w w4) := Lib.hid (hw4 ▸ HB5.out.trans ((below_drewN _ _).mono HB5.out.size)); have HI4 : Hid (IsBuf w (acc ++ [13, 10]) w4) := Lib.hid (hw4 ▸ HI5.out); clear hw4) | (go_at_call 96; (with_reducible refine (Tryz.Buffer_Bytes w.heap.size w.heap.size (Lib.byteCells (acc ++ [13, 10])) _ HI4.out).mono ?_); rintro e w6 ⟨v6, rfl, ho6, m6, hw6⟩; have HO6 := Lib.hid ho6; have HB6 : Hid (Below w.heap.size w w6) := Lib.hid (hw6 ▸ HB4.out.trans ((below_drewN _ _).mono HB4.out.size)); clear ho6 hw6))
          go_ret2
          rw [HE.out, if_neg (fun h => h.elim (fun h => h1 (by omega)) h2)]
          have ho := HO6.out
          rw [Lib.byteCells_length] at ho
          exact ⟨HB6.out, v6, rfl, ho⟩
end Go.Proofs.YtocklkaddiomhaaGreatDoor.E


namespace Go.Proofs.YtocklkaddiomhaaGreatDoor.E
open Go.RowKit Go.Proofs.YtocklkaddiomhaaGreatDoorW.PrintWords Go.Proofs.YtocklkaddiomhaaGreatDoorW.PrintLast Go.Proofs.YtocklkaddiomhaaGreatDoor.XK Go.Proofs.YtocklkaddiomhaaGreatDoor.XA Go.Proofs.YtocklkaddiomhaaGreatDoor.XD
set_option linter.unusedVariables false
set_option linter.unusedSimpArgs false
def numsOf (l : List UInt8) : List Int := l.map fun b => (b.toNat : Int)
def okLv (l : List S72) : Bool := l.all (fun f => decide (f.f0.size ≤ 281474976710656) && decide (f.f1.size < 4294967281)) && decide (l.length ≤ 70368744177664)
def putB (first : ByteArray) (l : List S72) : List Int × Int := match Hd.putR first.data.toList (l.map toF) with
  | .inl c => ([], (c : Int))
  | .inr t => (numsOf t, 0)
def put.f (first : ByteArray) (l : List S72) : Option (List Int × Int) := if first.size ≤ 1000000 ∧ okLv l = true then some (putB first l) else none
theorem put.calls (a0 : ByteArray) (A1 : Option Addr) (c1 : Nat) (l1 : List S72) (r1 : List Int) (r2 : Int) (w : World) (hr1 : Kd.C k72 w A1 l1.length l1) (hc1 : l1.length ≤ c1) (hS_ : StdW w) (h : put.f a0 l1 = some (r1, r2)) :
    Calls Tryz.prog 64 #[.string a0, .slice A1 l1.length c1] w fun e w' => ∃ v0_ : Value, e = .returned (.tuple #[v0_, .int .i64 r2]) ∧ Kd.R (Kd.int .u8) 5 w' w.heap.size (fun _ => True) v0_ r1 ∧ Below w.heap.size w w' := by
  unfold put.f at h
  split at h
  · rename_i hc
    obtain ⟨hf, hok⟩ := hc
    unfold okLv at hok
    rw [Bool.and_eq_true, List.all_eq_true, decide_eq_true_eq] at hok
    have h := Option.some.inj h
    refine (put_any a0 A1 c1 l1 w hS_ hr1 hf (fun f hf => by have := hok.1 f hf; rw [Bool.and_eq_true, decide_eq_true_eq, decide_eq_true_eq] at this; exact this) hok.2).mono ?_
    rintro e w' ⟨hb, hp⟩
    unfold putB at h
    cases hR : Hd.putR a0.data.toList (l1.map toF) with
    | inl c =>
      rw [hR] at hp h
      obtain ⟨rfl, rfl⟩ := Prod.mk.inj h
      exact ⟨_, hp, Kd.R_nil _ _ _ _ _, hb⟩
    | inr t =>
      rw [hR] at hp h
      obtain ⟨rfl, rfl⟩ := Prod.mk.inj h
      obtain ⟨v, he, ho⟩ := hp
      refine ⟨v, he, Kd.R_of_own ?_ (fun _ _ => trivial), hb⟩
      have e1 : encs (Value.int .u8) (numsOf t) = Lib.byteCells t := by unfold encs numsOf Lib.byteCells; rw [List.map_map]; rfl
      rw [e1, show (numsOf t).length = t.length from List.length_map ..]
      exact ho
  · cases h
end Go.Proofs.YtocklkaddiomhaaGreatDoor.E


namespace Go.Proofs.YtocklkaddiomhaaGreatDoor.E
open Go.RowKit Go.Proofs.YtocklkaddiomhaaGreatDoorW.PrintWords Go.Proofs.YtocklkaddiomhaaGreatDoorW.PrintLast Go.Proofs.YtocklkaddiomhaaGreatDoor.XK Go.Proofs.YtocklkaddiomhaaGreatDoor.XA Go.Proofs.YtocklkaddiomhaaGreatDoor.XD
set_option linter.unusedVariables false
set_option linter.unusedSimpArgs false
abbrev pqC (m : ByteArray) (a b c d : Int) (n : ByteArray) (po : Int) (p : ByteArray) (A : Option Addr) (len cap : Nat) : Array Value := #[.string m, .int .u8 a, .int .u8 b, .int .u8 c, .int .u8 d, .string n, .int .i64 po, .string p, .slice A len cap]
theorem Blk.pq {w : World} {R : Nat} {m : ByteArray} {a b c d : Int} {n : ByteArray} {po : Int} {p : ByteArray} {A : Option Addr} {len cap : Nat} {T : TypeId} (h : Blk w R (pqC m a b c d n po p A len cap) T) :
    w.cell? ⟨R, 0, none⟩ = some (.string m) ∧ w.cell? ⟨R, 1, none⟩ = some (.int .u8 a) ∧ w.cell? ⟨R, 2, none⟩ = some (.int .u8 b) ∧ w.cell? ⟨R, 3, none⟩ = some (.int .u8 c) ∧ w.cell? ⟨R, 4, none⟩ = some (.int .u8 d) ∧ w.cell? ⟨R, 5, none⟩ = some (.string n) ∧ w.cell? ⟨R, 6, none⟩ = some (.int .i64 po) ∧ w.cell? ⟨R, 7, none⟩ = some (.string p) ∧ w.cell? ⟨R, 8, none⟩ = some (.slice A len cap) :=
  ⟨h.cell 0 _ rfl, h.cell 1 _ rfl, h.cell 2 _ rfl, h.cell 3 _ rfl, h.cell 4 _ rfl, h.cell 5 _ rfl, h.cell 6 _ rfl, h.cell 7 _ rfl, h.cell 8 _ rfl⟩
def line1 (m dt : ByteArray) : ByteArray := m ++ ⟨#[32]⟩ ++ dt ++ ⟨#[32, 72, 84, 84, 80, 47, 49, 46, 49]⟩
def line2 (m dt p : ByteArray) : ByteArray := m ++ ⟨#[32]⟩ ++ ((⟨#[104, 116, 116, 112, 58, 47, 47]⟩ : ByteArray) ++ dt ++ p) ++ ⟨#[32, 72, 84, 84, 80, 47, 49, 46, 49]⟩
def isConn (m : ByteArray) : Bool := m.toList == [67, 79, 78, 78, 69, 67, 84]
def preqT (dt m p : ByteArray) (l : List S72) : List Int × Int :=
  if dt.size = 0 ∨ tokB m = false then ([], 2)
  else if isConn m then (if p.size = 0 then putB (line1 m dt) l else ([], 2))
  else if Lib.hasPrefix p.data.toList [47] && Hd.plain p.data.toList 33 2048 then putB (line2 m dt p) l else ([], 2)
def PqPost (r : List Int × Int) (w : World) (e : Ending) (w' : World) : Prop := ∃ v0_ : Value, e = .returned (.tuple #[v0_, .int .i64 r.2]) ∧ Kd.R (Kd.int .u8) 5 w' w.heap.size (fun _ => True) v0_ r.1 ∧ Below w.heap.size w w'
set_option maxRecDepth 100000 in
set_option maxHeartbeats 16000000 in
theorem preq_walk (m : ByteArray) (a b c d : Int) (n : ByteArray) (po : Int) (p : ByteArray) (A0 : Option Addr) (c0 : Nat) (l : List S72) (dt : ByteArray) (w : World) (hS : StdW w) (hR : Kd.C k72 w A0 l.length l) (hc : l.length ≤ c0) (hok : okLv l = true)
    (hm : m.size ≤ 281474976710656) (hp : p.size ≤ 281474976710656) (hto : dt.size ≤ 300)
    (HPD : ∀ W, StdW W → Calls Tryz.prog 62 #[.agg #[.int .u8 a, .int .u8 b, .int .u8 c, .int .u8 d, .string n, .int .i64 po]] W fun e w' => e = .returned (.string dt) ∧ Below W.heap.size W w') :
    Calls Tryz.prog 29 #[.agg #[.string m, .int .u8 a, .int .u8 b, .int .u8 c, .int .u8 d, .string n, .int .i64 po, .string p, .slice A0 l.length c0]] w (PqPost (preqT dt m p l) w) := by
  have HS := Lib.hid hS
  have HR := Lib.hid hR
  have HP := Lib.hid HPD
  have HT := Lib.hid (token_any m hm)
  have HH := Lib.hid (fun W h => HasPrefix.calls p ⟨#[47]⟩ _ W h rfl)
  have HW : Hid (∀ W, Calls Tryz.prog 47 #[.string p, .int .u8 33, .int .i64 2048] W fun e w' => e = .returned (.bool (Hd.plain p.data.toList 33 2048)) ∧ Below W.heap.size W w') := Lib.hid (within_any p hp 33 2048)
  have HU := Lib.hid (fun (first : ByteArray) (hf : first.size ≤ 1000000) W (h : StdW W) (hr : Kd.C k72 W A0 l.length l) => put.calls first A0 c0 l (putB first l).1 (putB first l).2 W hr hc h (by unfold put.f; rw [if_pos ⟨hf, hok⟩]))
  have HZ := Lib.hid (Blk.new w (pqC m a b c d n po p A0 l.length c0) 36)
  have HB := Lib.hid (below_alloc (Below.refl w.heap.size w) (.cells (pqC m a b c d n po p A0 l.length c0) 36))
  obtain ⟨q0, q1, q2, q3, q4, q5, q6, q7, q8⟩ := HZ.out.pq
  have hpl : Hd.plain p.data.toList 33 2048 = true → p.size ≤ 2048 := fun h => by
    unfold Hd.plain at h
    simp only [Bool.and_eq_true, decide_eq_true_eq] at h
    rw [Lib.size_eq]; exact h.2
  have htl : tokB m = true → m.size ≤ 64 := token_len m
  rw [show (⟨#[47]⟩ : ByteArray).data.toList = [47] from rfl] at HH
  clear hS hR HPD hm hp hok
  unfold preqT isConn
  generalize tokB m = tk at HT htl ⊢
  generalize Lib.hasPrefix p.data.toList [47] = hx at HH ⊢
  generalize Hd.plain p.data.toList 33 2048 = wt at HW hpl ⊢
  by_cases h0 : dt.size = 0
  · have h1 : dt.toList.isEmpty = true := by rw [size_zero]; simpa using h0
    rw [if_pos (.inl h0)]
    go_enter Tryz.func29, Tryz.ntmps29
    go_wp2_with (first | (go_at_call 62; (with_reducible refine (HP.out _ (StdW.below HS.out HB.out)).mono ?_); rintro e wn ⟨rfl, hb⟩; have HZ := Lib.hid (HZ.out.below hb); have HB := Lib.hid (below_then HB.out HB.out.size hb); obtain ⟨q0, q1, q2, q3, q4, q5, q6, q7, q8⟩ := HZ.out.pq; clear hb) | (go_at_call 18; (with_reducible refine (HT.out _ (StdW.below HS.out HB.out)).mono ?_); rintro e wn ⟨rfl, hb⟩; have HZ := Lib.hid (HZ.out.below hb); have HB := Lib.hid (below_then HB.out HB.out.size hb); obtain ⟨q0, q1, q2, q3, q4, q5, q6, q7, q8⟩ := HZ.out.pq; clear hb) | (go_at_call 63; (with_reducible refine (HH.out _ (StdW.below HS.out HB.out)).mono ?_); rintro e wn ⟨rfl, hb⟩; have HZ := Lib.hid (HZ.out.below hb); have HB := Lib.hid (below_then HB.out HB.out.size hb); obtain ⟨q0, q1, q2, q3, q4, q5, q6, q7, q8⟩ := HZ.out.pq; clear hb) | (go_at_call 47; (with_reducible refine (HW.out _).mono ?_); rintro e wn ⟨rfl, hb⟩; have HZ := Lib.hid (HZ.out.below hb); have HB := Lib.hid (below_then HB.out HB.out.size hb); obtain ⟨q0, q1, q2, q3, q4, q5, q6, q7, q8⟩ := HZ.out.pq; clear hb) | (go_at_call 64; (with_reducible refine (HUU.out _ (StdW.below HS.out HB.out) (Kd.C_below HR.out HB.out)).mono ?_); rintro e wn ⟨v0, rfl, hr, hb⟩; have HRR := Lib.hid (Kd.R_lower hr HB.out.size); have HB := Lib.hid (below_then HB.out HB.out.size hb); clear hr hb))
    go_ret2
    exact ⟨_, rfl, Kd.R_nil _ _ _ _ _, HB.out⟩
  have h1 : dt.toList.isEmpty = false := by rw [size_zero]; simpa using h0
  cases tk
  · rw [if_pos (.inr rfl)]
    go_enter Tryz.func29, Tryz.ntmps29
    go_wp2_with (first | (go_at_call 62; (with_reducible refine (HP.out _ (StdW.below HS.out HB.out)).mono ?_); rintro e wn ⟨rfl, hb⟩; have HZ := Lib.hid (HZ.out.below hb); have HB := Lib.hid (below_then HB.out HB.out.size hb); obtain ⟨q0, q1, q2, q3, q4, q5, q6, q7, q8⟩ := HZ.out.pq; clear hb) | (go_at_call 18; (with_reducible refine (HT.out _ (StdW.below HS.out HB.out)).mono ?_); rintro e wn ⟨rfl, hb⟩; have HZ := Lib.hid (HZ.out.below hb); have HB := Lib.hid (below_then HB.out HB.out.size hb); obtain ⟨q0, q1, q2, q3, q4, q5, q6, q7, q8⟩ := HZ.out.pq; clear hb) | (go_at_call 63; (with_reducible refine (HH.out _ (StdW.below HS.out HB.out)).mono ?_); rintro e wn ⟨rfl, hb⟩; have HZ := Lib.hid (HZ.out.below hb); have HB := Lib.hid (below_then HB.out HB.out.size hb); obtain ⟨q0, q1, q2, q3, q4, q5, q6, q7, q8⟩ := HZ.out.pq; clear hb) | (go_at_call 47; (with_reducible refine (HW.out _).mono ?_); rintro e wn ⟨rfl, hb⟩; have HZ := Lib.hid (HZ.out.below hb); have HB := Lib.hid (below_then HB.out HB.out.size hb); obtain ⟨q0, q1, q2, q3, q4, q5, q6, q7, q8⟩ := HZ.out.pq; clear hb) | (go_at_call 64; (with_reducible refine (HUU.out _ (StdW.below HS.out HB.out) (Kd.C_below HR.out HB.out)).mono ?_); rintro e wn ⟨v0, rfl, hr, hb⟩; have HRR := Lib.hid (Kd.R_lower hr HB.out.size); have HB := Lib.hid (below_then HB.out HB.out.size hb); clear hr hb))
    go_ret2
    exact ⟨_, rfl, Kd.R_nil _ _ _ _ _, HB.out⟩
  have hm64 := htl rfl
  rw [if_neg (fun h => h.elim h0 (fun h => by cases h))]
  cases hcn : (m.toList == [67, 79, 78, 78, 69, 67, 84])
  · rw [if_neg Bool.false_ne_true]
    cases hx
    · rw [Bool.false_and, if_neg Bool.false_ne_true]
      go_enter Tryz.func29, Tryz.ntmps29
      go_wp2_with (first | (go_at_call 62; (with_reducible refine (HP.out _ (StdW.below HS.out HB.out)).mono ?_); rintro e wn ⟨rfl, hb⟩; have HZ := Lib.hid (HZ.out.below hb); have HB := Lib.hid (below_then HB.out HB.out.size hb); obtain ⟨q0, q1, q2, q3, q4, q5, q6, q7, q8⟩ := HZ.out.pq; clear hb) | (go_at_call 18; (with_reducible refine (HT.out _ (StdW.below HS.out HB.out)).mono ?_); rintro e wn ⟨rfl, hb⟩; have HZ := Lib.hid (HZ.out.below hb); have HB := Lib.hid (below_then HB.out HB.out.size hb); obtain ⟨q0, q1, q2, q3, q4, q5, q6, q7, q8⟩ := HZ.out.pq; clear hb) | (go_at_call 63; (with_reducible refine (HH.out _ (StdW.below HS.out HB.out)).mono ?_); rintro e wn ⟨rfl, hb⟩; have HZ := Lib.hid (HZ.out.below hb); have HB := Lib.hid (below_then HB.out HB.out.size hb); obtain ⟨q0, q1, q2, q3, q4, q5, q6, q7, q8⟩ := HZ.out.pq; clear hb) | (go_at_call 47; (with_reducible refine (HW.out _).mono ?_); rintro e wn ⟨rfl, hb⟩; have HZ := Lib.hid (HZ.out.below hb); have HB := Lib.hid (below_then HB.out HB.out.size hb); obtain ⟨q0, q1, q2, q3, q4, q5, q6, q7, q8⟩ := HZ.out.pq; clear hb) | (go_at_call 64; (with_reducible refine (HUU.out _ (StdW.below HS.out HB.out) (Kd.C_below HR.out HB.out)).mono ?_); rintro e wn ⟨v0, rfl, hr, hb⟩; have HRR := Lib.hid (Kd.R_lower hr HB.out.size); have HB := Lib.hid (below_then HB.out HB.out.size hb); clear hr hb))
      go_ret2
      exact ⟨_, rfl, Kd.R_nil _ _ _ _ _, HB.out⟩
    · cases wt
      · rw [Bool.and_false, if_neg Bool.false_ne_true]
        go_enter Tryz.func29, Tryz.ntmps29
        go_wp2_with (first | (go_at_call 62; (with_reducible refine (HP.out _ (StdW.below HS.out HB.out)).mono ?_); rintro e wn ⟨rfl, hb⟩; have HZ := Lib.hid (HZ.out.below hb); have HB := Lib.hid (below_then HB.out HB.out.size hb); obtain ⟨q0, q1, q2, q3, q4, q5, q6, q7, q8⟩ := HZ.out.pq; clear hb) | (go_at_call 18; (with_reducible refine (HT.out _ (StdW.below HS.out HB.out)).mono ?_); rintro e wn ⟨rfl, hb⟩; have HZ := Lib.hid (HZ.out.below hb); have HB := Lib.hid (below_then HB.out HB.out.size hb); obtain ⟨q0, q1, q2, q3, q4, q5, q6, q7, q8⟩ := HZ.out.pq; clear hb) | (go_at_call 63; (with_reducible refine (HH.out _ (StdW.below HS.out HB.out)).mono ?_); rintro e wn ⟨rfl, hb⟩; have HZ := Lib.hid (HZ.out.below hb); have HB := Lib.hid (below_then HB.out HB.out.size hb); obtain ⟨q0, q1, q2, q3, q4, q5, q6, q7, q8⟩ := HZ.out.pq; clear hb) | (go_at_call 47; (with_reducible refine (HW.out _).mono ?_); rintro e wn ⟨rfl, hb⟩; have HZ := Lib.hid (HZ.out.below hb); have HB := Lib.hid (below_then HB.out HB.out.size hb); obtain ⟨q0, q1, q2, q3, q4, q5, q6, q7, q8⟩ := HZ.out.pq; clear hb) | (go_at_call 64; (with_reducible refine (HUU.out _ (StdW.below HS.out HB.out) (Kd.C_below HR.out HB.out)).mono ?_); rintro e wn ⟨v0, rfl, hr, hb⟩; have HRR := Lib.hid (Kd.R_lower hr HB.out.size); have HB := Lib.hid (below_then HB.out HB.out.size hb); clear hr hb))
        go_ret2
        exact ⟨_, rfl, Kd.R_nil _ _ _ _ _, HB.out⟩
      · have hp48 := hpl rfl
        rw [Bool.and_true, if_pos rfl]
        have HUU := Lib.hid (HU.out (line2 m dt p) (by unfold line2; rw [ByteArray.size_append, ByteArray.size_append, ByteArray.size_append, ByteArray.size_append, ByteArray.size_append]; show m.size + 1 + (7 + dt.size + p.size) + 9 ≤ _; omega))
        have e2 : m ++ ⟨#[32]⟩ ++ ((⟨#[104, 116, 116, 112, 58, 47, 47]⟩ : ByteArray) ++ dt ++ p) ++ ⟨#[32, 72, 84, 84, 80, 47, 49, 46, 49]⟩ = line2 m dt p := rfl
        go_enter Tryz.func29, Tryz.ntmps29
        go_wp2_with (first | (go_at_call 62; (with_reducible refine (HP.out _ (StdW.below HS.out HB.out)).mono ?_); rintro e wn ⟨rfl, hb⟩; have HZ := Lib.hid (HZ.out.below hb); have HB := Lib.hid (below_then HB.out HB.out.size hb); obtain ⟨q0, q1, q2, q3, q4, q5, q6, q7, q8⟩ := HZ.out.pq; clear hb) | (go_at_call 18; (with_reducible refine (HT.out _ (StdW.below HS.out HB.out)).mono ?_); rintro e wn ⟨rfl, hb⟩; have HZ := Lib.hid (HZ.out.below hb); have HB := Lib.hid (below_then HB.out HB.out.size hb); obtain ⟨q0, q1, q2, q3, q4, q5, q6, q7, q8⟩ := HZ.out.pq; clear hb) | (go_at_call 63; (with_reducible refine (HH.out _ (StdW.below HS.out HB.out)).mono ?_); rintro e wn ⟨rfl, hb⟩; have HZ := Lib.hid (HZ.out.below hb); have HB := Lib.hid (below_then HB.out HB.out.size hb); obtain ⟨q0, q1, q2, q3, q4, q5, q6, q7, q8⟩ := HZ.out.pq; clear hb) | (go_at_call 47; (with_reducible refine (HW.out _).mono ?_); rintro e wn ⟨rfl, hb⟩; have HZ := Lib.hid (HZ.out.below hb); have HB := Lib.hid (below_then HB.out HB.out.size hb); obtain ⟨q0, q1, q2, q3, q4, q5, q6, q7, q8⟩ := HZ.out.pq; clear hb) | (go_at_call 64; (with_reducible refine (HUU.out _ (StdW.below HS.out HB.out) (Kd.C_below HR.out HB.out)).mono ?_); rintro e wn ⟨v0, rfl, hr, hb⟩; have HRR := Lib.hid (Kd.R_lower hr HB.out.size); have HB := Lib.hid (below_then HB.out HB.out.size hb); clear hr hb))
        go_ret2
        exact ⟨v0, rfl, HRR.out, HB.out⟩
  · rw [if_pos rfl]
    by_cases hp0 : p.size = 0
    · have hpe : p.toList.isEmpty = true := by rw [size_zero]; simpa using hp0
      rw [if_pos hp0]
      have HUU := Lib.hid (HU.out (line1 m dt) (by unfold line1; rw [ByteArray.size_append, ByteArray.size_append, ByteArray.size_append]; show m.size + 1 + dt.size + 9 ≤ _; omega))
      have e2 : m ++ ⟨#[32]⟩ ++ dt ++ ⟨#[32, 72, 84, 84, 80, 47, 49, 46, 49]⟩ = line1 m dt := rfl
      go_enter Tryz.func29, Tryz.ntmps29
      go_wp2_with (first | (go_at_call 62; (with_reducible refine (HP.out _ (StdW.below HS.out HB.out)).mono ?_); rintro e wn ⟨rfl, hb⟩; have HZ := Lib.hid (HZ.out.below hb); have HB := Lib.hid (below_then HB.out HB.out.size hb); obtain ⟨q0, q1, q2, q3, q4, q5, q6, q7, q8⟩ := HZ.out.pq; clear hb) | (go_at_call 18; (with_reducible refine (HT.out _ (StdW.below HS.out HB.out)).mono ?_); rintro e wn ⟨rfl, hb⟩; have HZ := Lib.hid (HZ.out.below hb); have HB := Lib.hid (below_then HB.out HB.out.size hb); obtain ⟨q0, q1, q2, q3, q4, q5, q6, q7, q8⟩ := HZ.out.pq; clear hb) | (go_at_call 63; (with_reducible refine (HH.out _ (StdW.below HS.out HB.out)).mono ?_); rintro e wn ⟨rfl, hb⟩; have HZ := Lib.hid (HZ.out.below hb); have HB := Lib.hid (below_then HB.out HB.out.size hb); obtain ⟨q0, q1, q2, q3, q4, q5, q6, q7, q8⟩ := HZ.out.pq; clear hb) | (go_at_call 47; (with_reducible refine (HW.out _).mono ?_); rintro e wn ⟨rfl, hb⟩; have HZ := Lib.hid (HZ.out.below hb); have HB := Lib.hid (below_then HB.out HB.out.size hb); obtain ⟨q0, q1, q2, q3, q4, q5, q6, q7, q8⟩ := HZ.out.pq; clear hb) | (go_at_call 64; (with_reducible refine (HUU.out _ (StdW.below HS.out HB.out) (Kd.C_below HR.out HB.out)).mono ?_); rintro e wn ⟨v0, rfl, hr, hb⟩; have HRR := Lib.hid (Kd.R_lower hr HB.out.size); have HB := Lib.hid (below_then HB.out HB.out.size hb); clear hr hb))
      go_ret2
      exact ⟨v0, rfl, HRR.out, HB.out⟩
    · have hpe : p.toList.isEmpty = false := by rw [size_zero]; simpa using hp0
      rw [if_neg hp0]
      go_enter Tryz.func29, Tryz.ntmps29
      go_wp2_with (first | (go_at_call 62; (with_reducible refine (HP.out _ (StdW.below HS.out HB.out)).mono ?_); rintro e wn ⟨rfl, hb⟩; have HZ := Lib.hid (HZ.out.below hb); have HB := Lib.hid (below_then HB.out HB.out.size hb); obtain ⟨q0, q1, q2, q3, q4, q5, q6, q7, q8⟩ := HZ.out.pq; clear hb) | (go_at_call 18; (with_reducible refine (HT.out _ (StdW.below HS.out HB.out)).mono ?_); rintro e wn ⟨rfl, hb⟩; have HZ := Lib.hid (HZ.out.below hb); have HB := Lib.hid (below_then HB.out HB.out.size hb); obtain ⟨q0, q1, q2, q3, q4, q5, q6, q7, q8⟩ := HZ.out.pq; clear hb) | (go_at_call 63; (with_reducible refine (HH.out _ (StdW.below HS.out HB.out)).mono ?_); rintro e wn ⟨rfl, hb⟩; have HZ := Lib.hid (HZ.out.below hb); have HB := Lib.hid (below_then HB.out HB.out.size hb); obtain ⟨q0, q1, q2, q3, q4, q5, q6, q7, q8⟩ := HZ.out.pq; clear hb) | (go_at_call 47; (with_reducible refine (HW.out _).mono ?_); rintro e wn ⟨rfl, hb⟩; have HZ := Lib.hid (HZ.out.below hb); have HB := Lib.hid (below_then HB.out HB.out.size hb); obtain ⟨q0, q1, q2, q3, q4, q5, q6, q7, q8⟩ := HZ.out.pq; clear hb) | (go_at_call 64; (with_reducible refine (HUU.out _ (StdW.below HS.out HB.out) (Kd.C_below HR.out HB.out)).mono ?_); rintro e wn ⟨v0, rfl, hr, hb⟩; have HRR := Lib.hid (Kd.R_lower hr HB.out.size); have HB := Lib.hid (below_then HB.out HB.out.size hb); clear hr hb))
      go_ret2
      exact ⟨_, rfl, Kd.R_nil _ _ _ _ _, HB.out⟩
end Go.Proofs.YtocklkaddiomhaaGreatDoor.E


namespace Go.Proofs.YtocklkaddiomhaaGreatDoor.Hd
theorem fieldR_ok {l : Bs} {f : Fd.F} (h : fieldR l = .inr f) : (Fd.token f.1 && value f.2) = true := by
  unfold fieldR at h
  split at h
  · cases h
  · split at h
    · cases h
    · split at h
      · cases h
      · cases h
        rename_i h2 h3
        simp only [Bool.not_eq_true, Bool.not_eq_false'] at h2 h3
        simp_all
theorem fieldsR_ok : ∀ (k : Nat) (rest : Bs) (p : Nat) (out fs : List Fd.F), (∀ f ∈ out, (Fd.token f.1 && value f.2) = true) → fieldsR k rest p out = .inr fs → ∀ f ∈ fs, (Fd.token f.1 && value f.2) = true
  | 0, _, _, out, fs, h, e => by cases e; exact h
  | k + 1, rest, p, out, fs, h, e => by
    unfold fieldsR at e
    split at e
    · cases e; exact h
    · split at e
      · cases e
      · split at e
        · cases e
        · rename_i hf
          refine fieldsR_ok k _ _ _ fs (fun f hm => ?_) e
          rcases List.mem_append.1 hm with hm | hm
          · exact h f hm
          · rw [List.mem_singleton.1 hm]; exact fieldR_ok hf
theorem putL_all : ∀ (l : List Fd.F) (acc t : Bs), putL acc l = some t → ∀ f ∈ l, (Fd.token f.1 && value f.2) = true
  | [], _, _, _, f, hf => by cases hf
  | g :: r, acc, t, e, f, hf => by
    unfold putL at e
    split at e
    · rename_i hg
      rcases List.mem_cons.1 hf with rfl | hf
      · exact hg
      · exact putL_all r _ t e f hf
    · cases e
theorem sign_clean (c : UInt8) (h : Fd.sign c = true) : c.toNat ≠ 13 ∧ c.toNat ≠ 10 ∧ c.toNat ≠ 0 := by
  have hh : ∀ n : Fin 256, Fd.sign (UInt8.ofNat n.1) = true → (UInt8.ofNat n.1).toNat ≠ 13 ∧ (UInt8.ofNat n.1).toNat ≠ 10 ∧ (UInt8.ofNat n.1).toNat ≠ 0 := by decide +kernel
  have := hh ⟨c.toNat, c.toNat_lt⟩
  simp only [UInt8.ofNat_toNat] at this
  exact this h
theorem spc_clean (c : UInt8) (h : 32 ≤ (if c = 9 then (32 : UInt8) else c).toNat) : c.toNat ≠ 13 ∧ c.toNat ≠ 10 ∧ c.toNat ≠ 0 := by
  have hh : ∀ n : Fin 256, 32 ≤ (if UInt8.ofNat n.1 = 9 then (32 : UInt8) else UInt8.ofNat n.1).toNat → (UInt8.ofNat n.1).toNat ≠ 13 ∧ (UInt8.ofNat n.1).toNat ≠ 10 ∧ (UInt8.ofNat n.1).toNat ≠ 0 := by decide +kernel
  have := hh ⟨c.toNat, c.toNat_lt⟩
  simp only [UInt8.ofNat_toNat] at this
  exact this h
theorem token_clean {l : Bs} (h : Fd.token l = true) : l ≠ [] ∧ l.length ≤ 64 ∧ ∀ c ∈ l, c.toNat ≠ 13 ∧ c.toNat ≠ 10 ∧ c.toNat ≠ 0 := by
  unfold Fd.token at h
  simp only [Bool.and_eq_true, List.all_eq_true, decide_eq_true_eq, Bool.not_eq_true'] at h
  obtain ⟨h1, h2, h3⟩ := h
  exact ⟨(fun e => by subst e; cases h2), h3, fun c hc => sign_clean c (h1 c hc)⟩
theorem value_clean {l : Bs} (h : value l = true) : l.length ≤ 4096 ∧ ∀ c ∈ l, c.toNat ≠ 13 ∧ c.toNat ≠ 10 ∧ c.toNat ≠ 0 := by
  unfold value plain at h
  simp only [Bool.and_eq_true, List.all_eq_true, decide_eq_true_eq, spc_len] at h
  refine ⟨h.1.2, fun c hc => spc_clean c (h.1.1 _ ?_).1⟩
  exact List.mem_map.2 ⟨c, hc, rfl⟩
end Go.Proofs.YtocklkaddiomhaaGreatDoor.Hd
namespace Go.Proofs.YtocklkaddiomhaaGreatDoor.E
open Go.RowKit Go.Proofs.YtocklkaddiomhaaGreatDoorW.PrintWords Go.Proofs.YtocklkaddiomhaaGreatDoorW.PrintLast Go.Proofs.YtocklkaddiomhaaGreatDoor.XK Go.Proofs.YtocklkaddiomhaaGreatDoor.XA Go.Proofs.YtocklkaddiomhaaGreatDoor.XD Go.Proofs.YtocklkaddiomhaaGreatDoor.XBy
set_option linter.unusedVariables false
set_option linter.unusedSimpArgs false
def okAll (l : List S72) : Prop := ∀ f ∈ l, tokB f.f0 = true ∧ valB f.f1 = true
theorem okAll_app {l l2 : List S72} (h : okAll l) (h2 : okAll l2) : okAll (l ++ l2) := fun f hf => by
  rcases List.mem_append.1 hf with h3 | h3
  · exact h f h3
  · exact h2 f h3
theorem okAll_of (fs : List Fd.F) (h : ∀ f ∈ fs, (Fd.token f.1 && Hd.value f.2) = true) : okAll (fs.map ofF) := fun f hf => by
  obtain ⟨g, hg, rfl⟩ := List.mem_map.1 hf
  have := h g hg
  rw [Bool.and_eq_true] at this
  exact this
theorem req_ok (b : List UInt8) : okAll (rqD (reqR b)).l ∧ (rqD (reqR b)).l.length ≤ 64 := by
  cases hr : reqR b with
  | inl x => exact ⟨(fun f hf => by cases hf), Nat.zero_le _⟩
  | inr x =>
    obtain ⟨m, ⟨x, y, z, u, nm, po⟩, pa, fs, k⟩ := x
    unfold reqR at hr
    split at hr
    · cases hr
    · have hl := (headRq_num _ _ hr).2
      refine ⟨okAll_of fs ?_, by show (fs.map ofF).length ≤ _; rw [List.length_map]; exact hl⟩
      unfold headRq at hr
      split at hr
      · split at hr
        · cases hr
        · split at hr
          · cases hr
          · split at hr
            · cases hr
            · split at hr
              · cases hr
              · split at hr
                · cases hr
                · rename_i hf
                  cases hr
                  exact Hd.fieldsR_ok _ _ _ _ _ (fun f h => by cases h) hf
      · cases hr
def rpL : (Int × Int) ⊕ RpT → Int × ByteArray × List S72 × Int
  | .inl _ => (0, ⟨#[]⟩, [], 0)
  | .inr (st, re, fs, k) => (st, re, fs.map ofF, (k : Int))
theorem rep_ok (b : List UInt8) : okAll (rpL (repR b)).2.2.1 ∧ (rpL (repR b)).2.2.1.length ≤ 64 := by
  cases hr : repR b with
  | inl x => exact ⟨(fun f hf => by cases hf), Nat.zero_le _⟩
  | inr x =>
    obtain ⟨st, re, fs, k⟩ := x
    unfold repR at hr
    split at hr
    · cases hr
    · unfold headRp at hr
      split at hr
      · split at hr
        · cases hr
        · split at hr
          · cases hr
          · split at hr
            · cases hr
            · split at hr
              · cases hr
              · split at hr
                · cases hr
                · rename_i hf
                  cases hr
                  exact ⟨okAll_of _ (Hd.fieldsR_ok _ _ _ _ _ (fun f h => by cases h) hf), by show (List.map ofF _).length ≤ _; rw [List.length_map]; exact Hd.fieldsR_len _ _ _ _ _ (by simp) hf⟩
      · cases hr
theorem reply_c (A : Option Addr) (n c : Nat) (xs : List Int) (w : World) (hS : StdW w) (hn : n = xs.length) (hr : okB xs) (hC : Kd.C (Kd.int .u8) w A n xs) (hA : A = none → c = 0) (hcap : n ≤ c) (hc63 : c ≤ 9223372036854775807) :
    Calls Tryz.prog 24 #[.slice A n c] w fun e w' => ∃ fA fc v, e = .returned (.tuple #[.agg #[.int .i64 (rpL (repR (Lib.bytesOf xs))).1, .string (rpL (repR (Lib.bytesOf xs))).2.1, .slice fA (rpL (repR (Lib.bytesOf xs))).2.2.1.length fc], .int .i64 (rpL (repR (Lib.bytesOf xs))).2.2.2, v]) ∧ (rpL (repR (Lib.bytesOf xs))).2.2.1.length ≤ fc ∧ Kd.C k72 w' fA (rpL (repR (Lib.bytesOf xs))).2.2.1.length (rpL (repR (Lib.bytesOf xs))).2.2.1 ∧ Below w.heap.size w w' := by
  refine (reply_any A n c xs w hS hn.symm hr (bytesIn_C hn hC) hA hcap hc63).mono ?_
  generalize repR (Lib.bytesOf xs) = r
  rintro e w' ⟨hb, h⟩
  rcases r with ⟨a, k⟩ | ⟨st, re, fs, k⟩
  · obtain ⟨v, rfl, he⟩ := h
    exact ⟨none, 0, v, rfl, Nat.le_refl _, Kd.C_nil _ _, hb⟩
  · obtain ⟨v, rfl, hf⟩ := h
    obtain ⟨fA, fc, rfl, hl, hC2⟩ := Kd.R_reads hf
    exact ⟨fA, fc, .nilIface, rfl, hl, hC2, hb⟩
theorem putB_zero (first : ByteArray) (l : List S72) (h : (putB first l).2 = 0) : okAll l := by
  unfold putB at h
  split at h
  · rename_i c hc
    exfalso
    unfold Hd.putR at hc
    split at hc
    · cases hc; simp at h
    · split at hc
      · cases hc; simp at h
      · cases hc
  · rename_i t ht
    unfold Hd.putR at ht
    split at ht
    · cases ht
    · rename_i acc ha
      intro f hf
      have := Hd.putL_all _ _ _ ha (toF f) (List.mem_map.2 ⟨f, hf, rfl⟩)
      rw [Bool.and_eq_true] at this
      exact this
theorem preqT_zero (dt m p : ByteArray) (l : List S72) (h : (preqT dt m p l).2 = 0) : okAll l := by
  unfold preqT at h
  split at h
  · cases h
  · split at h
    · split at h
      · exact putB_zero _ _ h
      · cases h
    · split at h
      · exact putB_zero _ _ h
      · cases h
theorem pdB_300 (a b c d : Int) (n : ByteArray) (po : Int) (ha : 0 ≤ a ∧ a ≤ 255) (hb : 0 ≤ b ∧ b ≤ 255) (hc : 0 ≤ c ∧ c ≤ 255) (hd : 0 ≤ d ∧ d ≤ 255) : (printDestB a b c d n po).size ≤ 300 := by
  unfold printDestB
  split
  · decide
  · rename_i h
    have hil : (it po).size ≤ 5 := by
      show (Lib.itoa po).length ≤ 5
      unfold Lib.itoa
      rw [if_neg (by omega), Lib.decDigits_length]
      exact Num.nDigits_le 5 _ (by omega) (by decide)
    have hp : (printB a b c d n).size ≤ 253 := by
      unfold printB
      split
      · rename_i hk
        split
        · have := addrS_size a b c d ha.1 ha.2 hb.1 hb.2 hc.1 hc.2 hd.1 hd.2; omega
        · rename_i h0
          unfold checkB at hk
          rw [if_neg h0] at hk
          unfold pnRes at hk
          by_cases h3 : 253 < n.size
          · rw [if_pos h3] at hk; cases hk
          · omega
      · decide
    rw [ByteArray.size_append, ByteArray.size_append]
    have : (⟨#[58]⟩ : ByteArray).size = 1 := rfl
    omega
theorem preq_c (m : ByteArray) (a b c d : Int) (n : ByteArray) (po : Int) (p : ByteArray) (A0 : Option Addr) (c0 : Nat) (l : List S72) (w : World) (hS : StdW w) (hR : Kd.C k72 w A0 l.length l) (hc : l.length ≤ c0) (hok : okLv l = true)
    (hm : m.size ≤ 281474976710656) (hp : p.size ≤ 281474976710656) (hn : n.size ≤ 281474976710656) (ha : 0 ≤ a ∧ a ≤ 255) (hb : 0 ≤ b ∧ b ≤ 255) (hcc : 0 ≤ c ∧ c ≤ 255) (hd : 0 ≤ d ∧ d ≤ 255) :
    ∃ cc : Int, (cc = 0 → okAll l) ∧ Calls Tryz.prog 29 #[.agg #[.string m, .int .u8 a, .int .u8 b, .int .u8 c, .int .u8 d, .string n, .int .i64 po, .string p, .slice A0 l.length c0]] w fun e w' => ∃ v, e = .returned (.tuple #[v, .int .i64 cc]) ∧ Below w.heap.size w w' := by
  refine ⟨(preqT (printDestB a b c d n po) m p l).2, preqT_zero _ _ _ _, ?_⟩
  refine (preq_walk m a b c d n po p A0 c0 l (printDestB a b c d n po) w hS hR hc hok hm hp (pdB_300 a b c d n po ha hb hcc hd) (fun W hW => hPrintDest.calls a b c d n po _ W hW (by unfold hPrintDest.f; rw [if_pos ⟨ha, hb, hcc, hd, hn⟩]))).mono ?_
  rintro e w' ⟨v, h1, -, h2⟩
  exact ⟨v, h1, h2⟩
theorem clean_f (f : S72) (h1 : tokB f.f0 = true) (h2 : valB f.f1 = true) : f.f0.size ≤ 64 ∧ f.f1.size ≤ 4096 ∧ f.f0.data.toList ≠ [] ∧ ∀ c ∈ (f.f0 ++ f.f1).data.toList, c.toNat ≠ 13 ∧ c.toNat ≠ 10 ∧ c.toNat ≠ 0 := by
  have e1 := Hd.token_clean h1
  have e2 := Hd.value_clean h2
  refine ⟨by rw [Lib.size_eq]; exact e1.2.1, by rw [Lib.size_eq]; exact e2.1, e1.1, fun c hc => ?_⟩
  rw [dapp] at hc
  rcases List.mem_append.1 hc with h | h
  · exact e1.2.2 c h
  · exact e2.2 c h
end Go.Proofs.YtocklkaddiomhaaGreatDoor.E
