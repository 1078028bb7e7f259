/- What the cards of this seat rest on: the walks and plain laws, part 3. -/
import Derived.Test.YtkheejjpidbniaaDoorFPT2


namespace Go.Proofs.YtkheejjpidbniaaDoor.E
open Go.RowKit Go.Proofs.YtkheejjpidbniaaDoorW.PrintWords Go.Proofs.YtkheejjpidbniaaDoorW.PrintLast Go.Proofs.YtkheejjpidbniaaDoor.XK Go.Proofs.YtkheejjpidbniaaDoor.XA Go.Maps
set_option linter.unusedVariables false
set_option linter.unusedSimpArgs false
theorem sign_f (c : UInt8) : head_sign.f (c.toNat : Int) = some (Fd.sign c) := by
  have h : ∀ n : Fin 256, head_sign.f ((UInt8.ofNat n.1).toNat : Int) = some (Fd.sign (UInt8.ofNat n.1)) := by decide +kernel
  have := h ⟨c.toNat, c.toNat_lt⟩
  simp only [UInt8.ofNat_toNat] at this
  exact this
def tokB (p : ByteArray) : Bool := Fd.token p.data.toList
theorem wrap64_nat (k n : Nat) (h : k < n) (hn : n ≤ 281474976710656) : wrap64 ((k : Int) + 1) = ((k + 1 : Nat) : Int) := by unfold wrap64; omega
theorem token_loop (s : ByteArray) (hs : s.size ≤ 281474976710656) : ∀ (m k i : Nat), i + m = s.size → m < k → head_Token.l0 k s (s.size : Int) (i : Int) = some ((s.data.toList.drop i).all Fd.sign && (!s.data.toList.isEmpty && decide (s.data.toList.length ≤ 64))) := by
  intro m
  induction m with
  | zero =>
    intro k i hi hk
    obtain ⟨k, rfl⟩ : ∃ j, k = j + 1 := ⟨k - 1, by omega⟩
    have hl : s.data.toList.length = s.size := (Lib.size_eq s).symm
    simp only [head_Token.l0]
    rw [if_neg (by omega), List.drop_of_length_le (by omega), hl, ByteArray.toList_eq]
    cases hd : s.data.toList with
    | nil => rfl
    | cons x r =>
      rw [if_neg (by simp)]
      simp only [List.all_nil, Bool.true_and, List.isEmpty_cons, Bool.not_false]
      congr 1
      rw [Bool.eq_iff_iff, decide_eq_true_eq, decide_eq_true_eq]; omega
  | succ m ih =>
    intro k i hi hk
    obtain ⟨k, rfl⟩ : ∃ j, k = j + 1 := ⟨k - 1, by omega⟩
    have hl : s.data.toList.length = s.size := (Lib.size_eq s).symm
    have hlt : i < s.data.toList.length := by omega
    have hb : bt s (i : Int) = ((s.data.toList[i]).toNat : Int) := by
      have hlt' : i < s.size := by omega
      first | (unfold bt; rw [Int.toNat_natCast, dif_pos hlt']; rfl) | (unfold bt; simp [hlt']; rfl)
    simp only [head_Token.l0]
    rw [if_pos (by omega), if_pos (by omega), if_pos (by omega), hb, sign_f, Option.bind_some, wrap64_nat i s.size (by omega) hs, ih k (i + 1) (by omega) (by omega), List.drop_eq_getElem_cons hlt, List.all_cons]
    cases Fd.sign s.data.toList[i] <;> rfl
theorem token_f (s : ByteArray) (hs : s.size ≤ 281474976710656) : head_Token.f (s.size + 1) s = some (tokB s) := by
  unfold head_Token.f
  have := token_loop s hs s.size (s.size + 1) 0 (by omega) (by omega)
  rw [List.drop_zero] at this
  exact this
theorem token_any (s : ByteArray) (hs : s.size ≤ 281474976710656) (w : World) (hS : StdW w) : Calls Tryd.prog 38 #[.string s] w fun e w' => e = .returned (.bool (tokB s)) ∧ Below w.heap.size w w' :=
  head_Token.calls (s.size + 1) s (tokB s) w hS (token_f s hs)
def toF (f : S24) : Fd.F := (f.f0.data.toList, f.f1.data.toList)
theorem parts_toF (s : ByteArray) : ((commas s).map trimA).map (·.data.toList) = Fd.partsL s.data.toList := by
  unfold Fd.partsL
  rw [← commas_data, List.map_map, List.map_map]
  rfl
theorem eqS_low (a t : ByteArray) : eqS (lowS a) t = (Fd.low a.data.toList == t.data.toList) := by
  unfold eqS
  rw [ByteArray.toList_eq, ByteArray.toList_eq]; rfl
theorem conn1_toF (f : S24) : (conn1A f).map (·.data.toList) = Fd.conn1 (toF f) := by
  unfold conn1A Fd.conn1 toF
  rw [eqS_low]
  show _ = if Fd.low f.f0.data.toList == Fd.sConn then Fd.partsL f.f1.data.toList else []
  rw [show connS.data.toList = Fd.sConn from rfl]
  cases (Fd.low f.f0.data.toList == Fd.sConn)
  · rfl
  · exact parts_toF f.f1
theorem flat_toF (l : List S24) : (l.flatMap conn1A).map (·.data.toList) = (l.map toF).flatMap Fd.conn1 := by
  induction l with
  | nil => rfl
  | cons f r ih => rw [List.flatMap_cons, List.map_append, ih, List.map_cons, List.flatMap_cons, conn1_toF]
def setK (ps : List ByteArray) (k : Nat) (x : List UInt8) : Bool := Fd.fixed.contains x || (((ps.take k).filter tokB).map (fun p => Fd.low p.data.toList)).contains x
theorem setK_step (ps : List ByteArray) (k : Nat) (h : k < ps.length) (ht : tokB ps[k] = true) (x : List UInt8) : setK ps (k + 1) x = (x == (lowS ps[k]).data.toList || setK ps k x) := by
  unfold setK
  rw [List.take_succ_eq_append_getElem h, List.filter_append, List.map_append]
  have : (List.filter tokB [ps[k]]) = [ps[k]] := by simp [ht]
  rw [this]
  simp only [List.map_cons, List.map_nil, List.contains_eq_any_beq, List.any_append, List.any_cons, List.any_nil, Bool.or_false]
  have e : (lowS ps[k]).data.toList = Fd.low ps[k].data.toList := rfl
  rw [e]
  cases (x == Fd.low ps[k].data.toList) <;> cases (Fd.fixed.any fun y => x == y) <;> simp
theorem setK_skip (ps : List ByteArray) (k : Nat) (h : k < ps.length) (ht : tokB ps[k] = false) (x : List UInt8) : setK ps (k + 1) x = setK ps k x := by
  unfold setK
  rw [List.take_succ_eq_append_getElem h, List.filter_append]
  have : (List.filter tokB [ps[k]]) = [] := by simp [ht]
  rw [this, List.append_nil]
theorem setK_all (l : List S24) (x : List UInt8) : setK (l.flatMap conn1A) (l.flatMap conn1A).length x = Fd.hop (l.map toF) x := by
  unfold setK Fd.hop Fd.told
  rw [List.take_length, ← flat_toF]
  congr 2
  rw [List.filter_map, List.map_map]
  rfl
end Go.Proofs.YtkheejjpidbniaaDoor.E


namespace Go.Proofs.YtkheejjpidbniaaDoor.E
open Go.RowKit Go.Proofs.YtkheejjpidbniaaDoorW.PrintWords Go.Proofs.YtkheejjpidbniaaDoorW.PrintLast Go.Proofs.YtkheejjpidbniaaDoor.XK Go.Proofs.YtkheejjpidbniaaDoor.XA Go.Maps
set_option linter.unusedVariables false
set_option linter.unusedSimpArgs false
theorem maxLen_le {n : Nat} (h : n ≤ 70368744177664) : n ≤ maxLen := by unfold maxLen; omega
theorem maxLen_lt {n : Nat} (h : n < 70368744177664) : n < maxLen := by unfold maxLen; omega
theorem set9 (x : List UInt8) : (x == [117, 112, 103, 114, 97, 100, 101] || (x == [116, 114, 97, 110, 115, 102, 101, 114, 45, 101, 110, 99, 111, 100, 105, 110, 103] || (x == [116, 114, 97, 105, 108, 101, 114] || (x == [116, 101] || (x == [112, 114, 111, 120, 121, 45, 99, 111, 110, 110, 101, 99, 116, 105, 111, 110] || (x == [112, 114, 111, 120, 121, 45, 97, 117, 116, 104, 111, 114, 105, 122, 97, 116, 105, 111, 110] || (x == [112, 114, 111, 120, 121, 45, 97, 117, 116, 104, 101, 110, 116, 105, 99, 97, 116, 101] || (x == [107, 101, 101, 112, 45, 97, 108, 105, 118, 101] || (x == [99, 111, 110, 110, 101, 99, 116, 105, 111, 110] || false))))))))) = Fd.fixed.contains x := by
  simp only [Fd.fixed, Fd.sConn, List.contains_eq_any_beq, List.any_cons, List.any_nil]
  generalize (x == [117, 112, 103, 114, 97, 100, 101]) = a1
  generalize (x == [116, 114, 97, 110, 115, 102, 101, 114, 45, 101, 110, 99, 111, 100, 105, 110, 103]) = a2
  generalize (x == [116, 114, 97, 105, 108, 101, 114]) = a3
  generalize (x == [116, 101]) = a4
  generalize (x == [112, 114, 111, 120, 121, 45, 99, 111, 110, 110, 101, 99, 116, 105, 111, 110]) = a5
  generalize (x == [112, 114, 111, 120, 121, 45, 97, 117, 116, 104, 111, 114, 105, 122, 97, 116, 105, 111, 110]) = a6
  generalize (x == [112, 114, 111, 120, 121, 45, 97, 117, 116, 104, 101, 110, 116, 105, 99, 97, 116, 101]) = a7
  generalize (x == [107, 101, 101, 112, 45, 97, 108, 105, 118, 101]) = a8
  generalize (x == [99, 111, 110, 110, 101, 99, 116, 105, 111, 110]) = a9
  cases a1 <;> cases a2 <;> cases a3 <;> cases a4 <;> cases a5 <;> cases a6 <;> cases a7 <;> cases a8 <;> cases a9 <;> rfl
theorem setK_zero (ps : List ByteArray) (x : List UInt8) : Fd.fixed.contains x = setK ps 0 x := by unfold setK; simp
theorem conn_len (l : List S24) (h : okL l = true) (p : ByteArray) (hp : p ∈ l.flatMap conn1A) : p.size ≤ 4294967281 := by
  obtain ⟨f, hf, hp⟩ := List.mem_flatMap.1 hp
  have := ((okL_mem h).1 f hf).2
  unfold conn1A at hp
  split at hp
  · obtain ⟨q, hq, rfl⟩ := List.mem_map.1 hp
    have h1 := commas_size _ _ hq
    have h2 := trimA_size q
    omega
  · cases hp
set_option maxRecDepth 100000 in
set_option maxHeartbeats 8000000 in
theorem hops_any (A0 : Option Addr) (c0 : Nat) (l : List S24) (w : World) (hS : StdW w) (hR : Kd.C k24 w A0 l.length l) (hok : okL l = true) (htot : (l.flatMap conn1A).length ≤ 8796093022207) :
    Calls Tryd.prog 27 #[.slice A0 l.length c0] w fun e w' => ∃ n, e = .returned (.map (some w.heap.size)) ∧ SetM w' w.heap.size n (fun x => Fd.hop (l.map toF) x) ∧ Below w.heap.size w w' := by
  have HS := Lib.hid hS
  have HE := Lib.hid (fun W h1 h2 => each_conn A0 c0 l W h1 h2 (okL_mem hok).1 htot (okL_mem hok).2)
  have HT := Lib.hid token_any
  have HL := Lib.hid small_lowS
  have HZ := Lib.hid (conn_len l hok)
  have HF := Lib.hid (setK_all l)
  have HR := Lib.hid hR
  have hps : (l.flatMap conn1A).length ≤ 8796093022207 := htot
  clear hS hR hok htot
  generalize l.flatMap conn1A = ps at HE HZ HF hps
  have HM : Hid (SetM (w.alloc (.map #[] 0)) w.heap.size 0 (fun _ => false)) := Lib.hid (SetM.made w)
  have HB : Hid (Below w.heap.size w (w.alloc (.map #[] 0))) := Lib.hid (below_alloc (Below.refl _ _) _)
  have hmm := @run_makeMap Tryd.prog
  go_enter Tryd.func27, Tryd.ntmps27
  go_wp2_with (first | (refine wpList_set_put rfl _ _ _ (Or.inr rfl) rfl HM.out (maxLen_lt (by decide)) _ rfl (maxLen_le (by decide)) rfl ?_; intro wn hn hg; have HB := Lib.hid (below_grown_map HB.out (Nat.le_refl _) hg HB.out.size); have HM := Lib.hid hn; clear hn hg) | (go_at_call 17; (with_reducible refine (HE.out _ (StdW.below HS.out HB.out) (Kd.C_below HR.out HB.out)).mono ?_); rintro e w2 ⟨v2, rfl, hr2, hb2⟩; obtain ⟨Ap, cp, rfl, hlc, hC⟩ := Kd.R_reads hr2; have HC2 := Lib.hid hC; have HM2 : Hid (SetM w2 w.heap.size 9 (setK ps 0)) := Lib.hid ((HM.out.below hb2).to (fun s => (set9 s).trans (setK_zero ps s))); have HB2 : Hid (Below w.heap.size w w2) := Lib.hid (below_then HB.out HB.out.size hb2); clear hr2 hb2 hC))
  clear HE hmm
  go_loopw [11] (fun i wr => ∃ k n : Nat, k ≤ ps.length ∧ n ≤ 9 + k ∧ i = .int .i64 k ∧ Hid (SetM wr w.heap.size n (setK ps k)) ∧ Hid (Kd.C Kd.string wr Ap ps.length ps) ∧ Hid (Below w.heap.size w wr)) (fun i _ => ps.length - (intOf i).toNat)
  case atStart => exact ⟨0, 9, Nat.zero_le _, by omega, rfl, HM2, HC2, HB2⟩
  case round =>
    obtain ⟨k, n, hk, hn, rfl, HMR, HCR, HBR⟩ := hrel
    clear HM2 HC2 HB2
    by_cases hlt : k < ps.length
    · have hk0 : (0 : Int) ≤ (k : Int) := Int.natCast_nonneg _
      have hk1 : (k : Int) < (ps.length : Int) := by omega
      have hrd : rdOf ByteArray.empty ps (k : Int) = ps[k] := by
        unfold rdOf
        rw [show ((k : Int)).toNat = k by omega, List.getD_eq_getElem?_getD, List.getElem?_eq_getElem hlt]; rfl
      obtain ⟨ad, ea, x0⟩ := Kd.at_string HCR.out (k : Int) hk0 hk1
      cases ea
      rw [hrd] at x0
      have hz : ps[k].size ≤ 281474976710656 := by have := HZ.out ps[k] (List.getElem_mem _); omega
      have HSK := Lib.hid (setK_skip ps k hlt)
      have HST := Lib.hid (setK_step ps k hlt)
      have HTP := Lib.hid (HT.out ps[k] hz)
      have HLP := Lib.hid (HL.out ps[k] hz)
      have hlz : (lowS ps[k]).size ≤ 70368744177664 := by rw [lowS_size]; have := HZ.out ps[k] (List.getElem_mem _); omega
      generalize ps[k] = p at x0 HSK HST HTP HLP hlz hrd
      simp only [Int.toNat_natCast] at x0
      clear hrd hz
      cases ht : tokB p
      · rw [ht] at HTP
        have HSK' := Lib.hid (HSK.out ht)
        clear HSK HST HLP ht
        go_wp2_with (go_at_call 38; (with_reducible refine (HTP.out _ (StdW.below HS.out HBR.out)).mono ?_); rintro e w3 ⟨rfl, hb3⟩; have HM3 := Lib.hid (HMR.out.below hb3); have HC3 := Lib.hid (Kd.C_below HCR.out hb3); have HB3 : Hid (Below w.heap.size w w3) := Lib.hid (below_then HBR.out HBR.out.size hb3); clear hb3)
        go_roundw
        case rel => exact ⟨k + 1, n, by omega, by omega, by go_num, Lib.hid (HM3.out.to (fun s => (HSK'.out s).symm)), HC3, HB3⟩
        case measure => simp [intOf]; omega
      · rw [ht] at HTP
        have HST' := Lib.hid (HST.out ht)
        clear HSK HST ht
        generalize lowS p = q at HLP HST' hlz
        go_wp2_with (first | (go_at_call 38; (with_reducible refine (HTP.out _ (StdW.below HS.out HBR.out)).mono ?_); rintro e w3 ⟨rfl, hb3⟩; have HM3 := Lib.hid (HMR.out.below hb3); have HC3 := Lib.hid (Kd.C_below HCR.out hb3); have HB3 : Hid (Below w.heap.size w w3) := Lib.hid (below_then HBR.out HBR.out.size hb3); clear hb3) | (go_at_call 21; (with_reducible refine (HLP.out _).mono ?_); rintro e w4 ⟨rfl, hb4⟩; have HM4 := Lib.hid (HM3.out.below hb4); have HC4 := Lib.hid (Kd.C_below HC3.out hb4); have HB4 : Hid (Below w.heap.size w w4) := Lib.hid (below_then HB3.out HB3.out.size hb4); clear hb4) | (refine wpList_set_put rfl _ _ _ (Or.inl rfl) rfl HM4.out (maxLen_lt (by omega)) _ rfl (maxLen_le hlz) rfl ?_; intro w5 hn5 hg5; have HB5 := Lib.hid (below_grown_map HB4.out (Nat.le_refl _) hg5 HB4.out.size); have HM5 := Lib.hid hn5; have HC5 := Lib.hid (C_grown HM4.out.isMap hg5 HC4.out); clear hn5 hg5))
        go_roundw
        case rel => exact ⟨k + 1, n + 1, by omega, by omega, by go_num, Lib.hid (HM5.out.to (fun s => (HST'.out s).symm)), HC5, HB5⟩
        case measure => simp [intOf]; omega
    · have hkl : k = ps.length := by omega
      subst hkl
      have HMF := Lib.hid (HMR.out.to HF.out)
      go_wp2
      go_ret
      exact ⟨n, rfl, HMF.out, HBR.out⟩
end Go.Proofs.YtkheejjpidbniaaDoor.E
