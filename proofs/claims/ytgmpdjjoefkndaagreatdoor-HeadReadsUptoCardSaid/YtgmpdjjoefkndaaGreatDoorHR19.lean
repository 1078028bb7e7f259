/- What the cards of this seat rest on: the walks and plain laws, part 19. -/
import Derived.Test.YtgmpdjjoefkndaaGreatDoorHR18
import Derived.Test.YtgmpdjjoefkndaaGreatDoorHR8
import Derived.Test.YtgmpdjjoefkndaaGreatDoorHR13
import Derived.Test.YtgmpdjjoefkndaaGreatDoorHR10
import Derived.Deep.RegionHeld3
import Derived.Deep.QuietTactic
import Derived.BigQuiet

namespace Go.Proofs.YtgmpdjjoefkndaaGreatDoor.E
open Go.RowKit Go.Proofs.YtgmpdjjoefkndaaGreatDoorW.PrintWords Go.Proofs.YtgmpdjjoefkndaaGreatDoorW.PrintLast Go.Proofs.YtgmpdjjoefkndaaGreatDoor.XK Go.Proofs.YtgmpdjjoefkndaaGreatDoor.XZ Go.Proofs.YtgmpdjjoefkndaaGreatDoor.XRf
set_option linter.unusedVariables false
set_option linter.unusedSimpArgs false
def fldB:(Nat×Nat) ⊕ List Fd.F→Array Value
 | .inl (a,k)=>bad3 1 headS ⟨#[]⟩ ⟨#[]⟩ (a:Int) 0 0 (k:Int)
 | .inr _=>zX
def fldL:(Nat×Nat) ⊕ List Fd.F→List S71
 | .inl _=>[]
 | .inr fs=>fs.map ofF
theorem alloc_drewA (w:World) (o:Obj):(w.alloc o).drew=w.drew.alloc o:=rfl
theorem rf_res (A:Array Value) (W:World) (R:Nat) (x:Value) (n:Int) (l0 l1 l2:ByteArray) (a0 a1 a2 c:Int) (T:TypeId) (h4:A.getD 4 undef=x) (h5:A.getD 5 undef= .pointer (some ⟨R,0,none⟩)) (hB:Blk W R (bad3 n l0 l1 l2 a0 a1 a2 c) T):
  (results Tryz.f62 A).run Tryz.prog W= .ok (.tuple #[x,.agg (bad3 n l0 l1 l2 a0 a1 a2 c)]) W:=by
 obtain ⟨b0,b1,b2,b3,b4,b5,b6,b7,b8,b9,-⟩:=hB.ten
 rw [Array.getD_eq_getD_getElem?] at h4 h5
 simp [results,Tryz.results62,go_sem,h4,h5,b0,b1,b2,b3,b4,b5,b6,b7,b8,b9,bad3]
abbrev FdPost (r:(Nat×Nat) ⊕ List Fd.F) (W:World) (e:Ending) (w':World):Prop:= ∃ v_,e= .returned (.tuple #[v_,.agg (fldB r)])∧Kd.R k71 71 w' W.heap.size (fun _=>True) v_ (fldL r)∧Below W.heap.size W w'
set_option maxRecDepth 100000 in
set_option maxHeartbeats 40000000 in
theorem rfields_w (L0 : List ByteArray) (L1 : List Int) (G : List (List UInt8 × Nat)) (n : Nat) (hn0 : L0.length = n) (hn1 : L1.length = n) (hnG : G.length = n) (hG : ∀ i (h : i < n), ∃ s p, G[i]? = some (s, p) ∧ rdOf ByteArray.empty L0 (i : Int) = ⟨s.toArray⟩ ∧ rd L1 (i : Int) = (p : Int) ∧ s.length ≤ 8192) (r : (Nat × Nat) ⊕ List Fd.F) (hr : fieldsG G [] = r) (W : World) (B0 : Option Addr) (d0 : Nat) (B1 : Option Addr) (d1 : Nat) (hS : StdW W) (h0 : Kd.C Kd.string W B0 n L0) (hd0 : n ≤ d0) (h1 : Kd.C (Kd.int .i64) W B1 n L1) (hd1 : n ≤ d1) :
    Calls Tryz.prog 62 #[.slice B0 n d0, .slice B1 n d1] W (FdPost r W) := by
  have HF := Lib.hid (fun (X : World) (a c : Int) (hb : Below W.heap.size W X) => sallyportref08_fault.calls a c 1 headS ⟨#[]⟩ ⟨#[]⟩ ⟨#[]⟩ a 0 0 0 c X (StdW.below hS hb) rfl)
  have H0 := Lib.hid h0
  have H1 := Lib.hid h1
  have HG := Lib.hid hG
  have HGN := Lib.hid hnG
  have HR0 : Hid (fieldsG (G.drop 0) [] = r) := Lib.hid (by rw [List.drop_zero]; exact hr)
  have HA := Lib.hid (Blk.new W zX 32)
  have HB := Lib.hid (below_alloc (Below.refl W.heap.size W) (.cells zX 32))
  clear hS h0 h1 hG hr hn0 hn1 hnG hd0 hd1
  unfold zX bad3 at HA HB
  go_enter Tryz.func62, Tryz.ntmps62
  go_wp2_with (((with_reducible refine gate_dst (N := 11) rfl ?_); refine Kd.R_lit k71 _ 71 ?hg (N := 11) ?hd (xs := ([] : List S71)) (inner := []) (ok := fun k => W.heap.size < k) (okp := fun k => W.heap.size < k) ?hr ?hp (fun _ hk => hk) (HA.out.lt) (Below.refl _ _) (Nat.le_refl _) (by simp) ?_; (case hd => rfl); (case hg => rfl); (case hr => first | (go_simp; done) | (go_simp; rfl)); (case hp => exact (Reps.none _ _)); intro vo w4 ho hb hg_ hnew_; clear hg_ hnew_; have HR := Lib.hid (Kd.R_lower ho HB.out.size); have HA := Lib.hid (HA.out.below hb); have HB := Lib.hid (below_then HB.out HB.out.size hb); clear hb ho))
  go_loopg [6, 7] (n + 1) (fun g v iv wr => ∃ (i : Nat) (out : List Fd.F), g + i = n + 1 ∧ i ≤ n ∧ i ≤ 64 ∧ out.length = i ∧ iv = .int .i64 (i : Int) ∧ Hid (Kd.R k71 71 wr W.heap.size (fun k => W.heap.size < k) v (out.map ofF)) ∧ Hid (Blk wr W.heap.size #[.int .i64 0, .string ⟨#[]⟩, .string ⟨#[]⟩, .string ⟨#[]⟩, .string ⟨#[]⟩, .int .i64 0, .int .i64 0, .int .i64 0, .int .i64 0, .int .i64 0] 32) ∧ Hid (Below W.heap.size W wr) ∧ Hid (fieldsG (G.drop i) out = r))
  case atStart => exact ⟨0, [], rfl, Nat.zero_le _, Nat.zero_le _, rfl, rfl, HR, HA, HB, HR0⟩
  case round =>
    clear HA HB HR HR0
    obtain ⟨i, out, hg, hin, hi64, hol, rfl, HR, HA, HB, HQ⟩ := hrel
    by_cases hlt : i < n
    rotate_left
    · have hE : fieldsG (G.drop i) out = .inr out := by rw [List.drop_of_length_le (by have := HGN.out; omega)]; rfl
      have HE : Hid (r = .inr out) := Lib.hid (by rw [← HQ.out]; exact hE)
      clear HQ hE
      have hA := HA.out
      have hlt1 := hA.lt
      obtain ⟨v0, v1, v2, v3, v4, v5, v6, v7, v8, v9, r0, r1, r2, r3, r4, r5, r6, r7, r8, r9⟩ := hA.ten
      go_wp2
      rw [HE.out]
      refine bodyPost_ret (v := .tuple #[u6, .agg zX]) ?_ rfl ⟨u6, rfl, Kd.R_mono (R_setB 0 ⟨#[]⟩ ⟨#[]⟩ ⟨#[]⟩ 0 0 0 0 HR.out (fun k hk => Nat.ne_of_gt hk)) (fun _ _ => trivial), setB_below HB.out (Nat.le_refl _) 0 ⟨#[]⟩ ⟨#[]⟩ ⟨#[]⟩ 0 0 0 0⟩
      exact rf_res _ _ W.heap.size _ 0 ⟨#[]⟩ ⟨#[]⟩ ⟨#[]⟩ 0 0 0 0 _ rfl rfl (Blk.setB 0 ⟨#[]⟩ ⟨#[]⟩ ⟨#[]⟩ 0 0 0 0 hA)
    obtain ⟨l, p, hgi, hs0, hp0, hsz⟩ := HG.out i hlt
    obtain ⟨s, hs⟩ : ∃ s : ByteArray, s = ⟨l.toArray⟩ := ⟨_, rfl⟩
    have hsl : s.data.toList = l := by rw [hs]
    have hsz8 : s.size ≤ 8192 := by rw [hs]; show l.toArray.size ≤ _; rw [List.size_toArray]; exact hsz
    rw [← hs] at hs0
    obtain ⟨a0, ea0, hx0⟩ := Kd.at_string H0.out (i : Int) (by omega) (by omega)
    obtain ⟨a1, ea1, hx1⟩ := Kd.at_int H1.out (i : Int) (by omega) (by omega)
    cases ea0
    cases ea1
    rw [hs0, Int.toNat_natCast] at hx0
    rw [hp0, Int.toNat_natCast] at hx1
    have HX0 := Lib.hid (fun X (hb : Below W.heap.size W X) => (hb.cell (World.block_lt_of_cell? _ _ hx0)).trans hx0)
    have HX1 := Lib.hid (fun X (hb : Below W.heap.size W X) => (hb.cell (World.block_lt_of_cell? _ _ hx1)).trans hx1)
    replace hx0 := HX0.out _ HB.out
    replace hx1 := HX1.out _ HB.out
    have hdr : G.drop i = (l, p) :: G.drop (i + 1) := by
      have hgl : i < G.length := by have := HGN.out; omega
      rw [List.drop_eq_getElem_cons hgl]
      rw [List.getElem?_eq_getElem hgl] at hgi
      rw [Option.some.inj hgi]
    have HQ1 : Hid (r = if out.length = 64 then .inl (p, 3) else match Hd.fieldR s.data.toList with
      | .inl c => .inl (p, c)
      | .inr f => fieldsG (G.drop (i + 1)) (out ++ [f])) := Lib.hid (by rw [← HQ.out, hdr, hsl]; rfl)
    clear HQ hdr hsl hs hgi hsz
    have hi0 : (0 : Int) ≤ (i : Int) := Int.natCast_nonneg _
    have hiN : (i : Int) < (n : Int) := by omega
    by_cases h64 : i = 64
    · have h64b : ((i : Int) == 64) = true := by rw [h64]; rfl
      have HE : Hid (r = .inl (p, 3)) := Lib.hid (by rw [HQ1.out, if_pos (by omega)])
      clear HQ1 h64
      go_wp2_with (go_at_call 46; (with_reducible refine (HF.out _ _ _ HB.out).mono ?_); rintro e wn ⟨rfl, hb⟩; have HA := Lib.hid (HA.out.below hb); have HB := Lib.hid (below_then HB.out HB.out.size hb); clear hb; have hA := HA.out; have hlt := hA.lt; obtain ⟨v0, v1, v2, v3, v4, v5, v6, v7, v8, v9, r0, r1, r2, r3, r4, r5, r6, r7, r8, r9⟩ := hA.ten)
      rw [HE.out]
      refine bodyPost_ret (v := .tuple #[.slice none 0 0, .agg (bad3 1 headS ⟨#[]⟩ ⟨#[]⟩ (p : Int) 0 0 3)]) ?_ rfl ⟨_, rfl, Kd.R_nil _ _ _ _ _, setB_below HB.out (Nat.le_refl _) 1 headS ⟨#[]⟩ ⟨#[]⟩ (p : Int) 0 0 3⟩
      exact rf_res _ _ W.heap.size _ 1 headS ⟨#[]⟩ ⟨#[]⟩ (p : Int) 0 0 3 _ rfl rfl (Blk.setB 1 headS ⟨#[]⟩ ⟨#[]⟩ (p : Int) 0 0 3 hA)
    have h64b : ((i : Int) == 64) = false := by rw [beq_eq_false_iff_ne]; omega
    have HQ2 : Hid (r = match Hd.fieldR s.data.toList with
      | .inl c => .inl (p, c)
      | .inr f => fieldsG (G.drop (i + 1)) (out ++ [f])) := Lib.hid (by rw [HQ1.out, if_neg (by omega)])
    clear HQ1
    obtain ⟨k0, rfl⟩ : ∃ k0, gk = k0 + 1 := ⟨gk - 1, by omega⟩
    have HSL : Hid (s.data.toList.length = s.size) := Lib.hid (len_size s)
    have HFI := Lib.hid (fun X => (sallyportbase_Find.calls (s.size + 2) s ⟨#[58]⟩ _ X (find_f s ⟨#[58]⟩ (by omega) (by decide) _ (by omega))).mono fun e w' ⟨h, d⟩ => And.intro h d.below)
    have HAL := Lib.hid (fun X => (sallyportref08_alone.calls (s.size + 2) s _ X (ralone_f s (by omega) _ (by omega))).mono fun e w' ⟨h, d⟩ => And.intro h d.below)
    have HXZ : Hid (∀ a b, (s.extract a b).size ≤ 8192) := Lib.hid (fun a b => by rw [Lib.size_eq, extract_data, List.length_take, List.length_drop]; have := len_size s; omega)
    have HTK := Lib.hid (fun b X => (sallyportref08_Token.calls 9000 (s.extract 0 b) _ X (rtoken_f _ (by have := HXZ.out 0 b; omega) _ (by have := HXZ.out 0 b; omega))).mono fun e w' ⟨h, d⟩ => And.intro h d.below)
    have HVL := Lib.hid (fun a b X => (sallyportref08_Value.calls 9000 (s.extract a b) _ X (rvalue_f _ (by have := HXZ.out a b; omega) _ (by have := HXZ.out a b; omega))).mono fun e w' ⟨h, d⟩ => And.intro h d.below)
    have HBL := Lib.hid (fun (c : UInt8) X => (sallyportref08_blank.calls (c.toNat : Int) (blk c) X (blank_f c)).mono fun e w' ⟨h, d⟩ => And.intro h d.below)
    have htd : ∀ q, (s.extract 0 q).data.toList = s.data.toList.take q := fun q => by rw [extract_data, List.drop_zero, Nat.sub_zero]
    have hway : (∃ fi : Int, Lib.index s.data.toList [58] = fi ∧ fi < 0 ∧ Hid (r = .inl (p, 80))) ∨ ∃ q : Nat, q < s.size ∧ Lib.index s.data.toList [58] = (q : Int) ∧ ((Hd.broken s.data.toList = true ∧ Hid (r = .inl (p, 80))) ∨ (Hd.broken s.data.toList = false ∧ ((tokB (s.extract 0 q) = false ∧ Hid (r = .inl (p, 81))) ∨ (tokB (s.extract 0 q) = true ∧ Hid (r = match (if !Hd.value (Fd.trimB (s.data.toList.drop (q + 1))) then .inl 83 else .inr (s.data.toList.take q, Fd.trimB (s.data.toList.drop (q + 1))) : Nat ⊕ Fd.F) with
      | .inl c => .inl (p, c)
      | .inr f => fieldsG (G.drop (i + 1)) (out ++ [f])))))) := by
      have hq2 := HQ2.out
      unfold Hd.fieldR at hq2
      rcases cut_col s.data.toList with ⟨e1, e2⟩ | ⟨q, e1, hn, e2⟩
      · rw [e2] at hq2
        exact .inl ⟨_, rfl, e1, Lib.hid hq2⟩
      · have htq : tokB (s.extract 0 q) = Fd.token (s.data.toList.take q) := by unfold tokB; rw [htd]
        refine .inr ⟨q, by rw [← HSL.out]; exact hn, e1, ?_⟩
        rw [e2] at hq2
        rw [htq]
        cases hbk : Hd.broken s.data.toList
        · rw [hbk] at hq2
          refine .inr ⟨rfl, ?_⟩
          dsimp only at hq2
          cases htk : Fd.token (s.data.toList.take q)
          · rw [htk] at hq2
            exact .inl ⟨rfl, Lib.hid hq2⟩
          · rw [htk] at hq2
            exact .inr ⟨rfl, Lib.hid hq2⟩
        · rw [hbk] at hq2
          exact .inl ⟨rfl, Lib.hid hq2⟩
    clear HQ2 htd
    have HLT := Lib.hid hlt
    clear hs0 hp0
    rcases hway with ⟨fi, hfi, hf0, HE⟩ | ⟨q, hq, hfi, ⟨hbk, HE⟩ | ⟨hbk, ⟨htk, HE⟩ | ⟨htk, HE⟩⟩⟩
    rotate_left 3
    · have hwq : wrap64 ((q : Int) + 1) = ((q + 1 : Nat) : Int) := by rw [wrap64_id _ (by omega) (by omega)]; omega
      have hf0 : ¬ ((q : Int) < 0) := by omega
      have hq1 : (q : Int) ≤ (s.size : Int) := by omega
      rw [hfi] at HFI
      clear hfi
      go_wp2_with (first | (go_at_call 102; (with_reducible refine (HFI.out _).mono ?_); rintro e wn ⟨rfl, hb⟩; have HR := Lib.hid (Kd.R_below HR.out hb); have HA := Lib.hid (HA.out.below hb); have HB := Lib.hid (below_then HB.out HB.out.size hb); have hx0 := HX0.out _ HB.out; have hx1 := HX1.out _ HB.out; clear hb) | (go_at_call 58; (with_reducible refine (HAL.out _).mono ?_); rintro e wn ⟨rfl, hb⟩; have HR := Lib.hid (Kd.R_below HR.out hb); have HA := Lib.hid (HA.out.below hb); have HB := Lib.hid (below_then HB.out HB.out.size hb); have hx0 := HX0.out _ HB.out; have hx1 := HX1.out _ HB.out; clear hb) | (go_at_call 60; (with_reducible refine (HTK.out _ _).mono ?_); rintro e wn ⟨rfl, hb⟩; have HR := Lib.hid (Kd.R_below HR.out hb); have HA := Lib.hid (HA.out.below hb); have HB := Lib.hid (below_then HB.out HB.out.size hb); have hx0 := HX0.out _ HB.out; have hx1 := HX1.out _ HB.out; clear hb) | (go_at_call 46; (with_reducible refine (HF.out _ _ _ HB.out).mono ?_); rintro e wn ⟨rfl, hb⟩; have HA := Lib.hid (HA.out.below hb); have HB := Lib.hid (below_then HB.out HB.out.size hb); clear hb; have hA := HA.out; have hlt := hA.lt; obtain ⟨v0, v1, v2, v3, v4, v5, v6, v7, v8, v9, r0, r1, r2, r3, r4, r5, r6, r7, r8, r9⟩ := hA.ten))
      have HEM := HE
      clear HE
      go_quiet (fail)
      go_wp2
      go_loopg [9] (s.size - q) (fun g v wr1 => ∃ a : Nat, g + a = s.size + 1 ∧ q + 1 ≤ a ∧ a ≤ s.size ∧ v = .int .i64 (a : Int) ∧ Hid (∀ j (h : j < s.data.toList.length), q + 1 ≤ j → j < a → blk s.data.toList[j] = true) ∧ Hid (Kd.R k71 71 wr1 W.heap.size (fun k => W.heap.size < k) u6 (out.map ofF)) ∧ Hid (Blk wr1 W.heap.size #[.int .i64 0, .string ⟨#[]⟩, .string ⟨#[]⟩, .string ⟨#[]⟩, .string ⟨#[]⟩, .int .i64 0, .int .i64 0, .int .i64 0, .int .i64 0, .int .i64 0] 32) ∧ Hid (Below W.heap.size W wr1))
      case atStart => exact ⟨q + 1, by clear hwq; omega, Nat.le_refl _, by clear hwq; omega, by first | rfl | (rw [hwq]; done) | (simp only [hwq]; done) | go_num, Lib.hid (fun j h h1 h2 => absurd h2 (by clear hwq; omega)), Lib.hid (by first | exact HR.out | exact Kd.R_below HR.out (below_drewN _ _)), Lib.hid (by first | exact HA.out | exact HA.out.below (below_drewN _ _)), Lib.hid (by first | exact HB.out | exact below_then HB.out HB.out.size (below_drewN _ _))⟩
      case round =>
        clear HR HA HB hx0 hx1
        obtain ⟨a, hga, hqa, haz, rfl, HK, HR, HA, HB⟩ := hrel
        obtain ⟨k1, rfl⟩ : ∃ k1, gk = k1 + 1 := ⟨gk - 1, by omega⟩
        have hx0 := HX0.out _ HB.out
        have hx1 := HX1.out _ HB.out
        have hway2 : (∃ ha : a < s.size, blk (s[a]'ha) = true) ∨ (∃ ha : a < s.size, blk (s[a]'ha) = false) ∨ ¬ a < s.size := by
          by_cases ha : a < s.size
          · cases hb : blk (s[a]'ha)
            · exact .inr (.inl ⟨ha, hb⟩)
            · exact .inl ⟨ha, hb⟩
          · exact .inr (.inr ha)
        have EX : Hid ((∃ ha : a < s.size, blk (s[a]'ha) = true) ∨ ∀ h : a < s.data.toList.length, blk s.data.toList[a] = false) := Lib.hid (by
          rcases hway2 with h | ⟨h1, h2⟩ | h
          · exact .inl h
          · exact .inr fun _ => h2
          · exact .inr fun h' => absurd (show a < s.size by have := HSL.out; omega) h)
        rcases hway2 with ⟨ha, hba⟩ | ⟨ha, hba⟩ | ha
        · have HBA := Lib.hid hba
          have HAZ := Lib.hid ha
          go_wp2_with (go_at_call 105; (with_reducible refine (HBL.out _ _).mono ?_); rintro e wn ⟨rfl, hb⟩; have HR := Lib.hid (Kd.R_below HR.out hb); have HA := Lib.hid (HA.out.below hb); have HB := Lib.hid (below_then HB.out HB.out.size hb); have hx0 := HX0.out _ HB.out; have hx1 := HX1.out _ HB.out; clear hb)
          go_roundg k1
          case measure => omega
          case rel => exact ⟨a + 1, by omega, by omega, HAZ.out, by go_num, Lib.hid (fun j h h1 h2 => by
            rcases Nat.lt_or_ge j a with h3 | h3
            · exact HK.out j h h1 h3
            · obtain rfl : j = a := by omega
              exact HBA.out), HR, HA, HB⟩
        all_goals
          replace EX : Hid (∀ h : a < s.data.toList.length, blk s.data.toList[a] = false) := Lib.hid (by
            rcases EX.out with ⟨h1, h2⟩ | h
            · first | exact absurd h1 ha | (rw [hba] at h2; cases h2)
            · exact h)
          go_wp2_with (go_at_call 105; (with_reducible refine (HBL.out _ _).mono ?_); rintro e wn ⟨rfl, hb⟩; have HR := Lib.hid (Kd.R_below HR.out hb); have HA := Lib.hid (HA.out.below hb); have HB := Lib.hid (below_then HB.out HB.out.size hb); have hx0 := HX0.out _ HB.out; have hx1 := HX1.out _ HB.out; clear hb)
          go_loopg [10] (s.size + 1 - a) (fun g v wr2 => ∃ b : Nat, g + a = b + 1 ∧ a ≤ b ∧ b ≤ s.size ∧ v = .int .i64 (b : Int) ∧ Hid (∀ j (h : j < s.data.toList.length), b ≤ j → j < s.size → blk s.data.toList[j] = true) ∧ Hid (Kd.R k71 71 wr2 W.heap.size (fun k => W.heap.size < k) u6 (out.map ofF)) ∧ Hid (Blk wr2 W.heap.size #[.int .i64 0, .string ⟨#[]⟩, .string ⟨#[]⟩, .string ⟨#[]⟩, .string ⟨#[]⟩, .int .i64 0, .int .i64 0, .int .i64 0, .int .i64 0, .int .i64 0] 32) ∧ Hid (Below W.heap.size W wr2))
          case atStart => exact ⟨s.size, by omega, haz, Nat.le_refl _, rfl, Lib.hid (fun j h h1 h2 => by omega), HR, HA, HB⟩
          case round =>
            clear HR HA HB hx0 hx1
            try clear ha
            try clear hba
            obtain ⟨b, hgb, hab, hbz, rfl, HK2, HR, HA, HB⟩ := hrel
            obtain ⟨k2, rfl⟩ : ∃ k2, gk = k2 + 1 := ⟨gk - 1, by omega⟩
            have hx0 := HX0.out _ HB.out
            have hx1 := HX1.out _ HB.out
            have hway3 : (∃ c : Nat, ∃ hc : c < s.size, (b : Int) - 1 = (c : Int) ∧ a < b ∧ blk (s[c]'hc) = true) ∨ (∃ c : Nat, ∃ hc : c < s.size, (b : Int) - 1 = (c : Int) ∧ a < b ∧ blk (s[c]'hc) = false) ∨ ¬ a < b := by
              by_cases h : a < b
              · have hc : b - 1 < s.size := by omega
                cases hb : blk (s[b - 1]'hc)
                · exact .inr (.inl ⟨b - 1, hc, by omega, h, hb⟩)
                · exact .inl ⟨b - 1, hc, by omega, h, hb⟩
              · exact .inr (.inr h)
            rcases hway3 with ⟨c, hc, hbc, hlt2, hbl⟩ | ⟨c, hc, hbc, hlt2, hbl⟩ | hlt2
            · have HBA := Lib.hid hbl
              have HBC : Hid (b = c + 1) := Lib.hid (by omega)
              have hcb : (c : Int) ≤ 8192 := by omega
              have HLT2 := Lib.hid hlt2
              go_wp2_with (go_at_call 105; (with_reducible refine (HBL.out _ _).mono ?_); rintro e wn ⟨rfl, hb⟩; have HR := Lib.hid (Kd.R_below HR.out hb); have HA := Lib.hid (HA.out.below hb); have HB := Lib.hid (below_then HB.out HB.out.size hb); have hx0 := HX0.out _ HB.out; have hx1 := HX1.out _ HB.out; clear hb)
              go_roundg k2
              case measure => omega
              case rel => exact ⟨c, by have := HBC.out; omega, by have := HBC.out; have := HLT2.out; omega, by omega, rfl, Lib.hid (fun j h h1 h2 => by
                rcases Nat.lt_or_ge j b with h3 | h3
                · obtain rfl : j = c := by have := HBC.out; omega
                  exact HBA.out
                · exact HK2.out j h h3 h2), HR, HA, HB⟩
            all_goals
              have HX : Hid (valB (s.extract a b) = Hd.value (Fd.trimB (s.data.toList.drop (q + 1))) ∧ (s.extract a b).data.toList = Fd.trimB (s.data.toList.drop (q + 1))) := Lib.hid (by
                have htrim := trim_parts s.data.toList (q + 1) a b hqa hab (by rw [HSL.out]; exact hbz) HK.out EX.out (fun h h' => by
                  first
                  | exact absurd h hlt2
                  | (have hbc' : b - 1 = c := by omega
                     simp only [hbc'] at h' ⊢
                     exact hbl)) (fun j h h1 h2 => HK2.out j h h1 (by rw [← HSL.out]; exact h2))
                exact ⟨by unfold valB; rw [extract_data, htrim], by rw [extract_data, htrim]⟩)
              cases hv : valB (s.extract a b)
              · have HE : Hid (r = .inl (p, 83)) := Lib.hid (by rw [HEM.out, ← HX.out.1, hv]; rfl)
                clear HX HEM
                go_wp2_with (first | (go_at_call 105; (with_reducible refine (HBL.out _ _).mono ?_); rintro e wn ⟨rfl, hb⟩; have HR := Lib.hid (Kd.R_below HR.out hb); have HA := Lib.hid (HA.out.below hb); have HB := Lib.hid (below_then HB.out HB.out.size hb); have hx0 := HX0.out _ HB.out; have hx1 := HX1.out _ HB.out; clear hb) | (go_at_call 106; (with_reducible refine (HVL.out _ _ _).mono ?_); rintro e wn ⟨rfl, hb⟩; have HR := Lib.hid (Kd.R_below HR.out hb); have HA := Lib.hid (HA.out.below hb); have HB := Lib.hid (below_then HB.out HB.out.size hb); have hx0 := HX0.out _ HB.out; have hx1 := HX1.out _ HB.out; clear hb) | (go_at_call 46; (with_reducible refine (HF.out _ _ _ HB.out).mono ?_); rintro e wn ⟨rfl, hb⟩; have HA := Lib.hid (HA.out.below hb); have HB := Lib.hid (below_then HB.out HB.out.size hb); clear hb; have hA := HA.out; have hlt := hA.lt; obtain ⟨v0, v1, v2, v3, v4, v5, v6, v7, v8, v9, r0, r1, r2, r3, r4, r5, r6, r7, r8, r9⟩ := hA.ten))
                rw [HE.out]
                refine bodyPost_ret (v := .tuple #[.slice none 0 0, .agg (bad3 1 headS ⟨#[]⟩ ⟨#[]⟩ (p : Int) 0 0 83)]) ?_ rfl ⟨_, rfl, Kd.R_nil _ _ _ _ _, setB_below HB.out (Nat.le_refl _) 1 headS ⟨#[]⟩ ⟨#[]⟩ (p : Int) 0 0 83⟩
                exact rf_res _ _ W.heap.size _ 1 headS ⟨#[]⟩ ⟨#[]⟩ (p : Int) 0 0 83 _ rfl rfl (Blk.setB 1 headS ⟨#[]⟩ ⟨#[]⟩ (p : Int) 0 0 83 hA)
              · have HE : Hid (fieldsG (G.drop (i + 1)) (out ++ [((s.extract 0 q).data.toList, (s.extract a b).data.toList)]) = r) := Lib.hid (by rw [HEM.out, HX.out.2, ← HX.out.1, hv, extract_data, List.drop_zero, Nat.sub_zero]; rfl)
                clear HX HEM
                go_wp2_with (first | (go_at_call 105; (with_reducible refine (HBL.out _ _).mono ?_); rintro e wn ⟨rfl, hb⟩; have HR := Lib.hid (Kd.R_below HR.out hb); have HA := Lib.hid (HA.out.below hb); have HB := Lib.hid (below_then HB.out HB.out.size hb); have hx0 := HX0.out _ HB.out; have hx1 := HX1.out _ HB.out; clear hb) | (go_at_call 106; (with_reducible refine (HVL.out _ _ _).mono ?_); rintro e wn ⟨rfl, hb⟩; have HR := Lib.hid (Kd.R_below HR.out hb); have HA := Lib.hid (HA.out.below hb); have HB := Lib.hid (below_then HB.out HB.out.size hb); have hx0 := HX0.out _ HB.out; have hx1 := HX1.out _ HB.out; clear hb) | (go_at_call 46; (with_reducible refine (HF.out _ _ _ HB.out).mono ?_); rintro e wn ⟨rfl, hb⟩; have HA := Lib.hid (HA.out.below hb); have HB := Lib.hid (below_then HB.out HB.out.size hb); clear hb; have hA := HA.out; have hlt := hA.lt; obtain ⟨v0, v1, v2, v3, v4, v5, v6, v7, v8, v9, r0, r1, r2, r3, r4, r5, r6, r7, r8, r9⟩ := hA.ten))
                go_region_held3 (fun w' => w'.cell? (a0.add i) = some (.string s)) (first | (simp only [World.cell?_drew, hx0]; done) | (simp only [World.cell?_drew, World.cell?_alloc_some, hx0, Option.isSome_some]; done) | exact hx0) ((rw [alloc_drewA]; refine Kd.R_append_step k71 (w0 := W) W.heap.size (by rfl) (.tmp 107) (.tmp 122) 42 71 (.agg #[.string ⟨#[]⟩, .string ⟨#[]⟩]) 32 rfl Tryz.underlying42 info_fld rfl (by decide) (by omega) u6 (out.map ofF) (⟨s.extract 0 q, s.extract a b⟩ : S71) [.string (s.extract 0 q), .string (s.extract a b)] (fun k => W.heap.size < k) (fun _ => False) rfl rfl (k71_mkM _ _ _ _) (fun _ h => h.elim) (fun k hk => Nat.lt_of_lt_of_le HA.out.lt hk) (Kd.R_drew HR.out) (below_drew1 HB.out) (below_drew1 HB.out).size (by rw [List.length_map]; omega) ?_; intro v1 w6 ho hb hg hat; have hx0 := HX0.out _ hb; have HO2 := Lib.hid ho; have HB2 := Lib.hid hb; have HG2 := Lib.hid hg; clear ho hb hg hat))
                go_wp2
                go_roundg k0
                case measure => omega
                case rel => exact ⟨i + 1, out ++ [((s.extract 0 q).data.toList, (s.extract a b).data.toList)], by omega, HLT.out, by omega, by rw [List.length_append]; simp; omega, by go_num, Lib.hid (by rw [List.map_append]; exact HO2.out), Lib.hid ((HG2.out.block W.heap.size HA.out.lt (fun e => by have := HR.out.1 _ e.symm; omega)).trans HA.out), HB2, HE⟩
    all_goals
      rw [hfi] at HFI
      try clear HVL HBL
      try have hf0 : ¬ ((q : Int) < 0) := by omega
      try have hq1 : (q : Int) ≤ (s.size : Int) := by omega
      clear hfi
      go_wp2_with (first | (go_at_call 102; (with_reducible refine (HFI.out _).mono ?_); rintro e wn ⟨rfl, hb⟩; have HR := Lib.hid (Kd.R_below HR.out hb); have HA := Lib.hid (HA.out.below hb); have HB := Lib.hid (below_then HB.out HB.out.size hb); have hx0 := HX0.out _ HB.out; have hx1 := HX1.out _ HB.out; clear hb) | (go_at_call 58; (with_reducible refine (HAL.out _).mono ?_); rintro e wn ⟨rfl, hb⟩; have HR := Lib.hid (Kd.R_below HR.out hb); have HA := Lib.hid (HA.out.below hb); have HB := Lib.hid (below_then HB.out HB.out.size hb); have hx0 := HX0.out _ HB.out; have hx1 := HX1.out _ HB.out; clear hb) | (go_at_call 60; (with_reducible refine (HTK.out _ _).mono ?_); rintro e wn ⟨rfl, hb⟩; have HR := Lib.hid (Kd.R_below HR.out hb); have HA := Lib.hid (HA.out.below hb); have HB := Lib.hid (below_then HB.out HB.out.size hb); have hx0 := HX0.out _ HB.out; have hx1 := HX1.out _ HB.out; clear hb) | (go_at_call 46; (with_reducible refine (HF.out _ _ _ HB.out).mono ?_); rintro e wn ⟨rfl, hb⟩; have HA := Lib.hid (HA.out.below hb); have HB := Lib.hid (below_then HB.out HB.out.size hb); clear hb; have hA := HA.out; have hlt := hA.lt; obtain ⟨v0, v1, v2, v3, v4, v5, v6, v7, v8, v9, r0, r1, r2, r3, r4, r5, r6, r7, r8, r9⟩ := hA.ten))
    · rw [HE.out]
      refine bodyPost_ret (v := .tuple #[.slice none 0 0, .agg (bad3 1 headS ⟨#[]⟩ ⟨#[]⟩ (p : Int) 0 0 80)]) ?_ rfl ⟨_, rfl, Kd.R_nil _ _ _ _ _, setB_below HB.out (Nat.le_refl _) 1 headS ⟨#[]⟩ ⟨#[]⟩ (p : Int) 0 0 80⟩
      exact rf_res _ _ W.heap.size _ 1 headS ⟨#[]⟩ ⟨#[]⟩ (p : Int) 0 0 80 _ rfl rfl (Blk.setB 1 headS ⟨#[]⟩ ⟨#[]⟩ (p : Int) 0 0 80 hA)
    · rw [HE.out]
      refine bodyPost_ret (v := .tuple #[.slice none 0 0, .agg (bad3 1 headS ⟨#[]⟩ ⟨#[]⟩ (p : Int) 0 0 80)]) ?_ rfl ⟨_, rfl, Kd.R_nil _ _ _ _ _, setB_below HB.out (Nat.le_refl _) 1 headS ⟨#[]⟩ ⟨#[]⟩ (p : Int) 0 0 80⟩
      exact rf_res _ _ W.heap.size _ 1 headS ⟨#[]⟩ ⟨#[]⟩ (p : Int) 0 0 80 _ rfl rfl (Blk.setB 1 headS ⟨#[]⟩ ⟨#[]⟩ (p : Int) 0 0 80 hA)
    · rw [HE.out]
      refine bodyPost_ret (v := .tuple #[.slice none 0 0, .agg (bad3 1 headS ⟨#[]⟩ ⟨#[]⟩ (p : Int) 0 0 81)]) ?_ rfl ⟨_, rfl, Kd.R_nil _ _ _ _ _, setB_below HB.out (Nat.le_refl _) 1 headS ⟨#[]⟩ ⟨#[]⟩ (p : Int) 0 0 81⟩
      exact rf_res _ _ W.heap.size _ 1 headS ⟨#[]⟩ ⟨#[]⟩ (p : Int) 0 0 81 _ rfl rfl (Blk.setB 1 headS ⟨#[]⟩ ⟨#[]⟩ (p : Int) 0 0 81 hA)
theorem rfields_c (G:List (List UInt8×Nat)) (hz: ∀ x ∈ G,x.1.length≤8192) (r:(Nat×Nat) ⊕ List Fd.F) (hr:fieldsG G []=r) (W:World) (B0:Option Addr) (d0:Nat) (B1:Option Addr) (d1:Nat) (hS:StdW W) (h0:Kd.C Kd.string W B0 (linT G).1.length (linT G).1) (hd0:(linT G).1.length≤d0) (h1:Kd.C (Kd.int .i64) W B1 (linT G).2.length (linT G).2) (hd1:(linT G).2.length≤d1):
  Calls Tryz.prog 62 #[.slice B0 (linT G).1.length d0,.slice B1 (linT G).2.length d1] W (FdPost r W):=by
 have e0:(linT G).1.length=G.length:=by unfold linT;rw [List.length_map]
 have e1:(linT G).2.length=G.length:=by unfold linT;rw [List.length_map]
 have hG: ∀ i (h:i<G.length),∃ s p,G[i]? =some (s,p)∧rdOf ByteArray.empty (linT G).1 (i:Int)=⟨s.toArray⟩∧rd (linT G).2 (i:Int)=(p:Int)∧s.length≤8192:=fun i h=>by
  refine ⟨G[i].1,G[i].2,List.getElem?_eq_getElem h,?_,?_,hz _ (List.getElem_mem h)⟩
  ·rw [rdOf_at _ i (by rw [e0];exact h)];simp [linT]
  ·unfold rd
   rw [Int.toNat_natCast,List.getD_eq_getElem?_getD,List.getElem?_eq_getElem (by rw [e1];exact h)];simp [linT]
 rw [e0] at h0 hd0 ⊢
 rw [e1] at h1 hd1 ⊢
 exact rfields_w _ _ G G.length e0 e1 rfl hG r hr W B0 d0 B1 d1 hS h0 hd0 h1 hd1
end Go.Proofs.YtgmpdjjoefkndaaGreatDoor.E
